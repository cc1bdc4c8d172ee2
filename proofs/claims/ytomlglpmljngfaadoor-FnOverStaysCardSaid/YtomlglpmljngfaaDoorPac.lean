-- by a program of this session, for this seat
import Derived.Test.YtomlglpmljngfaaDoorHandIo
import Derived.Test.YtomlglpmljngfaaDoorZ
import Derived.Test.YtomlglpmljngfaaDoorP0
import Derived.Test.YtomlglpmljngfaaDoorPaa
import Derived.Test.YtomlglpmljngfaaDoorPab
namespace Go.Proofs.YtomlglpmljngfaaDoor.P
open Go.RowKit Go.Proofs.YtomlglpmljngfaaDoorW.PrintWords Go.Proofs.YtomlglpmljngfaaDoorW.PrintLast Go.Proofs.YtomlglpmljngfaaDoorW.PrintMore Go.Proofs.YtomlglpmljngfaaDoor.Z Go.Proofs.YtomlglpmljngfaaDoor.HandIo
attribute [local go_sem] max2_int min2_int max_two min_two max_three min_three max_four min_four   -- for this text's walks alone
set_option linter.unusedVariables false
set_option linter.unusedSimpArgs false

/-! ### spec_EntryText: function 13 -/
def spec_EntryText.j0 : Nat → ByteArray → Int → Int → Int → Int → ByteArray → Option (ByteArray)
 | 0, _, _, _, _, _, _ => none
 | k + 1, x3, x112000, x112001, x112002, x112003, x112004 => if x112001 = 1 then ((spec_Digits.f k x112000).bind fun t112 => (if t112.size + 1 ≤ 9223372036854775807 then ((spec_Digits.f k x112002).bind fun t113 => (if (t112 ++ (⟨#[103]⟩ : ByteArray)).size + t113.size ≤ 9223372036854775807 then (if ((t112 ++ (⟨#[103]⟩ : ByteArray)) ++ t113).size + 1 ≤ 9223372036854775807 then ((spec_Digits.f k x112003).bind fun t114 => (if (((t112 ++ (⟨#[103]⟩ : ByteArray)) ++ t113) ++ (⟨#[46]⟩ : ByteArray)).size + t114.size ≤ 9223372036854775807 then (if ((((t112 ++ (⟨#[103]⟩ : ByteArray)) ++ t113) ++ (⟨#[46]⟩ : ByteArray)) ++ t114).size + 1 ≤ 9223372036854775807 then (if (((((t112 ++ (⟨#[103]⟩ : ByteArray)) ++ t113) ++ (⟨#[46]⟩ : ByteArray)) ++ t114) ++ (⟨#[58]⟩ : ByteArray)).size + x112004.size ≤ 9223372036854775807 then (some ((((((t112 ++ (⟨#[103]⟩ : ByteArray)) ++ t113) ++ (⟨#[46]⟩ : ByteArray)) ++ t114) ++ (⟨#[58]⟩ : ByteArray)) ++ x112004)) else (none)) else (none)) else (none))) else (none)) else (none))) else (none))) else ((spec_Digits.f k x112000).bind fun t115 => (if t115.size + x3.size ≤ 9223372036854775807 then ((spec_Digits.f k x112002).bind fun t116 => (if (t115 ++ x3).size + t116.size ≤ 9223372036854775807 then (if ((t115 ++ x3) ++ t116).size + 1 ≤ 9223372036854775807 then ((spec_Digits.f k x112003).bind fun t117 => (if (((t115 ++ x3) ++ t116) ++ (⟨#[46]⟩ : ByteArray)).size + t117.size ≤ 9223372036854775807 then (if ((((t115 ++ x3) ++ t116) ++ (⟨#[46]⟩ : ByteArray)) ++ t117).size + 1 ≤ 9223372036854775807 then (if (((((t115 ++ x3) ++ t116) ++ (⟨#[46]⟩ : ByteArray)) ++ t117) ++ (⟨#[58]⟩ : ByteArray)).size + x112004.size ≤ 9223372036854775807 then (some ((((((t115 ++ x3) ++ t116) ++ (⟨#[46]⟩ : ByteArray)) ++ t117) ++ (⟨#[58]⟩ : ByteArray)) ++ x112004)) else (none)) else (none)) else (none))) else (none)) else (none))) else (none)))
def spec_EntryText.f (k : Nat) (a0_0 : Int) (a0_1 : Int) (a0_2 : Int) (a0_3 : Int) (a0_4 : ByteArray) : Option (ByteArray) := if a0_1 = 0 then (spec_EntryText.j0 k (⟨#[117]⟩ : ByteArray) a0_0 a0_1 a0_2 a0_3 a0_4) else (spec_EntryText.j0 k (⟨#[63]⟩ : ByteArray) a0_0 a0_1 a0_2 a0_3 a0_4)
theorem spec_EntryText.mono_l : ∀ k, (∀ y0 y1 y2 y3 y4 y5, LeO (spec_EntryText.j0 k y0 y1 y2 y3 y4 y5) (spec_EntryText.j0 (k + 1) y0 y1 y2 y3 y4 y5))
 | 0 => fun _ _ _ _ _ _ r h => by simp [spec_EntryText.j0] at h
 | k + 1 => by
  have ih0 := spec_EntryText.mono_l k
  ·intro y0 y1 y2 y3 y4 y5
   unfold spec_EntryText.j0
   repeat' first | (with_reducible first | exact LeO.refl _ | exact LeO.none _ | refine LeO.ite ?_ ?_ | refine LeO.bind ?_ (fun _ => ?_) | apply ih0 | apply spec_Digits.mono) | apply ih0 | apply spec_Digits.mono | exact LeO.none _ | refine LeO.ite ?_ ?_ | refine LeO.bind ?_ (fun _ => ?_)
theorem spec_EntryText.mono : ∀ a0 a1 a2 a3 a4 k, LeO (spec_EntryText.f k a0 a1 a2 a3 a4) (spec_EntryText.f (k + 1) a0 a1 a2 a3 a4) := by
 intro a0 a1 a2 a3 a4 k; have ih0 := spec_EntryText.mono_l k
 unfold spec_EntryText.f
 repeat' first | (with_reducible first | exact LeO.refl _ | exact LeO.none _ | refine LeO.ite ?_ ?_ | refine LeO.bind ?_ (fun _ => ?_) | apply ih0 | apply spec_Digits.mono) | apply ih0 | apply spec_Digits.mono | exact LeO.none _ | refine LeO.ite ?_ ?_ | refine LeO.bind ?_ (fun _ => ?_)
def spec_EntryText.T6 : Bool × List (List Nat × List Nat) := (true, [([], []), ([0], [0]), ([1], [1]), ([], []), ([2, 3], [2, 3]), ([], []), ([5], [5]), ([6, 2], [6]), ([4, 7], [4, 7]), ([8], [8]), ([], []), ([10], [10]), ([11, 7], [11]), ([9, 12], [9, 12]), ([13], [13]), ([], []), ([15], [15]), ([14, 16], [14, 16]), ([17, 12, 0, 1, 2, 3, 4, 5, 6, 7, 8, 9, 10, 11, 12, 13, 14, 15, 16, 17], [17])])
def spec_EntryText.B6 : List Nat := [0, 1, 3, 0, 15, 0, 32, 103, 255, 511, 0, 1024, 3303, 8191, 16383, 0, 32768, 131071, 262143]
theorem spec_EntryText.tab6 : rtab .any (opsOf Tryd.f13 6) = spec_EntryText.T6 := by kernel_rfl
theorem spec_EntryText.bits6 : waitsOk spec_EntryText.T6.2 spec_EntryText.B6 = true := by kernel_rfl
set_option maxHeartbeats 8000000 in
set_option maxRecDepth 100000 in
theorem spec_EntryText.calls (k : Nat) (a0_0 : Int) (a0_1 : Int) (a0_2 : Int) (a0_3 : Int) (a0_4 : ByteArray) (r : ByteArray) (w : World) (h : spec_EntryText.f k a0_0 a0_1 a0_2 a0_3 a0_4 = some r) :
  Calls Tryd.prog 13 #[.agg #[.int .i64 a0_0, .int .i64 a0_1, .int .i64 a0_2, .int .i64 a0_3, .string a0_4]] w fun e w' => e = .returned (.string r) ∧ Below w.heap.size w w' := by
 have hu28 := Tryd.underlying28; have HB := zm (Below.refl w.heap.size w); have H : (if a0_1 = 0 then (spec_EntryText.j0 k (⟨#[117]⟩ : ByteArray) a0_0 a0_1 a0_2 a0_3 a0_4) else (spec_EntryText.j0 k (⟨#[63]⟩ : ByteArray) a0_0 a0_1 a0_2 a0_3 a0_4)) = some r := h; clear h; have Aa := zm H; clear H; go_enter Tryd.func13, Tryd.ntmps13
 go_upto_if 6 with (first | ((with_reducible refine gate_dst (N := 1) rfl ?_); refine zbox 1 #[.int .i64 a0_0, .int .i64 a0_1, .int .i64 a0_2, .int .i64 a0_3, .string a0_4] 28 ?_; intro AG hg w3 hbox hb; have AA := zm (hbox); have BM := zge w hg zB; have BL := zge w hg zB; replace HB := zm (below_step zB hb); clear hb hbox hg; obtain ⟨Ab, Ac, Ad, Ae, Af, Ag, Ah, Ai, Aj, Ak⟩ := zc5 AA))
 (try simp only [Act.put, List.setIfInBounds_toArray, List.set_cons_zero, List.set_cons_succ])
 go_cut [3] (fun v3 wc => ∃ (kq : Nat) (AB : ByteArray), v3 = .string AB ∧ Aside0 (spec_EntryText.j0 kq AB a0_0 a0_1 a0_2 a0_3 a0_4 = some r) ∧ Aside0 (kq ≤ k) ∧ Aside0 (wc.heap[AG]? = some (.cells #[.int .i64 a0_0, .int .i64 a0_1, .int .i64 a0_2, .int .i64 a0_3, .string a0_4] 28 (0, 0))) ∧ Aside0 (Below w.heap.size w wc))
 case first =>
  have H := Aa.out; clear Aa
  by_cases c5 : a0_1 = 0
  ·rw [if_pos c5] at H; have AJ : (a0_1 == 0) = true := beq_iff_eq.mpr c5; have An : (a0_1 != 0) = false := bne_eq_false_iff_eq.mpr c5; clear c5
   (first | rw [AJ] | (simp only [i64_w, i32_w]; rw [AJ]) | skip)
   have H' := zm H
   clear H
   go_wp2
   go_meet
   case rel => exact ⟨_, ((⟨#[117]⟩ : ByteArray)), zF, H', ⟨zO⟩, ⟨zb AA⟩, ⟨zB⟩⟩
  ·rw [if_neg c5] at H; have AJ : (a0_1 == 0) = false := beq_eq_false_iff_ne.mpr c5; have An : (a0_1 != 0) = true := bne_iff_ne.mpr c5
   (first | rw [AJ] | (simp only [i64_w, i32_w]; rw [AJ]) | skip)
   have H' := zm H
   clear H
   go_wp2
   go_meet
   case rel => exact ⟨_, ((⟨#[63]⟩ : ByteArray)), zF, H', ⟨zO⟩, ⟨zb AA⟩, ⟨zB⟩⟩
 case rest =>
  clear Aa; (try clear Ab); (try clear Ac); (try clear Ad); (try clear Ae); (try clear Af); (try clear Ag); (try clear Ah); (try clear Ai); (try clear Aj); (try clear Ak); obtain ⟨kq, AB, rfl, HA, Bx, AA, HB⟩ := hcut
  cases kq with
  | zero => exact absurd HA.out (by simp [spec_EntryText.j0])
  | succ AK =>
   have H := HA.out; clear HA; simp only [spec_EntryText.j0] at H
   by_cases c6 : a0_1 = 1
   ·rw [if_pos c6] at H; have Ao : (a0_1 == 1) = true := beq_iff_eq.mpr c6; have Ap : (a0_1 != 1) = false := bne_eq_false_iff_eq.mpr c6; clear c6; replace H := Option.bind_eq_some_iff.mp H; obtain ⟨AC, Al, H⟩ := H; (try dsimp only at H); have A7 := zm Al; clear Al
    by_cases c8 : AC.size + 1 ≤ 9223372036854775807
    ·rw [if_pos c8] at H; have Bu := eq_true c8; have Bv : decide (AC.size + 1 ≤ 9223372036854775807) = true := decide_eq_true c8
     try have Bw : (9223372036854775807 < AC.size + 1) = False := eq_false (Nat.not_lt.2 c8)
     replace H := Option.bind_eq_some_iff.mp H; obtain ⟨AE, Am, H⟩ := H; (try dsimp only at H); have A9 := zm Am; clear Am
     by_cases AL : (AC ++ (⟨#[103]⟩ : ByteArray)).size + AE.size ≤ 9223372036854775807
     ·rw [if_pos AL] at H; have BN := eq_true AL; have BO : decide ((AC ++ (⟨#[103]⟩ : ByteArray)).size + AE.size ≤ 9223372036854775807) = true := decide_eq_true AL
      try have BP : (9223372036854775807 < (AC ++ (⟨#[103]⟩ : ByteArray)).size + AE.size) = False := eq_false (Nat.not_lt.2 AL)
      (try (have BPs := BP; simp only [ByteArray.size_append, zsz] at BPs))
      by_cases AM : ((AC ++ (⟨#[103]⟩ : ByteArray)) ++ AE).size + 1 ≤ 9223372036854775807
      ·rw [if_pos AM] at H; have BQ := eq_true AM; have BR : decide (((AC ++ (⟨#[103]⟩ : ByteArray)) ++ AE).size + 1 ≤ 9223372036854775807) = true := decide_eq_true AM
       try have BS : (9223372036854775807 < ((AC ++ (⟨#[103]⟩ : ByteArray)) ++ AE).size + 1) = False := eq_false (Nat.not_lt.2 AM)
       (try (have BSs := BS; simp only [ByteArray.size_append, zsz] at BSs))
       replace H := Option.bind_eq_some_iff.mp H; obtain ⟨AH, AW, H⟩ := H; (try dsimp only at H); have BH := zm AW; clear AW
       by_cases AN : (((AC ++ (⟨#[103]⟩ : ByteArray)) ++ AE) ++ (⟨#[46]⟩ : ByteArray)).size + AH.size ≤ 9223372036854775807
       ·rw [if_pos AN] at H; have BT := eq_true AN; have BU : decide ((((AC ++ (⟨#[103]⟩ : ByteArray)) ++ AE) ++ (⟨#[46]⟩ : ByteArray)).size + AH.size ≤ 9223372036854775807) = true := decide_eq_true AN
        try have BV : (9223372036854775807 < (((AC ++ (⟨#[103]⟩ : ByteArray)) ++ AE) ++ (⟨#[46]⟩ : ByteArray)).size + AH.size) = False := eq_false (Nat.not_lt.2 AN)
        (try (have BVs := BV; simp only [ByteArray.size_append, zsz] at BVs))
        by_cases AO : ((((AC ++ (⟨#[103]⟩ : ByteArray)) ++ AE) ++ (⟨#[46]⟩ : ByteArray)) ++ AH).size + 1 ≤ 9223372036854775807
        ·rw [if_pos AO] at H; have BW := eq_true AO; have BX : decide (((((AC ++ (⟨#[103]⟩ : ByteArray)) ++ AE) ++ (⟨#[46]⟩ : ByteArray)) ++ AH).size + 1 ≤ 9223372036854775807) = true := decide_eq_true AO
         try have BY : (9223372036854775807 < ((((AC ++ (⟨#[103]⟩ : ByteArray)) ++ AE) ++ (⟨#[46]⟩ : ByteArray)) ++ AH).size + 1) = False := eq_false (Nat.not_lt.2 AO)
         (try (have BYs := BY; simp only [ByteArray.size_append, zsz] at BYs))
         by_cases AP : (((((AC ++ (⟨#[103]⟩ : ByteArray)) ++ AE) ++ (⟨#[46]⟩ : ByteArray)) ++ AH) ++ (⟨#[58]⟩ : ByteArray)).size + a0_4.size ≤ 9223372036854775807
         ·rw [if_pos AP] at H; have BZ := eq_true AP; have Ba : decide ((((((AC ++ (⟨#[103]⟩ : ByteArray)) ++ AE) ++ (⟨#[46]⟩ : ByteArray)) ++ AH) ++ (⟨#[58]⟩ : ByteArray)).size + a0_4.size ≤ 9223372036854775807) = true := decide_eq_true AP
          try have Bb : (9223372036854775807 < (((((AC ++ (⟨#[103]⟩ : ByteArray)) ++ AE) ++ (⟨#[46]⟩ : ByteArray)) ++ AH) ++ (⟨#[58]⟩ : ByteArray)).size + a0_4.size) = False := eq_false (Nat.not_lt.2 AP)
          (try (have Bbs := Bb; simp only [ByteArray.size_append, zsz] at Bbs))
          obtain rfl := Option.some.inj H; obtain ⟨Aq, Ar, As, At, Au, B0, B2, B3, BA, BB⟩ := zc5 AA
          try go_wp2
          replace AA := zq AA; replace HB := zm (below_drew1 HB.out)
          refine start_ (n := 19) (S := fun w' => w'.cell? ⟨AG, 0, none⟩ = some (.int .i64 a0_0) ∧ w'.cell? ⟨AG, 1, none⟩ = some (.int .i64 a0_1) ∧ w'.cell? ⟨AG, 2, none⟩ = some (.int .i64 a0_2) ∧ w'.cell? ⟨AG, 3, none⟩ = some (.int .i64 a0_3) ∧ w'.cell? ⟨AG, 4, none⟩ = some (.string a0_4)) (ds := []) (zl 19 0) (by kernel_rfl) rfl rfl zS (fun hHeld => ?_); refine with_tabW spec_EntryText.tab6 spec_EntryText.bits6 (fun HT_ HW_ => ?_)
          generalize wc.drew = By at AA HB hHeld ⊢
          refine zu 0 10 19 1 ?_
          refine zu 3 13 19 9 ?_
          refine zu 5 15 19 41 ?_
          refine zu 10 20 19 1065 ?_
          refine zu 15 25 19 33833 ?_
          refine zv 1 11 19 33835 ?_
          refine zv 6 16 19 33899 ?_
          refine zv 11 21 19 35947 ?_
          refine zv 16 26 19 101483 ?_
          refine zo 2 (some 12) (zl 19 101487) (fun K hK => ?_); refine zgo #[.int .i64 a0_0] Tryd.func10 ?_; (with_reducible refine (spec_Digits.calls AK a0_0 AC _ A7.out).mono ?_); rintro e Bz ⟨rfl, hb⟩; refine ⟨_, rfl, ?_⟩; replace AA := zy AA hb; replace HB := zm (below_step zB hb); (try clear hb); refine hK.out _ _ zS (fun hHeld => ?_); clear hK K; refine zn ?_
          refine zu 4 14 19 101503 ?_
          refine zo 7 (some 17) (zl 19 101631) (fun K hK => ?_); refine zgo #[.int .i64 a0_2] Tryd.func10 ?_; (with_reducible refine (spec_Digits.calls AK a0_2 AE _ A9.out).mono ?_); rintro e C0 ⟨rfl, hb⟩; refine ⟨_, rfl, ?_⟩; replace AA := zy AA hb; replace HB := zm (below_step zB hb); (try clear hb); refine hK.out _ _ zS (fun hHeld => ?_); clear hK K; refine zn ?_
          refine zu 8 18 19 101887 ?_
          refine zu 9 19 19 102399 ?_
          refine zo 12 (some 22) (zl 19 106495) (fun K hK => ?_); refine zgo #[.int .i64 a0_3] Tryd.func10 ?_; (with_reducible refine (spec_Digits.calls AK a0_3 AH _ BH.out).mono ?_); rintro e C1 ⟨rfl, hb⟩; refine ⟨_, rfl, ?_⟩; replace AA := zy AA hb; replace HB := zm (below_step zB hb); (try clear hb); refine hK.out _ _ zS (fun hHeld => ?_); clear hK K; refine zn ?_
          refine zu 13 23 19 114687 ?_
          refine zu 14 24 19 131071 ?_
          refine zu 17 27 19 262143 ?_
          refine zu 18 2 19 524287 ?_
          refine done_ (done_of HT_.out (by kernel_rfl)) ?_
          try go_wp2
          go_ret
          exact ⟨zE, zB⟩
         ·rw [if_neg AP] at H
          exact absurd H (by simp)
        ·rw [if_neg AO] at H
         exact absurd H (by simp)
       ·rw [if_neg AN] at H
        exact absurd H (by simp)
      ·rw [if_neg AM] at H
       exact absurd H (by simp)
     ·rw [if_neg AL] at H
      exact absurd H (by simp)
    ·rw [if_neg c8] at H
     exact absurd H (by simp)
   ·rw [if_neg c6] at H; have Ao : (a0_1 == 1) = false := beq_eq_false_iff_ne.mpr c6; have Ap : (a0_1 != 1) = true := bne_iff_ne.mpr c6; replace H := Option.bind_eq_some_iff.mp H; obtain ⟨AD, AX, H⟩ := H; (try dsimp only at H); have BI := zm AX; clear AX
    by_cases AQ : AD.size + AB.size ≤ 9223372036854775807
    ·rw [if_pos AQ] at H; have Bc := eq_true AQ; have Bd : decide (AD.size + AB.size ≤ 9223372036854775807) = true := decide_eq_true AQ
     try have Be : (9223372036854775807 < AD.size + AB.size) = False := eq_false (Nat.not_lt.2 AQ)
     replace H := Option.bind_eq_some_iff.mp H; obtain ⟨AF, AY, H⟩ := H; (try dsimp only at H); have BJ := zm AY; clear AY
     by_cases AR : (AD ++ AB).size + AF.size ≤ 9223372036854775807
     ·rw [if_pos AR] at H; have Bf := eq_true AR; have Bg : decide ((AD ++ AB).size + AF.size ≤ 9223372036854775807) = true := decide_eq_true AR
      try have Bh : (9223372036854775807 < (AD ++ AB).size + AF.size) = False := eq_false (Nat.not_lt.2 AR)
      (try (have Bhs := Bh; simp only [ByteArray.size_append, zsz] at Bhs))
      by_cases AS : ((AD ++ AB) ++ AF).size + 1 ≤ 9223372036854775807
      ·rw [if_pos AS] at H; have Bi := eq_true AS; have Bj : decide (((AD ++ AB) ++ AF).size + 1 ≤ 9223372036854775807) = true := decide_eq_true AS
       try have Bk : (9223372036854775807 < ((AD ++ AB) ++ AF).size + 1) = False := eq_false (Nat.not_lt.2 AS)
       (try (have Bks := Bk; simp only [ByteArray.size_append, zsz] at Bks))
       replace H := Option.bind_eq_some_iff.mp H; obtain ⟨AI, AZ, H⟩ := H; (try dsimp only at H); have BK := zm AZ; clear AZ
       by_cases AT : (((AD ++ AB) ++ AF) ++ (⟨#[46]⟩ : ByteArray)).size + AI.size ≤ 9223372036854775807
       ·rw [if_pos AT] at H; have Bl := eq_true AT; have Bm : decide ((((AD ++ AB) ++ AF) ++ (⟨#[46]⟩ : ByteArray)).size + AI.size ≤ 9223372036854775807) = true := decide_eq_true AT
        try have Bn : (9223372036854775807 < (((AD ++ AB) ++ AF) ++ (⟨#[46]⟩ : ByteArray)).size + AI.size) = False := eq_false (Nat.not_lt.2 AT)
        (try (have Bns := Bn; simp only [ByteArray.size_append, zsz] at Bns))
        by_cases AU : ((((AD ++ AB) ++ AF) ++ (⟨#[46]⟩ : ByteArray)) ++ AI).size + 1 ≤ 9223372036854775807
        ·rw [if_pos AU] at H; have Bo := eq_true AU; have Bp : decide (((((AD ++ AB) ++ AF) ++ (⟨#[46]⟩ : ByteArray)) ++ AI).size + 1 ≤ 9223372036854775807) = true := decide_eq_true AU
         try have Bq : (9223372036854775807 < ((((AD ++ AB) ++ AF) ++ (⟨#[46]⟩ : ByteArray)) ++ AI).size + 1) = False := eq_false (Nat.not_lt.2 AU)
         (try (have Bqs := Bq; simp only [ByteArray.size_append, zsz] at Bqs))
         by_cases AV : (((((AD ++ AB) ++ AF) ++ (⟨#[46]⟩ : ByteArray)) ++ AI) ++ (⟨#[58]⟩ : ByteArray)).size + a0_4.size ≤ 9223372036854775807
         ·rw [if_pos AV] at H; have Br := eq_true AV; have Bs : decide ((((((AD ++ AB) ++ AF) ++ (⟨#[46]⟩ : ByteArray)) ++ AI) ++ (⟨#[58]⟩ : ByteArray)).size + a0_4.size ≤ 9223372036854775807) = true := decide_eq_true AV
          try have Bt : (9223372036854775807 < (((((AD ++ AB) ++ AF) ++ (⟨#[46]⟩ : ByteArray)) ++ AI) ++ (⟨#[58]⟩ : ByteArray)).size + a0_4.size) = False := eq_false (Nat.not_lt.2 AV)
          (try (have Bts := Bt; simp only [ByteArray.size_append, zsz] at Bts))
          obtain rfl := Option.some.inj H; obtain ⟨Av, Aw, Ax, Ay, Az, BC, BD, BE, BF, BG⟩ := zc5 AA
          try go_wp2
          replace AA := zq AA; replace HB := zm (below_drew1 HB.out)
          refine start_ (n := 19) (S := fun w' => w'.cell? ⟨AG, 0, none⟩ = some (.int .i64 a0_0) ∧ w'.cell? ⟨AG, 1, none⟩ = some (.int .i64 a0_1) ∧ w'.cell? ⟨AG, 2, none⟩ = some (.int .i64 a0_2) ∧ w'.cell? ⟨AG, 3, none⟩ = some (.int .i64 a0_3) ∧ w'.cell? ⟨AG, 4, none⟩ = some (.string a0_4)) (ds := []) (zl 19 0) (by kernel_rfl) rfl rfl zS (fun hHeld => ?_); refine with_tabW spec_EntryText.tab6 spec_EntryText.bits6 (fun HT_ HW_ => ?_)
          generalize wc.drew = C2 at AA HB hHeld ⊢
          refine zu 0 10 19 1 ?_
          refine zu 3 13 19 9 ?_
          refine zu 5 15 19 41 ?_
          refine zu 10 20 19 1065 ?_
          refine zu 15 25 19 33833 ?_
          refine zv 1 11 19 33835 ?_
          refine zv 6 16 19 33899 ?_
          refine zv 11 21 19 35947 ?_
          refine zv 16 26 19 101483 ?_
          refine zo 2 (some 12) (zl 19 101487) (fun K hK => ?_); refine zgo #[.int .i64 a0_0] Tryd.func10 ?_; (with_reducible refine (spec_Digits.calls AK a0_0 AD _ BI.out).mono ?_); rintro e C3 ⟨rfl, hb⟩; refine ⟨_, rfl, ?_⟩; replace AA := zy AA hb; replace HB := zm (below_step zB hb); (try clear hb); refine hK.out _ _ zS (fun hHeld => ?_); clear hK K; refine zn ?_
          refine zu 4 14 19 101503 ?_
          refine zo 7 (some 17) (zl 19 101631) (fun K hK => ?_); refine zgo #[.int .i64 a0_2] Tryd.func10 ?_; (with_reducible refine (spec_Digits.calls AK a0_2 AF _ BJ.out).mono ?_); rintro e C4 ⟨rfl, hb⟩; refine ⟨_, rfl, ?_⟩; replace AA := zy AA hb; replace HB := zm (below_step zB hb); (try clear hb); refine hK.out _ _ zS (fun hHeld => ?_); clear hK K; refine zn ?_
          refine zu 8 18 19 101887 ?_
          refine zu 9 19 19 102399 ?_
          refine zo 12 (some 22) (zl 19 106495) (fun K hK => ?_); refine zgo #[.int .i64 a0_3] Tryd.func10 ?_; (with_reducible refine (spec_Digits.calls AK a0_3 AI _ BK.out).mono ?_); rintro e C5 ⟨rfl, hb⟩; refine ⟨_, rfl, ?_⟩; replace AA := zy AA hb; replace HB := zm (below_step zB hb); (try clear hb); refine hK.out _ _ zS (fun hHeld => ?_); clear hK K; refine zn ?_
          refine zu 13 23 19 114687 ?_
          refine zu 14 24 19 131071 ?_
          refine zu 17 27 19 262143 ?_
          refine zu 18 2 19 524287 ?_
          refine done_ (done_of HT_.out (by kernel_rfl)) ?_
          try go_wp2
          go_ret
          exact ⟨zE, zB⟩
         ·rw [if_neg AV] at H
          exact absurd H (by simp)
        ·rw [if_neg AU] at H
         exact absurd H (by simp)
       ·rw [if_neg AT] at H
        exact absurd H (by simp)
      ·rw [if_neg AS] at H
       exact absurd H (by simp)
     ·rw [if_neg AR] at H
      exact absurd H (by simp)
    ·rw [if_neg AQ] at H
     exact absurd H (by simp)

/-! ### impl_EntryText: function 15 -/
def impl_EntryText.f (a0_0 : Int) (a0_1 : Int) (a0_2 : Int) (a0_3 : Int) (a0_4 : ByteArray) : Option (ByteArray) := if a0_1 = 0 then ((impl_Digits.f a0_0).bind fun t122 => (if t122.size + 1 ≤ 9223372036854775807 then ((impl_Digits.f a0_2).bind fun t123 => (if (t122 ++ (⟨#[117]⟩ : ByteArray)).size + t123.size ≤ 9223372036854775807 then (if ((t122 ++ (⟨#[117]⟩ : ByteArray)) ++ t123).size + 1 ≤ 9223372036854775807 then ((impl_Digits.f a0_3).bind fun t124 => (if (((t122 ++ (⟨#[117]⟩ : ByteArray)) ++ t123) ++ (⟨#[46]⟩ : ByteArray)).size + t124.size ≤ 9223372036854775807 then (if ((((t122 ++ (⟨#[117]⟩ : ByteArray)) ++ t123) ++ (⟨#[46]⟩ : ByteArray)) ++ t124).size + 1 ≤ 9223372036854775807 then (if (((((t122 ++ (⟨#[117]⟩ : ByteArray)) ++ t123) ++ (⟨#[46]⟩ : ByteArray)) ++ t124) ++ (⟨#[58]⟩ : ByteArray)).size + a0_4.size ≤ 9223372036854775807 then (some ((((((t122 ++ (⟨#[117]⟩ : ByteArray)) ++ t123) ++ (⟨#[46]⟩ : ByteArray)) ++ t124) ++ (⟨#[58]⟩ : ByteArray)) ++ a0_4)) else (none)) else (none)) else (none))) else (none)) else (none))) else (none))) else (if a0_1 = 1 then ((impl_Digits.f a0_0).bind fun t125 => (if t125.size + 1 ≤ 9223372036854775807 then ((impl_Digits.f a0_2).bind fun t126 => (if (t125 ++ (⟨#[103]⟩ : ByteArray)).size + t126.size ≤ 9223372036854775807 then (if ((t125 ++ (⟨#[103]⟩ : ByteArray)) ++ t126).size + 1 ≤ 9223372036854775807 then ((impl_Digits.f a0_3).bind fun t127 => (if (((t125 ++ (⟨#[103]⟩ : ByteArray)) ++ t126) ++ (⟨#[46]⟩ : ByteArray)).size + t127.size ≤ 9223372036854775807 then (if ((((t125 ++ (⟨#[103]⟩ : ByteArray)) ++ t126) ++ (⟨#[46]⟩ : ByteArray)) ++ t127).size + 1 ≤ 9223372036854775807 then (if (((((t125 ++ (⟨#[103]⟩ : ByteArray)) ++ t126) ++ (⟨#[46]⟩ : ByteArray)) ++ t127) ++ (⟨#[58]⟩ : ByteArray)).size + a0_4.size ≤ 9223372036854775807 then (some ((((((t125 ++ (⟨#[103]⟩ : ByteArray)) ++ t126) ++ (⟨#[46]⟩ : ByteArray)) ++ t127) ++ (⟨#[58]⟩ : ByteArray)) ++ a0_4)) else (none)) else (none)) else (none))) else (none)) else (none))) else (none))) else ((impl_Digits.f a0_0).bind fun t128 => (if t128.size + 1 ≤ 9223372036854775807 then ((impl_Digits.f a0_2).bind fun t129 => (if (t128 ++ (⟨#[63]⟩ : ByteArray)).size + t129.size ≤ 9223372036854775807 then (if ((t128 ++ (⟨#[63]⟩ : ByteArray)) ++ t129).size + 1 ≤ 9223372036854775807 then ((impl_Digits.f a0_3).bind fun t130 => (if (((t128 ++ (⟨#[63]⟩ : ByteArray)) ++ t129) ++ (⟨#[46]⟩ : ByteArray)).size + t130.size ≤ 9223372036854775807 then (if ((((t128 ++ (⟨#[63]⟩ : ByteArray)) ++ t129) ++ (⟨#[46]⟩ : ByteArray)) ++ t130).size + 1 ≤ 9223372036854775807 then (if (((((t128 ++ (⟨#[63]⟩ : ByteArray)) ++ t129) ++ (⟨#[46]⟩ : ByteArray)) ++ t130) ++ (⟨#[58]⟩ : ByteArray)).size + a0_4.size ≤ 9223372036854775807 then (some ((((((t128 ++ (⟨#[63]⟩ : ByteArray)) ++ t129) ++ (⟨#[46]⟩ : ByteArray)) ++ t130) ++ (⟨#[58]⟩ : ByteArray)) ++ a0_4)) else (none)) else (none)) else (none))) else (none)) else (none))) else (none))))
def impl_EntryText.T7 : Bool × List (List Nat × List Nat) := (true, [([], []), ([0], [0]), ([1], [1]), ([], []), ([2, 3], [2, 3]), ([], []), ([5], [5]), ([6, 2], [6]), ([4, 7], [4, 7]), ([8], [8]), ([], []), ([10], [10]), ([11, 7], [11]), ([9, 12], [9, 12]), ([13], [13]), ([], []), ([15], [15]), ([14, 16], [14, 16]), ([17, 12, 0, 1, 2, 3, 4, 5, 6, 7, 8, 9, 10, 11, 12, 13, 14, 15, 16, 17], [17])])
def impl_EntryText.B7 : List Nat := [0, 1, 3, 0, 15, 0, 32, 103, 255, 511, 0, 1024, 3303, 8191, 16383, 0, 32768, 131071, 262143]
theorem impl_EntryText.tab7 : rtab .any (opsOf Tryd.f15 7) = impl_EntryText.T7 := by kernel_rfl
theorem impl_EntryText.bits7 : waitsOk impl_EntryText.T7.2 impl_EntryText.B7 = true := by kernel_rfl
set_option maxHeartbeats 8000000 in
set_option maxRecDepth 100000 in
theorem impl_EntryText.calls (a0_0 : Int) (a0_1 : Int) (a0_2 : Int) (a0_3 : Int) (a0_4 : ByteArray) (r : ByteArray) (w : World) (hT : Go.Proofs.YtomlglpmljngfaaDoor.HandIo.TI w) (h : impl_EntryText.f a0_0 a0_1 a0_2 a0_3 a0_4 = some r) :
  Calls Tryd.prog 15 #[.agg #[.int .i64 a0_0, .int .i64 a0_1, .int .i64 a0_2, .int .i64 a0_3, .string a0_4]] w fun e w' => e = .returned (.string r) ∧ Below w.heap.size w w' := by
 have HT := zm hT; clear hT
 have hu28 := Tryd.underlying28; have HB := zm (Below.refl w.heap.size w); have H : (if a0_1 = 0 then ((impl_Digits.f a0_0).bind fun AB => (if AB.size + 1 ≤ 9223372036854775807 then ((impl_Digits.f a0_2).bind fun AE => (if (AB ++ (⟨#[117]⟩ : ByteArray)).size + AE.size ≤ 9223372036854775807 then (if ((AB ++ (⟨#[117]⟩ : ByteArray)) ++ AE).size + 1 ≤ 9223372036854775807 then ((impl_Digits.f a0_3).bind fun AI => (if (((AB ++ (⟨#[117]⟩ : ByteArray)) ++ AE) ++ (⟨#[46]⟩ : ByteArray)).size + AI.size ≤ 9223372036854775807 then (if ((((AB ++ (⟨#[117]⟩ : ByteArray)) ++ AE) ++ (⟨#[46]⟩ : ByteArray)) ++ AI).size + 1 ≤ 9223372036854775807 then (if (((((AB ++ (⟨#[117]⟩ : ByteArray)) ++ AE) ++ (⟨#[46]⟩ : ByteArray)) ++ AI) ++ (⟨#[58]⟩ : ByteArray)).size + a0_4.size ≤ 9223372036854775807 then (some ((((((AB ++ (⟨#[117]⟩ : ByteArray)) ++ AE) ++ (⟨#[46]⟩ : ByteArray)) ++ AI) ++ (⟨#[58]⟩ : ByteArray)) ++ a0_4)) else (none)) else (none)) else (none))) else (none)) else (none))) else (none))) else (if a0_1 = 1 then ((impl_Digits.f a0_0).bind fun AC => (if AC.size + 1 ≤ 9223372036854775807 then ((impl_Digits.f a0_2).bind fun AF => (if (AC ++ (⟨#[103]⟩ : ByteArray)).size + AF.size ≤ 9223372036854775807 then (if ((AC ++ (⟨#[103]⟩ : ByteArray)) ++ AF).size + 1 ≤ 9223372036854775807 then ((impl_Digits.f a0_3).bind fun AJ => (if (((AC ++ (⟨#[103]⟩ : ByteArray)) ++ AF) ++ (⟨#[46]⟩ : ByteArray)).size + AJ.size ≤ 9223372036854775807 then (if ((((AC ++ (⟨#[103]⟩ : ByteArray)) ++ AF) ++ (⟨#[46]⟩ : ByteArray)) ++ AJ).size + 1 ≤ 9223372036854775807 then (if (((((AC ++ (⟨#[103]⟩ : ByteArray)) ++ AF) ++ (⟨#[46]⟩ : ByteArray)) ++ AJ) ++ (⟨#[58]⟩ : ByteArray)).size + a0_4.size ≤ 9223372036854775807 then (some ((((((AC ++ (⟨#[103]⟩ : ByteArray)) ++ AF) ++ (⟨#[46]⟩ : ByteArray)) ++ AJ) ++ (⟨#[58]⟩ : ByteArray)) ++ a0_4)) else (none)) else (none)) else (none))) else (none)) else (none))) else (none))) else ((impl_Digits.f a0_0).bind fun AD => (if AD.size + 1 ≤ 9223372036854775807 then ((impl_Digits.f a0_2).bind fun AG => (if (AD ++ (⟨#[63]⟩ : ByteArray)).size + AG.size ≤ 9223372036854775807 then (if ((AD ++ (⟨#[63]⟩ : ByteArray)) ++ AG).size + 1 ≤ 9223372036854775807 then ((impl_Digits.f a0_3).bind fun AK => (if (((AD ++ (⟨#[63]⟩ : ByteArray)) ++ AG) ++ (⟨#[46]⟩ : ByteArray)).size + AK.size ≤ 9223372036854775807 then (if ((((AD ++ (⟨#[63]⟩ : ByteArray)) ++ AG) ++ (⟨#[46]⟩ : ByteArray)) ++ AK).size + 1 ≤ 9223372036854775807 then (if (((((AD ++ (⟨#[63]⟩ : ByteArray)) ++ AG) ++ (⟨#[46]⟩ : ByteArray)) ++ AK) ++ (⟨#[58]⟩ : ByteArray)).size + a0_4.size ≤ 9223372036854775807 then (some ((((((AD ++ (⟨#[63]⟩ : ByteArray)) ++ AG) ++ (⟨#[46]⟩ : ByteArray)) ++ AK) ++ (⟨#[58]⟩ : ByteArray)) ++ a0_4)) else (none)) else (none)) else (none))) else (none)) else (none))) else (none))))) = some r := h
 clear h
 by_cases c2 : a0_1 = 0
 ·rw [if_pos c2] at H; have An : (a0_1 == 0) = true := beq_iff_eq.mpr c2; have Ao : (a0_1 != 0) = false := bne_eq_false_iff_eq.mpr c2; clear c2; replace H := Option.bind_eq_some_iff.mp H; obtain ⟨AB, Ak, H⟩ := H; (try dsimp only at H); have A3 := zm Ak; clear Ak
  by_cases c4 : AB.size + 1 ≤ 9223372036854775807
  ·rw [if_pos c4] at H; have CF := eq_true c4; have CG : decide (AB.size + 1 ≤ 9223372036854775807) = true := decide_eq_true c4
   try have CH : (9223372036854775807 < AB.size + 1) = False := eq_false (Nat.not_lt.2 c4)
   replace H := Option.bind_eq_some_iff.mp H; obtain ⟨AE, Al, H⟩ := H; (try dsimp only at H); have A5 := zm Al; clear Al
   by_cases c6 : (AB ++ (⟨#[117]⟩ : ByteArray)).size + AE.size ≤ 9223372036854775807
   ·rw [if_pos c6] at H; have CI := eq_true c6; have CJ : decide ((AB ++ (⟨#[117]⟩ : ByteArray)).size + AE.size ≤ 9223372036854775807) = true := decide_eq_true c6
    try have CK : (9223372036854775807 < (AB ++ (⟨#[117]⟩ : ByteArray)).size + AE.size) = False := eq_false (Nat.not_lt.2 c6)
    (try (have CKs := CK; simp only [ByteArray.size_append, zsz] at CKs))
    by_cases c7 : ((AB ++ (⟨#[117]⟩ : ByteArray)) ++ AE).size + 1 ≤ 9223372036854775807
    ·rw [if_pos c7] at H; have CL := eq_true c7; have CM : decide (((AB ++ (⟨#[117]⟩ : ByteArray)) ++ AE).size + 1 ≤ 9223372036854775807) = true := decide_eq_true c7
     try have CN : (9223372036854775807 < ((AB ++ (⟨#[117]⟩ : ByteArray)) ++ AE).size + 1) = False := eq_false (Nat.not_lt.2 c7)
     (try (have CNs := CN; simp only [ByteArray.size_append, zsz] at CNs))
     replace H := Option.bind_eq_some_iff.mp H; obtain ⟨AI, Am, H⟩ := H; (try dsimp only at H); have A8 := zm Am; clear Am
     by_cases c9 : (((AB ++ (⟨#[117]⟩ : ByteArray)) ++ AE) ++ (⟨#[46]⟩ : ByteArray)).size + AI.size ≤ 9223372036854775807
     ·rw [if_pos c9] at H; have CO := eq_true c9; have CP : decide ((((AB ++ (⟨#[117]⟩ : ByteArray)) ++ AE) ++ (⟨#[46]⟩ : ByteArray)).size + AI.size ≤ 9223372036854775807) = true := decide_eq_true c9
      try have CQ : (9223372036854775807 < (((AB ++ (⟨#[117]⟩ : ByteArray)) ++ AE) ++ (⟨#[46]⟩ : ByteArray)).size + AI.size) = False := eq_false (Nat.not_lt.2 c9)
      (try (have CQs := CQ; simp only [ByteArray.size_append, zsz] at CQs))
      by_cases AM : ((((AB ++ (⟨#[117]⟩ : ByteArray)) ++ AE) ++ (⟨#[46]⟩ : ByteArray)) ++ AI).size + 1 ≤ 9223372036854775807
      ·rw [if_pos AM] at H; have BZ := eq_true AM; have Ba : decide (((((AB ++ (⟨#[117]⟩ : ByteArray)) ++ AE) ++ (⟨#[46]⟩ : ByteArray)) ++ AI).size + 1 ≤ 9223372036854775807) = true := decide_eq_true AM
       try have Bb : (9223372036854775807 < ((((AB ++ (⟨#[117]⟩ : ByteArray)) ++ AE) ++ (⟨#[46]⟩ : ByteArray)) ++ AI).size + 1) = False := eq_false (Nat.not_lt.2 AM)
       (try (have Bbs := Bb; simp only [ByteArray.size_append, zsz] at Bbs))
       by_cases AN : (((((AB ++ (⟨#[117]⟩ : ByteArray)) ++ AE) ++ (⟨#[46]⟩ : ByteArray)) ++ AI) ++ (⟨#[58]⟩ : ByteArray)).size + a0_4.size ≤ 9223372036854775807
       ·rw [if_pos AN] at H; have Bc := eq_true AN; have Bd : decide ((((((AB ++ (⟨#[117]⟩ : ByteArray)) ++ AE) ++ (⟨#[46]⟩ : ByteArray)) ++ AI) ++ (⟨#[58]⟩ : ByteArray)).size + a0_4.size ≤ 9223372036854775807) = true := decide_eq_true AN
        try have Be : (9223372036854775807 < (((((AB ++ (⟨#[117]⟩ : ByteArray)) ++ AE) ++ (⟨#[46]⟩ : ByteArray)) ++ AI) ++ (⟨#[58]⟩ : ByteArray)).size + a0_4.size) = False := eq_false (Nat.not_lt.2 AN)
        (try (have Bes := Be; simp only [ByteArray.size_append, zsz] at Bes))
        obtain rfl := Option.some.inj H; go_enter Tryd.func15, Tryd.ntmps15
        try go_wp2_with (first | ((with_reducible refine gate_dst (N := 1) rfl ?_); refine zbox 1 #[.int .i64 a0_0, .int .i64 a0_1, .int .i64 a0_2, .int .i64 a0_3, .string a0_4] 28 ?_; intro AH hg BW hbox hb; have AA := zm (hbox); have Ab := zge w hg zB; have Aa := zge w hg zB; replace HB := zm (below_step zB hb); clear hb hbox hg; obtain ⟨Ap, Aq, Ar, As, At, BB, BC, BD, BE, BF⟩ := zc5 AA))
        replace AA := zq AA; replace HB := zm (below_drew1 HB.out)
        refine start_ (n := 19) (S := fun w' => w'.cell? ⟨AH, 0, none⟩ = some (.int .i64 a0_0) ∧ w'.cell? ⟨AH, 1, none⟩ = some (.int .i64 a0_1) ∧ w'.cell? ⟨AH, 2, none⟩ = some (.int .i64 a0_2) ∧ w'.cell? ⟨AH, 3, none⟩ = some (.int .i64 a0_3) ∧ w'.cell? ⟨AH, 4, none⟩ = some (.string a0_4)) (ds := []) (zl 19 0) (by kernel_rfl) rfl rfl zS (fun hHeld => ?_); refine with_tabW impl_EntryText.tab7 impl_EntryText.bits7 (fun HT_ HW_ => ?_)
        generalize BW.drew = CR at AA HB hHeld ⊢
        refine zu 0 10 19 1 ?_
        refine zu 3 13 19 9 ?_
        refine zu 5 15 19 41 ?_
        refine zu 10 20 19 1065 ?_
        refine zu 15 25 19 33833 ?_
        refine zv 1 11 19 33835 ?_
        refine zv 6 16 19 33899 ?_
        refine zv 11 21 19 35947 ?_
        refine zv 16 26 19 101483 ?_
        refine zo 2 (some 12) (zl 19 101487) (fun K hK => ?_); refine zgo #[.int .i64 a0_0] Tryd.func11 ?_; (with_reducible refine (impl_Digits.calls a0_0 AB _ zT A3.out).mono ?_); rintro e CS ⟨rfl, hb⟩; refine ⟨_, rfl, ?_⟩; replace AA := zy AA hb; replace HB := zm (below_step zB hb); (try clear hb); refine hK.out _ _ zS (fun hHeld => ?_); clear hK K; refine zn ?_
        refine zu 4 14 19 101503 ?_
        refine zo 7 (some 17) (zl 19 101631) (fun K hK => ?_); refine zgo #[.int .i64 a0_2] Tryd.func11 ?_; (with_reducible refine (impl_Digits.calls a0_2 AE _ zT A5.out).mono ?_); rintro e CT ⟨rfl, hb⟩; refine ⟨_, rfl, ?_⟩; replace AA := zy AA hb; replace HB := zm (below_step zB hb); (try clear hb); refine hK.out _ _ zS (fun hHeld => ?_); clear hK K; refine zn ?_
        refine zu 8 18 19 101887 ?_
        refine zu 9 19 19 102399 ?_
        refine zo 12 (some 22) (zl 19 106495) (fun K hK => ?_); refine zgo #[.int .i64 a0_3] Tryd.func11 ?_; (with_reducible refine (impl_Digits.calls a0_3 AI _ zT A8.out).mono ?_); rintro e CU ⟨rfl, hb⟩; refine ⟨_, rfl, ?_⟩; replace AA := zy AA hb; replace HB := zm (below_step zB hb); (try clear hb); refine hK.out _ _ zS (fun hHeld => ?_); clear hK K; refine zn ?_
        refine zu 13 23 19 114687 ?_
        refine zu 14 24 19 131071 ?_
        refine zu 17 27 19 262143 ?_
        refine zu 18 2 19 524287 ?_
        refine done_ (done_of HT_.out (by kernel_rfl)) ?_
        try go_wp2
        go_ret
        exact ⟨zE, zB⟩
       ·rw [if_neg AN] at H
        exact absurd H (by simp)
      ·rw [if_neg AM] at H
       exact absurd H (by simp)
     ·rw [if_neg c9] at H
      exact absurd H (by simp)
    ·rw [if_neg c7] at H
     exact absurd H (by simp)
   ·rw [if_neg c6] at H
    exact absurd H (by simp)
  ·rw [if_neg c4] at H
   exact absurd H (by simp)
 ·rw [if_neg c2] at H; have An : (a0_1 == 0) = false := beq_eq_false_iff_ne.mpr c2; have Ao : (a0_1 != 0) = true := bne_iff_ne.mpr c2
  by_cases AL : a0_1 = 1
  ·rw [if_pos AL] at H; have Ai : (a0_1 == 1) = true := beq_iff_eq.mpr AL; have Aj : (a0_1 != 1) = false := bne_eq_false_iff_eq.mpr AL; clear AL; replace H := Option.bind_eq_some_iff.mp H; obtain ⟨AC, Ac, H⟩ := H; (try dsimp only at H); have BQ := zm Ac; clear Ac
   by_cases AO : AC.size + 1 ≤ 9223372036854775807
   ·rw [if_pos AO] at H; have Bf := eq_true AO; have Bg : decide (AC.size + 1 ≤ 9223372036854775807) = true := decide_eq_true AO
    try have Bh : (9223372036854775807 < AC.size + 1) = False := eq_false (Nat.not_lt.2 AO)
    replace H := Option.bind_eq_some_iff.mp H; obtain ⟨AF, Ad, H⟩ := H; (try dsimp only at H); have BR := zm Ad; clear Ad
    by_cases AP : (AC ++ (⟨#[103]⟩ : ByteArray)).size + AF.size ≤ 9223372036854775807
    ·rw [if_pos AP] at H; have Bi := eq_true AP; have Bj : decide ((AC ++ (⟨#[103]⟩ : ByteArray)).size + AF.size ≤ 9223372036854775807) = true := decide_eq_true AP
     try have Bk : (9223372036854775807 < (AC ++ (⟨#[103]⟩ : ByteArray)).size + AF.size) = False := eq_false (Nat.not_lt.2 AP)
     (try (have Bks := Bk; simp only [ByteArray.size_append, zsz] at Bks))
     by_cases AQ : ((AC ++ (⟨#[103]⟩ : ByteArray)) ++ AF).size + 1 ≤ 9223372036854775807
     ·rw [if_pos AQ] at H; have Bl := eq_true AQ; have Bm : decide (((AC ++ (⟨#[103]⟩ : ByteArray)) ++ AF).size + 1 ≤ 9223372036854775807) = true := decide_eq_true AQ
      try have Bn : (9223372036854775807 < ((AC ++ (⟨#[103]⟩ : ByteArray)) ++ AF).size + 1) = False := eq_false (Nat.not_lt.2 AQ)
      (try (have Bns := Bn; simp only [ByteArray.size_append, zsz] at Bns))
      replace H := Option.bind_eq_some_iff.mp H; obtain ⟨AJ, Ae, H⟩ := H; (try dsimp only at H); have BS := zm Ae; clear Ae
      by_cases AR : (((AC ++ (⟨#[103]⟩ : ByteArray)) ++ AF) ++ (⟨#[46]⟩ : ByteArray)).size + AJ.size ≤ 9223372036854775807
      ·rw [if_pos AR] at H; have Bo := eq_true AR; have Bp : decide ((((AC ++ (⟨#[103]⟩ : ByteArray)) ++ AF) ++ (⟨#[46]⟩ : ByteArray)).size + AJ.size ≤ 9223372036854775807) = true := decide_eq_true AR
       try have Bq : (9223372036854775807 < (((AC ++ (⟨#[103]⟩ : ByteArray)) ++ AF) ++ (⟨#[46]⟩ : ByteArray)).size + AJ.size) = False := eq_false (Nat.not_lt.2 AR)
       (try (have Bqs := Bq; simp only [ByteArray.size_append, zsz] at Bqs))
       by_cases AS : ((((AC ++ (⟨#[103]⟩ : ByteArray)) ++ AF) ++ (⟨#[46]⟩ : ByteArray)) ++ AJ).size + 1 ≤ 9223372036854775807
       ·rw [if_pos AS] at H; have Br := eq_true AS; have Bs : decide (((((AC ++ (⟨#[103]⟩ : ByteArray)) ++ AF) ++ (⟨#[46]⟩ : ByteArray)) ++ AJ).size + 1 ≤ 9223372036854775807) = true := decide_eq_true AS
        try have Bt : (9223372036854775807 < ((((AC ++ (⟨#[103]⟩ : ByteArray)) ++ AF) ++ (⟨#[46]⟩ : ByteArray)) ++ AJ).size + 1) = False := eq_false (Nat.not_lt.2 AS)
        (try (have Bts := Bt; simp only [ByteArray.size_append, zsz] at Bts))
        by_cases AT : (((((AC ++ (⟨#[103]⟩ : ByteArray)) ++ AF) ++ (⟨#[46]⟩ : ByteArray)) ++ AJ) ++ (⟨#[58]⟩ : ByteArray)).size + a0_4.size ≤ 9223372036854775807
        ·rw [if_pos AT] at H; have Bu := eq_true AT; have Bv : decide ((((((AC ++ (⟨#[103]⟩ : ByteArray)) ++ AF) ++ (⟨#[46]⟩ : ByteArray)) ++ AJ) ++ (⟨#[58]⟩ : ByteArray)).size + a0_4.size ≤ 9223372036854775807) = true := decide_eq_true AT
         try have Bw : (9223372036854775807 < (((((AC ++ (⟨#[103]⟩ : ByteArray)) ++ AF) ++ (⟨#[46]⟩ : ByteArray)) ++ AJ) ++ (⟨#[58]⟩ : ByteArray)).size + a0_4.size) = False := eq_false (Nat.not_lt.2 AT)
         (try (have Bws := Bw; simp only [ByteArray.size_append, zsz] at Bws))
         obtain rfl := Option.some.inj H; go_enter Tryd.func15, Tryd.ntmps15
         try go_wp2_with (first | ((with_reducible refine gate_dst (N := 1) rfl ?_); refine zbox 1 #[.int .i64 a0_0, .int .i64 a0_1, .int .i64 a0_2, .int .i64 a0_3, .string a0_4] 28 ?_; intro AH hg BX hbox hb; have AA := zm (hbox); have Ab := zge w hg zB; have Aa := zge w hg zB; replace HB := zm (below_step zB hb); clear hb hbox hg; obtain ⟨Au, Av, Aw, Ax, Ay, BG, BH, BI, BJ, BK⟩ := zc5 AA))
         replace AA := zq AA; replace HB := zm (below_drew1 HB.out)
         refine start_ (n := 19) (S := fun w' => w'.cell? ⟨AH, 0, none⟩ = some (.int .i64 a0_0) ∧ w'.cell? ⟨AH, 1, none⟩ = some (.int .i64 a0_1) ∧ w'.cell? ⟨AH, 2, none⟩ = some (.int .i64 a0_2) ∧ w'.cell? ⟨AH, 3, none⟩ = some (.int .i64 a0_3) ∧ w'.cell? ⟨AH, 4, none⟩ = some (.string a0_4)) (ds := []) (zl 19 0) (by kernel_rfl) rfl rfl zS (fun hHeld => ?_); refine with_tabW impl_EntryText.tab7 impl_EntryText.bits7 (fun HT_ HW_ => ?_)
         generalize BX.drew = CV at AA HB hHeld ⊢
         refine zu 0 10 19 1 ?_
         refine zu 3 13 19 9 ?_
         refine zu 5 15 19 41 ?_
         refine zu 10 20 19 1065 ?_
         refine zu 15 25 19 33833 ?_
         refine zv 1 11 19 33835 ?_
         refine zv 6 16 19 33899 ?_
         refine zv 11 21 19 35947 ?_
         refine zv 16 26 19 101483 ?_
         refine zo 2 (some 12) (zl 19 101487) (fun K hK => ?_); refine zgo #[.int .i64 a0_0] Tryd.func11 ?_; (with_reducible refine (impl_Digits.calls a0_0 AC _ zT BQ.out).mono ?_); rintro e CW ⟨rfl, hb⟩; refine ⟨_, rfl, ?_⟩; replace AA := zy AA hb; replace HB := zm (below_step zB hb); (try clear hb); refine hK.out _ _ zS (fun hHeld => ?_); clear hK K; refine zn ?_
         refine zu 4 14 19 101503 ?_
         refine zo 7 (some 17) (zl 19 101631) (fun K hK => ?_); refine zgo #[.int .i64 a0_2] Tryd.func11 ?_; (with_reducible refine (impl_Digits.calls a0_2 AF _ zT BR.out).mono ?_); rintro e CX ⟨rfl, hb⟩; refine ⟨_, rfl, ?_⟩; replace AA := zy AA hb; replace HB := zm (below_step zB hb); (try clear hb); refine hK.out _ _ zS (fun hHeld => ?_); clear hK K; refine zn ?_
         refine zu 8 18 19 101887 ?_
         refine zu 9 19 19 102399 ?_
         refine zo 12 (some 22) (zl 19 106495) (fun K hK => ?_); refine zgo #[.int .i64 a0_3] Tryd.func11 ?_; (with_reducible refine (impl_Digits.calls a0_3 AJ _ zT BS.out).mono ?_); rintro e CY ⟨rfl, hb⟩; refine ⟨_, rfl, ?_⟩; replace AA := zy AA hb; replace HB := zm (below_step zB hb); (try clear hb); refine hK.out _ _ zS (fun hHeld => ?_); clear hK K; refine zn ?_
         refine zu 13 23 19 114687 ?_
         refine zu 14 24 19 131071 ?_
         refine zu 17 27 19 262143 ?_
         refine zu 18 2 19 524287 ?_
         refine done_ (done_of HT_.out (by kernel_rfl)) ?_
         try go_wp2
         go_ret
         exact ⟨zE, zB⟩
        ·rw [if_neg AT] at H
         exact absurd H (by simp)
       ·rw [if_neg AS] at H
        exact absurd H (by simp)
      ·rw [if_neg AR] at H
       exact absurd H (by simp)
     ·rw [if_neg AQ] at H
      exact absurd H (by simp)
    ·rw [if_neg AP] at H
     exact absurd H (by simp)
   ·rw [if_neg AO] at H
    exact absurd H (by simp)
  ·rw [if_neg AL] at H; have Ai : (a0_1 == 1) = false := beq_eq_false_iff_ne.mpr AL; have Aj : (a0_1 != 1) = true := bne_iff_ne.mpr AL; replace H := Option.bind_eq_some_iff.mp H; obtain ⟨AD, Af, H⟩ := H; (try dsimp only at H); have BT := zm Af; clear Af
   by_cases AU : AD.size + 1 ≤ 9223372036854775807
   ·rw [if_pos AU] at H; have Bx := eq_true AU; have By : decide (AD.size + 1 ≤ 9223372036854775807) = true := decide_eq_true AU
    try have Bz : (9223372036854775807 < AD.size + 1) = False := eq_false (Nat.not_lt.2 AU)
    replace H := Option.bind_eq_some_iff.mp H; obtain ⟨AG, Ag, H⟩ := H; (try dsimp only at H); have BU := zm Ag; clear Ag
    by_cases AV : (AD ++ (⟨#[63]⟩ : ByteArray)).size + AG.size ≤ 9223372036854775807
    ·rw [if_pos AV] at H; have C0 := eq_true AV; have C1 : decide ((AD ++ (⟨#[63]⟩ : ByteArray)).size + AG.size ≤ 9223372036854775807) = true := decide_eq_true AV
     try have C2 : (9223372036854775807 < (AD ++ (⟨#[63]⟩ : ByteArray)).size + AG.size) = False := eq_false (Nat.not_lt.2 AV)
     (try (have C2s := C2; simp only [ByteArray.size_append, zsz] at C2s))
     by_cases AW : ((AD ++ (⟨#[63]⟩ : ByteArray)) ++ AG).size + 1 ≤ 9223372036854775807
     ·rw [if_pos AW] at H; have C3 := eq_true AW; have C4 : decide (((AD ++ (⟨#[63]⟩ : ByteArray)) ++ AG).size + 1 ≤ 9223372036854775807) = true := decide_eq_true AW
      try have C5 : (9223372036854775807 < ((AD ++ (⟨#[63]⟩ : ByteArray)) ++ AG).size + 1) = False := eq_false (Nat.not_lt.2 AW)
      (try (have C5s := C5; simp only [ByteArray.size_append, zsz] at C5s))
      replace H := Option.bind_eq_some_iff.mp H; obtain ⟨AK, Ah, H⟩ := H; (try dsimp only at H); have BV := zm Ah; clear Ah
      by_cases AX : (((AD ++ (⟨#[63]⟩ : ByteArray)) ++ AG) ++ (⟨#[46]⟩ : ByteArray)).size + AK.size ≤ 9223372036854775807
      ·rw [if_pos AX] at H; have C6 := eq_true AX; have C7 : decide ((((AD ++ (⟨#[63]⟩ : ByteArray)) ++ AG) ++ (⟨#[46]⟩ : ByteArray)).size + AK.size ≤ 9223372036854775807) = true := decide_eq_true AX
       try have C8 : (9223372036854775807 < (((AD ++ (⟨#[63]⟩ : ByteArray)) ++ AG) ++ (⟨#[46]⟩ : ByteArray)).size + AK.size) = False := eq_false (Nat.not_lt.2 AX)
       (try (have C8s := C8; simp only [ByteArray.size_append, zsz] at C8s))
       by_cases AY : ((((AD ++ (⟨#[63]⟩ : ByteArray)) ++ AG) ++ (⟨#[46]⟩ : ByteArray)) ++ AK).size + 1 ≤ 9223372036854775807
       ·rw [if_pos AY] at H; have C9 := eq_true AY; have CA : decide (((((AD ++ (⟨#[63]⟩ : ByteArray)) ++ AG) ++ (⟨#[46]⟩ : ByteArray)) ++ AK).size + 1 ≤ 9223372036854775807) = true := decide_eq_true AY
        try have CB : (9223372036854775807 < ((((AD ++ (⟨#[63]⟩ : ByteArray)) ++ AG) ++ (⟨#[46]⟩ : ByteArray)) ++ AK).size + 1) = False := eq_false (Nat.not_lt.2 AY)
        (try (have CBs := CB; simp only [ByteArray.size_append, zsz] at CBs))
        by_cases AZ : (((((AD ++ (⟨#[63]⟩ : ByteArray)) ++ AG) ++ (⟨#[46]⟩ : ByteArray)) ++ AK) ++ (⟨#[58]⟩ : ByteArray)).size + a0_4.size ≤ 9223372036854775807
        ·rw [if_pos AZ] at H; have CC := eq_true AZ; have CD : decide ((((((AD ++ (⟨#[63]⟩ : ByteArray)) ++ AG) ++ (⟨#[46]⟩ : ByteArray)) ++ AK) ++ (⟨#[58]⟩ : ByteArray)).size + a0_4.size ≤ 9223372036854775807) = true := decide_eq_true AZ
         try have CE : (9223372036854775807 < (((((AD ++ (⟨#[63]⟩ : ByteArray)) ++ AG) ++ (⟨#[46]⟩ : ByteArray)) ++ AK) ++ (⟨#[58]⟩ : ByteArray)).size + a0_4.size) = False := eq_false (Nat.not_lt.2 AZ)
         (try (have CEs := CE; simp only [ByteArray.size_append, zsz] at CEs))
         obtain rfl := Option.some.inj H; go_enter Tryd.func15, Tryd.ntmps15
         try go_wp2_with (first | ((with_reducible refine gate_dst (N := 1) rfl ?_); refine zbox 1 #[.int .i64 a0_0, .int .i64 a0_1, .int .i64 a0_2, .int .i64 a0_3, .string a0_4] 28 ?_; intro AH hg BY hbox hb; have AA := zm (hbox); have Ab := zge w hg zB; have Aa := zge w hg zB; replace HB := zm (below_step zB hb); clear hb hbox hg; obtain ⟨Az, B0, B2, B3, BA, BL, BM, BN, BO, BP⟩ := zc5 AA))
         replace AA := zq AA; replace HB := zm (below_drew1 HB.out)
         refine start_ (n := 19) (S := fun w' => w'.cell? ⟨AH, 0, none⟩ = some (.int .i64 a0_0) ∧ w'.cell? ⟨AH, 1, none⟩ = some (.int .i64 a0_1) ∧ w'.cell? ⟨AH, 2, none⟩ = some (.int .i64 a0_2) ∧ w'.cell? ⟨AH, 3, none⟩ = some (.int .i64 a0_3) ∧ w'.cell? ⟨AH, 4, none⟩ = some (.string a0_4)) (ds := []) (zl 19 0) (by kernel_rfl) rfl rfl zS (fun hHeld => ?_); refine with_tabW impl_EntryText.tab7 impl_EntryText.bits7 (fun HT_ HW_ => ?_)
         generalize BY.drew = CZ at AA HB hHeld ⊢
         refine zu 0 10 19 1 ?_
         refine zu 3 13 19 9 ?_
         refine zu 5 15 19 41 ?_
         refine zu 10 20 19 1065 ?_
         refine zu 15 25 19 33833 ?_
         refine zv 1 11 19 33835 ?_
         refine zv 6 16 19 33899 ?_
         refine zv 11 21 19 35947 ?_
         refine zv 16 26 19 101483 ?_
         refine zo 2 (some 12) (zl 19 101487) (fun K hK => ?_); refine zgo #[.int .i64 a0_0] Tryd.func11 ?_; (with_reducible refine (impl_Digits.calls a0_0 AD _ zT BT.out).mono ?_); rintro e Ca ⟨rfl, hb⟩; refine ⟨_, rfl, ?_⟩; replace AA := zy AA hb; replace HB := zm (below_step zB hb); (try clear hb); refine hK.out _ _ zS (fun hHeld => ?_); clear hK K; refine zn ?_
         refine zu 4 14 19 101503 ?_
         refine zo 7 (some 17) (zl 19 101631) (fun K hK => ?_); refine zgo #[.int .i64 a0_2] Tryd.func11 ?_; (with_reducible refine (impl_Digits.calls a0_2 AG _ zT BU.out).mono ?_); rintro e Cb ⟨rfl, hb⟩; refine ⟨_, rfl, ?_⟩; replace AA := zy AA hb; replace HB := zm (below_step zB hb); (try clear hb); refine hK.out _ _ zS (fun hHeld => ?_); clear hK K; refine zn ?_
         refine zu 8 18 19 101887 ?_
         refine zu 9 19 19 102399 ?_
         refine zo 12 (some 22) (zl 19 106495) (fun K hK => ?_); refine zgo #[.int .i64 a0_3] Tryd.func11 ?_; (with_reducible refine (impl_Digits.calls a0_3 AK _ zT BV.out).mono ?_); rintro e Cc ⟨rfl, hb⟩; refine ⟨_, rfl, ?_⟩; replace AA := zy AA hb; replace HB := zm (below_step zB hb); (try clear hb); refine hK.out _ _ zS (fun hHeld => ?_); clear hK K; refine zn ?_
         refine zu 13 23 19 114687 ?_
         refine zu 14 24 19 131071 ?_
         refine zu 17 27 19 262143 ?_
         refine zu 18 2 19 524287 ?_
         refine done_ (done_of HT_.out (by kernel_rfl)) ?_
         try go_wp2
         go_ret
         exact ⟨zE, zB⟩
        ·rw [if_neg AZ] at H
         exact absurd H (by simp)
       ·rw [if_neg AY] at H
        exact absurd H (by simp)
      ·rw [if_neg AX] at H
       exact absurd H (by simp)
     ·rw [if_neg AW] at H
      exact absurd H (by simp)
    ·rw [if_neg AV] at H
     exact absurd H (by simp)
   ·rw [if_neg AU] at H
    exact absurd H (by simp)

end Go.Proofs.YtomlglpmljngfaaDoor.P
