-- by a program of this session, for this seat
import Derived.Test.YtnmofppbijmhoaaZ
import Derived.Test.YtnmofppbijmhoaaP0
import Derived.Test.YtnmofppbijmhoaaPad
import Derived.Test.YtnmofppbijmhoaaPae
import Derived.Test.YtnmofppbijmhoaaPaf
namespace Go.Proofs.Ytnmofppbijmhoaa.P
open Go.RowKit Go.Proofs.YtnmofppbijmhoaaW.PrintWords Go.Proofs.YtnmofppbijmhoaaW.PrintLast Go.Proofs.YtnmofppbijmhoaaW.PrintMore Go.Proofs.Ytnmofppbijmhoaa.Z
attribute [local go_sem] max2_int min2_int max_two min_two max_three min_three max_four min_four   -- for this text's walks alone
set_option linter.unusedVariables false
set_option linter.unusedSimpArgs false

/-! ### spec_l3Right: function 106 -/
mutual
def spec_l3Right.l0 : Nat → Int → Int → List Int → Int → Int → List (S44) → List (S58) → Option ((List (S44)) × (List (S58)) × Int × Int)
 | 0, _, _, _, _, _, _, _ => none
 | k + 1, x4, x5, x1000, x1001, x1002, x262000, x262001 => if x5 < x4 then ((spec_l1Below.f x1000 x1001 x1002 5).bind fun bt265 => ((spec_l2Right.f x1000 bt265.2.1 bt265.2.2).bind fun bt268 => ((spec_Single.f k bt265.1 bt268.1 bt268.2.1 bt268.2.2.1 bt268.2.2.2.1 bt268.2.2.2.2.1).bind fun bt275 => ((spec_l3Join.f k x262000 x262001 bt275.1 bt275.2.1).bind fun bt283 => (spec_l3Right.l0 k x4 (wrap64 (x5 + 1)) x1000 bt268.2.2.2.2.2.1 bt268.2.2.2.2.2.2 bt283.1 bt283.2))))) else ((spec_l1Below.f x1000 x1001 x1002 3).bind fun bt289 => (spec_l3Right.l1 k bt289.1 0 x1000 bt289.2.1 bt289.2.2 x262000 x262001))
def spec_l3Right.l1 : Nat → Int → Int → List Int → Int → Int → List (S44) → List (S58) → Option ((List (S44)) × (List (S58)) × Int × Int)
 | 0, _, _, _, _, _, _, _ => none
 | k + 1, x8, x9, x1000, x1001, x1002, x262000, x262001 => if x9 < x8 then ((spec_l1Below.f x1000 x1001 x1002 5).bind fun bt292 => ((spec_l1Below.f x1000 bt292.2.1 bt292.2.2 2).bind fun bt295 => ((spec_l3Join.f k x262000 x262001 ([] : List (S44)) (([(⟨bt292.1, wrap64 (1 + bt295.1)⟩ : S58)] : List (S58)))).bind fun bt301 => (spec_l3Right.l1 k x8 (wrap64 (x9 + 1)) x1000 bt295.2.1 bt295.2.2 bt301.1 bt301.2)))) else (some (x262000, x262001, x1001, x1002))
end
def spec_l3Right.f (k : Nat) (s0_0 : List Int) (s0_1 : Int) (s0_2 : Int) : Option ((List (S44)) × (List (S58)) × Int × Int) := (spec_l1Below.f s0_0 s0_1 s0_2 7).bind fun bt262 => (spec_l3Right.l0 k bt262.1 0 s0_0 bt262.2.1 bt262.2.2 ([] : List (S44)) ([] : List (S58)))
theorem spec_l3Right.mono_l : ∀ k, (∀ y0 y1 y2 y3 y4 y5 y6, LeO (spec_l3Right.l0 k y0 y1 y2 y3 y4 y5 y6) (spec_l3Right.l0 (k + 1) y0 y1 y2 y3 y4 y5 y6)) ∧ (∀ y0 y1 y2 y3 y4 y5 y6, LeO (spec_l3Right.l1 k y0 y1 y2 y3 y4 y5 y6) (spec_l3Right.l1 (k + 1) y0 y1 y2 y3 y4 y5 y6))
 | 0 => ⟨fun _ _ _ _ _ _ _ r h => by simp [spec_l3Right.l0] at h, fun _ _ _ _ _ _ _ r h => by simp [spec_l3Right.l1] at h⟩
 | k + 1 => by
  obtain ⟨ih0, ih1⟩ := spec_l3Right.mono_l k
  refine ⟨?_, ?_⟩
  ·intro y0 y1 y2 y3 y4 y5 y6
   unfold spec_l3Right.l0
   repeat' first | (with_reducible first | exact LeO.refl _ | exact LeO.none _ | refine LeO.ite ?_ ?_ | refine LeO.bind ?_ (fun _ => ?_) | apply ih0 | apply ih1 | apply spec_Single.mono | apply spec_l3Join.mono) | apply ih0 | apply ih1 | apply spec_Single.mono | apply spec_l3Join.mono | exact LeO.none _ | refine LeO.ite ?_ ?_ | refine LeO.bind ?_ (fun _ => ?_)
  ·intro y0 y1 y2 y3 y4 y5 y6
   unfold spec_l3Right.l1
   repeat' first | (with_reducible first | exact LeO.refl _ | exact LeO.none _ | refine LeO.ite ?_ ?_ | refine LeO.bind ?_ (fun _ => ?_) | apply ih0 | apply ih1 | apply spec_Single.mono | apply spec_l3Join.mono) | apply ih0 | apply ih1 | apply spec_Single.mono | apply spec_l3Join.mono | exact LeO.none _ | refine LeO.ite ?_ ?_ | refine LeO.bind ?_ (fun _ => ?_)
theorem spec_l3Right.mono : ∀ a0 a1 a2 k, LeO (spec_l3Right.f k a0 a1 a2) (spec_l3Right.f (k + 1) a0 a1 a2) := by
 intro a0 a1 a2 k; obtain ⟨ih0, ih1⟩ := spec_l3Right.mono_l k
 unfold spec_l3Right.f
 repeat' first | (with_reducible first | exact LeO.refl _ | exact LeO.none _ | refine LeO.ite ?_ ?_ | refine LeO.bind ?_ (fun _ => ?_) | apply ih0 | apply ih1 | apply spec_Single.mono | apply spec_l3Join.mono) | apply ih0 | apply ih1 | apply spec_Single.mono | apply spec_l3Join.mono | exact LeO.none _ | refine LeO.ite ?_ ?_ | refine LeO.bind ?_ (fun _ => ?_)
def spec_l3Right.T12 : Bool × List (List Nat × List Nat) := (true, [([], []), ([], []), ([1], [1]), ([], []), ([3, 2], [3]), ([4], [4]), ([2, 5], [2, 5]), ([6], [6]), ([7], [7]), ([0, 8, 4], [0, 8]), ([9, 9, 0, 1, 2, 3, 4, 5, 6, 7, 8, 9], [9])])
def spec_l3Right.B12 : List Nat := [0, 0, 2, 0, 14, 30, 62, 126, 254, 511, 1023]
theorem spec_l3Right.tab12 : rtab .any (opsOf Try.f106 12) = spec_l3Right.T12 := by kernel_rfl
theorem spec_l3Right.bits12 : waitsOk spec_l3Right.T12.2 spec_l3Right.B12 = true := by kernel_rfl
set_option maxHeartbeats 8000000 in
set_option maxRecDepth 100000 in
theorem spec_l3Right.calls (k : Nat) (g : Nat) (s0_0 : List Int) (s0_1 : Int) (s0_2 : Int) (r1 : List (S44)) (r2 : List (S58)) (r3 : Int) (r4 : Int) (w0 w : World) (hI : IsS97 w0 w g s0_0 s0_1 s0_2) (hB : Below w0.heap.size w0 w) (h : spec_l3Right.f k s0_0 s0_1 s0_2 = some (r1, r2, r3, r4)) :
  Calls Try.prog 106 #[.pointer (some ⟨g, 0, none⟩)] w fun e w' => ∃ v0_ v1_ : Value, e = .returned (.agg #[v0_, v1_]) ∧ Kd.R k44 44 w' w.heap.size (fun _ => True) v0_ r1 ∧ Kd.R k58 58 w' w.heap.size (fun _ => True) v1_ r2 ∧ IsS97 w0 w' g s0_0 r3 r4 ∧ Below w0.heap.size w0 w' ∧ KeepBut w w' g none := by
 have hu27 := Try.underlying27; have hu58 := Try.underlying58; have HI0 := zm hI; have HK := zm (KeepBut.refl w g none); have HL := zm hB.size; clear hI; have HW0 := zm hB.size; have HB := zm hB; clear hB; have H : ((spec_l1Below.f s0_0 s0_1 s0_2 7).bind fun An => (spec_l3Right.l0 k An.1 0 s0_0 An.2.1 An.2.2 ([] : List (S44)) ([] : List (S58)))) = some (r1, r2, r3, r4) := h; clear h; replace H := Option.bind_eq_some_iff.mp H; obtain ⟨⟨Ah, Bj, Bk⟩, Bo, H⟩ := H; (try dsimp only at H); have A2 := zm Bo; clear Bo
 have H' := zm H
 clear H; go_enter Try.func106, Try.ntmps106
 go_wp2_with (first | ((with_reducible refine gate_dst (N := 2) rfl ?_); refine zbox 2 #[.slice none 0 0, .slice none 0 0] 27 ?_; intro Ao hg w3 hbox hb; replace HB := zbh hb; have AD := zm (hbox); have Cc := zkg hg (zks w g zK); have CZ := zkw hg HW0 (zks w g zK); replace HK := zkb g hb; have BR := zil97 hg (show IsS97 w0 _ g s0_0 s0_1 s0_2 from zI); have AN := zig97 hg (show IsS97 w0 _ g s0_0 s0_1 s0_2 from zI); replace HI0 := zib97 hb zI; clear hb hbox hg) | ((with_reducible refine gate_dst (N := 3) rfl ?_); refine zbox 3 #[.slice none 0 0, .slice none 0 0] 27 ?_; intro AT hg w4 hbox hb; replace HB := zbh hb; have AC := zm (hbox); have Cd := zkg hg (zks w g zK); have Ca := zkw hg HW0 (zks w g zK); replace HK := zkb g hb; have AE := zlt hg (zb AD); have AO := zgt hg (zb AD); replace AD := zy AD hb; have Ad := zil97 hg (show IsS97 w0 _ g s0_0 s0_1 s0_2 from zI); have AK := zig97 hg (show IsS97 w0 _ g s0_0 s0_1 s0_2 from zI); replace HI0 := zib97 hb zI; clear hb hbox hg; have Cv := AO.out; have Cx := AE.out; have Cw := AK.out; have Cy := Ad.out; obtain ⟨Aw, Ax, Ay, Az⟩ := zc2 AC) | ((with_reducible refine gate_callee (f := 77) rfl ?_); refine zg (some 12) #[.pointer (some ⟨g, 0, none⟩), .int .i64 7] Try.func77 ?_; (with_reducible refine (spec_l1Below.calls g s0_0 s0_1 s0_2 7 Ah Bj Bk w0 _ zI zH A2.out).mono ?_); rintro e w8 ⟨rfl, hi, hb, hk⟩; refine ⟨_, rfl, ?_⟩; replace AD := zkk hk (zfar (zfar (zb AD) AE) AE) AN; replace AC := zkk hk (g' := AT) (o := .cells #[.slice none 0 0, .slice none 0 0] 27 (0, 0)) (zput (zput (zb AC) 0) 1) AK; replace HK := zkt hk; replace HB := zm hb; replace HI0 := zm hi; clear hb hk hi))
 go_loopg [5] k (fun kq v5 w' => ∃ (Ac : Int) (AL : Int) (AM : Int) (AF : List (S44)) (AH : List (S58)) (u262000 : Value) (u262001 : Value), v5 = .int .i64 Ac ∧ Aside0 (spec_l3Right.l0 kq Ah Ac s0_0 AL AM AF AH = some (r1, r2, r3, r4)) ∧ Aside0 (kq ≤ k) ∧ Aside0 (Kd.R k44 44 w' w.heap.size (fun _ => True) u262000 AF) ∧ Aside0 (Kd.R k58 58 w' w.heap.size (fun _ => True) u262001 AH) ∧ Aside0 (w'.heap[Ao]? = some (.cells #[(.slice none 0 0), (.slice none 0 0)] 27 (0, 0))) ∧ Aside0 (w'.heap[AT]? = some (.cells #[u262000, u262001] 27 (0, 0))) ∧ Aside0 (IsS97 w0 w' g s0_0 AL AM) ∧ Aside0 (KeepBut w w' g none) ∧ Aside0 (Below w0.heap.size w0 w'))
 case atStart => exact ⟨(0), (Bj), (Bk), (([] : List (S44))), (([] : List (S58))), (.slice none 0 0), (.slice none 0 0), zF, H', ⟨Nat.le_refl _⟩, ⟨znil⟩, ⟨znil⟩, ⟨zb AD⟩, ⟨zb AC⟩, ⟨zI⟩, ⟨zK⟩, ⟨zH⟩⟩
 case round =>
  clear H'; (try clear Aw); (try clear Ax); (try clear Ay); (try clear Az); obtain ⟨Ac, AL, AM, AF, AH, u262000, u262001, rfl, HA, BL, AB, AA, AD, AC, HI0, HK, HB⟩ := hrel
  cases gk with
  | zero => exact absurd HA.out (by simp [spec_l3Right.l0])
  | succ k1 =>
   have H := HA.out; clear HA; simp only [spec_l3Right.l0] at H
   by_cases c9 : Ac < Ah
   ·rw [if_pos c9] at H; have Bg : decide (Ac < Ah) = true := decide_eq_true c9; clear c9; replace H := Option.bind_eq_some_iff.mp H; obtain ⟨⟨B3, Aq, Ar⟩, BU, H⟩ := H; (try dsimp only at H); have CQ := zm BU; clear BU; replace H := Option.bind_eq_some_iff.mp H; obtain ⟨⟨BA, BB, BC, BD, BE, Ai, Aj⟩, BV, H⟩ := H; (try dsimp only at H); have CR := zm BV; clear BV; replace H := Option.bind_eq_some_iff.mp H; obtain ⟨⟨AY, AZ, C5⟩, BW, H⟩ := H; (try dsimp only at H); have CS := zm BW; clear BW; replace H := Option.bind_eq_some_iff.mp H; obtain ⟨⟨BF, BG⟩, BX, H⟩ := H; (try dsimp only at H); have CT := zm BX; clear BX
    have H' := zm H
    clear H
    go_wp2_with (first | ((with_reducible refine gate_callee (f := 77) rfl ?_); refine zg (some 20) #[.pointer (some ⟨g, 0, none⟩), .int .i64 5] Try.func77 ?_; (with_reducible refine (spec_l1Below.calls g s0_0 AL AM 5 B3 Aq Ar w0 _ zI zH CQ.out).mono ?_); rintro e Cz ⟨rfl, hi, hb, hk⟩; refine ⟨_, rfl, ?_⟩; replace AB := zka97 (show IsS97 w0 _ g s0_0 AL AM from zI) (zr AB) hk; replace AA := zka97 (show IsS97 w0 _ g s0_0 AL AM from zI) (zr AA) hk; replace AD := zkk hk (zb AD) AN; replace AC := zkk hk (zb AC) AK; replace HK := zkt hk; replace HB := zm hb; replace HI0 := zm hi; clear hb hk hi) | ((with_reducible refine gate_callee (f := 109) rfl ?_); refine zg (some 22) #[.pointer (some ⟨g, 0, none⟩)] Try.func109 ?_; (with_reducible refine (spec_l2Right.calls g s0_0 Aq Ar BA BB BC BD BE Ai Aj w0 _ zI zH CR.out).mono ?_); rintro e D0 ⟨rfl, hi, hb, hk⟩; refine ⟨_, rfl, ?_⟩; replace AB := zka97 (show IsS97 w0 _ g s0_0 Aq Ar from zI) (zr AB) hk; replace AA := zka97 (show IsS97 w0 _ g s0_0 Aq Ar from zI) (zr AA) hk; replace AD := zkk hk (zb AD) AN; replace AC := zkk hk (zb AC) AK; replace HK := zkt hk; replace HB := zm hb; replace HI0 := zm hi; clear hb hk hi) | ((with_reducible refine gate_callee (f := 30) rfl ?_); refine zg (some 23) #[.int .i64 B3, .agg #[.int .i64 BA, .int .i64 BB, .int .i64 BC, .int .i64 BD, .string BE]] Try.func30 ?_; (with_reducible refine (spec_Single.calls k1 B3 BA BB BC BD BE AY AZ C5 _ CS.out).mono ?_); rintro e D1 ⟨v276, v279, rfl, ho0, ho1, hb⟩; refine ⟨_, rfl, ?_⟩; have AR := zm (Kd.R_lower (Kd.R_new' ho0 (Kd.R_lt (zr AB))) (zks w g zK)); replace AB := zm (Kd.R_elder' (zr AB) (Kd.R_base ho0) hb); have AS := zm (Kd.R_lower (Kd.R_new' ho1 (Kd.R_lt (zr AA))) (zks w g zK)); replace AA := zm (Kd.R_elder' (zr AA) (Kd.R_base ho1) hb); replace AD := zy AD hb; replace AC := zy AC hb; replace HK := zkb g hb; replace HB := zbh hb; replace HI0 := zib97 hb zI; clear hb ho0 ho1) | ((with_reducible refine gate_dst (N := 6) rfl ?_); refine zbox 6 #[.slice none 0 0, .slice none 0 0] 27 ?_; intro Ap hg CY hbox hb; replace AB := zw AB hb; replace AA := zw AA hb; replace AR := zw AR hb; replace AS := zw AS hb; replace HB := zbh hb; have AJ := zm (hbox); have Ce := zkg hg (zks w g zK); have Cb := zkw hg HW0 (zks w g zK); replace HK := zkb g hb; have AU := zlt hg (zb AD); have Au := zgt hg (zb AD); replace AD := zy AD hb; have AV := zlt hg (zb AC); have Av := zgt hg (zb AC); replace AC := zy AC hb; have BS := zil97 hg (show IsS97 w0 _ g s0_0 Ai Aj from zI); have BT := zig97 hg (show IsS97 w0 _ g s0_0 Ai Aj from zI); replace HI0 := zib97 hb zI; clear hb hbox hg; obtain ⟨Al, Af, eo18⟩ := Kd.R_slice AR.out; subst eo18; have Cf := Au.out; have Cn := AU.out; have Cg := Av.out; have Co := AV.out; have Ch := BT.out; have Cp := BS.out; obtain ⟨C6, C7, CG, CH⟩ := zc2 AJ; obtain ⟨Am, Ag, eo23⟩ := Kd.R_slice AS.out; subst eo23; have Ci := AO.out; have Cq := AE.out; have Cj := AK.out; have Cr := Ad.out; obtain ⟨C8, C9, CI, CJ⟩ := zc2 AC; obtain ⟨Bc, B0, eo27⟩ := Kd.R_slice AB.out; subst eo27; obtain ⟨Bd, B2, eo28⟩ := Kd.R_slice AA.out; subst eo28) | ((with_reducible refine gate_callee (f := 70) rfl ?_); refine zg (some 28) #[.agg #[.slice Bc AF.length B0, .slice Bd AH.length B2], .agg #[.slice Al AY.length Af, .slice Am AZ.length Ag]] Try.func70 ?_; (with_reducible refine (spec_l3Join.calls k1 _ _ AF _ _ AH _ _ AY _ _ AZ BF BG _ ?side1 ?side2 ?side3 ?side4 ?side5 ?side6 ?side7 ?side8 CT.out).mono ?_); (case side1 => refine (Kd.R_reads' (e := 44) (base := w.heap.size) (ok := fun k_ => (True ∧ some k_ ≠ (.slice Al AY.length Af : Value).ownBlock)) (n := AF.length) (c := B0) ?_).2.2; exact (zrs <| (Kd.R_mono (zfr (zfr (Kd.R_types AB.out AJ.out (by decide)))) (fun _ h_ => h_.1)))); (case side2 => exact (Kd.R_reads' AB.out).2.1); (case side3 => refine (Kd.R_reads' (e := 58) (base := w.heap.size) (ok := fun k_ => (True ∧ some k_ ≠ (.slice Am AZ.length Ag : Value).ownBlock)) (n := AH.length) (c := B2) ?_).2.2; exact (zrs <| (Kd.R_mono (zfr (zfr (Kd.R_types AA.out AJ.out (by decide)))) (fun _ h_ => h_.1)))); (case side4 => exact (Kd.R_reads' AA.out).2.1); (case side5 => refine (Kd.R_reads' (e := 44) (base := w.heap.size) (ok := fun k_ => (True ∧ some k_ ≠ (.slice Bc AF.length B0 : Value).ownBlock)) (n := AY.length) (c := Af) ?_).2.2; exact (zrs <| (Kd.R_mono (zfr (zfr (Kd.R_types AR.out AJ.out (by decide)))) (fun _ h_ => h_.1)))); (case side6 => exact (Kd.R_reads' AR.out).2.1); (case side7 => refine (Kd.R_reads' (e := 58) (base := w.heap.size) (ok := fun k_ => (True ∧ some k_ ≠ (.slice Bd AH.length B2 : Value).ownBlock)) (n := AZ.length) (c := Ag) ?_).2.2; exact (zrs <| (Kd.R_mono (zfr (zfr (Kd.R_types AS.out AJ.out (by decide)))) (fun _ h_ => h_.1)))); (case side8 => exact (Kd.R_reads' AS.out).2.1); rintro e D2 ⟨v284, v287, rfl, ho0, ho1, hb⟩; refine ⟨_, rfl, ?_⟩; have BM := zm (Kd.R_lower (Kd.R_new' (Kd.R_new' ho0 (Kd.R_lt (zrs <| (Kd.R_mono (zfr (zfr (Kd.R_types AB.out AJ.out (by decide)))) (fun _ h_ => h_.1))))) (Kd.R_lt (zrs <| (Kd.R_mono (zfr (zfr (Kd.R_types AR.out AJ.out (by decide)))) (fun _ h_ => h_.1))))) (zks w g zK)); replace AB := zm (Kd.R_elder' (zrs <| (Kd.R_mono (zfr (zfr (Kd.R_types AB.out AJ.out (by decide)))) (fun _ h_ => h_.1))) (Kd.R_base ho0) hb); replace AR := zm (Kd.R_elder' (zrs <| (Kd.R_mono (zfr (zfr (Kd.R_types AR.out AJ.out (by decide)))) (fun _ h_ => h_.1))) (Kd.R_base ho0) hb); have BN := zm (Kd.R_lower (Kd.R_new' (Kd.R_new' ho1 (Kd.R_lt (zrs <| (Kd.R_mono (zfr (zfr (Kd.R_types AA.out AJ.out (by decide)))) (fun _ h_ => h_.1))))) (Kd.R_lt (zrs <| (Kd.R_mono (zfr (zfr (Kd.R_types AS.out AJ.out (by decide)))) (fun _ h_ => h_.1))))) (zks w g zK)); replace AA := zm (Kd.R_elder' (zrs <| (Kd.R_mono (zfr (zfr (Kd.R_types AA.out AJ.out (by decide)))) (fun _ h_ => h_.1))) (Kd.R_base ho1) hb); replace AS := zm (Kd.R_elder' (zrs <| (Kd.R_mono (zfr (zfr (Kd.R_types AS.out AJ.out (by decide)))) (fun _ h_ => h_.1))) (Kd.R_base ho1) hb); replace AD := zyb hb (zfar (zfar (zb AD) AU) AU); replace AC := zyb hb (zfar (zfar (zb AC) AV) AV); replace AJ := zm (blk_below (g := Ap) (o := .cells #[.slice Al AY.length Af, .slice Am AZ.length Ag] 27 (0, 0)) (zput (zput (zb AJ) 0) 1) hb); replace HK := zkb g hb; replace HB := zbh hb; replace HI0 := zm (IsS97.below (show IsS97 w0 ((CY.setCell ⟨Ap, 0, none⟩ (.slice Al AY.length Af)).setCell ⟨Ap, 1, none⟩ (.slice Am AZ.length Ag)) g s0_0 Ai Aj from zI) hb); clear hb ho0 ho1; obtain ⟨Br, By, eo30⟩ := Kd.R_slice BM.out; subst eo30; obtain ⟨CA, CB, CK, CL⟩ := zc2 AC; obtain ⟨Bs, Bz, eo32⟩ := Kd.R_slice BN.out; subst eo32))
    go_roundg k1
    case measure => have := BL.out; omega
    case rel => exact ⟨(wrap64 (Ac + 1)), (Ai), (Aj), (BF), (BG), (.slice Br BF.length By), (.slice Bs BG.length Bz), zF, H', ⟨by have := BL.out; omega⟩, ⟨zrs <| Kd.R_mono (zfr (zfr (Kd.R_types BM.out AC.out (by decide)))) (fun _ hk => trivial)⟩, ⟨zrs <| Kd.R_mono (zfr (zfr (Kd.R_types BN.out AC.out (by decide)))) (fun _ hk => trivial)⟩, ⟨zfar (zfar (zb AD) AE) AE⟩, ⟨zput (zput (zb AC) 0) 1⟩, ⟨zI⟩, ⟨zK⟩, ⟨zH⟩⟩
   ·rw [if_neg c9] at H; have Bg : decide (Ac < Ah) = false := decide_eq_false c9; clear c9; replace H := Option.bind_eq_some_iff.mp H; obtain ⟨⟨Ae, Bl, Bm⟩, BY, H⟩ := H; (try dsimp only at H); have CU := zm BY; clear BY
    have H' := zm H
    clear H
    go_wp2_with (first | ((with_reducible refine gate_callee (f := 77) rfl ?_); refine zg (some 30) #[.pointer (some ⟨g, 0, none⟩), .int .i64 3] Try.func77 ?_; (with_reducible refine (spec_l1Below.calls g s0_0 AL AM 3 Ae Bl Bm w0 _ zI zH CU.out).mono ?_); rintro e D3 ⟨rfl, hi, hb, hk⟩; refine ⟨_, rfl, ?_⟩; replace AB := zka97 (show IsS97 w0 _ g s0_0 AL AM from zI) (zr AB) hk; replace AA := zka97 (show IsS97 w0 _ g s0_0 AL AM from zI) (zr AA) hk; replace AD := zkk hk (zb AD) AN; replace AC := zkk hk (zb AC) AK; replace HK := zkt hk; replace HB := zm hb; replace HI0 := zm hi; clear hb hk hi))
    go_loopg [9] k1 (fun kq v9 w' => ∃ (AW : Int) (AP : Int) (AQ : Int) (AG : List (S44)) (AI : List (S58)) (u262000 : Value) (u262001 : Value), v9 = .int .i64 AW ∧ Aside0 (spec_l3Right.l1 kq Ae AW s0_0 AP AQ AG AI = some (r1, r2, r3, r4)) ∧ Aside0 (kq ≤ k1) ∧ Aside0 (Kd.R k44 44 w' w.heap.size (fun _ => True) u262000 AG) ∧ Aside0 (Kd.R k58 58 w' w.heap.size (fun _ => True) u262001 AI) ∧ Aside0 (w'.heap[Ao]? = some (.cells #[(.slice none 0 0), (.slice none 0 0)] 27 (0, 0))) ∧ Aside0 (w'.heap[AT]? = some (.cells #[u262000, u262001] 27 (0, 0))) ∧ Aside0 (IsS97 w0 w' g s0_0 AP AQ) ∧ Aside0 (KeepBut w w' g none) ∧ Aside0 (Below w0.heap.size w0 w'))
    case atStart => exact ⟨(0), (Bl), (Bm), (AF), (AH), (u262000), (u262001), zF, H', ⟨Nat.le_refl _⟩, ⟨zr AB⟩, ⟨zr AA⟩, ⟨zb AD⟩, ⟨zb AC⟩, ⟨zI⟩, ⟨zK⟩, ⟨zH⟩⟩
    case round =>
     clear H'; (try clear c9); (try clear Bg); (try clear Aw); (try clear Ax); (try clear Ay); (try clear Az); obtain ⟨AW, AP, AQ, AG, AI, u262000, u262001, rfl, HA, Bp, AB, AA, AD, AC, HI0, HK, HB⟩ := hrel
     cases gk with
     | zero => exact absurd HA.out (by simp [spec_l3Right.l1])
     | succ k2 =>
      have H := HA.out; clear HA; simp only [spec_l3Right.l1] at H
      by_cases Ak : AW < Ae
      ·rw [if_pos Ak] at H; have Bn : decide (AW < Ae) = true := decide_eq_true Ak; clear Ak; replace H := Option.bind_eq_some_iff.mp H; obtain ⟨⟨Aa, As, At⟩, BZ, H⟩ := H; (try dsimp only at H); have CV := zm BZ; clear BZ; replace H := Option.bind_eq_some_iff.mp H; obtain ⟨⟨Ab, BH, BI⟩, Ba, H⟩ := H; (try dsimp only at H); have CW := zm Ba; clear Ba
       obtain ⟨y298, hy298⟩ : ∃ y_ : List (S58), y_ = (([(⟨Aa, wrap64 (1 + Ab)⟩ : S58)] : List (S58))) := ⟨_, rfl⟩
       replace H : ((spec_l3Join.f k2 AG AI ([] : List (S44)) y298).bind fun BQ => (spec_l3Right.l1 k2 Ae (wrap64 (AW + 1)) s0_0 BH BI BQ.1 BQ.2)) = some (r1, r2, r3, r4) := by first | (rw [hy298]; with_reducible exact H) | (have H2_ := (Option.bind_some _ _).symm.trans H; rw [hy298]; with_reducible exact H2_) | (have H2_ := (Option.bind_some _ _).symm.trans H; with_reducible exact H2_) | with_reducible exact H | (rw [hy298]; exact H) | exact H
       have Ny298 := zm hy298; clear hy298; replace H := Option.bind_eq_some_iff.mp H; obtain ⟨⟨BJ, BK⟩, Bb, H⟩ := H; (try dsimp only at H); have CX := zm Bb; clear Bb
       have H' := zm H
       clear H
       try go_wp2
       replace AB := zm (Kd.R_drew AB.out); replace AA := zm (Kd.R_drew AA.out); replace AD := zq AD; replace AC := zq AC; replace HI0 := zid97 HI0; replace HK := zm (keep_drew HK.out); replace HB := zm (below_drew1 HB.out)
       refine start_ (n := 11) (S := fun w' => w'.cell? ⟨AT, 0, none⟩ = some (u262000) ∧ w'.cell? ⟨AT, 1, none⟩ = some (u262001)) (ds := [10]) (zl 11 0) (by kernel_rfl) rfl rfl zS (fun hHeld => ?_); refine with_tabW spec_l3Right.tab12 spec_l3Right.bits12 (fun HT_ HW_ => ?_)
       generalize wr.drew = D4 at AB AA AD AC HI0 HK HB hHeld ⊢
       refine zu 1 37 11 2 ?_
       refine zu 3 39 11 10 ?_
       refine zv 0 36 11 11 ?_
       refine zo 2 (some 38) (zl 11 15) (fun K hK => ?_); refine zgo #[.pointer (some ⟨g, 0, none⟩), .int .i64 5] Try.func77 ?_; (with_reducible refine (spec_l1Below.calls g s0_0 AP AQ 5 Aa As At w0 _ zI zH CV.out).mono ?_)
       rintro e D5 ⟨rfl, hi, hb, hk⟩; refine ⟨_, rfl, ?_⟩; replace AB := zka97 (show IsS97 w0 _ g s0_0 AP AQ from zI) (zr AB) hk; replace AA := zka97 (show IsS97 w0 _ g s0_0 AP AQ from zI) (zr AA) hk; replace AD := zkk hk (zb AD) AN; replace AC := zkk hk (zb AC) AK; replace HK := zkt hk; replace HB := zm hb; replace HI0 := zm hi; (try clear hb); (try clear hk)
       (try clear hi); refine hK.out _ _ zS (fun hHeld => ?_); clear hK K; refine zn ?_; refine zo 4 (some 40) (zl 11 31) (fun K hK => ?_); refine zgo #[.pointer (some ⟨g, 0, none⟩), .int .i64 2] Try.func77 ?_; (with_reducible refine (spec_l1Below.calls g s0_0 As At 2 Ab BH BI w0 _ zI zH CW.out).mono ?_)
       rintro e D6 ⟨rfl, hi, hb, hk⟩; refine ⟨_, rfl, ?_⟩; replace AB := zka97 (show IsS97 w0 _ g s0_0 As At from zI) (zr AB) hk; replace AA := zka97 (show IsS97 w0 _ g s0_0 As At from zI) (zr AA) hk; replace AD := zkk hk (zb AD) AN; replace AC := zkk hk (zb AC) AK; replace HK := zkt hk; replace HB := zm hb; replace HI0 := zm hi; (try clear hb); (try clear hk); (try clear hi)
       refine hK.out _ _ zS (fun hHeld => ?_); clear hK K; refine zn ?_
       refine zu 5 41 11 63 ?_
       refine zu 6 42 11 127 ?_
       refine zo 7 (some 43) (zl 11 255) (fun K hK => ?_)
       refine Kd.R_lit_step k58 _ 58 ?hg (N := 43) ?hd (xs := ([(⟨Aa, wrap64 (1 + Ab)⟩ : S58)] : List (S58))) (inner := [.int .i64 Aa, .int .i64 (wrap64 (1 + Ab))]) (ok := fun _ => True) (okp := fun _ => True) ?hr ?hp (fun _ hk => hk) trivial (Below.refl _ _) (Nat.le_refl _) (by simp) ?_; (case hd => rfl); (case hg => rfl); (case hr => first | (go_simp; done) | (go_simp; rfl)); (case hp => exact (Reps.c2 (show Kd.M k58 _ _ _ (⟨Aa, wrap64 (1 + Ab)⟩ : S58) [.int .i64 Aa, .int .i64 (wrap64 (1 + Ab))] from (k58_mkM _ _ _ (⟨Aa, wrap64 (1 + Ab)⟩ : S58) )) (Reps.none _ _)))
       intro v299 D7 ho43 hb hg_ hnew_; clear hg_ hnew_
       (first | rw [← Ny298.out] at ho43 | (simp only [Int.reduceToNat] at ho43; rw [← Ny298.out] at ho43))
       replace AB := zw AB hb; have AX := zm (Kd.R_lower (Kd.R_new' ho43 (Kd.R_lt (zr AA))) (zks w g zK)); replace AA := zm (Kd.R_elder' (zr AA) (Kd.R_base ho43) hb); replace AD := zy AD hb; replace AC := zy AC hb; replace HK := zkb g hb; replace HB := zbh hb; replace HI0 := zib97 hb zI; clear hb ho43; obtain ⟨Bt, C0, eo44⟩ := Kd.R_slice AX.out
       (first | subst eo44 | (injection eo44 with f1_ f2_ f3_; have f4_ := f1_.symm; have f5_ := f3_.symm; clear f1_ f2_ f3_; subst f4_; subst f5_))
       obtain ⟨Be, Bh, eo45⟩ := Kd.R_slice AB.out
       (first | subst eo45 | (injection eo45 with f1_ f2_ f3_; have f4_ := f1_.symm; have f5_ := f3_.symm; clear f1_ f2_ f3_; subst f4_; subst f5_))
       obtain ⟨Bf, Bi, eo46⟩ := Kd.R_slice AA.out
       (first | subst eo46 | (injection eo46 with f1_ f2_ f3_; have f4_ := f1_.symm; have f5_ := f3_.symm; clear f1_ f2_ f3_; subst f4_; subst f5_))
       refine hK.out _ _ zS (fun hHeld => ?_); clear hK K; refine zn (N := some 43) ?_
       refine zu 8 44 11 511 ?_
       refine zo 9 (some 45) (zl 11 1023) (fun K hK => ?_); refine zgo #[.agg #[.slice Be AG.length Bh, .slice Bf AI.length Bi], .agg #[.slice none 0 0, .slice Bt y298.length C0]] Try.func70 ?_
       refine (spec_l3Join.calls k2 _ _ AG _ _ AI _ _ ([] : List (S44)) _ _ y298 BJ BK _ ?side1 ?side2 ?side3 ?side4 ?side5 ?side6 ?side7 ?side8 CX.out).mono ?_
       (case side1 => repeat (first | exact (Kd.R_reads' AB.out).2.2 | (with_reducible refine Kd.C_alloc ?_ _) | (with_reducible refine Kd.C_drewN ?_ _) | (with_reducible refine Kd.C_drew ?_)))
       (case side2 => exact (Kd.R_reads' AB.out).2.1)
       (case side3 => repeat (first | exact (Kd.R_reads' AA.out).2.2 | (with_reducible refine Kd.C_alloc ?_ _) | (with_reducible refine Kd.C_drewN ?_ _) | (with_reducible refine Kd.C_drew ?_)))
       (case side4 => exact (Kd.R_reads' AA.out).2.1)
       (case side5 => exact Kd.C_nil _ _)
       (case side6 => exact Nat.le_refl _)
       (case side7 => repeat (first | exact (Kd.R_reads' AX.out).2.2 | (with_reducible refine Kd.C_alloc ?_ _) | (with_reducible refine Kd.C_drewN ?_ _) | (with_reducible refine Kd.C_drew ?_)))
       (case side8 => exact (Kd.R_reads' AX.out).2.1)
       rintro e Bq ⟨v302, v305, rfl, ho0, ho1, hb⟩; refine ⟨_, rfl, ?_⟩; have BO := zm (Kd.R_lower (Kd.R_new' ho0 (Kd.R_lt (zr AB))) (zks w g zK)); replace AB := zm (Kd.R_elder' (zr AB) (Kd.R_base ho0) hb); have BP := zm (Kd.R_lower (Kd.R_new' (Kd.R_new' ho1 (Kd.R_lt (zr AA))) (Kd.R_lt (zr AX))) (zks w g zK)); replace AA := zm (Kd.R_elder' (zr AA) (Kd.R_base ho1) hb); replace AX := zm (Kd.R_elder' (zr AX) (Kd.R_base ho1) hb); replace AD := zy AD hb; replace AC := zy AC hb; replace HK := zkb g hb; replace HB := zbh hb
       replace HI0 := zib97 hb zI; (try clear hb); (try clear hk); (try clear hi); (try clear ho0); (try clear ho1); obtain ⟨Bu, C1, eo48⟩ := Kd.R_slice BO.out
       (first | subst eo48 | (injection eo48 with f1_ f2_ f3_; have f4_ := f1_.symm; have f5_ := f3_.symm; clear f1_ f2_ f3_; subst f4_; subst f5_))
       obtain ⟨Bv, C2, eo50⟩ := Kd.R_slice BP.out
       (first | subst eo50 | (injection eo50 with f1_ f2_ f3_; have f4_ := f1_.symm; have f5_ := f3_.symm; clear f1_ f2_ f3_; subst f4_; subst f5_))
       refine hK.out _ _ zS (fun hHeld => ?_); clear hK K; refine zn ?_
       refine last_ (i := 10) (N := none) #[true, true, true, true, true, true, true, true, true, true, true] rfl rfl (one_of HT_.out (by kernel_rfl)) (by decide) (fun K hK => ?_)
       have hs49 : Bq.cell? ⟨AT, 0, none⟩ = some (.slice Be AG.length Bh) := (blk_cell AC.out 0).trans rfl; have hfs49 := blk_frozen AC.out 0; have hns49_0 := AE.out; have hms49_0 := AO.out; have hs51 : Bq.cell? ⟨AT, 1, none⟩ = some (.slice Bf AI.length Bi) := (blk_cell AC.out 1).trans rfl; have hfs51 := blk_frozen AC.out 1; have hns51_0 := AE.out; have hms51_0 := AO.out
       refine skip_ (w1 := ?_) (by rfl) rfl ?_ ?_
       rotate_left
       ·go_simp
        rfl
       refine hK.out _ _ ?_; clear hK K
       refine done_ (done_of HT_.out (by kernel_rfl)) ?_
       try go_wp2
       go_roundg k2
       case measure => have := BL.out; have := Bp.out; omega
       case rel => exact ⟨(wrap64 (AW + 1)), (BH), (BI), (BJ), (BK), (.slice Bu BJ.length C1), (.slice Bv BK.length C2), zF, H', ⟨by have := BL.out; have := Bp.out; omega⟩, ⟨zrs <| Kd.R_mono (zfr (zfr (Kd.R_types BO.out AC.out (by decide)))) (fun _ hk => trivial)⟩, ⟨zrs <| Kd.R_mono (zfr (zfr (Kd.R_types BP.out AC.out (by decide)))) (fun _ hk => trivial)⟩, ⟨zfar (zfar (zb AD) AE) AE⟩, ⟨zput (zput (zb AC) 0) 1⟩, ⟨zI⟩, ⟨zK⟩, ⟨zH⟩⟩
      ·rw [if_neg Ak] at H; have Bn : decide (AW < Ae) = false := decide_eq_false Ak; clear Ak; simp only [Option.some.injEq, Prod.mk.injEq] at H; obtain ⟨rfl, rfl, rfl, rfl⟩ := H; have Ck := AO.out; have Cs := AE.out; have Cl := AK.out; have Ct := Ad.out; obtain ⟨CC, CD, CM, CN⟩ := zc2 AC; obtain ⟨Bw, C3, eo55⟩ := Kd.R_slice AB.out; subst eo55; have Cm := AN.out; have Cu := BR.out; obtain ⟨CE, CF, CO, CP⟩ := zc2 AD; obtain ⟨Bx, C4, eo58⟩ := Kd.R_slice AA.out; subst eo58
       go_wp2
       refine bodyPost_ret (results_cell_row rfl _ _ Ao 27 #[.slice Bw AG.length C3, .slice Bx AI.length C4] (0, 0) _ rfl (zput (zput (zb AD) 0) 1) Try.underlying27 rfl (by kernel_rfl)) rfl ?_
       exact ⟨_, _, zE, zrs <| Kd.R_mono (zfr (zfr (Kd.R_types AB.out AD.out (by decide)))) (fun _ hk => trivial), zrs <| Kd.R_mono (zfr (zfr (Kd.R_types AA.out AD.out (by decide)))) (fun _ hk => trivial), zI, zH, zK⟩

end Go.Proofs.Ytnmofppbijmhoaa.P
