-- by a program of this session, for this seat
import Derived.Test.YtnmofppbijmhoaaZ
import Derived.Test.YtnmofppbijmhoaaP0
import Derived.Test.YtnmofppbijmhoaaPab
import Derived.Test.YtnmofppbijmhoaaPbg
import Derived.Test.YtnmofppbijmhoaaPai
import Derived.Test.YtnmofppbijmhoaaPaj
import Derived.Test.YtnmofppbijmhoaaPap
import Derived.Test.YtnmofppbijmhoaaPaq
namespace Go.Proofs.Ytnmofppbijmhoaa.P
open Go.RowKit Go.Proofs.YtnmofppbijmhoaaW.PrintWords Go.Proofs.YtnmofppbijmhoaaW.PrintLast Go.Proofs.YtnmofppbijmhoaaW.PrintMore Go.Proofs.Ytnmofppbijmhoaa.Z
attribute [local go_sem] max2_int min2_int max_two min_two max_three min_three max_four min_four   -- for this text's walks alone
set_option linter.unusedVariables false
set_option linter.unusedSimpArgs false

/-! ### spec_TreeOf: function 56 -/
def spec_TreeOf.l0 : Nat → Int → List (S44) → List (S58) → List Int → Int → Option (List Int × Int)
 | 0, _, _, _, _, _ => none
 | k + 1, x4, x1572000, x1572001, x1575000, x1575001 => if x4 < 4 then ((spec_LeafSum.f k x1572000 x1572001 x4).bind fun t1575 => (if x1575000.length < 17592186044416 then (spec_TreeOf.l0 k (wrap64 (x4 + 1)) x1572000 x1572001 (x1575000 ++ [t1575]) x1575001) else (none))) else ((spec_l6Root.f k x1575000).bind fun t1579 => (some (x1575000, t1579)))
def spec_TreeOf.f (k : Nat) (l0_0 : List (S44)) (l0_1 : List (S58)) : Option (List Int × Int) := (spec_StateOk.f k l0_0 l0_1).bind fun t1573 => (if t1573 = true then (spec_TreeOf.l0 k 0 l0_0 l0_1 ([] : List Int) 0) else (some (([] : List Int), 0)))
theorem spec_TreeOf.mono_l : ∀ k, (∀ y0 y1 y2 y3 y4, LeO (spec_TreeOf.l0 k y0 y1 y2 y3 y4) (spec_TreeOf.l0 (k + 1) y0 y1 y2 y3 y4))
 | 0 => fun _ _ _ _ _ r h => by simp [spec_TreeOf.l0] at h
 | k + 1 => by
  have ih0 := spec_TreeOf.mono_l k
  ·intro y0 y1 y2 y3 y4
   unfold spec_TreeOf.l0
   repeat' first | (with_reducible first | exact LeO.refl _ | exact LeO.none _ | refine LeO.ite ?_ ?_ | refine LeO.bind ?_ (fun _ => ?_) | apply ih0 | apply spec_LeafSum.mono | apply spec_StateOk.mono | apply spec_l6Root.mono) | apply ih0 | apply spec_LeafSum.mono | apply spec_StateOk.mono | apply spec_l6Root.mono | exact LeO.none _ | refine LeO.ite ?_ ?_ | refine LeO.bind ?_ (fun _ => ?_)
theorem spec_TreeOf.mono : ∀ a0 a1 k, LeO (spec_TreeOf.f k a0 a1) (spec_TreeOf.f (k + 1) a0 a1) := by
 intro a0 a1 k; have ih0 := spec_TreeOf.mono_l k
 unfold spec_TreeOf.f
 repeat' first | (with_reducible first | exact LeO.refl _ | exact LeO.none _ | refine LeO.ite ?_ ?_ | refine LeO.bind ?_ (fun _ => ?_) | apply ih0 | apply spec_LeafSum.mono | apply spec_StateOk.mono | apply spec_l6Root.mono) | apply ih0 | apply spec_LeafSum.mono | apply spec_StateOk.mono | apply spec_l6Root.mono | exact LeO.none _ | refine LeO.ite ?_ ?_ | refine LeO.bind ?_ (fun _ => ?_)
def spec_TreeOf.T7 : Bool × List (List Nat × List Nat) := (true, [([], []), ([0], [0]), ([], []), ([], []), ([2, 3], [2, 3]), ([4], [4]), ([1, 5, 4], [1, 5]), ([0, 1, 2, 3, 4, 5, 6], []), ([7, 6, 6, 0, 1, 2, 3, 4, 5, 6], [6, 7])])
def spec_TreeOf.B7 : List Nat := [0, 1, 0, 0, 12, 28, 63, 127, 255]
theorem spec_TreeOf.tab7 : rtab .any (opsOf Try.f56 7) = spec_TreeOf.T7 := by kernel_rfl
theorem spec_TreeOf.bits7 : waitsOk spec_TreeOf.T7.2 spec_TreeOf.B7 = true := by kernel_rfl
set_option maxHeartbeats 8000000 in
set_option maxRecDepth 100000 in
theorem spec_TreeOf.calls (k : Nat) (A0_0 : Option Addr) (c0_0 : Nat) (l0_0 : List (S44)) (A0_1 : Option Addr) (c0_1 : Nat) (l0_1 : List (S58)) (r1 : List Int) (r2 : Int) (w : World) (hr0_0 : Kd.C k44 w A0_0 l0_0.length l0_0) (hc0_0 : l0_0.length ≤ c0_0) (hr0_1 : Kd.C k58 w A0_1 l0_1.length l0_1) (hc0_1 : l0_1.length ≤ c0_1) (h : spec_TreeOf.f k l0_0 l0_1 = some (r1, r2)) :
  Calls Try.prog 56 #[.agg #[.slice A0_0 l0_0.length c0_0, .slice A0_1 l0_1.length c0_1]] w fun e w' => ∃ v0_ : Value, e = .returned (.agg #[v0_, .int .i64 r2]) ∧ Kd.R (Kd.int .i64) 3 w' w.heap.size (fun _ => True) v0_ r1 ∧ Below w.heap.size w w' := by
 have hu27 := Try.underlying27; have hu54 := Try.underlying54; have HR0_0 := zm hr0_0; have HC0_0 := zm hc0_0; clear hr0_0 hc0_0; have HR0_1 := zm hr0_1; have HC0_1 := zm hc0_1; clear hr0_1 hc0_1; have HB := zm (Below.refl w.heap.size w); have H : ((spec_StateOk.f k l0_0 l0_1).bind fun AR => (if AR = true then (spec_TreeOf.l0 k 0 l0_0 l0_1 ([] : List Int) 0) else (some (([] : List Int), 0)))) = some (r1, r2) := h; clear h; replace H := Option.bind_eq_some_iff.mp H; obtain ⟨AR, Am, H⟩ := H; (try dsimp only at H); have A2 := zm Am; clear Am
 by_cases c3 : AR = true
 ·subst c3; rw [if_pos rfl] at H
  have H' := zm H
  clear H; go_enter Try.func56, Try.ntmps56
  go_wp2_with (first | ((with_reducible refine gate_dst (N := 1) rfl ?_); refine zbox 1 #[.slice A0_0 l0_0.length c0_0, .slice A0_1 l0_1.length c0_1] 27 ?_; intro AM hg w4 hbox hb; have AA := zm (hbox); have Ae := zge w hg zB; have Ac := zge w hg zB; replace HB := zm (below_step zB hb); clear hb hbox hg) | ((with_reducible refine gate_dst (N := 2) rfl ?_); refine zbox 2 #[.slice none 0 0, .int .i64 0] 54 ?_; intro AN hg w5 hbox hb; have AC := zm (hbox); have Af := zge w hg zB; have Ad := zge w hg zB; replace HB := zm (below_step zB hb); have AH := zlt hg (zb AA); have AI := zgt hg (zb AA); replace AA := zy AA hb; clear hb hbox hg; have BY := AH.out; have BZ := AI.out; obtain ⟨Ah, Ai, Aj, Ak⟩ := zc2 AA) | ((with_reducible refine gate_callee (f := 17) rfl ?_); refine zg (some 6) #[.agg #[.slice A0_0 l0_0.length c0_0, .slice A0_1 l0_1.length c0_1]] Try.func17 ?_; (with_reducible refine (spec_StateOk.calls k _ _ l0_0 _ _ l0_1 true _ (zk (Kd.C_below HR0_0.out HB.out)) HC0_0.out (zk (Kd.C_below HR0_1.out HB.out)) HC0_1.out A2.out).mono ?_); rintro e w8 ⟨rfl, hb⟩; refine ⟨_, rfl, ?_⟩; replace AA := zy AA hb; replace AC := zy AC hb; replace HB := zm (below_step zB hb); clear hb) | ((with_reducible refine gate_dst (N := 3) rfl ?_); refine zbox 3 #[.slice none 0 0, .int .i64 0] 54 ?_; intro AO hg w9 hbox hb; have AD := zm (hbox); have BK := zge w hg zB; have BJ := zge w hg zB; replace HB := zm (below_step zB hb); have AG := zlt hg (zb AA); have AJ := zgt hg (zb AA); replace AA := zy AA hb; have AF := zlt hg (zb AC); have AK := zgt hg (zb AC); replace AC := zy AC hb; clear hb hbox hg; have BM := AJ.out; have BS := AG.out; have BN := AK.out; have BT := AF.out; obtain ⟨AV, AW, AX, AY⟩ := zc2 AD))
  go_loopg [4] k (fun kq v4 w' => ∃ (AL : Int) (AE : List Int) (u1575000 : Value), v4 = .int .i64 AL ∧ Aside0 (spec_TreeOf.l0 kq AL l0_0 l0_1 AE 0 = some (r1, r2)) ∧ Aside0 (kq ≤ k) ∧ Aside0 (Kd.R (Kd.int .i64) 3 w' w.heap.size (fun _ => True) u1575000 AE) ∧ Aside0 (w'.heap[AM]? = some (.cells #[(.slice A0_0 l0_0.length c0_0), (.slice A0_1 l0_1.length c0_1)] 27 (0, 0))) ∧ Aside0 (w'.heap[AN]? = some (.cells #[(.slice none 0 0), .int .i64 0] 54 (0, 0))) ∧ Aside0 (w'.heap[AO]? = some (.cells #[u1575000, .int .i64 0] 54 (0, 0))) ∧ Aside0 (Below w.heap.size w w'))
  case atStart => exact ⟨(0), (([] : List Int)), (.slice none 0 0), zF, H', ⟨Nat.le_refl _⟩, ⟨znil⟩, ⟨zfar (zfar (zb AA) AG) AG⟩, ⟨zfar (zfar (zb AC) AF) AF⟩, ⟨zput (zput (zb AD) 0) 1⟩, ⟨zB⟩⟩
  case round =>
   clear H'; (try clear c3); (try clear AV); (try clear AW); (try clear Ah); (try clear Ai); (try clear AX); (try clear AY); (try clear Aj); (try clear Ak); obtain ⟨AL, AE, u1575000, rfl, HA, An, AB, AA, AC, AD, HB⟩ := hrel
   cases gk with
   | zero => exact absurd HA.out (by simp [spec_TreeOf.l0])
   | succ k1 =>
    have H := HA.out; clear HA; simp only [spec_TreeOf.l0] at H
    by_cases AQ : AL < 4
    ·rw [if_pos AQ] at H; have Al : decide (AL < 4) = true := decide_eq_true AQ; clear AQ; replace H := Option.bind_eq_some_iff.mp H; obtain ⟨AP, AZ, H⟩ := H; (try dsimp only at H); have BH := zm AZ; clear AZ
     by_cases AT : AE.length < 17592186044416
     ·rw [if_pos AT] at H; have LMc15 := zm AT; clear AT
      obtain ⟨y1576, hy1576⟩ : ∃ y_ : List Int, y_ = (AE ++ [AP]) := ⟨_, rfl⟩
      replace H : (spec_TreeOf.l0 k1 (wrap64 (AL + 1)) l0_0 l0_1 y1576 0) = some (r1, r2) := by first | (rw [hy1576]; with_reducible exact H) | (have H2_ := (Option.bind_some _ _).symm.trans H; rw [hy1576]; with_reducible exact H2_) | (have H2_ := (Option.bind_some _ _).symm.trans H; with_reducible exact H2_) | with_reducible exact H | (rw [hy1576]; exact H) | exact H
      have Ny1576 := zm hy1576; clear hy1576
      have H' := zm H
      clear H
      try go_wp2
      replace AB := zm (Kd.R_drew AB.out); replace AA := zq AA; replace AC := zq AC; replace AD := zq AD; replace HB := zm (below_drew1 HB.out)
      refine start_ (n := 9) (S := fun w' => w'.cell? ⟨AO, 0, none⟩ = some (u1575000) ∧ w'.cell? ⟨AO, 1, none⟩ = some (.int .i64 0) ∧ w'.cell? ⟨AM, 0, none⟩ = some (.slice A0_0 l0_0.length c0_0) ∧ w'.cell? ⟨AM, 1, none⟩ = some (.slice A0_1 l0_1.length c0_1)) (ds := [8]) (zl 9 0) (by kernel_rfl) rfl rfl zS (fun hHeld => ?_); refine with_tabW spec_TreeOf.tab7 spec_TreeOf.bits7 (fun HT_ HW_ => ?_)
      generalize wr.drew = Ba at AB AA AC AD HB hHeld ⊢
      refine zu 0 14 9 1 ?_
      refine zu 3 17 9 9 ?_
      refine zv 1 15 9 11 ?_
      refine zv 2 16 9 15 ?_
      refine zo 4 (some 18) (zl 9 31) (fun K hK => ?_); refine zgo #[.agg #[.slice A0_0 l0_0.length c0_0, .slice A0_1 l0_1.length c0_1], .int .i64 AL] Try.func97 ?_; (with_reducible refine (spec_LeafSum.calls k1 _ _ l0_0 _ _ l0_1 AL AP _ (zk (Kd.C_below HR0_0.out HB.out)) HC0_0.out (zk (Kd.C_below HR0_1.out HB.out)) HC0_1.out BH.out).mono ?_); rintro e Bb ⟨rfl, hb⟩; refine ⟨_, rfl, ?_⟩; replace AB := zw AB hb; replace AA := zy AA hb; replace AC := zy AC hb; replace AD := zy AD hb; replace HB := zm (below_step zB hb); (try clear hb); refine hK.out _ _ zS (fun hHeld => ?_); clear hK K; refine zn ?_; refine zo 5 (some 19) (zl 9 63) (fun K hK => ?_)
      refine value_ (w1 := ?_) (v := ?_) (by rfl) rfl ?_ ?_
      rotate_left 2
      ·go_simp
       constructor
       ·rfl
       ·rfl
      refine hK.out _ _ ⟨(blk_cell (blk_alloc AD.out _) 0).trans rfl, (blk_cell (blk_alloc AD.out _) 1).trans rfl, (blk_cell (blk_alloc AA.out _) 0).trans rfl, (blk_cell (blk_alloc AA.out _) 1).trans rfl⟩ (fun hHeld => ?_); clear hK K; refine zn (N := some 19) ?_; refine zo 6 (some 20) (zl 9 127) (fun K hK => ?_)
      refine Kd.R_append_step (Kd.int .i64) (w0 := w) w.heap.size (by rfl) (.tmp 15) (.tmp 19) 52 3 (.int .i64 0) 8 rfl Try.underlying52 info3 rfl (by decide) (by omega) u1575000 AE AP [.int .i64 AP] (fun _ => True) (fun _ => False) rfl rfl ?aP (fun _ hk => hk.elim) ?aF ?aO ?aB ?aS ?aL ?_
      (case aP => exact rfl)
      (case aB => exact zB)
      (case aF => exact (fun _ _ => trivial))
      (case aO => exact (zr AB))
      (case aS => exact (below_size zB))
      (case aL => have := LMc15.out; omega)
      intro v1577 BL ho hb hg hat; rw [← Ny1576.out] at ho; replace AA := zgr hg (zb AA) (Kd.R_ne AB.out AA.out (by decide)); replace AC := zgr hg (zb AC) (Kd.R_ne AB.out AC.out (by decide)); replace AD := zgr hg (zb AD) (Kd.R_ne AB.out AD.out (by decide)); replace HB := zm hb; have AS := zm (ho); clear AB; clear ho hb hg hat; obtain ⟨Ao, Ap, eo19⟩ := Kd.R_slice AS.out
      (first | subst eo19 | (injection eo19 with f1_ f2_ f3_; have f4_ := f1_.symm; have f5_ := f3_.symm; clear f1_ f2_ f3_; subst f4_; subst f5_))
      refine hK.out _ _ zS (fun hHeld => ?_); clear hK K; refine zn (N := some 20) ?_
      refine zu 7 21 9 255 ?_
      refine last_ (i := 8) (N := none) #[true, true, true, true, true, true, true, true, true] rfl rfl (one_of HT_.out (by kernel_rfl)) (by decide) (fun K hK => ?_)
      have hs20 : BL.cell? ⟨AO, 0, none⟩ = some (u1575000) := (blk_cell AD.out 0).trans rfl; have hfs20 := blk_frozen AD.out 0; have hns20_0 := AG.out; have hns20_1 := AF.out; have hms20_0 := AJ.out; have hms20_1 := AK.out
      refine skip_ (w1 := ?_) (by rfl) rfl ?_ ?_
      rotate_left
      ·go_simp
       rfl
      refine hK.out _ _ ?_; clear hK K
      refine done_ (done_of HT_.out (by kernel_rfl)) ?_
      try go_wp2
      go_roundg k1
      case measure => have := An.out; omega
      case rel => exact ⟨(wrap64 (AL + 1)), (y1576), (.slice Ao y1576.length Ap), zF, H', ⟨by have := An.out; omega⟩, ⟨zrs <| Kd.R_mono (zfr (Kd.R_types AS.out AD.out (by decide))) (fun _ hk => trivial)⟩, ⟨zfar (zb AA) AG⟩, ⟨zfar (zb AC) AF⟩, ⟨zput (zb AD) 0⟩, ⟨zB⟩⟩
     ·rw [if_neg AT] at H
      exact absurd H (by simp)
    ·rw [if_neg AQ] at H; have Al : decide (AL < 4) = false := decide_eq_false AQ; clear AQ; replace H := Option.bind_eq_some_iff.mp H; obtain ⟨AU, Aa, H⟩ := H; (try dsimp only at H); have BI := zm Aa; clear Aa; simp only [Option.some.injEq, Prod.mk.injEq] at H; obtain ⟨rfl, rfl⟩ := H; have BO := AJ.out; have BU := AG.out; have BP := AK.out; have BV := AF.out; obtain ⟨Aq, Ar, B0, B2⟩ := zc2 AD; obtain ⟨Ab, Ag, eo25⟩ := Kd.R_slice AB.out; subst eo25
     go_wp2_with (first | ((with_reducible refine gate_callee (f := 98) rfl ?_); refine zg (some 24) #[.slice Ab AE.length Ag] Try.func98 ?_; (with_reducible refine (spec_l6Root.calls k1 _ _ AE AU _ ?side1 ?side2 BI.out).mono ?_); (case side1 => repeat (first | exact (Kd.R_reads' AB.out).2.2 | (with_reducible refine Kd.C_alloc ?_ _) | (with_reducible refine Kd.C_drewN ?_ _) | (with_reducible refine Kd.C_drew ?_))); (case side2 => exact (Kd.R_reads' AB.out).2.1); rintro e Bc ⟨rfl, hb⟩; refine ⟨_, rfl, ?_⟩; replace AB := zw AB hb; replace AA := zy AA hb; replace AC := zy AC hb; replace AD := zy AD hb; replace HB := zm (below_step zB hb); clear hb; obtain ⟨As, At, B3, BA⟩ := zc2 AD; have BQ := AI.out; have BW := AH.out; obtain ⟨Au, Av, BB, BC⟩ := zc2 AC))
     refine bodyPost_ret (results_cell_row rfl _ _ AN 54 #[.slice Ab AE.length Ag, .int .i64 AU] (0, 0) _ rfl (zput (zput (zfar (zb AC) AF) 0) 1) Try.underlying54 rfl (by kernel_rfl)) rfl ?_
     exact ⟨_, zE, zrs <| Kd.R_mono (zfr (zfr (zfq (Kd.R_types (Kd.R_types AB.out AD.out (by decide)) AC.out (by decide)) (fun _ hk => hk.1.2)))) (fun _ hk => trivial), zB⟩
 ·replace c3 := Bool.eq_false_iff.mpr c3; subst c3; rw [zff] at H; simp only [Option.some.injEq, Prod.mk.injEq] at H; obtain ⟨rfl, rfl⟩ := H; go_enter Try.func56, Try.ntmps56
  go_wp2_with (first | ((with_reducible refine gate_dst (N := 1) rfl ?_); refine zbox 1 #[.slice A0_0 l0_0.length c0_0, .slice A0_1 l0_1.length c0_1] 27 ?_; intro AM hg Bd hbox hb; have AA := zm (hbox); have Ae := zge w hg zB; have Ac := zge w hg zB; replace HB := zm (below_step zB hb); clear hb hbox hg) | ((with_reducible refine gate_dst (N := 2) rfl ?_); refine zbox 2 #[.slice none 0 0, .int .i64 0] 54 ?_; intro AN hg Be hbox hb; have AC := zm (hbox); have Af := zge w hg zB; have Ad := zge w hg zB; replace HB := zm (below_step zB hb); have AH := zlt hg (zb AA); have AI := zgt hg (zb AA); replace AA := zy AA hb; clear hb hbox hg; have BR := AH.out; have BX := AI.out; obtain ⟨Aw, Ax, BD, BE⟩ := zc2 AA) | ((with_reducible refine gate_callee (f := 17) rfl ?_); refine zg (some 6) #[.agg #[.slice A0_0 l0_0.length c0_0, .slice A0_1 l0_1.length c0_1]] Try.func17 ?_; (with_reducible refine (spec_StateOk.calls k _ _ l0_0 _ _ l0_1 false _ (zk (Kd.C_below HR0_0.out HB.out)) HC0_0.out (zk (Kd.C_below HR0_1.out HB.out)) HC0_1.out A2.out).mono ?_); rintro e Bf ⟨rfl, hb⟩; refine ⟨_, rfl, ?_⟩; replace AA := zy AA hb; replace AC := zy AC hb; replace HB := zm (below_step zB hb); clear hb; obtain ⟨Ay, Az, BF, BG⟩ := zc2 AC))
  refine bodyPost_ret (results_cell_row rfl _ _ AN 54 #[.slice none 0 0, .int .i64 0] (0, 0) _ rfl (zput (zput (zb AC) 0) 1) Try.underlying54 rfl (by kernel_rfl)) rfl ?_
  exact ⟨_, zE, znil, zB⟩

/-! ### impl_copyInts: function 115 -/
def impl_copyInts.f (l0 : List Int) : Option (List Int) := (some (([] : List Int) : List Int)).bind fun y1580 => (if y1580.length + l0.length < 17592186044416 then (some (y1580 ++ l0)) else (none))
set_option maxHeartbeats 8000000 in
set_option maxRecDepth 100000 in
theorem impl_copyInts.calls (A0 : Option Addr) (c0 : Nat) (l0 : List Int) (r : List Int) (w : World) (hr0 : Kd.C (Kd.int .i64) w A0 l0.length l0) (hc0 : l0.length ≤ c0) (h : impl_copyInts.f l0 = some r) :
  Calls Try.prog 115 #[.slice A0 l0.length c0] w fun e w' => ∃ v0_ : Value, e = .returned (v0_) ∧ Kd.R (Kd.int .i64) 3 w' w.heap.size (fun _ => True) v0_ r ∧ Below w.heap.size w w' := by
 have HR0 := zm hr0; have AC := zm hc0; clear hr0 hc0; have HB := zm (Below.refl w.heap.size w); have H : ((some (([] : List Int) : List Int)).bind fun y1580 => (if y1580.length + l0.length < 17592186044416 then (some (y1580 ++ l0)) else (none))) = some r := h; clear h
 obtain ⟨y1580, hy1580⟩ : ∃ y_ : List Int, y_ = (([] : List Int)) := ⟨_, rfl⟩
 replace H : (if y1580.length + l0.length < 17592186044416 then (some (y1580 ++ l0)) else (none)) = some r := by first | (rw [hy1580]; with_reducible exact H) | (have H2_ := (Option.bind_some _ _).symm.trans H; rw [hy1580]; with_reducible exact H2_) | (have H2_ := (Option.bind_some _ _).symm.trans H; with_reducible exact H2_) | with_reducible exact H | (rw [hy1580]; exact H) | exact H
 have Ny1580 := zm hy1580; clear hy1580
 by_cases c2 : y1580.length + l0.length < 17592186044416
 ·rw [if_pos c2] at H; have LMc2 := zm c2; clear c2
  obtain ⟨y1583, hy1583⟩ : ∃ y_ : List Int, y_ = (y1580 ++ l0) := ⟨_, rfl⟩
  replace H : (some y1583) = some r := by first | (rw [hy1583]; with_reducible exact H) | (have H2_ := (Option.bind_some _ _).symm.trans H; rw [hy1583]; with_reducible exact H2_) | (have H2_ := (Option.bind_some _ _).symm.trans H; with_reducible exact H2_) | with_reducible exact H | (rw [hy1583]; exact H) | exact H
  have Ny1583 := zm hy1583; clear hy1583; obtain rfl := Option.some.inj H; go_enter Try.func115, Try.ntmps115
  go_wp2_with (first | ((with_reducible refine gate_dst (N := 3) rfl ?_); refine Kd.R_lit (Kd.int .i64) _ 3 ?hg (N := 3) ?hd (xs := ([] : List Int)) (inner := []) (ok := fun _ => True) (okp := fun _ => True) ?hr ?hp (fun _ hk => hk) trivial (Below.refl _ _) (Nat.le_refl _) (by simp) ?_; (case hd => rfl); (case hg => rfl); (case hr => first | (go_simp; done) | (go_simp; rfl)); (case hp => exact (Reps.none _ _)); intro v1581 w3 ho4 hb hg_ hnew_; clear hg_ hnew_; (first | rw [← Ny1580.out] at ho4 | (simp only [Int.reduceToNat] at ho4; rw [← Ny1580.out] at ho4)); have AA := zm (Kd.R_lower ho4 (below_size zB)); replace HB := zm (below_step zB hb); clear hb ho4) | ((with_reducible refine gate_builtin (b := .append) (xs := #[.tmp 3, .tmp 4]) rfl ?_); at_builtin; refine Kd.R_append_rows (Kd.int .i64) (w0 := w) w.heap.size rfl (.tmp 3) (.tmp 4) 52 3 (.int .i64 0) 8 rfl Try.underlying52 info3 rfl (by decide) (by omega) v1581 y1580 l0 _ _ _ (fun _ => True) (fun _ => False) rfl rfl ?aO ?aR (fun _ _ h => h) (fun _ h => h.elim) ?aF ?aB ?aS ?aL ?_; (case aR => repeat (first | exact (Kd.C_below HR0.out HB.out) | (with_reducible refine Kd.C_alloc ?_ _) | (with_reducible refine Kd.C_drewN ?_ _) | (with_reducible refine Kd.C_drew ?_))); (case aB => exact zB); (case aF => exact (fun _ _ => trivial)); (case aO => exact (zr AA)); (case aS => exact (below_size zB)); (case aL => have := LMc2.out; omega); intro v1584 w5 ho hb hg hat; rw [← Ny1583.out] at ho; replace HB := zm hb; have AB := zm (ho); clear AA; clear ho hb hg hat))
  go_ret
  exact ⟨_, zE, zr AB, zB⟩
 ·rw [if_neg c2] at H
  exact absurd H (by simp)

/-! ### impl_copyTree: function 99 -/
def impl_copyTree.f (l0_0 : List Int) (a0_1 : Int) : Option (List Int × Int) := (impl_copyInts.f l0_0).bind fun t1588 => (some (t1588, a0_1))
set_option maxHeartbeats 8000000 in
set_option maxRecDepth 100000 in
theorem impl_copyTree.calls (A0_0 : Option Addr) (c0_0 : Nat) (l0_0 : List Int) (a0_1 : Int) (r1 : List Int) (r2 : Int) (w : World) (hr0_0 : Kd.C (Kd.int .i64) w A0_0 l0_0.length l0_0) (hc0_0 : l0_0.length ≤ c0_0) (h : impl_copyTree.f l0_0 a0_1 = some (r1, r2)) :
  Calls Try.prog 99 #[.agg #[.slice A0_0 l0_0.length c0_0, .int .i64 a0_1]] w fun e w' => ∃ v0_ : Value, e = .returned (.agg #[v0_, .int .i64 r2]) ∧ Kd.R (Kd.int .i64) 3 w' w.heap.size (fun _ => True) v0_ r1 ∧ Below w.heap.size w w' := by
 have hu54 := Try.underlying54; have HR0_0 := zm hr0_0; have HC0_0 := zm hc0_0; clear hr0_0 hc0_0; have HB := zm (Below.refl w.heap.size w); have H : ((impl_copyInts.f l0_0).bind fun AF => (some (AF, a0_1))) = some (r1, r2) := h; clear h; replace H := Option.bind_eq_some_iff.mp H; obtain ⟨AF, AI, H⟩ := H; (try dsimp only at H); have A2 := zm AI; clear AI; simp only [Option.some.injEq, Prod.mk.injEq] at H; obtain ⟨rfl, rfl⟩ := H; go_enter Try.func99, Try.ntmps99
 try go_wp2_with (first | ((with_reducible refine gate_dst (N := 1) rfl ?_); refine zbox 1 #[.slice A0_0 l0_0.length c0_0, .int .i64 a0_1] 54 ?_; intro AH hg w3 hbox hb; have AC := zm (hbox); have AM := zge w hg zB; have AK := zge w hg zB; replace HB := zm (below_step zB hb); clear hb hbox hg) | ((with_reducible refine gate_dst (N := 2) rfl ?_); refine zbox 2 #[.slice none 0 0, .int .i64 0] 54 ?_; intro AD hg w4 hbox hb; have AB := zm (hbox); have AN := zge w hg zB; have AL := zge w hg zB; replace HB := zm (below_step zB hb); have AA := zlt hg (zb AC); have AE := zgt hg (zb AC); replace AC := zy AC hb; clear hb hbox hg))
 replace AC := zq AC; replace AB := zq AB; replace HB := zm (below_drew1 HB.out)
 refine start_ (n := 7) (S := fun w' => w'.cell? ⟨AH, 0, none⟩ = some (.slice A0_0 l0_0.length c0_0) ∧ w'.cell? ⟨AH, 1, none⟩ = some (.int .i64 a0_1)) (ds := []) (zl 7 0) (by kernel_rfl) rfl rfl zS (fun hHeld => ?_)
 generalize w4.drew = w5 at AC AB HB hHeld ⊢
 refine zu 0 3 7 1 ?_
 refine zu 3 6 7 9 ?_
 refine zv 1 4 7 11 ?_
 refine zv 4 7 7 27 ?_
 refine zo 2 (some 5) (zl 7 31) (fun K hK => ?_); refine zgo #[.slice A0_0 l0_0.length c0_0] Try.func115 ?_; (with_reducible refine (impl_copyInts.calls _ _ l0_0 AF _ (zk (Kd.C_below HR0_0.out HB.out)) HC0_0.out A2.out).mono ?_); rintro e w6 ⟨v1589, rfl, ho0, hb⟩; refine ⟨_, rfl, ?_⟩; have AG := zm (Kd.R_lower ho0 (below_size zB)); replace AC := zy AC hb; replace AB := zy AB hb; replace HB := zm (below_step zB hb); (try clear hb); (try clear ho0); obtain ⟨AJ, AO, eo7⟩ := Kd.R_slice AG.out
 (first | subst eo7 | (injection eo7 with f1_ f2_ f3_; have f4_ := f1_.symm; have f5_ := f3_.symm; clear f1_ f2_ f3_; subst f4_; subst f5_))
 refine hK.out _ _ zS (fun hHeld => ?_); clear hK K; refine zn ?_
 refine zu 5 8 7 63 ?_
 refine zo 6 none (zl 7 127) (fun K hK => ?_); have hs8 : w6.cell? ⟨AD, 0, none⟩ = some (.slice none 0 0) := (blk_cell AB.out 0).trans rfl; have hfs8 := blk_frozen AB.out 0; have hns8_0 := AA.out; have hms8_0 := AE.out; have hs9 : w6.cell? ⟨AD, 1, none⟩ = some (.int .i64 0) := (blk_cell AB.out 1).trans rfl; have hfs9 := blk_frozen AB.out 1; have hns9_0 := AA.out; have hms9_0 := AE.out
 refine skip_ (w1 := ?_) (by rfl) rfl ?_ ?_
 rotate_left
 ·go_simp
  rfl
 refine hK.out _ _ ⟨((cell_far (p := ⟨AD, _, none⟩) AA.out _).trans (((cell_far (p := ⟨AD, _, none⟩) AA.out _).trans (hHeld.1)))), ((cell_far (p := ⟨AD, _, none⟩) AA.out _).trans (((cell_far (p := ⟨AD, _, none⟩) AA.out _).trans (hHeld.2))))⟩ (fun hHeld => ?_); clear hK K
 refine done_ (by kernel_rfl) ?_
 try go_wp2
 refine bodyPost_ret (results_cell_row rfl _ _ AD 54 #[.slice AJ AF.length AO, .int .i64 a0_1] (0, 0) _ rfl (zput (zput (zb AB) 0) 1) Try.underlying54 rfl (by kernel_rfl)) rfl ?_
 exact ⟨_, zE, zrs <| Kd.R_mono (zfr (zfr (Kd.R_types AG.out AB.out (by decide)))) (fun _ hk => trivial), zB⟩

/-! ### impl_TreeTouch: function 57 -/
def impl_TreeTouch.j0 : Nat → Int → Bool → List (S44) → List (S58) → List Int → Int → Option (List Int × Int)
 | 0, _, _, _, _, _, _ => none
 | k + 1, x2, x24, x1593000, x1593001, x1599000, x1599001 => if x24 = true then (some (x1599000, x1599001)) else ((impl_LeafOf.f k x2).bind fun t1601 => ((impl_LeafSum.f k x1593000 x1593001 t1601).bind fun t1602 => (if 0 ≤ t1601 then (if t1601 < (x1599000.length : Int) then ((some (x1599000.set (t1601 : Int).toNat t1602 : List Int)).bind fun y1603 => ((impl_rootOf.f k y1603).bind fun t1604 => (some (y1603, t1604)))) else (none)) else (none))))
def impl_TreeTouch.f (k : Nat) (l0_0 : List Int) (a0_1 : Int) (l1_0 : List (S44)) (l1_1 : List (S58)) (a2 : Int) : Option (List Int × Int) := (impl_copyTree.f l0_0 a0_1).bind fun bt1594 => ((impl_StateOk.f k l1_0 l1_1).bind fun t1599 => (if t1599 = true then ((impl_isNode.f a2).bind fun t1600 => (if t1600 = true then (impl_TreeTouch.j0 k a2 ((l0_0.length : Int) != 4) l1_0 l1_1 bt1594.1 bt1594.2) else (impl_TreeTouch.j0 k a2 true l1_0 l1_1 bt1594.1 bt1594.2))) else (impl_TreeTouch.j0 k a2 true l1_0 l1_1 bt1594.1 bt1594.2)))
theorem impl_TreeTouch.mono_l : ∀ k, (∀ y0 y1 y2 y3 y4 y5, LeO (impl_TreeTouch.j0 k y0 y1 y2 y3 y4 y5) (impl_TreeTouch.j0 (k + 1) y0 y1 y2 y3 y4 y5))
 | 0 => fun _ _ _ _ _ _ r h => by simp [impl_TreeTouch.j0] at h
 | k + 1 => by
  have ih0 := impl_TreeTouch.mono_l k
  ·intro y0 y1 y2 y3 y4 y5
   unfold impl_TreeTouch.j0
   repeat' first | (with_reducible first | exact LeO.refl _ | exact LeO.none _ | refine LeO.ite ?_ ?_ | refine LeO.bind ?_ (fun _ => ?_) | apply ih0 | apply impl_LeafOf.mono | apply impl_LeafSum.mono | apply impl_StateOk.mono | apply impl_rootOf.mono) | apply ih0 | apply impl_LeafOf.mono | apply impl_LeafSum.mono | apply impl_StateOk.mono | apply impl_rootOf.mono | exact LeO.none _ | refine LeO.ite ?_ ?_ | refine LeO.bind ?_ (fun _ => ?_)
theorem impl_TreeTouch.mono : ∀ a0 a1 a2 a3 a4 k, LeO (impl_TreeTouch.f k a0 a1 a2 a3 a4) (impl_TreeTouch.f (k + 1) a0 a1 a2 a3 a4) := by
 intro a0 a1 a2 a3 a4 k; have ih0 := impl_TreeTouch.mono_l k
 unfold impl_TreeTouch.f
 repeat' first | (with_reducible first | exact LeO.refl _ | exact LeO.none _ | refine LeO.ite ?_ ?_ | refine LeO.bind ?_ (fun _ => ?_) | apply ih0 | apply impl_LeafOf.mono | apply impl_LeafSum.mono | apply impl_StateOk.mono | apply impl_rootOf.mono) | apply ih0 | apply impl_LeafOf.mono | apply impl_LeafSum.mono | apply impl_StateOk.mono | apply impl_rootOf.mono | exact LeO.none _ | refine LeO.ite ?_ ?_ | refine LeO.bind ?_ (fun _ => ?_)
def impl_TreeTouch.T5 : Bool × List (List Nat × List Nat) := (true, [([], []), ([0], [0]), ([], []), ([], []), ([], []), ([3, 4], [3, 4]), ([1, 2, 0, 1, 2, 3, 4, 5], [1, 2]), ([6, 5, 5, 0, 1, 2, 3, 4, 5], [5, 6])])
def impl_TreeTouch.B5 : List Nat := [0, 1, 0, 0, 0, 24, 63, 127]
theorem impl_TreeTouch.tab5 : rtab .any (opsOf Try.f57 5) = impl_TreeTouch.T5 := by kernel_rfl
theorem impl_TreeTouch.bits5 : waitsOk impl_TreeTouch.T5.2 impl_TreeTouch.B5 = true := by kernel_rfl
set_option maxHeartbeats 8000000 in
set_option maxRecDepth 100000 in
theorem impl_TreeTouch.calls (k : Nat) (A0_0 : Option Addr) (c0_0 : Nat) (l0_0 : List Int) (a0_1 : Int) (A1_0 : Option Addr) (c1_0 : Nat) (l1_0 : List (S44)) (A1_1 : Option Addr) (c1_1 : Nat) (l1_1 : List (S58)) (a2 : Int) (r1 : List Int) (r2 : Int) (w : World) (hr0_0 : Kd.C (Kd.int .i64) w A0_0 l0_0.length l0_0) (hc0_0 : l0_0.length ≤ c0_0) (hr1_0 : Kd.C k44 w A1_0 l1_0.length l1_0) (hc1_0 : l1_0.length ≤ c1_0) (hr1_1 : Kd.C k58 w A1_1 l1_1.length l1_1) (hc1_1 : l1_1.length ≤ c1_1) (h : impl_TreeTouch.f k l0_0 a0_1 l1_0 l1_1 a2 = some (r1, r2)) :
  Calls Try.prog 57 #[.agg #[.slice A0_0 l0_0.length c0_0, .int .i64 a0_1], .agg #[.slice A1_0 l1_0.length c1_0, .slice A1_1 l1_1.length c1_1], .int .i64 a2] w fun e w' => ∃ v0_ : Value, e = .returned (.agg #[v0_, .int .i64 r2]) ∧ Kd.R (Kd.int .i64) 3 w' w.heap.size (fun _ => True) v0_ r1 ∧ Below w.heap.size w w' := by
 have hu54 := Try.underlying54; have hu27 := Try.underlying27; have HR0_0 := zm hr0_0; have HC0_0 := zm hc0_0; clear hr0_0 hc0_0; have HR1_0 := zm hr1_0; have HC1_0 := zm hc1_0; clear hr1_0 hc1_0; have HR1_1 := zm hr1_1; have HC1_1 := zm hc1_1; clear hr1_1 hc1_1; have HB := zm (Below.refl w.heap.size w); have H : ((impl_copyTree.f l0_0 a0_1).bind fun AX => ((impl_StateOk.f k l1_0 l1_1).bind fun Af => (if Af = true then ((impl_isNode.f a2).bind fun Ag => (if Ag = true then (impl_TreeTouch.j0 k a2 ((l0_0.length : Int) != 4) l1_0 l1_1 AX.1 AX.2) else (impl_TreeTouch.j0 k a2 true l1_0 l1_1 AX.1 AX.2))) else (impl_TreeTouch.j0 k a2 true l1_0 l1_1 AX.1 AX.2)))) = some (r1, r2) := h; clear h; replace H := Option.bind_eq_some_iff.mp H; obtain ⟨⟨AI, AT⟩, BC, H⟩ := H; (try dsimp only at H); have A4 := zm BC; clear BC; have B3 := zm H; clear H; go_enter Try.func57, Try.ntmps57
 go_upto_region 2 with (first | ((with_reducible refine gate_dst (N := 3) rfl ?_); (try (refine gate_guard (by rfl) ?_; dsimp only)); refine zbox 3 #[.slice A0_0 l0_0.length c0_0, .int .i64 a0_1] 54 ?_; intro Ah hg w6 hbox hb; have AB := zm (hbox); have Bu := zge w hg zB; have Bq := zge w hg zB; replace HB := zm (below_step zB hb); clear hb hbox hg) | ((with_reducible refine gate_dst (N := 4) rfl ?_); (try (refine gate_guard (by rfl) ?_; dsimp only)); refine zbox 4 #[.slice A1_0 l1_0.length c1_0, .slice A1_1 l1_1.length c1_1] 27 ?_; intro AZ hg w7 hbox hb; have AC := zm (hbox); have Bv := zge w hg zB; have Br := zge w hg zB; replace HB := zm (below_step zB hb); have AO := zlt hg (zb AB); have AQ := zgt hg (zb AB); replace AB := zy AB hb; clear hb hbox hg) | ((with_reducible refine gate_dst (N := 6) rfl ?_); (try (refine gate_guard (by rfl) ?_; dsimp only)); refine zbox 6 #[.slice none 0 0, .int .i64 0] 54 ?_; intro Aa hg w8 hbox hb; have AD := zm (hbox); have Bw := zge w hg zB; have Bs := zge w hg zB; replace HB := zm (below_step zB hb); have AP := zlt hg (zb AB); have AR := zgt hg (zb AB); replace AB := zy AB hb; have AM := zlt hg (zb AC); have AN := zgt hg (zb AC); replace AC := zy AC hb; clear hb hbox hg; have Cr := AO.out; have Cs := AQ.out; have C2 := AP.out; have CR := AR.out; obtain ⟨Ao, Ap, As, At⟩ := zc2 AB) | ((with_reducible refine gate_callee (f := 99) rfl ?_); refine zg (some 10) #[.agg #[.slice A0_0 l0_0.length c0_0, .int .i64 a0_1]] Try.func99 ?_; (with_reducible refine (impl_copyTree.calls _ _ l0_0 a0_1 AI AT _ (zk (Kd.C_below HR0_0.out HB.out)) HC0_0.out A4.out).mono ?_); rintro e Cu ⟨v1595, rfl, ho0, hb⟩; refine ⟨_, rfl, ?_⟩; have AJ := zm (Kd.R_lower ho0 (below_size zB)); replace AB := zy AB hb; replace AC := zy AC hb; replace AD := zy AD hb; replace HB := zm (below_step zB hb); clear hb ho0) | ((with_reducible refine gate_dst (N := 7) rfl ?_); (try (refine gate_guard (by rfl) ?_; dsimp only)); refine zbox 7 #[.slice none 0 0, .int .i64 0] 54 ?_; intro AV hg Cv hbox hb; replace AJ := zw AJ hb; have AE := zm (hbox); have Bx := zge w hg zB; have Bt := zge w hg zB; replace HB := zm (below_step zB hb); have AG := zlt hg (zb AB); have AS := zgt hg (zb AB); replace AB := zy AB hb; have AF := zlt hg (zb AC); have AK := zgt hg (zb AC); replace AC := zy AC hb; have AH := zlt hg (zb AD); have AW := zgt hg (zb AD); replace AD := zy AD hb; clear hb hbox hg; obtain ⟨AY, AU, eo14⟩ := Kd.R_slice AJ.out; subst eo14; have C3 := AS.out; have CS := AG.out; have C4 := AK.out; have CT := AF.out; have C5 := AW.out; have CU := AH.out; obtain ⟨Aq, Ar, Au, Av⟩ := zc2 AE))
 (try simp only [Act.put, List.setIfInBounds_toArray, List.set_cons_zero, List.set_cons_succ])
 go_cut [24] (fun v24 wc => ∃ (kq : Nat) (Ad : Bool), v24 = .bool Ad ∧ Aside0 (impl_TreeTouch.j0 kq a2 Ad l1_0 l1_1 AI AT = some (r1, r2)) ∧ Aside0 (kq ≤ k) ∧ Aside0 (Kd.R (Kd.int .i64) 3 wc w.heap.size (fun _ => True) (.slice AY AI.length AU) AI) ∧ Aside0 (wc.heap[Ah]? = some (.cells #[(.slice A0_0 l0_0.length c0_0), .int .i64 a0_1] 54 (0, 0))) ∧ Aside0 (wc.heap[AZ]? = some (.cells #[(.slice A1_0 l1_0.length c1_0), (.slice A1_1 l1_1.length c1_1)] 27 (0, 0))) ∧ Aside0 (wc.heap[Aa]? = some (.cells #[(.slice none 0 0), .int .i64 0] 54 (0, 0))) ∧ Aside0 (wc.heap[AV]? = some (.cells #[(.slice AY AI.length AU), .int .i64 AT] 54 (0, 0))) ∧ Aside0 (Below w.heap.size w wc))
 case first =>
  have H := B3.out; clear B3; replace H := Option.bind_eq_some_iff.mp H; obtain ⟨Af, Ax, H⟩ := H; (try dsimp only at H); have Aw := zm Ax; clear Ax
  by_cases Ai : Af = true
  ·subst Ai; rw [if_pos rfl] at H; replace H := Option.bind_eq_some_iff.mp H; obtain ⟨Ag, Ay, H⟩ := H; (try dsimp only at H); have BB := zm Ay; clear Ay
   by_cases Aj : Ag = true
   ·subst Aj; rw [if_pos rfl] at H
    have H' := zm H
    clear H; have C6 := AQ.out; have CV := AO.out; have C7 := AM.out; have CW := AN.out; have C8 := AF.out; have CX := AK.out; obtain ⟨BD, BE, BV, BW⟩ := zc2 AC
    go_wp2_with (first | ((with_reducible refine gate_callee (f := 27) rfl ?_); refine zg (some 12) #[.agg #[.slice A1_0 l1_0.length c1_0, .slice A1_1 l1_1.length c1_1]] Try.func27 ?_; (with_reducible refine (impl_StateOk.calls k _ _ l1_0 _ _ l1_1 true _ ?side1 HC1_0.out ?side3 HC1_1.out Aw.out).mono ?_); (case side1 => exact Kd.C_below HR1_0.out zB); (case side3 => exact Kd.C_below HR1_1.out zB); rintro e Cw ⟨rfl, hb⟩; refine ⟨_, rfl, ?_⟩; replace AJ := zm (Kd.R_below (zrs <| (Kd.R_mono (zfr (zfr (Kd.R_types AJ.out AE.out (by decide)))) (fun _ h_ => h_.1))) hb); replace AB := zyb hb (zfar (zfar (zb AB) AG) AG); replace AC := zyb hb (zfar (zfar (zb AC) AF) AF); replace AD := zyb hb (zfar (zfar (zb AD) AH) AH); replace AE := zm (blk_below (g := AV) (o := .cells #[.slice AY AI.length AU, .int .i64 AT] 54 (0, 0)) (zput (zput (zb AE) 0) 1) hb); replace HB := zm (below_step zB hb); clear hb) | (go_at_call 74; (with_reducible refine (impl_isNode.calls a2 true _ BB.out).mono ?_); rintro e w' ⟨rfl, ⟨nd, rfl⟩⟩; have C9 := AP.out; have CY := AR.out; have CA := AG.out; have CZ := AS.out; obtain ⟨BF, BG, BX, BY⟩ := zc2 AB))
    go_meet
    case rel => exact ⟨_, (((l0_0.length : Int) != 4)), zF, H', ⟨zO⟩, ⟨zr AJ⟩, ⟨zb AB⟩, ⟨zb AC⟩, ⟨zb AD⟩, ⟨zb AE⟩, ⟨zB⟩⟩
   ·replace Aj := Bool.eq_false_iff.mpr Aj; subst Aj; rw [zff] at H
    have H' := zm H
    clear H; have CB := AQ.out; have Ca := AO.out; have CC := AM.out; have Cb := AN.out; have CD := AF.out; have Cc := AK.out; obtain ⟨BH, BI, BZ, Ba⟩ := zc2 AC
    go_wp2_with (first | ((with_reducible refine gate_callee (f := 27) rfl ?_); refine zg (some 12) #[.agg #[.slice A1_0 l1_0.length c1_0, .slice A1_1 l1_1.length c1_1]] Try.func27 ?_; (with_reducible refine (impl_StateOk.calls k _ _ l1_0 _ _ l1_1 true _ ?side1 HC1_0.out ?side3 HC1_1.out Aw.out).mono ?_); (case side1 => exact Kd.C_below HR1_0.out zB); (case side3 => exact Kd.C_below HR1_1.out zB); rintro e Cx ⟨rfl, hb⟩; refine ⟨_, rfl, ?_⟩; replace AJ := zm (Kd.R_below (zrs <| (Kd.R_mono (zfr (zfr (Kd.R_types AJ.out AE.out (by decide)))) (fun _ h_ => h_.1))) hb); replace AB := zyb hb (zfar (zfar (zb AB) AG) AG); replace AC := zyb hb (zfar (zfar (zb AC) AF) AF); replace AD := zyb hb (zfar (zfar (zb AD) AH) AH); replace AE := zm (blk_below (g := AV) (o := .cells #[.slice AY AI.length AU, .int .i64 AT] 54 (0, 0)) (zput (zput (zb AE) 0) 1) hb); replace HB := zm (below_step zB hb); clear hb) | (go_at_call 74; (with_reducible refine (impl_isNode.calls a2 false _ BB.out).mono ?_); rintro e w' ⟨rfl, ⟨nd, rfl⟩⟩))
    go_meet
    case rel => exact ⟨_, (true), zF, H', ⟨zO⟩, ⟨zr AJ⟩, ⟨zb AB⟩, ⟨zb AC⟩, ⟨zb AD⟩, ⟨zb AE⟩, ⟨zB⟩⟩
  ·replace Ai := Bool.eq_false_iff.mpr Ai; subst Ai; rw [zff] at H
   have H' := zm H
   clear H; have CE := AQ.out; have Cd := AO.out; have CF := AM.out; have Ce := AN.out; have CG := AF.out; have Cf := AK.out; obtain ⟨BJ, BK, Bb, Bc⟩ := zc2 AC
   go_wp2_with (first | ((with_reducible refine gate_callee (f := 27) rfl ?_); refine zg (some 12) #[.agg #[.slice A1_0 l1_0.length c1_0, .slice A1_1 l1_1.length c1_1]] Try.func27 ?_; (with_reducible refine (impl_StateOk.calls k _ _ l1_0 _ _ l1_1 false _ ?side1 HC1_0.out ?side3 HC1_1.out Aw.out).mono ?_); (case side1 => exact Kd.C_below HR1_0.out zB); (case side3 => exact Kd.C_below HR1_1.out zB); rintro e Cy ⟨rfl, hb⟩; refine ⟨_, rfl, ?_⟩; replace AJ := zm (Kd.R_below (zrs <| (Kd.R_mono (zfr (zfr (Kd.R_types AJ.out AE.out (by decide)))) (fun _ h_ => h_.1))) hb); replace AB := zyb hb (zfar (zfar (zb AB) AG) AG); replace AC := zyb hb (zfar (zfar (zb AC) AF) AF); replace AD := zyb hb (zfar (zfar (zb AD) AH) AH); replace AE := zm (blk_below (g := AV) (o := .cells #[.slice AY AI.length AU, .int .i64 AT] 54 (0, 0)) (zput (zput (zb AE) 0) 1) hb); replace HB := zm (below_step zB hb); clear hb))
   go_meet
   case rel => exact ⟨_, (true), zF, H', ⟨zO⟩, ⟨zr AJ⟩, ⟨zb AB⟩, ⟨zb AC⟩, ⟨zb AD⟩, ⟨zb AE⟩, ⟨zB⟩⟩
 case rest =>
  clear B3; (try clear Ao); (try clear Ap); (try clear Aq); (try clear Ar); (try clear As); (try clear At); (try clear Au); (try clear Av); obtain ⟨kq, Ad, rfl, HA, Ct, AA, AB, AC, AD, AE, HB⟩ := hcut
  cases kq with
  | zero => exact absurd HA.out (by simp [impl_TreeTouch.j0])
  | succ An =>
   have H := HA.out; clear HA; simp only [impl_TreeTouch.j0] at H
   by_cases Ak : Ad = true
   ·subst Ak; rw [if_pos rfl] at H; simp only [Option.some.injEq, Prod.mk.injEq] at H; obtain ⟨rfl, rfl⟩ := H; have CH := AS.out; have Cg := AG.out; have CI := AK.out; have Ch := AF.out; have CJ := AW.out; have Ci := AH.out; obtain ⟨BL, BM, Bd, Be⟩ := zc2 AE; have CK := AR.out; have Cj := AP.out; have CL := AN.out; have Ck := AM.out; obtain ⟨BN, BO, Bf, Bg⟩ := zc2 AD
    go_wp2
    refine bodyPost_ret (results_cell_row rfl _ _ Aa 54 #[.slice AY AI.length AU, .int .i64 AT] (0, 0) _ rfl (zput (zput (zb AD) 0) 1) Try.underlying54 rfl (by kernel_rfl)) rfl ?_
    exact ⟨_, zE, zrs <| Kd.R_mono (zfr (zfr (Kd.R_types AA.out AD.out (by decide)))) (fun _ hk => trivial), zB⟩
   ·replace Ak := Bool.eq_false_iff.mpr Ak; subst Ak; rw [zff] at H; replace H := Option.bind_eq_some_iff.mp H; obtain ⟨AL, Az, H⟩ := H; (try dsimp only at H); have Bn := zm Az; clear Az; replace H := Option.bind_eq_some_iff.mp H; obtain ⟨Ab, B0, H⟩ := H; (try dsimp only at H); have Bo := zm B0; clear B0
    by_cases Al : 0 ≤ AL
    ·rw [if_pos Al] at H; have C0 : decide (0 ≤ AL) = true := decide_eq_true Al; clear Al
     by_cases Am : AL < (AI.length : Int)
     ·rw [if_pos Am] at H; have C1 : decide (AL < (AI.length : Int)) = true := decide_eq_true Am; clear Am
      obtain ⟨y1603, hy1603⟩ : ∃ y_ : List Int, y_ = (AI.set (AL : Int).toNat Ab) := ⟨_, rfl⟩
      replace H : ((impl_rootOf.f An y1603).bind fun Ac => (some (y1603, Ac))) = some (r1, r2) := by first | (rw [hy1603]; with_reducible exact H) | (have H2_ := (Option.bind_some _ _).symm.trans H; rw [hy1603]; with_reducible exact H2_) | (have H2_ := (Option.bind_some _ _).symm.trans H; with_reducible exact H2_) | with_reducible exact H | (rw [hy1603]; exact H) | exact H
      have Ny1603 := zm hy1603; clear hy1603; replace H := Option.bind_eq_some_iff.mp H; obtain ⟨Ac, B2, H⟩ := H; (try dsimp only at H); have Bp := zm B2; clear B2; simp only [Option.some.injEq, Prod.mk.injEq] at H; obtain ⟨rfl, rfl⟩ := H
      try go_wp2_with (first | ((with_reducible refine gate_callee (f := 35) rfl ?_); refine zg (some 27) #[.int .i64 a2] Try.func35 ?_; (with_reducible refine (impl_LeafOf.calls An a2 AL _ Bn.out).mono ?_); rintro e By ⟨rfl, hb⟩; refine ⟨_, rfl, ?_⟩; replace AA := zw AA hb; replace AB := zy AB hb; replace AC := zy AC hb; replace AD := zy AD hb; replace AE := zy AE hb; replace HB := zm (below_step zB hb); clear hb))
      replace AA := zm (Kd.R_drew AA.out); replace AB := zq AB; replace AC := zq AC; replace AD := zq AD; replace AE := zq AE; replace HB := zm (below_drew1 HB.out)
      refine start_ (n := 8) (S := fun w' => w'.cell? ⟨AV, 0, none⟩ = some (.slice AY AI.length AU) ∧ w'.cell? ⟨AV, 1, none⟩ = some (.int .i64 AT) ∧ w'.cell? ⟨AZ, 0, none⟩ = some (.slice A1_0 l1_0.length c1_0) ∧ w'.cell? ⟨AZ, 1, none⟩ = some (.slice A1_1 l1_1.length c1_1)) (ds := [7]) (zl 8 0) (by kernel_rfl) rfl rfl zS (fun hHeld => ?_); refine with_tabW impl_TreeTouch.tab5 impl_TreeTouch.bits5 (fun HT_ HW_ => ?_)
      generalize By.drew = Cz at AA AB AC AD AE HB hHeld ⊢
      refine zu 0 28 8 1 ?_
      refine zu 2 30 8 5 ?_
      refine zu 4 32 8 21 ?_
      refine zv 1 29 8 23 ?_
      refine zv 3 31 8 31 ?_
      refine zo 5 (some 33) (zl 8 63) (fun K hK => ?_); refine zgo #[.agg #[.slice A1_0 l1_0.length c1_0, .slice A1_1 l1_1.length c1_1], .int .i64 AL] Try.func38 ?_; (with_reducible refine (impl_LeafSum.calls An _ _ l1_0 _ _ l1_1 AL Ab _ (zk (Kd.C_below HR1_0.out HB.out)) HC1_0.out (zk (Kd.C_below HR1_1.out HB.out)) HC1_1.out Bo.out).mono ?_); rintro e Bz ⟨rfl, hb⟩; refine ⟨_, rfl, ?_⟩; replace AA := zw AA hb; replace AB := zy AB hb; replace AC := zy AC hb; replace AD := zy AD hb; replace AE := zy AE hb; replace HB := zm (below_step zB hb); (try clear hb); have p53 : 0 ≤ (AL : Int) := zd; have q53 : (AL : Int) < ((AI.length : Int) : Int) := zd; obtain ⟨go53, Cq, eo53, BA, gl53, cl53, HG53⟩ := Kd.R_form AA.out (by omega)
      (first | cases eo53 | (injection eo53 with ea_ en_ ec_; (first | subst ea_ | (injection ea_ with ea_; subst ea_)); subst ec_; clear en_))
      have GB53 := zm BA; have GG53 := zm HG53; clear BA gl53 HG53; obtain ⟨hx53_0, hf53_0⟩ := Kd.R_celln 0 AA.out (AL : Int) p53 q53; replace p53 := eq_true p53; replace q53 := eq_true q53; have HP58 := Kd.R_putn AA.out (AL : Int) Ab; rw [← Ny1603.out] at HP58; have HQ58 := zm HP58; clear HP58; refine hK.out _ _ zS (fun hHeld => ?_); clear hK K; refine zn ?_
      refine zu 6 34 8 127 ?_
      refine last_ (i := 7) (N := none) #[true, true, true, true, true, true, true, true] rfl rfl (one_of HT_.out (by kernel_rfl)) (by decide) (fun K hK => ?_)
      refine skip_ (w1 := ?_) (by rfl) rfl ?_ ?_
      rotate_left
      ·go_simp
       rfl
      refine hK.out _ _ ?_; clear hK K
      refine done_ (done_of HT_.out (by kernel_rfl)) ?_
      obtain ⟨Ae, hW_⟩ : ∃ q, q = (Bz.setCell ⟨go53, (AL : Int).toNat, none⟩ (.int .i64 Ab)) := ⟨_, rfl⟩
      have n0_ : Aside0 (Kd.R (Kd.int .i64) 3 Ae w.heap.size (fun _ => True) (.slice (some ⟨go53, 0, none⟩) AI.length AU) y1603) := ⟨by rw [hW_]; exact (by (with_reducible repeat (first | apply Kd.R_alloc | apply Kd.R_drewN | apply Kd.R_drew)); exact HQ58.out)⟩; have n1_ : Aside0 (Ae.heap[Ah]? = some (.cells #[.slice A0_0 l0_0.length c0_0, .int .i64 a0_1] 54 (0, 0))) := ⟨by rw [hW_]; exact (by (with_reducible repeat (first | refine blk_drewN ?_ _ | refine blk_drew ?_ | refine blk_alloc ?_ _)); refine blk_far ?_ (by have h_ := Kd.R_ne AA.out AB.out (by decide); intro e_; exact h_ (by rw [e_]; rfl)) _; (with_reducible repeat (first | refine blk_drewN ?_ _ | refine blk_drew ?_ | refine blk_alloc ?_ _)); exact AB.out)⟩; have n2_ : Aside0 (Ae.heap[AZ]? = some (.cells #[.slice A1_0 l1_0.length c1_0, .slice A1_1 l1_1.length c1_1] 27 (0, 0))) := ⟨by rw [hW_]; exact (by (with_reducible repeat (first | refine blk_drewN ?_ _ | refine blk_drew ?_ | refine blk_alloc ?_ _)); refine blk_far ?_ (by have h_ := Kd.R_ne AA.out AC.out (by decide); intro e_; exact h_ (by rw [e_]; rfl)) _; (with_reducible repeat (first | refine blk_drewN ?_ _ | refine blk_drew ?_ | refine blk_alloc ?_ _)); exact AC.out)⟩; have n3_ : Aside0 (Ae.heap[Aa]? = some (.cells #[.slice none 0 0, .int .i64 0] 54 (0, 0))) := ⟨by rw [hW_]; exact (by (with_reducible repeat (first | refine blk_drewN ?_ _ | refine blk_drew ?_ | refine blk_alloc ?_ _)); refine blk_far ?_ (by have h_ := Kd.R_ne AA.out AD.out (by decide); intro e_; exact h_ (by rw [e_]; rfl)) _; (with_reducible repeat (first | refine blk_drewN ?_ _ | refine blk_drew ?_ | refine blk_alloc ?_ _)); exact AD.out)⟩
      have n4_ : Aside0 (Ae.heap[AV]? = some (.cells #[.slice (some ⟨go53, 0, none⟩) AI.length AU, .int .i64 AT] 54 (0, 0))) := ⟨by rw [hW_]; exact (by (with_reducible repeat (first | refine blk_drewN ?_ _ | refine blk_drew ?_ | refine blk_alloc ?_ _)); refine blk_far ?_ (by have h_ := Kd.R_ne AA.out AE.out (by decide); intro e_; exact h_ (by rw [e_]; rfl)) _; (with_reducible repeat (first | refine blk_drewN ?_ _ | refine blk_drew ?_ | refine blk_alloc ?_ _)); exact AE.out)⟩; have n5_ : Aside0 (Below w.heap.size w Ae) := ⟨by rw [hW_]; exact zH⟩
      rw [← hW_]
      clear hW_; (try clear AA); (try clear AB); (try clear AC); (try clear AD); (try clear AE); (try clear HB); have AA := n0_; have AB := n1_; have AC := n2_; have AD := n3_; have AE := n4_; have HB := n5_; clear n0_ n1_ n2_ n3_ n4_ n5_; have CM := AS.out; have Cl := AG.out; have CN := AK.out; have Cm := AF.out; have CO := AW.out; have Cn := AH.out; obtain ⟨BP, BQ, Bh, Bi⟩ := zc2 AE
      try go_wp2_with (first | ((with_reducible refine gate_callee (f := 84) rfl ?_); refine goesL_ (some 37) rfl rfl Try.func84 (by kernel_rfl) rfl #[.slice (some ⟨go53, 0, none⟩) y1603.length AU] rfl (by (try simp only [List.map_toArray, List.map_cons, List.map_nil]); first | done | (rw [show y1603.length = AI.length from (Kd.R_reads' AA.out).1.symm] <;> rfl) | rfl | (simp only [List.length_drop, List.length_take]; rfl)) ?_; (with_reducible refine (impl_rootOf.calls An _ _ y1603 Ac _ ?side1 ?side2 Bp.out).mono ?_); (case side1 => repeat (first | exact (Kd.R_reads' AA.out).2.2 | (with_reducible refine Kd.C_alloc ?_ _) | (with_reducible refine Kd.C_drewN ?_ _) | (with_reducible refine Kd.C_drew ?_))); (case side2 => rw [show y1603.length = AI.length from (Kd.R_reads' AA.out).1.symm]; exact (Kd.R_reads' AA.out).2.1); rintro e D0 ⟨rfl, hb⟩; refine ⟨_, rfl, ?_⟩; replace AA := zw AA hb; replace AB := zy AB hb; replace AC := zy AC hb; replace AD := zy AD hb; replace AE := zy AE hb; replace HB := zm (below_step zB hb); clear hb; obtain ⟨BR, BS, Bj, Bk⟩ := zc2 AE; have CP := AR.out; have Co := AP.out; have CQ := AN.out; have Cp := AM.out; obtain ⟨BT, BU, Bl, Bm⟩ := zc2 AD))
      refine bodyPost_ret (results_cell_row rfl _ _ Aa 54 #[.slice (some ⟨go53, 0, none⟩) AI.length AU, .int .i64 Ac] (0, 0) _ rfl (zput (zput (zfar (zb AD) AH) 0) 1) Try.underlying54 rfl (by kernel_rfl)) rfl ?_
      exact ⟨_, zE, zrs <| Kd.R_mono (zfr (zfr (zfq (Kd.R_types (Kd.R_types AA.out AE.out (by decide)) AD.out (by decide)) (fun _ hk => hk.1.2)))) (fun _ hk => trivial), zB⟩
     ·rw [if_neg Am] at H
      exact absurd H (by simp)
    ·rw [if_neg Al] at H
     exact absurd H (by simp)

/-! ### impl_Differ: function 58 -/
mutual
def impl_Differ.j0 : Nat → List Int → Bool → List Int → Int → List Int → Int → Option (List Int)
 | 0, _, _, _, _, _, _ => none
 | k + 1, x5, x6, x1606000, x1606001, x1607000, x1607001 => impl_Differ.l0 k x5 x6 0 x1606000 x1606001 x1607000 x1607001
def impl_Differ.l0 : Nat → List Int → Bool → Int → List Int → Int → List Int → Int → Option (List Int)
 | 0, _, _, _, _, _, _, _ => none
 | k + 1, x5, x6, x7, x1606000, x1606001, x1607000, x1607001 => if x7 < 4 then (if x6 = true then (if 0 ≤ x7 then (if x7 < (x1606000.length : Int) then (if x7 < (x1607000.length : Int) then (if (rd x1606000 x7) = (rd x1607000 x7) then (impl_Differ.l0 k x5 x6 (wrap64 (x7 + 1)) x1606000 x1606001 x1607000 x1607001) else (if x5.length < 17592186044416 then (impl_Differ.l0 k (x5 ++ [x7]) x6 (wrap64 (x7 + 1)) x1606000 x1606001 x1607000 x1607001) else (none))) else (none)) else (none)) else (none)) else (if x5.length < 17592186044416 then (impl_Differ.l0 k (x5 ++ [x7]) x6 (wrap64 (x7 + 1)) x1606000 x1606001 x1607000 x1607001) else (none))) else (some x5)
end
def impl_Differ.f (k : Nat) (l0_0 : List Int) (a0_1 : Int) (l1_0 : List Int) (a1_1 : Int) : Option (List Int) := (some (([] : List Int) : List Int)).bind fun y1607 => (if a0_1 = a1_1 then (some y1607) else (if (l0_0.length : Int) = 4 then (impl_Differ.j0 k y1607 ((l1_0.length : Int) == 4) l0_0 a0_1 l1_0 a1_1) else (impl_Differ.j0 k y1607 false l0_0 a0_1 l1_0 a1_1)))
theorem impl_Differ.mono_l : ∀ k, (∀ y0 y1 y2 y3 y4 y5, LeO (impl_Differ.j0 k y0 y1 y2 y3 y4 y5) (impl_Differ.j0 (k + 1) y0 y1 y2 y3 y4 y5)) ∧ (∀ y0 y1 y2 y3 y4 y5 y6, LeO (impl_Differ.l0 k y0 y1 y2 y3 y4 y5 y6) (impl_Differ.l0 (k + 1) y0 y1 y2 y3 y4 y5 y6))
 | 0 => ⟨fun _ _ _ _ _ _ r h => by simp [impl_Differ.j0] at h, fun _ _ _ _ _ _ _ r h => by simp [impl_Differ.l0] at h⟩
 | k + 1 => by
  obtain ⟨ih0, ih1⟩ := impl_Differ.mono_l k
  refine ⟨?_, ?_⟩
  ·intro y0 y1 y2 y3 y4 y5
   unfold impl_Differ.j0
   repeat' first | (with_reducible first | exact LeO.refl _ | exact LeO.none _ | refine LeO.ite ?_ ?_ | refine LeO.bind ?_ (fun _ => ?_) | apply ih0 | apply ih1) | apply ih0 | apply ih1 | exact LeO.none _ | refine LeO.ite ?_ ?_ | refine LeO.bind ?_ (fun _ => ?_)
  ·intro y0 y1 y2 y3 y4 y5 y6
   unfold impl_Differ.l0
   repeat' first | (with_reducible first | exact LeO.refl _ | exact LeO.none _ | refine LeO.ite ?_ ?_ | refine LeO.bind ?_ (fun _ => ?_) | apply ih0 | apply ih1) | apply ih0 | apply ih1 | exact LeO.none _ | refine LeO.ite ?_ ?_ | refine LeO.bind ?_ (fun _ => ?_)
theorem impl_Differ.mono : ∀ a0 a1 a2 a3 k, LeO (impl_Differ.f k a0 a1 a2 a3) (impl_Differ.f (k + 1) a0 a1 a2 a3) := by
 intro a0 a1 a2 a3 k; obtain ⟨ih0, ih1⟩ := impl_Differ.mono_l k
 unfold impl_Differ.f
 repeat' first | (with_reducible first | exact LeO.refl _ | exact LeO.none _ | refine LeO.ite ?_ ?_ | refine LeO.bind ?_ (fun _ => ?_) | apply ih0 | apply ih1) | apply ih0 | apply ih1 | exact LeO.none _ | refine LeO.ite ?_ ?_ | refine LeO.bind ?_ (fun _ => ?_)
set_option maxHeartbeats 8000000 in
set_option maxRecDepth 100000 in
theorem impl_Differ.calls (k : Nat) (A0_0 : Option Addr) (c0_0 : Nat) (l0_0 : List Int) (a0_1 : Int) (A1_0 : Option Addr) (c1_0 : Nat) (l1_0 : List Int) (a1_1 : Int) (r : List Int) (w : World) (hr0_0 : Kd.C (Kd.int .i64) w A0_0 l0_0.length l0_0) (hc0_0 : l0_0.length ≤ c0_0) (hr1_0 : Kd.C (Kd.int .i64) w A1_0 l1_0.length l1_0) (hc1_0 : l1_0.length ≤ c1_0) (h : impl_Differ.f k l0_0 a0_1 l1_0 a1_1 = some r) :
  Calls Try.prog 58 #[.agg #[.slice A0_0 l0_0.length c0_0, .int .i64 a0_1], .agg #[.slice A1_0 l1_0.length c1_0, .int .i64 a1_1]] w fun e w' => ∃ v0_ : Value, e = .returned (v0_) ∧ Kd.R (Kd.int .i64) 3 w' w.heap.size (fun _ => True) v0_ r ∧ Below w.heap.size w w' := by
 have hu54 := Try.underlying54; have HR0_0 := zm hr0_0; have HC0_0 := zm hc0_0; clear hr0_0 hc0_0; have HR1_0 := zm hr1_0; have HC1_0 := zm hc1_0; clear hr1_0 hc1_0; have HB := zm (Below.refl w.heap.size w); have H : ((some (([] : List Int) : List Int)).bind fun y1607 => (if a0_1 = a1_1 then (some y1607) else (if (l0_0.length : Int) = 4 then (impl_Differ.j0 k y1607 ((l1_0.length : Int) == 4) l0_0 a0_1 l1_0 a1_1) else (impl_Differ.j0 k y1607 false l0_0 a0_1 l1_0 a1_1)))) = some r := h; clear h
 obtain ⟨y1607, hy1607⟩ : ∃ y_ : List Int, y_ = (([] : List Int)) := ⟨_, rfl⟩
 replace H : (if a0_1 = a1_1 then (some y1607) else (if (l0_0.length : Int) = 4 then (impl_Differ.j0 k y1607 ((l1_0.length : Int) == 4) l0_0 a0_1 l1_0 a1_1) else (impl_Differ.j0 k y1607 false l0_0 a0_1 l1_0 a1_1))) = some r := by first | (rw [hy1607]; with_reducible exact H) | (have H2_ := (Option.bind_some _ _).symm.trans H; rw [hy1607]; with_reducible exact H2_) | (have H2_ := (Option.bind_some _ _).symm.trans H; with_reducible exact H2_) | with_reducible exact H | (rw [hy1607]; exact H) | exact H
 have Ny1607 := zm hy1607; clear hy1607
 by_cases c3 : a0_1 = a1_1
 ·rw [if_pos c3] at H; have Ap : (a0_1 == a1_1) = true := beq_iff_eq.mpr c3; have Aq : (a0_1 != a1_1) = false := bne_eq_false_iff_eq.mpr c3; clear c3; obtain rfl := Option.some.inj H; go_enter Try.func58, Try.ntmps58
  go_wp2_with (first | ((with_reducible refine gate_dst (N := 2) rfl ?_); (try (refine gate_guard (by rfl) ?_; dsimp only)); refine zbox 2 #[.slice A0_0 l0_0.length c0_0, .int .i64 a0_1] 54 ?_; intro AF hg w4 hbox hb; have AA := zm (hbox); have AM := zge w hg zB; have AK := zge w hg zB; replace HB := zm (below_step zB hb); clear hb hbox hg) | ((with_reducible refine gate_dst (N := 3) rfl ?_); (try (refine gate_guard (by rfl) ?_; dsimp only)); refine zbox 3 #[.slice A1_0 l1_0.length c1_0, .int .i64 a1_1] 54 ?_; intro AG hg w5 hbox hb; have AB := zm (hbox); have AN := zge w hg zB; have AL := zge w hg zB; replace HB := zm (below_step zB hb); have AD := zlt hg (zb AA); have AE := zgt hg (zb AA); replace AA := zy AA hb; clear hb hbox hg) | ((with_reducible refine gate_dst (N := 8) rfl ?_); (try (refine gate_guard (by rfl) ?_; dsimp only)); refine Kd.R_lit (Kd.int .i64) _ 3 ?hg (N := 8) ?hd (xs := ([] : List Int)) (inner := []) (ok := fun _ => True) (okp := fun _ => True) ?hr ?hp (fun _ hk => hk) trivial (Below.refl _ _) (Nat.le_refl _) (by simp) ?_; (case hd => rfl); (case hg => rfl); (case hr => first | (go_simp; done) | (go_simp; rfl)); (case hp => exact (Reps.none _ _)); intro v1608 w6 ho7 hb hg_ hnew_; clear hg_ hnew_; (first | rw [← Ny1607.out] at ho7 | (simp only [Int.reduceToNat] at ho7; rw [← Ny1607.out] at ho7)); have AJ := zm (Kd.R_lower ho7 (below_size zB)); replace AA := zy AA hb; replace AB := zy AB hb; replace HB := zm (below_step zB hb); clear hb ho7; have Az := AD.out; have B0 := AE.out; obtain ⟨Ak, Al, Am, An⟩ := zc2 AA; obtain ⟨Ag, Ah, Ai, Aj⟩ := zc2 AB))
  repeat (go_quiet (first | ((with_reducible refine gate_dst (N := 2) rfl ?_); (try (refine gate_guard (by rfl) ?_; dsimp only)); refine box_event ?hg (N := 2) ?hd (cs := #[.slice A0_0 l0_0.length c0_0, .int .i64 a0_1]) (t := 54) ?hr ?_; (case hd => rfl); (case hg => rfl); (case hr => first | (go_simp; done) | (go_simp; rfl)); intro AF hg w4 hbox hb; have n0_ := zm (below_step zB hb); have n1_ := zm (hbox); have n2_ := zge w hg zB; have n3_ := zge w hg zB; clear HB; have HB := n0_; have AA := n1_; have AM := n2_; have AK := n3_; clear n0_ n1_ n2_ n3_; clear hb hbox hg) | ((with_reducible refine gate_dst (N := 3) rfl ?_); (try (refine gate_guard (by rfl) ?_; dsimp only)); refine box_event ?hg (N := 3) ?hd (cs := #[.slice A1_0 l1_0.length c1_0, .int .i64 a1_1]) (t := 54) ?hr ?_; (case hd => rfl); (case hg => rfl); (case hr => first | (go_simp; done) | (go_simp; rfl)); intro AG hg w5 hbox hb; have n0_ := zm (blk_below (zb AA) hb); have n1_ := zm (below_step zB hb); have n2_ := zm (hbox); have n3_ := zge w hg zB; have n4_ := zge w hg zB; have n5_ := zlt hg (zb AA); have n6_ := zgt hg (zb AA); clear AA; clear HB; have AA := n0_; have HB := n1_; have AB := n2_; have AN := n3_; have AL := n4_; have AD := n5_; have AE := n6_; clear n0_ n1_ n2_ n3_ n4_ n5_ n6_; clear hb hbox hg) | ((with_reducible refine gate_dst (N := 8) rfl ?_); (try (refine gate_guard (by rfl) ?_; dsimp only)); refine Kd.R_lit (Kd.int .i64) _ 3 ?hg (N := 8) ?hd (xs := ([] : List Int)) (inner := []) (ok := fun _ => True) (okp := fun _ => True) ?hr ?hp (fun _ hk => hk) trivial (Below.refl _ _) (Nat.le_refl _) (by simp) ?_; (case hd => rfl); (case hg => rfl); (case hr => first | (go_simp; done) | (go_simp; rfl)); (case hp => exact (Reps.none _ _)); intro v1608 w6 ho7 hb hg_ hnew_; clear hg_ hnew_; (first | rw [← Ny1607.out] at ho7 | (simp only [Int.reduceToNat] at ho7; rw [← Ny1607.out] at ho7)); have n0_ := zm (Kd.R_lower ho7 (below_size zB)); have n1_ := zm (blk_below (zb AA) hb); have n2_ := zm (blk_below (zb AB) hb); have n3_ := zm (below_step zB hb); clear AA; clear AB; clear HB; have AJ := n0_; have AA := n1_; have AB := n2_; have HB := n3_; clear n0_ n1_ n2_ n3_; clear hb ho7; have Az := AD.out; have B0 := AE.out; have Ak : w6.cell? ⟨AF, 0, none⟩ = some (.slice A0_0 l0_0.length c0_0) := (blk_cell AA.out 0).trans rfl; have Al : w6.cell? ⟨AF, 1, none⟩ = some (.int .i64 a0_1) := (blk_cell AA.out 1).trans rfl; have Am := blk_frozen AA.out 0; have An := blk_frozen AA.out 1; have Ag : w6.cell? ⟨AG, 0, none⟩ = some (.slice A1_0 l1_0.length c1_0) := (blk_cell AB.out 0).trans rfl; have Ah : w6.cell? ⟨AG, 1, none⟩ = some (.int .i64 a1_1) := (blk_cell AB.out 1).trans rfl; have Ai := blk_frozen AB.out 0; have Aj := blk_frozen AB.out 1)); try go_wp2_with (first | ((with_reducible refine gate_dst (N := 2) rfl ?_); (try (refine gate_guard (by rfl) ?_; dsimp only)); refine box_event ?hg (N := 2) ?hd (cs := #[.slice A0_0 l0_0.length c0_0, .int .i64 a0_1]) (t := 54) ?hr ?_; (case hd => rfl); (case hg => rfl); (case hr => first | (go_simp; done) | (go_simp; rfl)); intro AF hg w4 hbox hb; have n0_ := zm (below_step zB hb); have n1_ := zm (hbox); have n2_ := zge w hg zB; have n3_ := zge w hg zB; clear HB; have HB := n0_; have AA := n1_; have AM := n2_; have AK := n3_; clear n0_ n1_ n2_ n3_; clear hb hbox hg) | ((with_reducible refine gate_dst (N := 3) rfl ?_); (try (refine gate_guard (by rfl) ?_; dsimp only)); refine box_event ?hg (N := 3) ?hd (cs := #[.slice A1_0 l1_0.length c1_0, .int .i64 a1_1]) (t := 54) ?hr ?_; (case hd => rfl); (case hg => rfl); (case hr => first | (go_simp; done) | (go_simp; rfl)); intro AG hg w5 hbox hb; have n0_ := zm (blk_below (zb AA) hb); have n1_ := zm (below_step zB hb); have n2_ := zm (hbox); have n3_ := zge w hg zB; have n4_ := zge w hg zB; have n5_ := zlt hg (zb AA); have n6_ := zgt hg (zb AA); clear AA; clear HB; have AA := n0_; have HB := n1_; have AB := n2_; have AN := n3_; have AL := n4_; have AD := n5_; have AE := n6_; clear n0_ n1_ n2_ n3_ n4_ n5_ n6_; clear hb hbox hg) | ((with_reducible refine gate_dst (N := 8) rfl ?_); (try (refine gate_guard (by rfl) ?_; dsimp only)); refine Kd.R_lit (Kd.int .i64) _ 3 ?hg (N := 8) ?hd (xs := ([] : List Int)) (inner := []) (ok := fun _ => True) (okp := fun _ => True) ?hr ?hp (fun _ hk => hk) trivial (Below.refl _ _) (Nat.le_refl _) (by simp) ?_; (case hd => rfl); (case hg => rfl); (case hr => first | (go_simp; done) | (go_simp; rfl)); (case hp => exact (Reps.none _ _)); intro v1608 w6 ho7 hb hg_ hnew_; clear hg_ hnew_; (first | rw [← Ny1607.out] at ho7 | (simp only [Int.reduceToNat] at ho7; rw [← Ny1607.out] at ho7)); have n0_ := zm (Kd.R_lower ho7 (below_size zB)); have n1_ := zm (blk_below (zb AA) hb); have n2_ := zm (blk_below (zb AB) hb); have n3_ := zm (below_step zB hb); clear AA; clear AB; clear HB; have AJ := n0_; have AA := n1_; have AB := n2_; have HB := n3_; clear n0_ n1_ n2_ n3_; clear hb ho7; have Az := AD.out; have B0 := AE.out; have Ak : w6.cell? ⟨AF, 0, none⟩ = some (.slice A0_0 l0_0.length c0_0) := (blk_cell AA.out 0).trans rfl; have Al : w6.cell? ⟨AF, 1, none⟩ = some (.int .i64 a0_1) := (blk_cell AA.out 1).trans rfl; have Am := blk_frozen AA.out 0; have An := blk_frozen AA.out 1; have Ag : w6.cell? ⟨AG, 0, none⟩ = some (.slice A1_0 l1_0.length c1_0) := (blk_cell AB.out 0).trans rfl; have Ah : w6.cell? ⟨AG, 1, none⟩ = some (.int .i64 a1_1) := (blk_cell AB.out 1).trans rfl; have Ai := blk_frozen AB.out 0; have Aj := blk_frozen AB.out 1)))
  go_ret
  exact ⟨_, zE, zr AJ, zB⟩
 ·rw [if_neg c3] at H; have Ap : (a0_1 == a1_1) = false := beq_eq_false_iff_ne.mpr c3; have Aq : (a0_1 != a1_1) = true := bne_iff_ne.mpr c3; have Ao := zm H; clear H; go_enter Try.func58, Try.ntmps58
  go_upto_region 4 with (first | ((with_reducible refine gate_dst (N := 2) rfl ?_); (try (refine gate_guard (by rfl) ?_; dsimp only)); refine zbox 2 #[.slice A0_0 l0_0.length c0_0, .int .i64 a0_1] 54 ?_; intro AF hg BD hbox hb; have AA := zm (hbox); have AM := zge w hg zB; have AK := zge w hg zB; replace HB := zm (below_step zB hb); clear hb hbox hg) | ((with_reducible refine gate_dst (N := 3) rfl ?_); (try (refine gate_guard (by rfl) ?_; dsimp only)); refine zbox 3 #[.slice A1_0 l1_0.length c1_0, .int .i64 a1_1] 54 ?_; intro AG hg BE hbox hb; have AB := zm (hbox); have AN := zge w hg zB; have AL := zge w hg zB; replace HB := zm (below_step zB hb); have AD := zlt hg (zb AA); have AE := zgt hg (zb AA); replace AA := zy AA hb; clear hb hbox hg) | ((with_reducible refine gate_dst (N := 8) rfl ?_); (try (refine gate_guard (by rfl) ?_; dsimp only)); refine Kd.R_lit (Kd.int .i64) _ 3 ?hg (N := 8) ?hd (xs := ([] : List Int)) (inner := []) (ok := fun _ => True) (okp := fun _ => True) ?hr ?hp (fun _ hk => hk) trivial (Below.refl _ _) (Nat.le_refl _) (by simp) ?_; (case hd => rfl); (case hg => rfl); (case hr => first | (go_simp; done) | (go_simp; rfl)); (case hp => exact (Reps.none _ _)); intro v1608 AW ho15 hb hg_ hnew_; clear hg_ hnew_; (first | rw [← Ny1607.out] at ho15 | (simp only [Int.reduceToNat] at ho15; rw [← Ny1607.out] at ho15)); have AJ := zm (Kd.R_lower ho15 (below_size zB)); replace AA := zy AA hb; replace AB := zy AB hb; replace HB := zm (below_step zB hb); clear hb ho15; have Ax := AD.out; have Ay := AE.out; obtain ⟨AO, AP, AS, AT⟩ := zc2 AA; obtain ⟨AQ, AR, AU, AV⟩ := zc2 AB))
  repeat (go_quiet (first | ((with_reducible refine gate_dst (N := 2) rfl ?_); (try (refine gate_guard (by rfl) ?_; dsimp only)); refine box_event ?hg (N := 2) ?hd (cs := #[.slice A0_0 l0_0.length c0_0, .int .i64 a0_1]) (t := 54) ?hr ?_; (case hd => rfl); (case hg => rfl); (case hr => first | (go_simp; done) | (go_simp; rfl)); intro AF hg BD hbox hb; have n0_ := zm (below_step zB hb); have n1_ := zm (hbox); have n2_ := zge w hg zB; have n3_ := zge w hg zB; clear HB; have HB := n0_; have AA := n1_; have AM := n2_; have AK := n3_; clear n0_ n1_ n2_ n3_; clear hb hbox hg) | ((with_reducible refine gate_dst (N := 3) rfl ?_); (try (refine gate_guard (by rfl) ?_; dsimp only)); refine box_event ?hg (N := 3) ?hd (cs := #[.slice A1_0 l1_0.length c1_0, .int .i64 a1_1]) (t := 54) ?hr ?_; (case hd => rfl); (case hg => rfl); (case hr => first | (go_simp; done) | (go_simp; rfl)); intro AG hg BE hbox hb; have n0_ := zm (blk_below (zb AA) hb); have n1_ := zm (below_step zB hb); have n2_ := zm (hbox); have n3_ := zge w hg zB; have n4_ := zge w hg zB; have n5_ := zlt hg (zb AA); have n6_ := zgt hg (zb AA); clear AA; clear HB; have AA := n0_; have HB := n1_; have AB := n2_; have AN := n3_; have AL := n4_; have AD := n5_; have AE := n6_; clear n0_ n1_ n2_ n3_ n4_ n5_ n6_; clear hb hbox hg) | ((with_reducible refine gate_dst (N := 8) rfl ?_); (try (refine gate_guard (by rfl) ?_; dsimp only)); refine Kd.R_lit (Kd.int .i64) _ 3 ?hg (N := 8) ?hd (xs := ([] : List Int)) (inner := []) (ok := fun _ => True) (okp := fun _ => True) ?hr ?hp (fun _ hk => hk) trivial (Below.refl _ _) (Nat.le_refl _) (by simp) ?_; (case hd => rfl); (case hg => rfl); (case hr => first | (go_simp; done) | (go_simp; rfl)); (case hp => exact (Reps.none _ _)); intro v1608 AW ho15 hb hg_ hnew_; clear hg_ hnew_; (first | rw [← Ny1607.out] at ho15 | (simp only [Int.reduceToNat] at ho15; rw [← Ny1607.out] at ho15)); have n0_ := zm (Kd.R_lower ho15 (below_size zB)); have n1_ := zm (blk_below (zb AA) hb); have n2_ := zm (blk_below (zb AB) hb); have n3_ := zm (below_step zB hb); clear AA; clear AB; clear HB; have AJ := n0_; have AA := n1_; have AB := n2_; have HB := n3_; clear n0_ n1_ n2_ n3_; clear hb ho15; have Ax := AD.out; have Ay := AE.out; have AO : AW.cell? ⟨AF, 0, none⟩ = some (.slice A0_0 l0_0.length c0_0) := (blk_cell AA.out 0).trans rfl; have AP : AW.cell? ⟨AF, 1, none⟩ = some (.int .i64 a0_1) := (blk_cell AA.out 1).trans rfl; have AS := blk_frozen AA.out 0; have AT := blk_frozen AA.out 1; have AQ : AW.cell? ⟨AG, 0, none⟩ = some (.slice A1_0 l1_0.length c1_0) := (blk_cell AB.out 0).trans rfl; have AR : AW.cell? ⟨AG, 1, none⟩ = some (.int .i64 a1_1) := (blk_cell AB.out 1).trans rfl; have AU := blk_frozen AB.out 0; have AV := blk_frozen AB.out 1)); go_upto_region 4 with (first | ((with_reducible refine gate_dst (N := 2) rfl ?_); (try (refine gate_guard (by rfl) ?_; dsimp only)); refine box_event ?hg (N := 2) ?hd (cs := #[.slice A0_0 l0_0.length c0_0, .int .i64 a0_1]) (t := 54) ?hr ?_; (case hd => rfl); (case hg => rfl); (case hr => first | (go_simp; done) | (go_simp; rfl)); intro AF hg BD hbox hb; have n0_ := zm (below_step zB hb); have n1_ := zm (hbox); have n2_ := zge w hg zB; have n3_ := zge w hg zB; clear HB; have HB := n0_; have AA := n1_; have AM := n2_; have AK := n3_; clear n0_ n1_ n2_ n3_; clear hb hbox hg) | ((with_reducible refine gate_dst (N := 3) rfl ?_); (try (refine gate_guard (by rfl) ?_; dsimp only)); refine box_event ?hg (N := 3) ?hd (cs := #[.slice A1_0 l1_0.length c1_0, .int .i64 a1_1]) (t := 54) ?hr ?_; (case hd => rfl); (case hg => rfl); (case hr => first | (go_simp; done) | (go_simp; rfl)); intro AG hg BE hbox hb; have n0_ := zm (blk_below (zb AA) hb); have n1_ := zm (below_step zB hb); have n2_ := zm (hbox); have n3_ := zge w hg zB; have n4_ := zge w hg zB; have n5_ := zlt hg (zb AA); have n6_ := zgt hg (zb AA); clear AA; clear HB; have AA := n0_; have HB := n1_; have AB := n2_; have AN := n3_; have AL := n4_; have AD := n5_; have AE := n6_; clear n0_ n1_ n2_ n3_ n4_ n5_ n6_; clear hb hbox hg) | ((with_reducible refine gate_dst (N := 8) rfl ?_); (try (refine gate_guard (by rfl) ?_; dsimp only)); refine Kd.R_lit (Kd.int .i64) _ 3 ?hg (N := 8) ?hd (xs := ([] : List Int)) (inner := []) (ok := fun _ => True) (okp := fun _ => True) ?hr ?hp (fun _ hk => hk) trivial (Below.refl _ _) (Nat.le_refl _) (by simp) ?_; (case hd => rfl); (case hg => rfl); (case hr => first | (go_simp; done) | (go_simp; rfl)); (case hp => exact (Reps.none _ _)); intro v1608 AW ho15 hb hg_ hnew_; clear hg_ hnew_; (first | rw [← Ny1607.out] at ho15 | (simp only [Int.reduceToNat] at ho15; rw [← Ny1607.out] at ho15)); have n0_ := zm (Kd.R_lower ho15 (below_size zB)); have n1_ := zm (blk_below (zb AA) hb); have n2_ := zm (blk_below (zb AB) hb); have n3_ := zm (below_step zB hb); clear AA; clear AB; clear HB; have AJ := n0_; have AA := n1_; have AB := n2_; have HB := n3_; clear n0_ n1_ n2_ n3_; clear hb ho15; have Ax := AD.out; have Ay := AE.out; have AO : AW.cell? ⟨AF, 0, none⟩ = some (.slice A0_0 l0_0.length c0_0) := (blk_cell AA.out 0).trans rfl; have AP : AW.cell? ⟨AF, 1, none⟩ = some (.int .i64 a0_1) := (blk_cell AA.out 1).trans rfl; have AS := blk_frozen AA.out 0; have AT := blk_frozen AA.out 1; have AQ : AW.cell? ⟨AG, 0, none⟩ = some (.slice A1_0 l1_0.length c1_0) := (blk_cell AB.out 0).trans rfl; have AR : AW.cell? ⟨AG, 1, none⟩ = some (.int .i64 a1_1) := (blk_cell AB.out 1).trans rfl; have AU := blk_frozen AB.out 0; have AV := blk_frozen AB.out 1)))
  (try simp only [Act.put, List.setIfInBounds_toArray, List.set_cons_zero, List.set_cons_succ])
  go_cut [6] (fun v6 wc => ∃ (kq : Nat) (AY : Bool), v6 = .bool AY ∧ Aside0 (impl_Differ.j0 kq y1607 AY l0_0 a0_1 l1_0 a1_1 = some r) ∧ Aside0 (kq ≤ k) ∧ Aside0 (Kd.R (Kd.int .i64) 3 wc w.heap.size (fun _ => True) v1608 y1607) ∧ Aside0 (wc.heap[AF]? = some (.cells #[(.slice A0_0 l0_0.length c0_0), .int .i64 a0_1] 54 (0, 0))) ∧ Aside0 (wc.heap[AG]? = some (.cells #[(.slice A1_0 l1_0.length c1_0), .int .i64 a1_1] 54 (0, 0))) ∧ Aside0 (Below w.heap.size w wc))
  case first =>
   have H := Ao.out; clear Ao
   by_cases Ac : (l0_0.length : Int) = 4
   ·rw [if_pos Ac] at H; have AX : ((l0_0.length : Int) == 4) = true := beq_iff_eq.mpr Ac; have B3 : ((l0_0.length : Int) != 4) = false := bne_eq_false_iff_eq.mpr Ac; clear Ac
    (first | rw [AX] | (simp only [i64_w, i32_w]; rw [AX]) | skip)
    have H' := zm H
    clear H; have Bm := AD.out; have Bq := AE.out; obtain ⟨BH, BI, BV, BW⟩ := zc2 AA; obtain ⟨BJ, BK, BX, BY⟩ := zc2 AB
    go_wp2
    repeat (go_quiet (fail); try go_wp2)
    go_meet
    case rel => exact ⟨_, (((l1_0.length : Int) == 4)), zF, H', ⟨zO⟩, ⟨zr AJ⟩, ⟨zb AA⟩, ⟨zb AB⟩, ⟨zB⟩⟩
   ·rw [if_neg Ac] at H; have AX : ((l0_0.length : Int) == 4) = false := beq_eq_false_iff_ne.mpr Ac; have B3 : ((l0_0.length : Int) != 4) = true := bne_iff_ne.mpr Ac
    (first | rw [AX] | (simp only [i64_w, i32_w]; rw [AX]) | skip)
    have H' := zm H
    clear H; have Bn := AD.out; have Br := AE.out; obtain ⟨BL, BM, BZ, Ba⟩ := zc2 AA
    go_wp2
    repeat (go_quiet (fail); try go_wp2)
    go_meet
    case rel => exact ⟨_, (false), zF, H', ⟨zO⟩, ⟨zr AJ⟩, ⟨zb AA⟩, ⟨zb AB⟩, ⟨zB⟩⟩
  case rest =>
   clear Ao; (try clear c3); (try clear Ap); (try clear Aq); (try clear AO); (try clear AP); (try clear AQ); (try clear AR); (try clear AS); (try clear AT); (try clear AU); (try clear AV); obtain ⟨kq, AY, rfl, HA, AZ, AH, AA, AB, HB⟩ := hcut
   cases kq with
   | zero => exact absurd HA.out (by simp [impl_Differ.j0])
   | succ B2 =>
    have H := HA.out; clear HA; simp only [impl_Differ.j0] at H
    have H' := zm H
    clear H
    go_wp2
    repeat (go_quiet (fail); try go_wp2)
    go_loopg [5, 7] B2 (fun kq v5 v7 w' => ∃ (AI : List Int) (AC : Int), v7 = .int .i64 AC ∧ Aside0 (impl_Differ.l0 kq AI AY AC l0_0 a0_1 l1_0 a1_1 = some r) ∧ Aside0 (kq ≤ B2) ∧ Aside0 (Kd.R (Kd.int .i64) 3 w' w.heap.size (fun _ => True) v5 AI) ∧ Aside0 (w'.heap[AF]? = some (.cells #[(.slice A0_0 l0_0.length c0_0), .int .i64 a0_1] 54 (0, 0))) ∧ Aside0 (w'.heap[AG]? = some (.cells #[(.slice A1_0 l1_0.length c1_0), .int .i64 a1_1] 54 (0, 0))) ∧ Aside0 (Below w.heap.size w w'))
    case atStart => exact ⟨(y1607), (0), zF, H', ⟨Nat.le_refl _⟩, ⟨zr AH⟩, ⟨zb AA⟩, ⟨zb AB⟩, ⟨zB⟩⟩
    case round =>
     clear H'; (try clear c3); (try clear Ap); (try clear Aq); (try clear AO); (try clear AP); (try clear AQ); (try clear AR); (try clear AS); (try clear AT); (try clear AU); (try clear AV); obtain ⟨AI, AC, rfl, HA, Ae, AH, AA, AB, HB⟩ := hrel
     cases gk with
     | zero => exact absurd HA.out (by simp [impl_Differ.l0])
     | succ k2 =>
      have H := HA.out; clear HA; simp only [impl_Differ.l0] at H
      by_cases Af : AC < 4
      ·rw [if_pos Af] at H; have BA : decide (AC < 4) = true := decide_eq_true Af; clear Af
       by_cases Ar : AY = true
       ·subst Ar; rw [if_pos rfl] at H
        by_cases As : 0 ≤ AC
        ·rw [if_pos As] at H; have Bj : decide (0 ≤ AC) = true := decide_eq_true As; clear As
         by_cases At : AC < (l0_0.length : Int)
         ·rw [if_pos At] at H; have Bk : decide (AC < (l0_0.length : Int)) = true := decide_eq_true At; clear At
          by_cases Au : AC < (l1_0.length : Int)
          ·rw [if_pos Au] at H; have Bl : decide (AC < (l1_0.length : Int)) = true := decide_eq_true Au; clear Au
           by_cases Ad : (rd l0_0 AC) = (rd l1_0 AC)
           ·rw [if_pos Ad] at H; have BB : ((rd l0_0 AC) == (rd l1_0 AC)) = true := beq_iff_eq.mpr Ad; have BC : ((rd l0_0 AC) != (rd l1_0 AC)) = false := bne_eq_false_iff_eq.mpr Ad; clear Ad
            have H' := zm H
            clear H; have Bo := AD.out; have Bs := AE.out; obtain ⟨BN, BO, Bb, Bc⟩ := zc2 AA; have p1610 : 0 ≤ (AC : Int) := zd; have q1610 : AC < (l0_0.length : Int) := zd; obtain ⟨ad1610, e1610, hx1610_0⟩ := Kd.at_int (Kd.C_below HR0_0.out HB.out) AC p1610 q1610; cases e1610; replace p1610 := eq_true p1610; replace q1610 := eq_true q1610; obtain ⟨BP, BQ, Bd, Be⟩ := zc2 AB; have p1611 : 0 ≤ (AC : Int) := zd; have q1611 : AC < (l1_0.length : Int) := zd; obtain ⟨ad1611, e1611, hx1611_0⟩ := Kd.at_int (Kd.C_below HR1_0.out HB.out) AC p1611 q1611; cases e1611; replace p1611 := eq_true p1611; replace q1611 := eq_true q1611
            go_wp2
            repeat (go_quiet (fail); try go_wp2)
            go_roundg k2
            case measure => have := AZ.out; have := Ae.out; omega
            case rel => exact ⟨(AI), (wrap64 (AC + 1)), zF, H', ⟨by have := AZ.out; have := Ae.out; omega⟩, ⟨zr AH⟩, ⟨zb AA⟩, ⟨zb AB⟩, ⟨zB⟩⟩
           ·rw [if_neg Ad] at H; have BB : ((rd l0_0 AC) == (rd l1_0 AC)) = false := beq_eq_false_iff_ne.mpr Ad; have BC : ((rd l0_0 AC) != (rd l1_0 AC)) = true := bne_iff_ne.mpr Ad
            by_cases Av : AI.length < 17592186044416
            ·rw [if_pos Av] at H; have LMc34 := zm Av; clear Av
             obtain ⟨y1612, hy1612⟩ : ∃ y_ : List Int, y_ = (AI ++ [AC]) := ⟨_, rfl⟩
             replace H : (impl_Differ.l0 k2 y1612 true (wrap64 (AC + 1)) l0_0 a0_1 l1_0 a1_1) = some r := by first | (rw [hy1612]; with_reducible exact H) | (have H2_ := (Option.bind_some _ _).symm.trans H; rw [hy1612]; with_reducible exact H2_) | (have H2_ := (Option.bind_some _ _).symm.trans H; with_reducible exact H2_) | with_reducible exact H | (rw [hy1612]; exact H) | exact H
             have Ny1612 := zm hy1612; clear hy1612
             have H' := zm H
             clear H; have Bp := AD.out; have Bt := AE.out; obtain ⟨BR, BS, Bf, Bg⟩ := zc2 AA; have p1610 : 0 ≤ (AC : Int) := zd; have q1610 : AC < (l0_0.length : Int) := zd; obtain ⟨ad1610, e1610, hx1610_0⟩ := Kd.at_int (Kd.C_below HR0_0.out HB.out) AC p1610 q1610; cases e1610; replace p1610 := eq_true p1610; replace q1610 := eq_true q1610; obtain ⟨BT, BU, Bh, Bi⟩ := zc2 AB; have p1611 : 0 ≤ (AC : Int) := zd; have q1611 : AC < (l1_0.length : Int) := zd; obtain ⟨ad1611, e1611, hx1611_0⟩ := Kd.at_int (Kd.C_below HR1_0.out HB.out) AC p1611 q1611; cases e1611; replace p1611 := eq_true p1611; replace q1611 := eq_true q1611
             go_wp2_with (first | ((with_reducible refine gate_builtin (b := .append) (xs := #[.tmp 44, .tmp 46]) rfl ?_); (try (refine gate_guard (by rfl) ?_; dsimp only)); at_builtin; refine Kd.R_append (Kd.int .i64) (w0 := w) w.heap.size rfl (.tmp 44) (.tmp 46) 52 3 (.int .i64 0) 8 rfl Try.underlying52 info3 rfl (by decide) (by omega) u5 AI AC [.int .i64 AC] (fun _ => True) (fun _ => False) rfl rfl ?aP (fun _ hk => hk.elim) ?aF ?aO ?aB ?aS ?aL ?_; (case aP => exact rfl); (case aB => exact zB); (case aF => exact (fun _ _ => trivial)); (case aO => exact (zr AH)); (case aS => exact (below_size zB)); (case aL => have := LMc34.out; omega); intro v1613 BF ho hb hg hat; rw [← Ny1612.out] at ho; replace AA := zgr hg (zb AA) (Kd.R_ne AH.out AA.out (by decide)); replace AB := zgr hg (zb AB) (Kd.R_ne AH.out AB.out (by decide)); replace HB := zm hb; have Aa := zm (ho); clear AH; clear ho hb hg hat))
             repeat (go_quiet (first | ((with_reducible refine gate_builtin (b := .append) (xs := #[.tmp 44, .tmp 46]) rfl ?_); (try (refine gate_guard (by rfl) ?_; dsimp only)); at_builtin; refine Kd.R_append (Kd.int .i64) (w0 := w) w.heap.size rfl (.tmp 44) (.tmp 46) 52 3 (.int .i64 0) 8 rfl Try.underlying52 info3 rfl (by decide) (by omega) u5 AI AC [.int .i64 AC] (fun _ => True) (fun _ => False) rfl rfl ?aP (fun _ hk => hk.elim) ?aF ?aO ?aB ?aS ?aL ?_; (case aP => exact rfl); (case aB => exact zB); (case aF => exact (fun _ _ => trivial)); (case aO => exact (zr AH)); (case aS => exact (below_size zB)); (case aL => have := LMc34.out; omega); intro v1613 BF ho hb hg hat; rw [← Ny1612.out] at ho; have n0_ := zm (blk_grown (g := AF) (o := .cells #[.slice (some ad1610) l0_0.length c0_0, .int .i64 a0_1] 54 (0, 0)) (zb AA) hg (Kd.R_ne AH.out AA.out (by decide))); have n1_ := zm (blk_grown (g := AG) (o := .cells #[.slice (some ad1611) l1_0.length c1_0, .int .i64 a1_1] 54 (0, 0)) (zb AB) hg (Kd.R_ne AH.out AB.out (by decide))); have n2_ := zm hb; have n3_ := zm (ho); clear AA; clear AB; clear HB; clear AH; have AA := n0_; have AB := n1_; have HB := n2_; have Aa := n3_; clear n0_ n1_ n2_ n3_; clear ho hb hg hat)); try go_wp2_with (first | ((with_reducible refine gate_builtin (b := .append) (xs := #[.tmp 44, .tmp 46]) rfl ?_); (try (refine gate_guard (by rfl) ?_; dsimp only)); at_builtin; refine Kd.R_append (Kd.int .i64) (w0 := w) w.heap.size rfl (.tmp 44) (.tmp 46) 52 3 (.int .i64 0) 8 rfl Try.underlying52 info3 rfl (by decide) (by omega) u5 AI AC [.int .i64 AC] (fun _ => True) (fun _ => False) rfl rfl ?aP (fun _ hk => hk.elim) ?aF ?aO ?aB ?aS ?aL ?_; (case aP => exact rfl); (case aB => exact zB); (case aF => exact (fun _ _ => trivial)); (case aO => exact (zr AH)); (case aS => exact (below_size zB)); (case aL => have := LMc34.out; omega); intro v1613 BF ho hb hg hat; rw [← Ny1612.out] at ho; have n0_ := zm (blk_grown (g := AF) (o := .cells #[.slice (some ad1610) l0_0.length c0_0, .int .i64 a0_1] 54 (0, 0)) (zb AA) hg (Kd.R_ne AH.out AA.out (by decide))); have n1_ := zm (blk_grown (g := AG) (o := .cells #[.slice (some ad1611) l1_0.length c1_0, .int .i64 a1_1] 54 (0, 0)) (zb AB) hg (Kd.R_ne AH.out AB.out (by decide))); have n2_ := zm hb; have n3_ := zm (ho); clear AA; clear AB; clear HB; clear AH; have AA := n0_; have AB := n1_; have HB := n2_; have Aa := n3_; clear n0_ n1_ n2_ n3_; clear ho hb hg hat)))
             go_roundg k2
             case measure => have := AZ.out; have := Ae.out; omega
             case rel => exact ⟨(y1612), (wrap64 (AC + 1)), zF, H', ⟨by have := AZ.out; have := Ae.out; omega⟩, ⟨zr Aa⟩, ⟨zb AA⟩, ⟨zb AB⟩, ⟨zB⟩⟩
            ·rw [if_neg Av] at H
             exact absurd H (by simp)
          ·rw [if_neg Au] at H
           exact absurd H (by simp)
         ·rw [if_neg At] at H
          exact absurd H (by simp)
        ·rw [if_neg As] at H
         exact absurd H (by simp)
       ·replace Ar := Bool.eq_false_iff.mpr Ar; subst Ar; rw [zff] at H
        by_cases Aw : AI.length < 17592186044416
        ·rw [if_pos Aw] at H; have LMc39 := zm Aw; clear Aw
         obtain ⟨y1615, hy1615⟩ : ∃ y_ : List Int, y_ = (AI ++ [AC]) := ⟨_, rfl⟩
         replace H : (impl_Differ.l0 k2 y1615 false (wrap64 (AC + 1)) l0_0 a0_1 l1_0 a1_1) = some r := by first | (rw [hy1615]; with_reducible exact H) | (have H2_ := (Option.bind_some _ _).symm.trans H; rw [hy1615]; with_reducible exact H2_) | (have H2_ := (Option.bind_some _ _).symm.trans H; with_reducible exact H2_) | with_reducible exact H | (rw [hy1615]; exact H) | exact H
         have Ny1615 := zm hy1615; clear hy1615
         have H' := zm H
         clear H
         go_wp2_with (first | ((with_reducible refine gate_builtin (b := .append) (xs := #[.tmp 44, .tmp 46]) rfl ?_); (try (refine gate_guard (by rfl) ?_; dsimp only)); at_builtin; refine Kd.R_append (Kd.int .i64) (w0 := w) w.heap.size rfl (.tmp 44) (.tmp 46) 52 3 (.int .i64 0) 8 rfl Try.underlying52 info3 rfl (by decide) (by omega) u5 AI AC [.int .i64 AC] (fun _ => True) (fun _ => False) rfl rfl ?aP (fun _ hk => hk.elim) ?aF ?aO ?aB ?aS ?aL ?_; (case aP => exact rfl); (case aB => exact zB); (case aF => exact (fun _ _ => trivial)); (case aO => exact (zr AH)); (case aS => exact (below_size zB)); (case aL => have := LMc39.out; omega); intro v1616 BG ho hb hg hat; rw [← Ny1615.out] at ho; replace AA := zgr hg (zb AA) (Kd.R_ne AH.out AA.out (by decide)); replace AB := zgr hg (zb AB) (Kd.R_ne AH.out AB.out (by decide)); replace HB := zm hb; have Ab := zm (ho); clear AH; clear ho hb hg hat))
         repeat (go_quiet (first | ((with_reducible refine gate_builtin (b := .append) (xs := #[.tmp 44, .tmp 46]) rfl ?_); (try (refine gate_guard (by rfl) ?_; dsimp only)); at_builtin; refine Kd.R_append (Kd.int .i64) (w0 := w) w.heap.size rfl (.tmp 44) (.tmp 46) 52 3 (.int .i64 0) 8 rfl Try.underlying52 info3 rfl (by decide) (by omega) u5 AI AC [.int .i64 AC] (fun _ => True) (fun _ => False) rfl rfl ?aP (fun _ hk => hk.elim) ?aF ?aO ?aB ?aS ?aL ?_; (case aP => exact rfl); (case aB => exact zB); (case aF => exact (fun _ _ => trivial)); (case aO => exact (zr AH)); (case aS => exact (below_size zB)); (case aL => have := LMc39.out; omega); intro v1616 BG ho hb hg hat; rw [← Ny1615.out] at ho; have n0_ := zm (blk_grown (g := AF) (o := .cells #[.slice A0_0 l0_0.length c0_0, .int .i64 a0_1] 54 (0, 0)) (zb AA) hg (Kd.R_ne AH.out AA.out (by decide))); have n1_ := zm (blk_grown (g := AG) (o := .cells #[.slice A1_0 l1_0.length c1_0, .int .i64 a1_1] 54 (0, 0)) (zb AB) hg (Kd.R_ne AH.out AB.out (by decide))); have n2_ := zm hb; have n3_ := zm (ho); clear AA; clear AB; clear HB; clear AH; have AA := n0_; have AB := n1_; have HB := n2_; have Ab := n3_; clear n0_ n1_ n2_ n3_; clear ho hb hg hat)); try go_wp2_with (first | ((with_reducible refine gate_builtin (b := .append) (xs := #[.tmp 44, .tmp 46]) rfl ?_); (try (refine gate_guard (by rfl) ?_; dsimp only)); at_builtin; refine Kd.R_append (Kd.int .i64) (w0 := w) w.heap.size rfl (.tmp 44) (.tmp 46) 52 3 (.int .i64 0) 8 rfl Try.underlying52 info3 rfl (by decide) (by omega) u5 AI AC [.int .i64 AC] (fun _ => True) (fun _ => False) rfl rfl ?aP (fun _ hk => hk.elim) ?aF ?aO ?aB ?aS ?aL ?_; (case aP => exact rfl); (case aB => exact zB); (case aF => exact (fun _ _ => trivial)); (case aO => exact (zr AH)); (case aS => exact (below_size zB)); (case aL => have := LMc39.out; omega); intro v1616 BG ho hb hg hat; rw [← Ny1615.out] at ho; have n0_ := zm (blk_grown (g := AF) (o := .cells #[.slice A0_0 l0_0.length c0_0, .int .i64 a0_1] 54 (0, 0)) (zb AA) hg (Kd.R_ne AH.out AA.out (by decide))); have n1_ := zm (blk_grown (g := AG) (o := .cells #[.slice A1_0 l1_0.length c1_0, .int .i64 a1_1] 54 (0, 0)) (zb AB) hg (Kd.R_ne AH.out AB.out (by decide))); have n2_ := zm hb; have n3_ := zm (ho); clear AA; clear AB; clear HB; clear AH; have AA := n0_; have AB := n1_; have HB := n2_; have Ab := n3_; clear n0_ n1_ n2_ n3_; clear ho hb hg hat)))
         go_roundg k2
         case measure => have := AZ.out; have := Ae.out; omega
         case rel => exact ⟨(y1615), (wrap64 (AC + 1)), zF, H', ⟨by have := AZ.out; have := Ae.out; omega⟩, ⟨zr Ab⟩, ⟨zb AA⟩, ⟨zb AB⟩, ⟨zB⟩⟩
        ·rw [if_neg Aw] at H
         exact absurd H (by simp)
      ·rw [if_neg Af] at H; have BA : decide (AC < 4) = false := decide_eq_false Af; clear Af; obtain rfl := Option.some.inj H
       go_wp2
       repeat (go_quiet (fail); try go_wp2)
       go_ret
       exact ⟨_, zE, zr AH, zB⟩

end Go.Proofs.Ytnmofppbijmhoaa.P
