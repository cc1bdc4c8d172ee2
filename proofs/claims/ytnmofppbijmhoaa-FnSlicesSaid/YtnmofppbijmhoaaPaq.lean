-- by a program of this session, for this seat
import Derived.Test.YtnmofppbijmhoaaZ
import Derived.Test.YtnmofppbijmhoaaP0
import Derived.Test.YtnmofppbijmhoaaPaj
import Derived.Test.YtnmofppbijmhoaaPap
import Derived.Test.YtnmofppbijmhoaaPai
namespace Go.Proofs.Ytnmofppbijmhoaa.P
open Go.RowKit Go.Proofs.YtnmofppbijmhoaaW.PrintWords Go.Proofs.YtnmofppbijmhoaaW.PrintLast Go.Proofs.YtnmofppbijmhoaaW.PrintMore Go.Proofs.Ytnmofppbijmhoaa.Z
attribute [local go_sem] max2_int min2_int max_two min_two max_three min_three max_four min_four   -- for this text's walks alone
set_option linter.unusedVariables false
set_option linter.unusedSimpArgs false

/-! ### impl_StateBytes: function 54 -/
mutual
def impl_StateBytes.l0 : Nat → List Int → List (S44) → Int → Int → List (S44) → List (S58) → Option (List Int)
 | 0, _, _, _, _, _, _ => none
 | k + 1, x3, x17, x18, x19, x752000, x752001 => if x19 < x18 then (if 0 ≤ x19 then (if x19 < (x17.length : Int) then ((impl_PutNum.f k ((rd_T44 x17 x19).f0)).bind fun t759 => ((impl_PutNum.f k ((rd_T44 x17 x19).f1.f0)).bind fun t762 => ((impl_PutNum.f k ((rd_T44 x17 x19).f1.f1)).bind fun t765 => ((impl_PutNum.f k ((rd_T44 x17 x19).f1.f2)).bind fun t768 => ((impl_PutNum.f k ((rd_T44 x17 x19).f1.f3)).bind fun t771 => ((impl_PutText.f k ((rd_T44 x17 x19).f1.f4)).bind fun t774 => ((impl_joined.f k (([x3, t759, t762, t765, t768, t771, t774] : List (List Int)))).bind fun t780 => (impl_StateBytes.l0 k t780 x17 x18 (wrap64 (x19 + 1)) x752000 x752001)))))))) else (none)) else (none)) else ((impl_PutNum.f k (x752001.length : Int)).bind fun t783 => ((impl_joined.f k (([x3, t783] : List (List Int)))).bind fun t789 => (impl_StateBytes.l1 k t789 x752001 (x752001.length : Int) 0)))
def impl_StateBytes.l1 : Nat → List Int → List (S58) → Int → Int → Option (List Int)
 | 0, _, _, _, _ => none
 | k + 1, x3, x55, x56, x57 => if x57 < x56 then (if 0 ≤ x57 then (if x57 < (x55.length : Int) then ((impl_PutNum.f k ((rd_T58 x55 x57).f0)).bind fun t794 => ((impl_PutNum.f k ((rd_T58 x55 x57).f1)).bind fun t797 => ((impl_joined.f k (([x3, t794, t797] : List (List Int)))).bind fun t803 => (impl_StateBytes.l1 k t803 x55 x56 (wrap64 (x57 + 1)))))) else (none)) else (none)) else (some x3)
end
def impl_StateBytes.f (k : Nat) (l0_0 : List (S44)) (l0_1 : List (S58)) : Option (List Int) := (impl_StateOk.f k l0_0 l0_1).bind fun t752 => (if t752 = true then ((impl_PutNum.f k (l0_0.length : Int)).bind fun t753 => (impl_StateBytes.l0 k t753 l0_0 (l0_0.length : Int) 0 l0_0 l0_1)) else (some ([] : List Int)))
theorem impl_StateBytes.mono_l : ∀ k, (∀ y0 y1 y2 y3 y4 y5, LeO (impl_StateBytes.l0 k y0 y1 y2 y3 y4 y5) (impl_StateBytes.l0 (k + 1) y0 y1 y2 y3 y4 y5)) ∧ (∀ y0 y1 y2 y3, LeO (impl_StateBytes.l1 k y0 y1 y2 y3) (impl_StateBytes.l1 (k + 1) y0 y1 y2 y3))
 | 0 => ⟨fun _ _ _ _ _ _ r h => by simp [impl_StateBytes.l0] at h, fun _ _ _ _ r h => by simp [impl_StateBytes.l1] at h⟩
 | k + 1 => by
  obtain ⟨ih0, ih1⟩ := impl_StateBytes.mono_l k
  refine ⟨?_, ?_⟩
  ·intro y0 y1 y2 y3 y4 y5
   unfold impl_StateBytes.l0
   repeat' first | (with_reducible first | exact LeO.refl _ | exact LeO.none _ | refine LeO.ite ?_ ?_ | refine LeO.bind ?_ (fun _ => ?_) | apply ih0 | apply ih1 | apply impl_PutNum.mono | apply impl_PutText.mono | apply impl_StateOk.mono | apply impl_joined.mono) | apply ih0 | apply ih1 | apply impl_PutNum.mono | apply impl_PutText.mono | apply impl_StateOk.mono | apply impl_joined.mono | exact LeO.none _ | refine LeO.ite ?_ ?_ | refine LeO.bind ?_ (fun _ => ?_)
  ·intro y0 y1 y2 y3
   unfold impl_StateBytes.l1
   repeat' first | (with_reducible first | exact LeO.refl _ | exact LeO.none _ | refine LeO.ite ?_ ?_ | refine LeO.bind ?_ (fun _ => ?_) | apply ih0 | apply ih1 | apply impl_PutNum.mono | apply impl_PutText.mono | apply impl_StateOk.mono | apply impl_joined.mono) | apply ih0 | apply ih1 | apply impl_PutNum.mono | apply impl_PutText.mono | apply impl_StateOk.mono | apply impl_joined.mono | exact LeO.none _ | refine LeO.ite ?_ ?_ | refine LeO.bind ?_ (fun _ => ?_)
theorem impl_StateBytes.mono : ∀ a0 a1 k, LeO (impl_StateBytes.f k a0 a1) (impl_StateBytes.f (k + 1) a0 a1) := by
 intro a0 a1 k; obtain ⟨ih0, ih1⟩ := impl_StateBytes.mono_l k
 unfold impl_StateBytes.f
 repeat' first | (with_reducible first | exact LeO.refl _ | exact LeO.none _ | refine LeO.ite ?_ ?_ | refine LeO.bind ?_ (fun _ => ?_) | apply ih0 | apply ih1 | apply impl_PutNum.mono | apply impl_PutText.mono | apply impl_StateOk.mono | apply impl_joined.mono) | apply ih0 | apply ih1 | apply impl_PutNum.mono | apply impl_PutText.mono | apply impl_StateOk.mono | apply impl_joined.mono | exact LeO.none _ | refine LeO.ite ?_ ?_ | refine LeO.bind ?_ (fun _ => ?_)
def impl_StateBytes.T8 : Bool × List (List Nat × List Nat) := (true, [([], []), ([], []), ([1], [1]), ([2], [2]), ([], []), ([4], [4]), ([5, 3], [5]), ([], []), ([7], [7]), ([8, 6], [8]), ([], []), ([10], [10]), ([11, 9], [11]), ([], []), ([13], [13]), ([14, 12], [14]), ([], []), ([16], [16]), ([17, 15], [17]), ([0, 3, 6, 9, 12, 15, 18], [0, 3, 6, 9, 12, 15, 18]), ([19, 18], [19]), ([20, 20, 0, 1, 2, 3, 4, 5, 6, 7, 8, 9, 10, 11, 12, 13, 14, 15, 16, 17, 18, 19, 20], [0, 20])])
def impl_StateBytes.B8 : List Nat := [0, 0, 2, 6, 0, 16, 62, 0, 128, 510, 0, 1024, 4094, 0, 8192, 32766, 0, 65536, 262142, 524287, 1048575, 2097151]
theorem impl_StateBytes.tab8 : rtab .any (opsOf Try.f54 8) = impl_StateBytes.T8 := by kernel_rfl
theorem impl_StateBytes.bits8 : waitsOk impl_StateBytes.T8.2 impl_StateBytes.B8 = true := by kernel_rfl
def impl_StateBytes.T14 : Bool × List (List Nat × List Nat) := (true, [([], []), ([], []), ([1], [1]), ([2], [2]), ([], []), ([4], [4]), ([5, 3], [5]), ([0, 3, 6], [0, 3, 6]), ([7, 6], [7]), ([8, 8, 0, 1, 2, 3, 4, 5, 6, 7, 8], [0, 8])])
def impl_StateBytes.B14 : List Nat := [0, 0, 2, 6, 0, 16, 62, 127, 255, 511]
theorem impl_StateBytes.tab14 : rtab .any (opsOf Try.f54 14) = impl_StateBytes.T14 := by kernel_rfl
theorem impl_StateBytes.bits14 : waitsOk impl_StateBytes.T14.2 impl_StateBytes.B14 = true := by kernel_rfl
set_option maxHeartbeats 8000000 in
set_option maxRecDepth 100000 in
theorem impl_StateBytes.calls (k : Nat) (A0_0 : Option Addr) (c0_0 : Nat) (l0_0 : List (S44)) (A0_1 : Option Addr) (c0_1 : Nat) (l0_1 : List (S58)) (r : List Int) (w : World) (hr0_0 : Kd.C k44 w A0_0 l0_0.length l0_0) (hc0_0 : l0_0.length ≤ c0_0) (hr0_1 : Kd.C k58 w A0_1 l0_1.length l0_1) (hc0_1 : l0_1.length ≤ c0_1) (h : impl_StateBytes.f k l0_0 l0_1 = some r) :
  Calls Try.prog 54 #[.agg #[.slice A0_0 l0_0.length c0_0, .slice A0_1 l0_1.length c0_1]] w fun e w' => ∃ v0_ : Value, e = .returned (v0_) ∧ Kd.R (Kd.int .u8) 5 w' w.heap.size (fun _ => True) v0_ r ∧ Below w.heap.size w w' := by
 have hu27 := Try.underlying27; have hu44 := Try.underlying44; have hu36 := Try.underlying36; have hu58 := Try.underlying58; have HR0_0 := zm hr0_0; have HC0_0 := zm hc0_0; clear hr0_0 hc0_0; have HR0_1 := zm hr0_1; have HC0_1 := zm hc0_1; clear hr0_1 hc0_1; have HB := zm (Below.refl w.heap.size w); have H : ((impl_StateOk.f k l0_0 l0_1).bind fun Ay => (if Ay = true then ((impl_PutNum.f k (l0_0.length : Int)).bind fun Ap => (impl_StateBytes.l0 k Ap l0_0 (l0_0.length : Int) 0 l0_0 l0_1)) else (some ([] : List Int)))) = some r := h; clear h; replace H := Option.bind_eq_some_iff.mp H; obtain ⟨Ay, Az, H⟩ := H; (try dsimp only at H); have A2 := zm Az; clear Az
 by_cases c3 : Ay = true
 ·subst c3; rw [if_pos rfl] at H; replace H := Option.bind_eq_some_iff.mp H; obtain ⟨Ap, CE, H⟩ := H; (try dsimp only at H); have A4 := zm CE; clear CE
  have H' := zm H
  clear H; go_enter Try.func54, Try.ntmps54
  go_wp2_with (first | ((with_reducible refine gate_dst (N := 1) rfl ?_); refine zbox 1 #[.slice A0_0 l0_0.length c0_0, .slice A0_1 l0_1.length c0_1] 27 ?_; intro AD hg w5 hbox hb; have AA := zm (hbox); have C8 := zge w hg zB; have C7 := zge w hg zB; replace HB := zm (below_step zB hb); clear hb hbox hg; obtain ⟨Bz, C0, C3, C4⟩ := zc2 AA) | ((with_reducible refine gate_callee (f := 27) rfl ?_); refine zg (some 10) #[.agg #[.slice A0_0 l0_0.length c0_0, .slice A0_1 l0_1.length c0_1]] Try.func27 ?_; (with_reducible refine (impl_StateOk.calls k _ _ l0_0 _ _ l0_1 true _ (zk (Kd.C_below HR0_0.out HB.out)) HC0_0.out (zk (Kd.C_below HR0_1.out HB.out)) HC0_1.out A2.out).mono ?_); rintro e w7 ⟨rfl, hb⟩; refine ⟨_, rfl, ?_⟩; replace AA := zy AA hb; replace HB := zm (below_step zB hb); clear hb; obtain ⟨C1, C2, C5, C6⟩ := zc2 AA) | ((with_reducible refine gate_callee (f := 80) rfl ?_); refine zg (some 15) #[.int .i64 (l0_0.length : Int)] Try.func80 ?_; (with_reducible refine (impl_PutNum.calls k (l0_0.length : Int) Ap _ A4.out).mono ?_); rintro e w9 ⟨v754, rfl, ho0, hb⟩; refine ⟨_, rfl, ?_⟩; have C9 := zm (Kd.R_lower ho0 (below_size zB)); replace AA := zy AA hb; replace HB := zm (below_step zB hb); clear hb ho0; obtain ⟨BD, BE, BJ, BK⟩ := zc2 AA))
  go_loopg [3, 19] k (fun kq v3 v19 w' => ∃ (AR : List Int) (AB : Int), v19 = .int .i64 AB ∧ Aside0 (impl_StateBytes.l0 kq AR l0_0 (l0_0.length : Int) AB l0_0 l0_1 = some r) ∧ Aside0 (kq ≤ k) ∧ Aside0 (Kd.R (Kd.int .u8) 5 w' w.heap.size (fun _ => True) v3 AR) ∧ Aside0 (w'.heap[AD]? = some (.cells #[(.slice A0_0 l0_0.length c0_0), (.slice A0_1 l0_1.length c0_1)] 27 (0, 0))) ∧ Aside0 (Below w.heap.size w w'))
  case atStart => exact ⟨(Ap), (0), zF, H', ⟨Nat.le_refl _⟩, ⟨zr C9⟩, ⟨zb AA⟩, ⟨zB⟩⟩
  case round =>
   clear H'; (try clear c3); (try clear BD); (try clear BE); (try clear Bz); (try clear C0); (try clear C1); (try clear C2); (try clear BJ); (try clear BK); (try clear C3); (try clear C4); (try clear C5); (try clear C6); obtain ⟨AR, AB, rfl, HA, B0, AC, AA, HB⟩ := hrel
   cases gk with
   | zero => exact absurd HA.out (by simp [impl_StateBytes.l0])
   | succ k1 =>
    have H := HA.out; clear HA; simp only [impl_StateBytes.l0] at H
    by_cases Am : AB < (l0_0.length : Int)
    ·rw [if_pos Am] at H; have B2 : decide (AB < (l0_0.length : Int)) = true := decide_eq_true Am; clear Am
     by_cases B3 : 0 ≤ AB
     ·rw [if_pos B3] at H; have DC : decide (0 ≤ AB) = true := decide_eq_true B3; clear B3
      by_cases BA : AB < (l0_0.length : Int)
      ·rw [if_pos BA] at H; have DD : decide (AB < (l0_0.length : Int)) = true := decide_eq_true BA; clear BA; replace H := Option.bind_eq_some_iff.mp H; obtain ⟨Aa, BP, H⟩ := H; (try dsimp only at H); have Cq := zm BP; clear BP; replace H := Option.bind_eq_some_iff.mp H; obtain ⟨Ab, BQ, H⟩ := H; (try dsimp only at H); have Cr := zm BQ; clear BQ; replace H := Option.bind_eq_some_iff.mp H; obtain ⟨Ac, BR, H⟩ := H; (try dsimp only at H); have Cs := zm BR; clear BR; replace H := Option.bind_eq_some_iff.mp H; obtain ⟨Ad, BS, H⟩ := H; (try dsimp only at H); have Ct := zm BS; clear BS; replace H := Option.bind_eq_some_iff.mp H; obtain ⟨Ae, BT, H⟩ := H; (try dsimp only at H); have Cu := zm BT; clear BT; replace H := Option.bind_eq_some_iff.mp H; obtain ⟨Af, BU, H⟩ := H; (try dsimp only at H); have Cv := zm BU; clear BU
       obtain ⟨y777, hy777⟩ : ∃ y_ : List (List Int), y_ = (([AR, Aa, Ab, Ac, Ad, Ae, Af] : List (List Int))) := ⟨_, rfl⟩
       replace H : ((impl_joined.f k1 y777).bind fun Aq => (impl_StateBytes.l0 k1 Aq l0_0 (l0_0.length : Int) (wrap64 (AB + 1)) l0_0 l0_1)) = some r := by first | (rw [hy777]; with_reducible exact H) | (have H2_ := (Option.bind_some _ _).symm.trans H; rw [hy777]; with_reducible exact H2_) | (have H2_ := (Option.bind_some _ _).symm.trans H; with_reducible exact H2_) | with_reducible exact H | (rw [hy777]; exact H) | exact H
       have Ny777 := zm hy777; clear hy777; replace H := Option.bind_eq_some_iff.mp H; obtain ⟨Aq, BV, H⟩ := H; (try dsimp only at H); have Az := zm BV; clear BV
       have H' := zm H
       clear H; have p756 : 0 ≤ (AB : Int) := zd; have q756 : AB < (l0_0.length : Int) := zd; obtain ⟨ad756, e756, hx756_0, hx756_1, hx756_2, hx756_3, hx756_4, hx756_5⟩ := at_T44 (Kd.C_below HR0_0.out HB.out) AB p756 q756; cases e756; replace p756 := eq_true p756; replace q756 := eq_true q756
       try go_wp2_with (first | ((with_reducible refine gate_dst (N := 5) rfl ?_); refine zbox 5 #[.int .i64 0, .int .i64 0, .int .i64 0, .int .i64 0, .int .i64 0, .string (⟨#[]⟩ : ByteArray)] 44 ?_; intro AI hg DO hbox hb; replace AC := zw AC hb; have AE := zm (hbox); have D9 := zge w hg zB; have D6 := zge w hg zB; replace HB := zm (below_step zB hb); have AG := zlt hg (zb AA); have At := zgt hg (zb AA); replace AA := zy AA hb; clear hb hbox hg; have DG := At.out; have DK := AG.out; obtain ⟨CM, CN, CO, CP, CQ, CR, Cb, Cc, Cd, Ce, Cf, Cg⟩ := zc6 AE) | ((with_reducible refine gate_dst (N := 6) rfl ?_); refine zbox 6 #[.int .i64 0, .int .i64 0, .int .i64 0, .int .i64 0, .string (⟨#[]⟩ : ByteArray)] 36 ?_; intro AH hg D1 hbox hb; replace AC := zm (Kd.R_below (zrs <| (Kd.R_mono (zfr (zfr (zfr (zfr (zfr (zfr (Kd.R_types AC.out AE.out (by decide)))))))) (fun _ h_ => h_.1))) hb); have AF := zm (hbox); have DA := zge w hg zB; have D7 := zge w hg zB; replace HB := zm (below_step zB hb); have AP := zm ((by rw [hg]; exact Nat.ne_of_lt (blk_lt (g := AD) (o := .cells #[.slice (some ad756) l0_0.length c0_0, .slice A0_1 l0_1.length c0_1] 27 (0, 0)) (zfar (zfar (zfar (zfar (zfar (zfar (zb AA) AG) AG) AG) AG) AG) AG)) : AD ≠ AH)); have Au := zm ((by rw [hg]; exact Nat.ne_of_gt (blk_lt (g := AD) (o := .cells #[.slice (some ad756) l0_0.length c0_0, .slice A0_1 l0_1.length c0_1] 27 (0, 0)) (zfar (zfar (zfar (zfar (zfar (zfar (zb AA) AG) AG) AG) AG) AG) AG)) : AH ≠ AD)); replace AA := zyb hb (zfar (zfar (zfar (zfar (zfar (zfar (zb AA) AG) AG) AG) AG) AG) AG); have AQ := zm ((by rw [hg]; exact Nat.ne_of_lt (blk_lt (g := AI) (o := .cells #[.int .i64 ((rd_T44 l0_0 AB).f0), .int .i64 ((rd_T44 l0_0 AB).f1.f0), .int .i64 ((rd_T44 l0_0 AB).f1.f1), .int .i64 ((rd_T44 l0_0 AB).f1.f2), .int .i64 ((rd_T44 l0_0 AB).f1.f3), .string ((rd_T44 l0_0 AB).f1.f4)] 44 (0, 0)) (zput (zput (zput (zput (zput (zput (zb AE) 0) 1) 2) 3) 4) 5)) : AI ≠ AH)); have Av := zm ((by rw [hg]; exact Nat.ne_of_gt (blk_lt (g := AI) (o := .cells #[.int .i64 ((rd_T44 l0_0 AB).f0), .int .i64 ((rd_T44 l0_0 AB).f1.f0), .int .i64 ((rd_T44 l0_0 AB).f1.f1), .int .i64 ((rd_T44 l0_0 AB).f1.f2), .int .i64 ((rd_T44 l0_0 AB).f1.f3), .string ((rd_T44 l0_0 AB).f1.f4)] 44 (0, 0)) (zput (zput (zput (zput (zput (zput (zb AE) 0) 1) 2) 3) 4) 5)) : AH ≠ AI)); replace AE := zm (blk_below (g := AI) (o := .cells #[.int .i64 ((rd_T44 l0_0 AB).f0), .int .i64 ((rd_T44 l0_0 AB).f1.f0), .int .i64 ((rd_T44 l0_0 AB).f1.f1), .int .i64 ((rd_T44 l0_0 AB).f1.f2), .int .i64 ((rd_T44 l0_0 AB).f1.f3), .string ((rd_T44 l0_0 AB).f1.f4)] 44 (0, 0)) (zput (zput (zput (zput (zput (zput (zb AE) 0) 1) 2) 3) 4) 5) hb); clear hb hbox hg; have DH := Au.out; have DL := AP.out; have DI := Av.out; have DM := AQ.out; obtain ⟨CS, CT, CU, CV, CW, Ch, Ci, Cj, Ck, Cl⟩ := zc5 AF))
       obtain ⟨Ao, hW_⟩ : ∃ q, q = (((((D1.setCell ⟨AH, 0, none⟩ (.int .i64 ((rd_T44 l0_0 AB).f1.f0))).setCell ⟨AH, 1, none⟩ (.int .i64 ((rd_T44 l0_0 AB).f1.f1))).setCell ⟨AH, 2, none⟩ (.int .i64 ((rd_T44 l0_0 AB).f1.f2))).setCell ⟨AH, 3, none⟩ (.int .i64 ((rd_T44 l0_0 AB).f1.f3))).setCell ⟨AH, 4, none⟩ (.string ((rd_T44 l0_0 AB).f1.f4))) := ⟨_, rfl⟩
       have n0_ : Aside0 (Kd.R (Kd.int .u8) 5 Ao w.heap.size (fun _ => True) u3 AR) := ⟨by rw [hW_]; exact zrs <| Kd.R_mono (zfr (zfr (zfr (zfr (zfr (Kd.R_types AC.out AF.out (by decide))))))) (fun _ hk => trivial)⟩; have n1_ : Aside0 (Ao.heap[AD]? = some (.cells #[.slice (some ad756) l0_0.length c0_0, .slice A0_1 l0_1.length c0_1] 27 (0, 0))) := ⟨by rw [hW_]; exact zfar (zfar (zfar (zfar (zfar (zb AA) AP) AP) AP) AP) AP⟩; have n2_ : Aside0 (Ao.heap[AI]? = some (.cells #[.int .i64 ((rd_T44 l0_0 AB).f0), .int .i64 ((rd_T44 l0_0 AB).f1.f0), .int .i64 ((rd_T44 l0_0 AB).f1.f1), .int .i64 ((rd_T44 l0_0 AB).f1.f2), .int .i64 ((rd_T44 l0_0 AB).f1.f3), .string ((rd_T44 l0_0 AB).f1.f4)] 44 (0, 0))) := ⟨by rw [hW_]; exact zfar (zfar (zfar (zfar (zfar (zb AE) AQ) AQ) AQ) AQ) AQ⟩; have n3_ : Aside0 (Ao.heap[AH]? = some (.cells #[.int .i64 ((rd_T44 l0_0 AB).f1.f0), .int .i64 ((rd_T44 l0_0 AB).f1.f1), .int .i64 ((rd_T44 l0_0 AB).f1.f2), .int .i64 ((rd_T44 l0_0 AB).f1.f3), .string ((rd_T44 l0_0 AB).f1.f4)] 36 (0, 0))) := ⟨by rw [hW_]; exact zput (zput (zput (zput (zput (zb AF) 0) 1) 2) 3) 4⟩; have n4_ : Aside0 (Below w.heap.size w Ao) := ⟨by rw [hW_]; exact zB⟩
       rw [← hW_]
       clear hW_; (try clear AC); (try clear AA); (try clear AE); (try clear AF); (try clear HB); have AC := n0_; have AA := n1_; have AE := n2_; have AF := n3_; have HB := n4_; clear n0_ n1_ n2_ n3_ n4_; replace AC := zm (Kd.R_drew AC.out); replace AA := zq AA; replace AE := zq AE; replace AF := zq AF; replace HB := zm (below_drew1 HB.out)
       refine start_ (n := 22) (S := fun w' => w'.cell? ⟨AI, 0, none⟩ = some (.int .i64 ((rd_T44 l0_0 AB).f0)) ∧ w'.cell? ⟨AI, 1, none⟩ = some (.int .i64 ((rd_T44 l0_0 AB).f1.f0)) ∧ w'.cell? ⟨AI, 2, none⟩ = some (.int .i64 ((rd_T44 l0_0 AB).f1.f1)) ∧ w'.cell? ⟨AI, 3, none⟩ = some (.int .i64 ((rd_T44 l0_0 AB).f1.f2)) ∧ w'.cell? ⟨AI, 4, none⟩ = some (.int .i64 ((rd_T44 l0_0 AB).f1.f3)) ∧ w'.cell? ⟨AI, 5, none⟩ = some (.string ((rd_T44 l0_0 AB).f1.f4)) ∧ w'.cell? ⟨AH, 0, none⟩ = some (.int .i64 ((rd_T44 l0_0 AB).f1.f0)) ∧ w'.cell? ⟨AH, 1, none⟩ = some (.int .i64 ((rd_T44 l0_0 AB).f1.f1)) ∧ w'.cell? ⟨AH, 2, none⟩ = some (.int .i64 ((rd_T44 l0_0 AB).f1.f2)) ∧ w'.cell? ⟨AH, 3, none⟩ = some (.int .i64 ((rd_T44 l0_0 AB).f1.f3)) ∧ w'.cell? ⟨AH, 4, none⟩ = some (.string ((rd_T44 l0_0 AB).f1.f4))) (ds := []) (zl 22 0) (by kernel_rfl) rfl rfl zS (fun hHeld => ?_); refine with_tabW impl_StateBytes.tab8 impl_StateBytes.bits8 (fun HT_ HW_ => ?_)
       generalize Ao.drew = DP at AC AA AE AF HB hHeld ⊢
       refine zu 0 25 22 1 ?_
       refine zu 1 26 22 3 ?_
       refine zu 4 29 22 19 ?_
       refine zu 7 32 22 147 ?_
       refine zu 10 35 22 1171 ?_
       refine zu 13 38 22 9363 ?_
       refine zu 16 41 22 74899 ?_
       refine zv 2 27 22 74903 ?_
       refine zv 5 30 22 74935 ?_
       refine zv 8 33 22 75191 ?_
       refine zv 11 36 22 77239 ?_
       refine zv 14 39 22 93623 ?_
       refine zv 17 42 22 224695 ?_
       refine zo 3 (some 28) (zl 22 224703) (fun K hK => ?_); refine zgo #[.int .i64 ((rd_T44 l0_0 AB).f0)] Try.func80 ?_; (with_reducible refine (impl_PutNum.calls k1 ((rd_T44 l0_0 AB).f0) Aa _ Cq.out).mono ?_); rintro e DQ ⟨v760, rfl, ho0, hb⟩; refine ⟨_, rfl, ?_⟩; have AL := zm (Kd.R_lower (Kd.R_new' ho0 (Kd.R_lt (zr AC))) (below_size zB)); replace AC := zm (Kd.R_elder' (zr AC) (Kd.R_base ho0) hb); replace AA := zy AA hb; replace AE := zy AE hb; replace AF := zy AF hb; replace HB := zm (below_step zB hb); (try clear hb); (try clear hk); (try clear ho0); refine hK.out _ _ zS (fun hHeld => ?_); clear hK K; refine zn ?_; refine zo 6 (some 31) (zl 22 224767) (fun K hK => ?_); refine zgo #[.int .i64 ((rd_T44 l0_0 AB).f1.f0)] Try.func80 ?_; (with_reducible refine (impl_PutNum.calls k1 ((rd_T44 l0_0 AB).f1.f0) Ab _ Cr.out).mono ?_); rintro e DR ⟨v763, rfl, ho0, hb⟩; refine ⟨_, rfl, ?_⟩; have AM := zm (Kd.R_lower (Kd.R_new' (Kd.R_new' ho0 (Kd.R_lt (zr AC))) (Kd.R_lt (zr AL))) (below_size zB)); replace AC := zm (Kd.R_elder' (zr AC) (Kd.R_base ho0) hb); replace AL := zm (Kd.R_elder' (zr AL) (Kd.R_base ho0) hb); replace AA := zy AA hb; replace AE := zy AE hb; replace AF := zy AF hb; replace HB := zm (below_step zB hb); (try clear hb); (try clear hk); (try clear ho0); refine hK.out _ _ zS (fun hHeld => ?_); clear hK K; refine zn ?_; refine zo 9 (some 34) (zl 22 225279) (fun K hK => ?_); refine zgo #[.int .i64 ((rd_T44 l0_0 AB).f1.f1)] Try.func80 ?_
       (with_reducible refine (impl_PutNum.calls k1 ((rd_T44 l0_0 AB).f1.f1) Ac _ Cs.out).mono ?_); rintro e DS ⟨v766, rfl, ho0, hb⟩; refine ⟨_, rfl, ?_⟩; have AO := zm (Kd.R_lower (Kd.R_new' (Kd.R_new' (Kd.R_new' ho0 (Kd.R_lt (zr AC))) (Kd.R_lt (zr AL))) (Kd.R_lt (zr AM))) (below_size zB)); replace AC := zm (Kd.R_elder' (zr AC) (Kd.R_base ho0) hb); replace AL := zm (Kd.R_elder' (zr AL) (Kd.R_base ho0) hb); replace AM := zm (Kd.R_elder' (zr AM) (Kd.R_base ho0) hb); replace AA := zy AA hb; replace AE := zy AE hb; replace AF := zy AF hb; replace HB := zm (below_step zB hb); (try clear hb); (try clear hk); (try clear ho0); refine hK.out _ _ zS (fun hHeld => ?_); clear hK K; refine zn ?_; refine zo 12 (some 37) (zl 22 229375) (fun K hK => ?_); refine zgo #[.int .i64 ((rd_T44 l0_0 AB).f1.f2)] Try.func80 ?_; (with_reducible refine (impl_PutNum.calls k1 ((rd_T44 l0_0 AB).f1.f2) Ad _ Ct.out).mono ?_); rintro e DT ⟨v769, rfl, ho0, hb⟩; refine ⟨_, rfl, ?_⟩; have AS := zm (Kd.R_lower (Kd.R_new' (Kd.R_new' (Kd.R_new' (Kd.R_new' ho0 (Kd.R_lt (zr AC))) (Kd.R_lt (zr AL))) (Kd.R_lt (zr AM))) (Kd.R_lt (zr AO))) (below_size zB)); replace AC := zm (Kd.R_elder' (zr AC) (Kd.R_base ho0) hb); replace AL := zm (Kd.R_elder' (zr AL) (Kd.R_base ho0) hb); replace AM := zm (Kd.R_elder' (zr AM) (Kd.R_base ho0) hb); replace AO := zm (Kd.R_elder' (zr AO) (Kd.R_base ho0) hb); replace AA := zy AA hb; replace AE := zy AE hb
       replace AF := zy AF hb; replace HB := zm (below_step zB hb); (try clear hb); (try clear hk); (try clear ho0); refine hK.out _ _ zS (fun hHeld => ?_); clear hK K; refine zn ?_; refine zo 15 (some 40) (zl 22 262143) (fun K hK => ?_); refine zgo #[.int .i64 ((rd_T44 l0_0 AB).f1.f3)] Try.func80 ?_; (with_reducible refine (impl_PutNum.calls k1 ((rd_T44 l0_0 AB).f1.f3) Ae _ Cu.out).mono ?_); rintro e DU ⟨v772, rfl, ho0, hb⟩; refine ⟨_, rfl, ?_⟩; have AT := zm (Kd.R_lower (Kd.R_new' (Kd.R_new' (Kd.R_new' (Kd.R_new' (Kd.R_new' ho0 (Kd.R_lt (zr AC))) (Kd.R_lt (zr AL))) (Kd.R_lt (zr AM))) (Kd.R_lt (zr AO))) (Kd.R_lt (zr AS))) (below_size zB)); replace AC := zm (Kd.R_elder' (zr AC) (Kd.R_base ho0) hb); replace AL := zm (Kd.R_elder' (zr AL) (Kd.R_base ho0) hb); replace AM := zm (Kd.R_elder' (zr AM) (Kd.R_base ho0) hb); replace AO := zm (Kd.R_elder' (zr AO) (Kd.R_base ho0) hb); replace AS := zm (Kd.R_elder' (zr AS) (Kd.R_base ho0) hb); replace AA := zy AA hb; replace AE := zy AE hb; replace AF := zy AF hb; replace HB := zm (below_step zB hb); (try clear hb); (try clear hk); (try clear ho0); refine hK.out _ _ zS (fun hHeld => ?_); clear hK K; refine zn ?_; refine zo 18 (some 43) (zl 22 524287) (fun K hK => ?_); refine zgo #[.string ((rd_T44 l0_0 AB).f1.f4)] Try.func96 ?_; (with_reducible refine (impl_PutText.calls k1 ((rd_T44 l0_0 AB).f1.f4) Af _ Cv.out).mono ?_); rintro e D2 ⟨v775, rfl, ho0, hb⟩; refine ⟨_, rfl, ?_⟩
       have Aj := zm (Kd.R_lower (Kd.R_new' (Kd.R_new' (Kd.R_new' (Kd.R_new' (Kd.R_new' (Kd.R_new' ho0 (Kd.R_lt (zr AC))) (Kd.R_lt (zr AL))) (Kd.R_lt (zr AM))) (Kd.R_lt (zr AO))) (Kd.R_lt (zr AS))) (Kd.R_lt (zr AT))) (below_size zB)); replace AC := zm (Kd.R_elder' (zr AC) (Kd.R_base ho0) hb); replace AL := zm (Kd.R_elder' (zr AL) (Kd.R_base ho0) hb); replace AM := zm (Kd.R_elder' (zr AM) (Kd.R_base ho0) hb); replace AO := zm (Kd.R_elder' (zr AO) (Kd.R_base ho0) hb); replace AS := zm (Kd.R_elder' (zr AS) (Kd.R_base ho0) hb); replace AT := zm (Kd.R_elder' (zr AT) (Kd.R_base ho0) hb); replace AA := zy AA hb; replace AE := zy AE hb; replace AF := zy AF hb; replace HB := zm (below_step zB hb); (try clear hb); (try clear hk); (try clear ho0); obtain ⟨Bb, Bn, eo36⟩ := Kd.R_slice AC.out
       (first | subst eo36 | (injection eo36 with f1_ f2_ f3_; have f4_ := f1_.symm; have f5_ := f3_.symm; clear f1_ f2_ f3_; subst f4_; subst f5_))
       obtain ⟨Bc, Bo, eo37⟩ := Kd.R_slice AL.out
       (first | subst eo37 | (injection eo37 with f1_ f2_ f3_; have f4_ := f1_.symm; have f5_ := f3_.symm; clear f1_ f2_ f3_; subst f4_; subst f5_))
       obtain ⟨Bd, Bp, eo38⟩ := Kd.R_slice AM.out
       (first | subst eo38 | (injection eo38 with f1_ f2_ f3_; have f4_ := f1_.symm; have f5_ := f3_.symm; clear f1_ f2_ f3_; subst f4_; subst f5_))
       obtain ⟨Be, Bq, eo39⟩ := Kd.R_slice AO.out
       (first | subst eo39 | (injection eo39 with f1_ f2_ f3_; have f4_ := f1_.symm; have f5_ := f3_.symm; clear f1_ f2_ f3_; subst f4_; subst f5_))
       obtain ⟨Bf, Br, eo40⟩ := Kd.R_slice AS.out
       (first | subst eo40 | (injection eo40 with f1_ f2_ f3_; have f4_ := f1_.symm; have f5_ := f3_.symm; clear f1_ f2_ f3_; subst f4_; subst f5_))
       obtain ⟨Bg, Bs, eo41⟩ := Kd.R_slice AT.out
       (first | subst eo41 | (injection eo41 with f1_ f2_ f3_; have f4_ := f1_.symm; have f5_ := f3_.symm; clear f1_ f2_ f3_; subst f4_; subst f5_))
       obtain ⟨Bh, Bt, eo42⟩ := Kd.R_slice Aj.out
       (first | subst eo42 | (injection eo42 with f1_ f2_ f3_; have f4_ := f1_.symm; have f5_ := f3_.symm; clear f1_ f2_ f3_; subst f4_; subst f5_))
       refine hK.out _ _ zS (fun hHeld => ?_); clear hK K; refine zn ?_; refine zo 19 (some 44) (zl 22 1048575) (fun K hK => ?_)
       refine Kd.N_lit_step (Kd.slice 5 (Kd.int .u8)) _ 22 ?hg (N' := 44) ?hd (xs := ([AR, Aa, Ab, Ac, Ad, Ae, Af] : List (List Int))) (inner := [.slice Bb AR.length Bn, .slice Bc Aa.length Bo, .slice Bd Ab.length Bp, .slice Be Ac.length Bq, .slice Bf Ad.length Br, .slice Bg Ae.length Bs, .slice Bh Af.length Bt]) (ok := (fun k_ => k_ ≠ AD ∧ k_ ≠ AI ∧ k_ ≠ AH)) (okp := (fun k_ => k_ ≠ AD ∧ k_ ≠ AI ∧ k_ ≠ AH)) ?hr ?hp (fun _ hk => hk) ((show ∀ k_, D2.heap.size ≤ k_ → (fun k_ => k_ ≠ AD ∧ k_ ≠ AI ∧ k_ ≠ AH) k_ from fun k_ hk => ⟨Kd.freshB (g := AD) (o := .cells #[.slice (some ad756) l0_0.length c0_0, .slice A0_1 l0_1.length c0_1] 27 (0, 0)) (zb AA) k_ hk, Kd.freshB (g := AI) (o := .cells #[.int .i64 ((rd_T44 l0_0 AB).f0), .int .i64 ((rd_T44 l0_0 AB).f1.f0), .int .i64 ((rd_T44 l0_0 AB).f1.f1), .int .i64 ((rd_T44 l0_0 AB).f1.f2), .int .i64 ((rd_T44 l0_0 AB).f1.f3), .string ((rd_T44 l0_0 AB).f1.f4)] 44 (0, 0)) (zb AE) k_ hk, Kd.freshB (g := AH) (o := .cells #[.int .i64 ((rd_T44 l0_0 AB).f1.f0), .int .i64 ((rd_T44 l0_0 AB).f1.f1), .int .i64 ((rd_T44 l0_0 AB).f1.f2), .int .i64 ((rd_T44 l0_0 AB).f1.f3), .string ((rd_T44 l0_0 AB).f1.f4)] 36 (0, 0)) (zb AF) k_ hk⟩) _ (Nat.le_refl _)) (Below.refl _ _) (Nat.le_refl _) (by simp) ?_; (case hd => rfl); (case hg => rfl); (case hr => first | (go_simp; done) | (go_simp; rfl)); (case hp => exact (Reps.one (show Kd.FK (Kd.slice 5 (Kd.int .u8)) _ _ AR [.slice Bb AR.length Bn] from (Kd.FK_slice_mk (Kd.R_reads' (Kd.R_mono (ok' := (fun k_ => k_ ≠ AD ∧ k_ ≠ AI ∧ k_ ≠ AH)) (Kd.R_types (Kd.R_types (Kd.R_types (AC.out) AA.out (by decide)) AE.out (by decide)) AF.out (by decide)) (fun k_ hk => ⟨hk.1.1.2, ⟨hk.1.2, hk.2⟩⟩))).2.1 (Kd.R_F (Kd.R_mono (ok' := (fun k_ => k_ ≠ AD ∧ k_ ≠ AI ∧ k_ ≠ AH)) (Kd.R_types (Kd.R_types (Kd.R_types (AC.out) AA.out (by decide)) AE.out (by decide)) AF.out (by decide)) (fun k_ hk => ⟨hk.1.1.2, ⟨hk.1.2, hk.2⟩⟩))))) (Reps.one (show Kd.FK (Kd.slice 5 (Kd.int .u8)) _ _ Aa [.slice Bc Aa.length Bo] from (Kd.FK_slice_mk (Kd.R_reads' (Kd.R_mono (ok' := (fun k_ => k_ ≠ AD ∧ k_ ≠ AI ∧ k_ ≠ AH)) (Kd.R_types (Kd.R_types (Kd.R_types (AL.out) AA.out (by decide)) AE.out (by decide)) AF.out (by decide)) (fun k_ hk => ⟨hk.1.1.2, ⟨hk.1.2, hk.2⟩⟩))).2.1 (Kd.R_F (Kd.R_mono (ok' := (fun k_ => k_ ≠ AD ∧ k_ ≠ AI ∧ k_ ≠ AH)) (Kd.R_types (Kd.R_types (Kd.R_types (AL.out) AA.out (by decide)) AE.out (by decide)) AF.out (by decide)) (fun k_ hk => ⟨hk.1.1.2, ⟨hk.1.2, hk.2⟩⟩))))) (Reps.one (show Kd.FK (Kd.slice 5 (Kd.int .u8)) _ _ Ab [.slice Bd Ab.length Bp] from (Kd.FK_slice_mk (Kd.R_reads' (Kd.R_mono (ok' := (fun k_ => k_ ≠ AD ∧ k_ ≠ AI ∧ k_ ≠ AH)) (Kd.R_types (Kd.R_types (Kd.R_types (AM.out) AA.out (by decide)) AE.out (by decide)) AF.out (by decide)) (fun k_ hk => ⟨hk.1.1.2, ⟨hk.1.2, hk.2⟩⟩))).2.1 (Kd.R_F (Kd.R_mono (ok' := (fun k_ => k_ ≠ AD ∧ k_ ≠ AI ∧ k_ ≠ AH)) (Kd.R_types (Kd.R_types (Kd.R_types (AM.out) AA.out (by decide)) AE.out (by decide)) AF.out (by decide)) (fun k_ hk => ⟨hk.1.1.2, ⟨hk.1.2, hk.2⟩⟩))))) (Reps.one (show Kd.FK (Kd.slice 5 (Kd.int .u8)) _ _ Ac [.slice Be Ac.length Bq] from (Kd.FK_slice_mk (Kd.R_reads' (Kd.R_mono (ok' := (fun k_ => k_ ≠ AD ∧ k_ ≠ AI ∧ k_ ≠ AH)) (Kd.R_types (Kd.R_types (Kd.R_types (AO.out) AA.out (by decide)) AE.out (by decide)) AF.out (by decide)) (fun k_ hk => ⟨hk.1.1.2, ⟨hk.1.2, hk.2⟩⟩))).2.1 (Kd.R_F (Kd.R_mono (ok' := (fun k_ => k_ ≠ AD ∧ k_ ≠ AI ∧ k_ ≠ AH)) (Kd.R_types (Kd.R_types (Kd.R_types (AO.out) AA.out (by decide)) AE.out (by decide)) AF.out (by decide)) (fun k_ hk => ⟨hk.1.1.2, ⟨hk.1.2, hk.2⟩⟩))))) (Reps.one (show Kd.FK (Kd.slice 5 (Kd.int .u8)) _ _ Ad [.slice Bf Ad.length Br] from (Kd.FK_slice_mk (Kd.R_reads' (Kd.R_mono (ok' := (fun k_ => k_ ≠ AD ∧ k_ ≠ AI ∧ k_ ≠ AH)) (Kd.R_types (Kd.R_types (Kd.R_types (AS.out) AA.out (by decide)) AE.out (by decide)) AF.out (by decide)) (fun k_ hk => ⟨hk.1.1.2, ⟨hk.1.2, hk.2⟩⟩))).2.1 (Kd.R_F (Kd.R_mono (ok' := (fun k_ => k_ ≠ AD ∧ k_ ≠ AI ∧ k_ ≠ AH)) (Kd.R_types (Kd.R_types (Kd.R_types (AS.out) AA.out (by decide)) AE.out (by decide)) AF.out (by decide)) (fun k_ hk => ⟨hk.1.1.2, ⟨hk.1.2, hk.2⟩⟩))))) (Reps.one (show Kd.FK (Kd.slice 5 (Kd.int .u8)) _ _ Ae [.slice Bg Ae.length Bs] from (Kd.FK_slice_mk (Kd.R_reads' (Kd.R_mono (ok' := (fun k_ => k_ ≠ AD ∧ k_ ≠ AI ∧ k_ ≠ AH)) (Kd.R_types (Kd.R_types (Kd.R_types (AT.out) AA.out (by decide)) AE.out (by decide)) AF.out (by decide)) (fun k_ hk => ⟨hk.1.1.2, ⟨hk.1.2, hk.2⟩⟩))).2.1 (Kd.R_F (Kd.R_mono (ok' := (fun k_ => k_ ≠ AD ∧ k_ ≠ AI ∧ k_ ≠ AH)) (Kd.R_types (Kd.R_types (Kd.R_types (AT.out) AA.out (by decide)) AE.out (by decide)) AF.out (by decide)) (fun k_ hk => ⟨hk.1.1.2, ⟨hk.1.2, hk.2⟩⟩))))) (Reps.one (show Kd.FK (Kd.slice 5 (Kd.int .u8)) _ _ Af [.slice Bh Af.length Bt] from (Kd.FK_slice_mk (Kd.R_reads' (Kd.R_mono (ok' := (fun k_ => k_ ≠ AD ∧ k_ ≠ AI ∧ k_ ≠ AH)) (Kd.R_types (Kd.R_types (Kd.R_types (Aj.out) AA.out (by decide)) AE.out (by decide)) AF.out (by decide)) (fun k_ hk => ⟨hk.1.1.2, ⟨hk.1.2, hk.2⟩⟩))).2.1 (Kd.R_F (Kd.R_mono (ok' := (fun k_ => k_ ≠ AD ∧ k_ ≠ AI ∧ k_ ≠ AH)) (Kd.R_types (Kd.R_types (Kd.R_types (Aj.out) AA.out (by decide)) AE.out (by decide)) AF.out (by decide)) (fun k_ hk => ⟨hk.1.1.2, ⟨hk.1.2, hk.2⟩⟩))))) (Reps.none _ _)))))))))
       intro v778 DV ho44 hb hg_ hnew_; clear hg_ hnew_
       (first | rw [← Ny777.out] at ho44 | (simp only [Int.reduceToNat] at ho44; rw [← Ny777.out] at ho44))
       have AX := zm (Kd.N_lower ho44 (below_size zB)); replace AA := zy AA hb; replace AE := zy AE hb; replace AF := zy AF hb; replace HB := zm (below_step zB hb); clear AL AM AO AS AT Aj AC; clear hb ho44; obtain ⟨CG, CJ, eo45⟩ := Kd.N_slice AX.out
       (first | subst eo45 | (injection eo45 with f1_ f2_ f3_; have f4_ := f1_.symm; have f5_ := f3_.symm; clear f1_ f2_ f3_; subst f4_; subst f5_))
       refine hK.out _ _ zS (fun hHeld => ?_); clear hK K; refine zn (N := some 44) ?_; refine zo 20 (some 45) (zl 22 2097151) (fun K hK => ?_); refine zgo #[.slice CG y777.length CJ] Try.func95 ?_; (with_reducible refine (impl_joined.calls k1 _ _ y777 Aq _ ?side1 ?side2 Az.out).mono ?_)
       (case side1 => repeat (first | exact (Kd.N_reads' AX.out).2.2 | (with_reducible refine Kd.C_alloc ?_ _) | (with_reducible refine Kd.C_drewN ?_ _) | (with_reducible refine Kd.C_drew ?_)))
       (case side2 => exact (Kd.N_reads' AX.out).2.1)
       rintro e DW ⟨v781, rfl, ho0, hb⟩; refine ⟨_, rfl, ?_⟩; replace AX := zm (Kd.N_elder' (by (with_reducible repeat (first | apply Kd.N_alloc | apply Kd.N_drewN | apply Kd.N_drew)); exact AX.out) (Kd.R_base ho0) hb); have CA := zm (Kd.R_lower ho0 (below_size zB)); replace AA := zy AA hb; replace AE := zy AE hb; replace AF := zy AF hb; replace HB := zm (below_step zB hb); (try clear hb); (try clear hk); (try clear ho0); refine hK.out _ _ zS (fun hHeld => ?_); clear hK K; refine zn ?_
       refine zu 21 3 22 4194303 ?_
       refine done_ (done_of HT_.out (by kernel_rfl)) ?_
       try go_wp2
       go_roundg k1
       case measure => have := B0.out; omega
       case rel => exact ⟨(Aq), (wrap64 (AB + 1)), zF, H', ⟨by have := B0.out; omega⟩, ⟨zr CA⟩, ⟨zb AA⟩, ⟨zB⟩⟩
      ·rw [if_neg BA] at H
       exact absurd H (by simp)
     ·rw [if_neg B3] at H
      exact absurd H (by simp)
    ·rw [if_neg Am] at H; have B2 : decide (AB < (l0_0.length : Int)) = false := decide_eq_false Am; clear Am; replace H := Option.bind_eq_some_iff.mp H; obtain ⟨Ag, BW, H⟩ := H; (try dsimp only at H); have Cw := zm BW; clear BW
     obtain ⟨y786, hy786⟩ : ∃ y_ : List (List Int), y_ = (([AR, Ag] : List (List Int))) := ⟨_, rfl⟩
     replace H : ((impl_joined.f k1 y786).bind fun Ar => (impl_StateBytes.l1 k1 Ar l0_1 (l0_1.length : Int) 0)) = some r := by first | (rw [hy786]; with_reducible exact H) | (have H2_ := (Option.bind_some _ _).symm.trans H; rw [hy786]; with_reducible exact H2_) | (have H2_ := (Option.bind_some _ _).symm.trans H; with_reducible exact H2_) | with_reducible exact H | (rw [hy786]; exact H) | exact H
     have Ny786 := zm hy786; clear hy786; replace H := Option.bind_eq_some_iff.mp H; obtain ⟨Ar, BX, H⟩ := H; (try dsimp only at H); have Cx := zm BX; clear BX
     have H' := zm H
     clear H; obtain ⟨BF, BG, BL, BM⟩ := zc2 AA
     go_wp2_with (first | ((with_reducible refine gate_callee (f := 80) rfl ?_); refine zg (some 51) #[.int .i64 (l0_1.length : Int)] Try.func80 ?_; (with_reducible refine (impl_PutNum.calls k1 (l0_1.length : Int) Ag _ Cw.out).mono ?_); rintro e D3 ⟨v784, rfl, ho0, hb⟩; refine ⟨_, rfl, ?_⟩; have Ak := zm (Kd.R_lower (Kd.R_new' ho0 (Kd.R_lt (zr AC))) (below_size zB)); replace AC := zm (Kd.R_elder' (zr AC) (Kd.R_base ho0) hb); replace AA := zy AA hb; replace HB := zm (below_step zB hb); clear hb ho0; obtain ⟨Bi, Bu, eo51⟩ := Kd.R_slice AC.out; subst eo51; obtain ⟨Bj, Bv, eo52⟩ := Kd.R_slice Ak.out; subst eo52) | ((with_reducible refine gate_dst (N := 52) rfl ?_); refine Kd.N_lit (Kd.slice 5 (Kd.int .u8)) _ 22 ?hg (N' := 52) ?hd (xs := ([AR, Ag] : List (List Int))) (inner := [.slice Bi AR.length Bu, .slice Bj Ag.length Bv]) (ok := (fun k_ => k_ ≠ AD)) (okp := (fun k_ => k_ ≠ AD)) ?hr ?hp (fun _ hk => hk) ((show ∀ k_, D3.heap.size ≤ k_ → (fun k_ => k_ ≠ AD) k_ from fun k_ hk => Kd.freshB (g := AD) (o := .cells #[.slice A0_0 l0_0.length c0_0, .slice A0_1 l0_1.length c0_1] 27 (0, 0)) (zb AA) k_ hk) _ (Nat.le_refl _)) (Below.refl _ _) (Nat.le_refl _) (by simp) ?_; (case hd => rfl); (case hg => rfl); (case hr => first | (go_simp; done) | (go_simp; rfl)); (case hp => exact (Reps.one (show Kd.FK (Kd.slice 5 (Kd.int .u8)) _ _ AR [.slice Bi AR.length Bu] from (Kd.FK_slice_mk (Kd.R_reads' (Kd.R_mono (ok' := (fun k_ => k_ ≠ AD)) (Kd.R_types (AC.out) AA.out (by decide)) (fun k_ hk => hk.2))).2.1 (Kd.R_F (Kd.R_mono (ok' := (fun k_ => k_ ≠ AD)) (Kd.R_types (AC.out) AA.out (by decide)) (fun k_ hk => hk.2))))) (Reps.one (show Kd.FK (Kd.slice 5 (Kd.int .u8)) _ _ Ag [.slice Bj Ag.length Bv] from (Kd.FK_slice_mk (Kd.R_reads' (Kd.R_mono (ok' := (fun k_ => k_ ≠ AD)) (Kd.R_types (Ak.out) AA.out (by decide)) (fun k_ hk => hk.2))).2.1 (Kd.R_F (Kd.R_mono (ok' := (fun k_ => k_ ≠ AD)) (Kd.R_types (Ak.out) AA.out (by decide)) (fun k_ hk => hk.2))))) (Reps.none _ _)))); intro v787 DX ho54 hb hg_ hnew_; clear hg_ hnew_; (first | rw [← Ny786.out] at ho54 | (simp only [Int.reduceToNat] at ho54; rw [← Ny786.out] at ho54)); have AY := zm (Kd.N_lower ho54 (below_size zB)); replace AA := zy AA hb; replace HB := zm (below_step zB hb); clear Ak AC; clear hb ho54; obtain ⟨CH, CK, eo55⟩ := Kd.N_slice AY.out; subst eo55) | ((with_reducible refine gate_callee (f := 95) rfl ?_); refine zg (some 53) #[.slice CH y786.length CK] Try.func95 ?_; (with_reducible refine (impl_joined.calls k1 _ _ y786 Ar _ ?side1 ?side2 Cx.out).mono ?_); (case side1 => repeat (first | exact (Kd.N_reads' AY.out).2.2 | (with_reducible refine Kd.C_alloc ?_ _) | (with_reducible refine Kd.C_drewN ?_ _) | (with_reducible refine Kd.C_drew ?_))); (case side2 => exact (Kd.N_reads' AY.out).2.1); rintro e DY ⟨v790, rfl, ho0, hb⟩; refine ⟨_, rfl, ?_⟩; replace AY := zm (Kd.N_elder' (by (with_reducible repeat (first | apply Kd.N_alloc | apply Kd.N_drewN | apply Kd.N_drew)); exact AY.out) (Kd.R_base ho0) hb); have CB := zm (Kd.R_lower ho0 (below_size zB)); replace AA := zy AA hb; replace HB := zm (below_step zB hb); clear hb ho0; obtain ⟨BH, BI, BN, BO⟩ := zc2 AA))
     go_loopg [3, 57] k1 (fun kq v3 v57 w' => ∃ (AV : List Int) (AJ : Int), v57 = .int .i64 AJ ∧ Aside0 (impl_StateBytes.l1 kq AV l0_1 (l0_1.length : Int) AJ = some r) ∧ Aside0 (kq ≤ k1) ∧ Aside0 (Kd.R (Kd.int .u8) 5 w' w.heap.size (fun _ => True) v3 AV) ∧ Aside0 (w'.heap[AD]? = some (.cells #[(.slice A0_0 l0_0.length c0_0), (.slice A0_1 l0_1.length c0_1)] 27 (0, 0))) ∧ Aside0 (Below w.heap.size w w'))
     case atStart => exact ⟨(Ar), (0), zF, H', ⟨Nat.le_refl _⟩, ⟨zr CB⟩, ⟨zb AA⟩, ⟨zB⟩⟩
     case round =>
      clear H'; (try clear Am); (try clear B2); (try clear BF); (try clear BG); (try clear BH); (try clear BI); (try clear BL); (try clear BM); (try clear BN); (try clear BO); obtain ⟨AV, AJ, rfl, HA, CF, AC, AA, HB⟩ := hrel
      cases gk with
      | zero => exact absurd HA.out (by simp [impl_StateBytes.l1])
      | succ k2 =>
       have H := HA.out; clear HA; simp only [impl_StateBytes.l1] at H
       by_cases An : AJ < (l0_1.length : Int)
       ·rw [if_pos An] at H; have CD : decide (AJ < (l0_1.length : Int)) = true := decide_eq_true An; clear An
        by_cases BB : 0 ≤ AJ
        ·rw [if_pos BB] at H; have DE : decide (0 ≤ AJ) = true := decide_eq_true BB; clear BB
         by_cases BC : AJ < (l0_1.length : Int)
         ·rw [if_pos BC] at H; have DF : decide (AJ < (l0_1.length : Int)) = true := decide_eq_true BC; clear BC; replace H := Option.bind_eq_some_iff.mp H; obtain ⟨Ah, BY, H⟩ := H; (try dsimp only at H); have Cy := zm BY; clear BY; replace H := Option.bind_eq_some_iff.mp H; obtain ⟨Ai, BZ, H⟩ := H; (try dsimp only at H); have Cz := zm BZ; clear BZ
          obtain ⟨y800, hy800⟩ : ∃ y_ : List (List Int), y_ = (([AV, Ah, Ai] : List (List Int))) := ⟨_, rfl⟩
          replace H : ((impl_joined.f k2 y800).bind fun As => (impl_StateBytes.l1 k2 As l0_1 (l0_1.length : Int) (wrap64 (AJ + 1)))) = some r := by first | (rw [hy800]; with_reducible exact H) | (have H2_ := (Option.bind_some _ _).symm.trans H; rw [hy800]; with_reducible exact H2_) | (have H2_ := (Option.bind_some _ _).symm.trans H; with_reducible exact H2_) | with_reducible exact H | (rw [hy800]; exact H) | exact H
          have Ny800 := zm hy800; clear hy800; replace H := Option.bind_eq_some_iff.mp H; obtain ⟨As, Ba, H⟩ := H; (try dsimp only at H); have D0 := zm Ba; clear Ba
          have H' := zm H
          clear H; have p792 : 0 ≤ (AJ : Int) := zd; have q792 : AJ < (l0_1.length : Int) := zd; obtain ⟨ad792, e792, hx792_0, hx792_1⟩ := at_T58 (Kd.C_below HR0_1.out HB.out) AJ p792 q792; cases e792; replace p792 := eq_true p792; replace q792 := eq_true q792
          try go_wp2_with (first | ((with_reducible refine gate_dst (N := 8) rfl ?_); refine zbox 8 #[.int .i64 0, .int .i64 0] 58 ?_; intro AN hg D4 hbox hb; replace AC := zw AC hb; have AK := zm (hbox); have DB := zge w hg zB; have D8 := zge w hg zB; replace HB := zm (below_step zB hb); have AW := zlt hg (zb AA); have Aw := zgt hg (zb AA); replace AA := zy AA hb; clear hb hbox hg; have DJ := Aw.out; have DN := AW.out; obtain ⟨CX, CY, Cm, Cn⟩ := zc2 AK))
          obtain ⟨Ax, hW_⟩ : ∃ q, q = ((D4.setCell ⟨AN, 0, none⟩ (.int .i64 ((rd_T58 l0_1 AJ).f0))).setCell ⟨AN, 1, none⟩ (.int .i64 ((rd_T58 l0_1 AJ).f1))) := ⟨_, rfl⟩
          have n0_ : Aside0 (Kd.R (Kd.int .u8) 5 Ax w.heap.size (fun _ => True) u3 AV) := ⟨by rw [hW_]; exact zrs <| Kd.R_mono (zfr (zfr (Kd.R_types AC.out AK.out (by decide)))) (fun _ hk => trivial)⟩; have n1_ : Aside0 (Ax.heap[AD]? = some (.cells #[.slice A0_0 l0_0.length c0_0, .slice (some ad792) l0_1.length c0_1] 27 (0, 0))) := ⟨by rw [hW_]; exact zfar (zfar (zb AA) AW) AW⟩; have n2_ : Aside0 (Ax.heap[AN]? = some (.cells #[.int .i64 ((rd_T58 l0_1 AJ).f0), .int .i64 ((rd_T58 l0_1 AJ).f1)] 58 (0, 0))) := ⟨by rw [hW_]; exact zput (zput (zb AK) 0) 1⟩; have n3_ : Aside0 (Below w.heap.size w Ax) := ⟨by rw [hW_]; exact zB⟩
          rw [← hW_]
          clear hW_; (try clear AC); (try clear AA); (try clear AK); (try clear HB); have AC := n0_; have AA := n1_; have AK := n2_; have HB := n3_; clear n0_ n1_ n2_ n3_; replace AC := zm (Kd.R_drew AC.out); replace AA := zq AA; replace AK := zq AK; replace HB := zm (below_drew1 HB.out)
          refine start_ (n := 10) (S := fun w' => w'.cell? ⟨AN, 0, none⟩ = some (.int .i64 ((rd_T58 l0_1 AJ).f0)) ∧ w'.cell? ⟨AN, 1, none⟩ = some (.int .i64 ((rd_T58 l0_1 AJ).f1))) (ds := []) (zl 10 0) (by kernel_rfl) rfl rfl zS (fun hHeld => ?_); refine with_tabW impl_StateBytes.tab14 impl_StateBytes.bits14 (fun HT_ HW_ => ?_)
          generalize Ax.drew = DZ at AC AA AK HB hHeld ⊢
          refine zu 0 61 10 1 ?_
          refine zu 1 62 10 3 ?_
          refine zu 4 65 10 19 ?_
          refine zv 2 63 10 23 ?_
          refine zv 5 66 10 55 ?_
          refine zo 3 (some 64) (zl 10 63) (fun K hK => ?_); refine zgo #[.int .i64 ((rd_T58 l0_1 AJ).f0)] Try.func80 ?_; (with_reducible refine (impl_PutNum.calls k2 ((rd_T58 l0_1 AJ).f0) Ah _ Cy.out).mono ?_); rintro e Da ⟨v795, rfl, ho0, hb⟩; refine ⟨_, rfl, ?_⟩; have AU := zm (Kd.R_lower (Kd.R_new' ho0 (Kd.R_lt (zr AC))) (below_size zB)); replace AC := zm (Kd.R_elder' (zr AC) (Kd.R_base ho0) hb); replace AA := zy AA hb; replace AK := zy AK hb; replace HB := zm (below_step zB hb); (try clear hb); (try clear hk); (try clear ho0); refine hK.out _ _ zS (fun hHeld => ?_); clear hK K; refine zn ?_; refine zo 6 (some 67) (zl 10 127) (fun K hK => ?_); refine zgo #[.int .i64 ((rd_T58 l0_1 AJ).f1)] Try.func80 ?_; (with_reducible refine (impl_PutNum.calls k2 ((rd_T58 l0_1 AJ).f1) Ai _ Cz.out).mono ?_); rintro e D5 ⟨v798, rfl, ho0, hb⟩; refine ⟨_, rfl, ?_⟩; have Al := zm (Kd.R_lower (Kd.R_new' (Kd.R_new' ho0 (Kd.R_lt (zr AC))) (Kd.R_lt (zr AU))) (below_size zB)); replace AC := zm (Kd.R_elder' (zr AC) (Kd.R_base ho0) hb); replace AU := zm (Kd.R_elder' (zr AU) (Kd.R_base ho0) hb); replace AA := zy AA hb; replace AK := zy AK hb; replace HB := zm (below_step zB hb); (try clear hb); (try clear hk); (try clear ho0); obtain ⟨Bk, Bw, eo71⟩ := Kd.R_slice AC.out
          (first | subst eo71 | (injection eo71 with f1_ f2_ f3_; have f4_ := f1_.symm; have f5_ := f3_.symm; clear f1_ f2_ f3_; subst f4_; subst f5_))
          obtain ⟨Bl, Bx, eo72⟩ := Kd.R_slice AU.out
          (first | subst eo72 | (injection eo72 with f1_ f2_ f3_; have f4_ := f1_.symm; have f5_ := f3_.symm; clear f1_ f2_ f3_; subst f4_; subst f5_))
          obtain ⟨Bm, By, eo73⟩ := Kd.R_slice Al.out
          (first | subst eo73 | (injection eo73 with f1_ f2_ f3_; have f4_ := f1_.symm; have f5_ := f3_.symm; clear f1_ f2_ f3_; subst f4_; subst f5_))
          refine hK.out _ _ zS (fun hHeld => ?_); clear hK K; refine zn ?_; refine zo 7 (some 68) (zl 10 255) (fun K hK => ?_)
          refine Kd.N_lit_step (Kd.slice 5 (Kd.int .u8)) _ 22 ?hg (N' := 68) ?hd (xs := ([AV, Ah, Ai] : List (List Int))) (inner := [.slice Bk AV.length Bw, .slice Bl Ah.length Bx, .slice Bm Ai.length By]) (ok := (fun k_ => k_ ≠ AD ∧ k_ ≠ AN)) (okp := (fun k_ => k_ ≠ AD ∧ k_ ≠ AN)) ?hr ?hp (fun _ hk => hk) ((show ∀ k_, D5.heap.size ≤ k_ → (fun k_ => k_ ≠ AD ∧ k_ ≠ AN) k_ from fun k_ hk => ⟨Kd.freshB (g := AD) (o := .cells #[.slice A0_0 l0_0.length c0_0, .slice (some ad792) l0_1.length c0_1] 27 (0, 0)) (zb AA) k_ hk, Kd.freshB (g := AN) (o := .cells #[.int .i64 ((rd_T58 l0_1 AJ).f0), .int .i64 ((rd_T58 l0_1 AJ).f1)] 58 (0, 0)) (zb AK) k_ hk⟩) _ (Nat.le_refl _)) (Below.refl _ _) (Nat.le_refl _) (by simp) ?_; (case hd => rfl); (case hg => rfl); (case hr => first | (go_simp; done) | (go_simp; rfl)); (case hp => exact (Reps.one (show Kd.FK (Kd.slice 5 (Kd.int .u8)) _ _ AV [.slice Bk AV.length Bw] from (Kd.FK_slice_mk (Kd.R_reads' (Kd.R_mono (ok' := (fun k_ => k_ ≠ AD ∧ k_ ≠ AN)) (Kd.R_types (Kd.R_types (AC.out) AA.out (by decide)) AK.out (by decide)) (fun k_ hk => ⟨hk.1.2, hk.2⟩))).2.1 (Kd.R_F (Kd.R_mono (ok' := (fun k_ => k_ ≠ AD ∧ k_ ≠ AN)) (Kd.R_types (Kd.R_types (AC.out) AA.out (by decide)) AK.out (by decide)) (fun k_ hk => ⟨hk.1.2, hk.2⟩))))) (Reps.one (show Kd.FK (Kd.slice 5 (Kd.int .u8)) _ _ Ah [.slice Bl Ah.length Bx] from (Kd.FK_slice_mk (Kd.R_reads' (Kd.R_mono (ok' := (fun k_ => k_ ≠ AD ∧ k_ ≠ AN)) (Kd.R_types (Kd.R_types (AU.out) AA.out (by decide)) AK.out (by decide)) (fun k_ hk => ⟨hk.1.2, hk.2⟩))).2.1 (Kd.R_F (Kd.R_mono (ok' := (fun k_ => k_ ≠ AD ∧ k_ ≠ AN)) (Kd.R_types (Kd.R_types (AU.out) AA.out (by decide)) AK.out (by decide)) (fun k_ hk => ⟨hk.1.2, hk.2⟩))))) (Reps.one (show Kd.FK (Kd.slice 5 (Kd.int .u8)) _ _ Ai [.slice Bm Ai.length By] from (Kd.FK_slice_mk (Kd.R_reads' (Kd.R_mono (ok' := (fun k_ => k_ ≠ AD ∧ k_ ≠ AN)) (Kd.R_types (Kd.R_types (Al.out) AA.out (by decide)) AK.out (by decide)) (fun k_ hk => ⟨hk.1.2, hk.2⟩))).2.1 (Kd.R_F (Kd.R_mono (ok' := (fun k_ => k_ ≠ AD ∧ k_ ≠ AN)) (Kd.R_types (Kd.R_types (Al.out) AA.out (by decide)) AK.out (by decide)) (fun k_ hk => ⟨hk.1.2, hk.2⟩))))) (Reps.none _ _)))))
          intro v801 Db ho75 hb hg_ hnew_; clear hg_ hnew_
          (first | rw [← Ny800.out] at ho75 | (simp only [Int.reduceToNat] at ho75; rw [← Ny800.out] at ho75))
          have AZ := zm (Kd.N_lower ho75 (below_size zB)); replace AA := zy AA hb; replace AK := zy AK hb; replace HB := zm (below_step zB hb); clear AU Al AC; clear hb ho75; obtain ⟨CI, CL, eo76⟩ := Kd.N_slice AZ.out
          (first | subst eo76 | (injection eo76 with f1_ f2_ f3_; have f4_ := f1_.symm; have f5_ := f3_.symm; clear f1_ f2_ f3_; subst f4_; subst f5_))
          refine hK.out _ _ zS (fun hHeld => ?_); clear hK K; refine zn (N := some 68) ?_; refine zo 8 (some 69) (zl 10 511) (fun K hK => ?_); refine zgo #[.slice CI y800.length CL] Try.func95 ?_; (with_reducible refine (impl_joined.calls k2 _ _ y800 As _ ?side1 ?side2 D0.out).mono ?_)
          (case side1 => repeat (first | exact (Kd.N_reads' AZ.out).2.2 | (with_reducible refine Kd.C_alloc ?_ _) | (with_reducible refine Kd.C_drewN ?_ _) | (with_reducible refine Kd.C_drew ?_)))
          (case side2 => exact (Kd.N_reads' AZ.out).2.1)
          rintro e Dc ⟨v804, rfl, ho0, hb⟩; refine ⟨_, rfl, ?_⟩; replace AZ := zm (Kd.N_elder' (by (with_reducible repeat (first | apply Kd.N_alloc | apply Kd.N_drewN | apply Kd.N_drew)); exact AZ.out) (Kd.R_base ho0) hb); have CC := zm (Kd.R_lower ho0 (below_size zB)); replace AA := zy AA hb; replace AK := zy AK hb; replace HB := zm (below_step zB hb); (try clear hb); (try clear hk); (try clear ho0); refine hK.out _ _ zS (fun hHeld => ?_); clear hK K; refine zn ?_
          refine zu 9 3 10 1023 ?_
          refine done_ (done_of HT_.out (by kernel_rfl)) ?_
          try go_wp2
          go_roundg k2
          case measure => have := B0.out; have := CF.out; omega
          case rel => exact ⟨(As), (wrap64 (AJ + 1)), zF, H', ⟨by have := B0.out; have := CF.out; omega⟩, ⟨zr CC⟩, ⟨zb AA⟩, ⟨zB⟩⟩
         ·rw [if_neg BC] at H
          exact absurd H (by simp)
        ·rw [if_neg BB] at H
         exact absurd H (by simp)
       ·rw [if_neg An] at H; have CD : decide (AJ < (l0_1.length : Int)) = false := decide_eq_false An; clear An; obtain rfl := Option.some.inj H
        go_wp2
        go_ret
        exact ⟨_, zE, zr AC, zB⟩
 ·replace c3 := Bool.eq_false_iff.mpr c3; subst c3; rw [zff] at H; obtain rfl := Option.some.inj H; go_enter Try.func54, Try.ntmps54
  go_wp2_with (first | ((with_reducible refine gate_dst (N := 1) rfl ?_); refine zbox 1 #[.slice A0_0 l0_0.length c0_0, .slice A0_1 l0_1.length c0_1] 27 ?_; intro AD hg Dd hbox hb; have AA := zm (hbox); have C8 := zge w hg zB; have C7 := zge w hg zB; replace HB := zm (below_step zB hb); clear hb hbox hg; obtain ⟨CZ, Ca, Co, Cp⟩ := zc2 AA) | ((with_reducible refine gate_callee (f := 27) rfl ?_); refine zg (some 10) #[.agg #[.slice A0_0 l0_0.length c0_0, .slice A0_1 l0_1.length c0_1]] Try.func27 ?_; (with_reducible refine (impl_StateOk.calls k _ _ l0_0 _ _ l0_1 false _ (zk (Kd.C_below HR0_0.out HB.out)) HC0_0.out (zk (Kd.C_below HR0_1.out HB.out)) HC0_1.out A2.out).mono ?_); rintro e De ⟨rfl, hb⟩; refine ⟨_, rfl, ?_⟩; replace AA := zy AA hb; replace HB := zm (below_step zB hb); clear hb))
  go_ret
  exact ⟨_, zE, znil, zB⟩

/-! ### impl_LeafSum: function 38 -/
def impl_LeafSum.j0 : Nat → Int → Bool → List (S44) → List (S58) → Option (Int)
 | 0, _, _, _, _ => none
 | k + 1, x1, x12, x807000, x807001 => if x12 = true then (some 0) else ((impl_Slice.f k x807000 x807001 (([x1] : List Int))).bind fun bt812 => ((impl_StateBytes.f k bt812.1 bt812.2).bind fun t818 => ((impl_Crc.f k t818).bind fun t821 => (some (Int.tmod t821 1024)))))
def impl_LeafSum.f (k : Nat) (l0_0 : List (S44)) (l0_1 : List (S58)) (a1 : Int) : Option (Int) := (impl_StateOk.f k l0_0 l0_1).bind fun t807 => (if t807 = true then ((impl_within.f a1 0 3).bind fun t808 => (impl_LeafSum.j0 k a1 (!t808) l0_0 l0_1)) else (impl_LeafSum.j0 k a1 true l0_0 l0_1))
theorem impl_LeafSum.mono_l : ∀ k, (∀ y0 y1 y2 y3, LeO (impl_LeafSum.j0 k y0 y1 y2 y3) (impl_LeafSum.j0 (k + 1) y0 y1 y2 y3))
 | 0 => fun _ _ _ _ r h => by simp [impl_LeafSum.j0] at h
 | k + 1 => by
  have ih0 := impl_LeafSum.mono_l k
  ·intro y0 y1 y2 y3
   unfold impl_LeafSum.j0
   repeat' first | (with_reducible first | exact LeO.refl _ | exact LeO.none _ | refine LeO.ite ?_ ?_ | refine LeO.bind ?_ (fun _ => ?_) | apply ih0 | apply impl_Crc.mono | apply impl_Slice.mono | apply impl_StateBytes.mono | apply impl_StateOk.mono) | apply ih0 | apply impl_Crc.mono | apply impl_Slice.mono | apply impl_StateBytes.mono | apply impl_StateOk.mono | exact LeO.none _ | refine LeO.ite ?_ ?_ | refine LeO.bind ?_ (fun _ => ?_)
theorem impl_LeafSum.mono : ∀ a0 a1 a2 k, LeO (impl_LeafSum.f k a0 a1 a2) (impl_LeafSum.f (k + 1) a0 a1 a2) := by
 intro a0 a1 a2 k; have ih0 := impl_LeafSum.mono_l k
 unfold impl_LeafSum.f
 repeat' first | (with_reducible first | exact LeO.refl _ | exact LeO.none _ | refine LeO.ite ?_ ?_ | refine LeO.bind ?_ (fun _ => ?_) | apply ih0 | apply impl_Crc.mono | apply impl_Slice.mono | apply impl_StateBytes.mono | apply impl_StateOk.mono) | apply ih0 | apply impl_Crc.mono | apply impl_Slice.mono | apply impl_StateBytes.mono | apply impl_StateOk.mono | exact LeO.none _ | refine LeO.ite ?_ ?_ | refine LeO.bind ?_ (fun _ => ?_)
set_option maxHeartbeats 8000000 in
set_option maxRecDepth 100000 in
theorem impl_LeafSum.calls (k : Nat) (A0_0 : Option Addr) (c0_0 : Nat) (l0_0 : List (S44)) (A0_1 : Option Addr) (c0_1 : Nat) (l0_1 : List (S58)) (a1 : Int) (r : Int) (w : World) (hr0_0 : Kd.C k44 w A0_0 l0_0.length l0_0) (hc0_0 : l0_0.length ≤ c0_0) (hr0_1 : Kd.C k58 w A0_1 l0_1.length l0_1) (hc0_1 : l0_1.length ≤ c0_1) (h : impl_LeafSum.f k l0_0 l0_1 a1 = some r) :
  Calls Try.prog 38 #[.agg #[.slice A0_0 l0_0.length c0_0, .slice A0_1 l0_1.length c0_1], .int .i64 a1] w fun e w' => e = .returned (.int .i64 r) ∧ Below w.heap.size w w' := by
 have hu27 := Try.underlying27; have HR0_0 := zm hr0_0; have HC0_0 := zm hc0_0; clear hr0_0 hc0_0; have HR0_1 := zm hr0_1; have HC0_1 := zm hc0_1; clear hr0_1 hc0_1; have HB := zm (Below.refl w.heap.size w); have H : ((impl_StateOk.f k l0_0 l0_1).bind fun AJ => (if AJ = true then ((impl_within.f a1 0 3).bind fun AI => (impl_LeafSum.j0 k a1 (!AI) l0_0 l0_1)) else (impl_LeafSum.j0 k a1 true l0_0 l0_1))) = some r := h; clear h; have AS := zm H; clear H; go_enter Try.func38, Try.ntmps38
 go_upto_region 1 with (first | ((with_reducible refine gate_dst (N := 2) rfl ?_); refine zbox 2 #[.slice A0_0 l0_0.length c0_0, .slice A0_1 l0_1.length c0_1] 27 ?_; intro AT hg w4 hbox hb; have AA := zm (hbox); have Au := zge w hg zB; have At := zge w hg zB; replace HB := zm (below_step zB hb); clear hb hbox hg))
 (try simp only [Act.put, List.setIfInBounds_toArray, List.set_cons_zero, List.set_cons_succ])
 go_cut [12] (fun v12 wc => ∃ (kq : Nat) (AE : Bool), v12 = .bool AE ∧ Aside0 (impl_LeafSum.j0 kq a1 AE l0_0 l0_1 = some r) ∧ Aside0 (kq ≤ k) ∧ Aside0 (wc.heap[AT]? = some (.cells #[(.slice A0_0 l0_0.length c0_0), (.slice A0_1 l0_1.length c0_1)] 27 (0, 0))) ∧ Aside0 (Below w.heap.size w wc))
 case first =>
  have H := AS.out; clear AS; replace H := Option.bind_eq_some_iff.mp H; obtain ⟨AJ, AU, H⟩ := H; (try dsimp only at H); have A5 := zm AU; clear AU
  by_cases c6 : AJ = true
  ·subst c6; rw [if_pos rfl] at H; replace H := Option.bind_eq_some_iff.mp H; obtain ⟨AI, AV, H⟩ := H; (try dsimp only at H); have A7 := zm AV; clear AV
   have H' := zm H
   clear H; obtain ⟨Ap, Aq, Ar, As⟩ := zc2 AA
   go_wp2_with (first | ((with_reducible refine gate_callee (f := 27) rfl ?_); refine zg (some 6) #[.agg #[.slice A0_0 l0_0.length c0_0, .slice A0_1 l0_1.length c0_1]] Try.func27 ?_; (with_reducible refine (impl_StateOk.calls k _ _ l0_0 _ _ l0_1 true _ (zk (Kd.C_below HR0_0.out HB.out)) HC0_0.out (zk (Kd.C_below HR0_1.out HB.out)) HC0_1.out A5.out).mono ?_); rintro e w9 ⟨rfl, hb⟩; refine ⟨_, rfl, ?_⟩; replace AA := zy AA hb; replace HB := zm (below_step zB hb); clear hb) | (go_at_call 75; (with_reducible refine (impl_within.calls a1 0 3 AI _ A7.out).mono ?_); rintro e w' ⟨rfl, ⟨nd, rfl⟩⟩))
   go_meet
   case rel => exact ⟨_, (!AI), zF, H', ⟨zO⟩, ⟨zb AA⟩, ⟨zB⟩⟩
  ·replace c6 := Bool.eq_false_iff.mpr c6; subst c6; rw [zff] at H
   have H' := zm H
   clear H; obtain ⟨Ae, Af, Ai, Aj⟩ := zc2 AA
   go_wp2_with (first | ((with_reducible refine gate_callee (f := 27) rfl ?_); refine zg (some 6) #[.agg #[.slice A0_0 l0_0.length c0_0, .slice A0_1 l0_1.length c0_1]] Try.func27 ?_; (with_reducible refine (impl_StateOk.calls k _ _ l0_0 _ _ l0_1 false _ (zk (Kd.C_below HR0_0.out HB.out)) HC0_0.out (zk (Kd.C_below HR0_1.out HB.out)) HC0_1.out A5.out).mono ?_); rintro e Aw ⟨rfl, hb⟩; refine ⟨_, rfl, ?_⟩; replace AA := zy AA hb; replace HB := zm (below_step zB hb); clear hb))
   go_meet
   case rel => exact ⟨_, (true), zF, H', ⟨zO⟩, ⟨zb AA⟩, ⟨zB⟩⟩
 case rest =>
  clear AS; obtain ⟨kq, AE, rfl, HA, Av, AA, HB⟩ := hcut
  cases kq with
  | zero => exact absurd HA.out (by simp [impl_LeafSum.j0])
  | succ AG =>
   have H := HA.out; clear HA; simp only [impl_LeafSum.j0] at H
   by_cases AO : AE = true
   ·subst AO; rw [if_pos rfl] at H; obtain rfl := Option.some.inj H
    go_wp2
    go_ret
    exact ⟨zE, zB⟩
   ·replace AO := Bool.eq_false_iff.mpr AO; subst AO; rw [zff] at H
    obtain ⟨y809, hy809⟩ : ∃ y_ : List Int, y_ = (([a1] : List Int)) := ⟨_, rfl⟩
    replace H : ((impl_Slice.f AG l0_0 l0_1 y809).bind fun AN => ((impl_StateBytes.f AG AN.1 AN.2).bind fun AF => ((impl_Crc.f AG AF).bind fun AM => (some (Int.tmod AM 1024))))) = some r := by first | (rw [hy809]; with_reducible exact H) | (have H2_ := (Option.bind_some _ _).symm.trans H; rw [hy809]; with_reducible exact H2_) | (have H2_ := (Option.bind_some _ _).symm.trans H; with_reducible exact H2_) | with_reducible exact H | (rw [hy809]; exact H) | exact H
    have Ny809 := zm hy809; clear hy809; replace H := Option.bind_eq_some_iff.mp H; obtain ⟨⟨AK, AL⟩, AP, H⟩ := H; (try dsimp only at H); have Am := zm AP; clear AP; replace H := Option.bind_eq_some_iff.mp H; obtain ⟨AF, AQ, H⟩ := H; (try dsimp only at H); have An := zm AQ; clear AQ; replace H := Option.bind_eq_some_iff.mp H; obtain ⟨AM, AR, H⟩ := H; (try dsimp only at H); have Ao := zm AR; clear AR; obtain rfl := Option.some.inj H; obtain ⟨Ag, Ah, Ak, Al⟩ := zc2 AA
    go_wp2_with (first | ((with_reducible refine gate_dst (N := 15) rfl ?_); refine Kd.R_lit (Kd.int .i64) _ 3 ?hg (N := 15) ?hd (xs := ([a1] : List Int)) (inner := [.int .i64 a1]) (ok := fun _ => True) (okp := fun _ => True) ?hr ?hp (fun _ hk => hk) trivial (Below.refl _ _) (Nat.le_refl _) (by simp) ?_; (case hd => rfl); (case hg => rfl); (case hr => first | (go_simp; done) | (go_simp; rfl)); (case hp => exact (Reps.one (show Kd.M (Kd.int .i64) _ _ _ a1 [.int .i64 a1] from rfl) (Reps.none _ _))); intro v810 Ax ho18 hb hg_ hnew_; clear hg_ hnew_; (first | rw [← Ny809.out] at ho18 | (simp only [Int.reduceToNat] at ho18; rw [← Ny809.out] at ho18)); have AB := zm (Kd.R_lower ho18 (below_size zB)); replace AA := zy AA hb; replace HB := zm (below_step zB hb); clear hb ho18; obtain ⟨AW, Aa, eo19⟩ := Kd.R_slice AB.out; subst eo19) | ((with_reducible refine gate_callee (f := 37) rfl ?_); refine zg (some 16) #[.agg #[.slice A0_0 l0_0.length c0_0, .slice A0_1 l0_1.length c0_1], .slice AW y809.length Aa] Try.func37 ?_; (with_reducible refine (impl_Slice.calls AG _ _ l0_0 _ _ l0_1 _ _ y809 AK AL _ (zk (Kd.C_below HR0_0.out HB.out)) HC0_0.out (zk (Kd.C_below HR0_1.out HB.out)) HC0_1.out ?side5 ?side6 Am.out).mono ?_); (case side5 => repeat (first | exact (Kd.R_reads' AB.out).2.2 | (with_reducible refine Kd.C_alloc ?_ _) | (with_reducible refine Kd.C_drewN ?_ _) | (with_reducible refine Kd.C_drew ?_))); (case side6 => exact (Kd.R_reads' AB.out).2.1); rintro e Ay ⟨v813, v816, rfl, ho0, ho1, hb⟩; refine ⟨_, rfl, ?_⟩; replace AB := zw AB hb; have AC := zm (Kd.R_lower ho0 (below_size zB)); have AD := zm (Kd.R_lower ho1 (below_size zB)); replace AA := zy AA hb; replace HB := zm (below_step zB hb); clear hb ho0 ho1; obtain ⟨AX, Ab, eo21⟩ := Kd.R_slice AC.out; subst eo21; obtain ⟨AY, Ac, eo22⟩ := Kd.R_slice AD.out; subst eo22) | ((with_reducible refine gate_callee (f := 54) rfl ?_); refine zg (some 17) #[.agg #[.slice AX AK.length Ab, .slice AY AL.length Ac]] Try.func54 ?_; (with_reducible refine (impl_StateBytes.calls AG _ _ AK _ _ AL AF _ ?side1 ?side2 ?side3 ?side4 An.out).mono ?_); (case side1 => repeat (first | exact (Kd.R_reads' AC.out).2.2 | (with_reducible refine Kd.C_alloc ?_ _) | (with_reducible refine Kd.C_drewN ?_ _) | (with_reducible refine Kd.C_drew ?_))); (case side2 => exact (Kd.R_reads' AC.out).2.1); (case side3 => repeat (first | exact (Kd.R_reads' AD.out).2.2 | (with_reducible refine Kd.C_alloc ?_ _) | (with_reducible refine Kd.C_drewN ?_ _) | (with_reducible refine Kd.C_drew ?_))); (case side4 => exact (Kd.R_reads' AD.out).2.1); rintro e Az ⟨v819, rfl, ho0, hb⟩; refine ⟨_, rfl, ?_⟩; replace AB := zw AB hb; replace AC := zw AC hb; replace AD := zw AD hb; have AH := zm (Kd.R_lower ho0 (below_size zB)); replace AA := zy AA hb; replace HB := zm (below_step zB hb); clear hb ho0; obtain ⟨AZ, Ad, eo24⟩ := Kd.R_slice AH.out; subst eo24) | ((with_reducible refine gate_callee (f := 79) rfl ?_); refine zg (some 18) #[.slice AZ AF.length Ad] Try.func79 ?_; (with_reducible refine (impl_Crc.calls AG _ _ AF AM _ ?side1 ?side2 Ao.out).mono ?_); (case side1 => repeat (first | exact (Kd.R_reads' AH.out).2.2 | (with_reducible refine Kd.C_alloc ?_ _) | (with_reducible refine Kd.C_drewN ?_ _) | (with_reducible refine Kd.C_drew ?_))); (case side2 => exact (Kd.R_reads' AH.out).2.1); rintro e w' ⟨rfl, ⟨nd, rfl⟩⟩; refine ⟨_, rfl, ?_⟩))
    go_ret
    exact ⟨zE, zB⟩

/-! ### impl_rootOf: function 84 -/
def impl_rootOf.l0 : Nat → List Int → List Int → Int → Int → Option (Int)
 | 0, _, _, _, _ => none
 | k + 1, x3, x7, x8, x9 => if x9 < x8 then (if 0 ≤ x9 then (if x9 < (x7.length : Int) then ((impl_PutNum.f k (rd x7 x9)).bind fun t826 => ((impl_joined.f k (([x3, t826] : List (List Int)))).bind fun t832 => (impl_rootOf.l0 k t832 x7 x8 (wrap64 (x9 + 1))))) else (none)) else (none)) else ((impl_Crc.f k x3).bind fun t835 => (some (Int.tmod t835 1024)))
def impl_rootOf.f (k : Nat) (l0 : List Int) : Option (Int) := impl_rootOf.l0 k (([] : List Int)) l0 (l0.length : Int) 0
theorem impl_rootOf.mono_l : ∀ k, (∀ y0 y1 y2 y3, LeO (impl_rootOf.l0 k y0 y1 y2 y3) (impl_rootOf.l0 (k + 1) y0 y1 y2 y3))
 | 0 => fun _ _ _ _ r h => by simp [impl_rootOf.l0] at h
 | k + 1 => by
  have ih0 := impl_rootOf.mono_l k
  ·intro y0 y1 y2 y3
   unfold impl_rootOf.l0
   repeat' first | (with_reducible first | exact LeO.refl _ | exact LeO.none _ | refine LeO.ite ?_ ?_ | refine LeO.bind ?_ (fun _ => ?_) | apply ih0 | apply impl_Crc.mono | apply impl_PutNum.mono | apply impl_joined.mono) | apply ih0 | apply impl_Crc.mono | apply impl_PutNum.mono | apply impl_joined.mono | exact LeO.none _ | refine LeO.ite ?_ ?_ | refine LeO.bind ?_ (fun _ => ?_)
theorem impl_rootOf.mono : ∀ a0 k, LeO (impl_rootOf.f k a0) (impl_rootOf.f (k + 1) a0) := by
 intro a0 k; have ih0 := impl_rootOf.mono_l k
 unfold impl_rootOf.f
 repeat' first | (with_reducible first | exact LeO.refl _ | exact LeO.none _ | refine LeO.ite ?_ ?_ | refine LeO.bind ?_ (fun _ => ?_) | apply ih0 | apply impl_Crc.mono | apply impl_PutNum.mono | apply impl_joined.mono) | apply ih0 | apply impl_Crc.mono | apply impl_PutNum.mono | apply impl_joined.mono | exact LeO.none _ | refine LeO.ite ?_ ?_ | refine LeO.bind ?_ (fun _ => ?_)
set_option maxHeartbeats 8000000 in
set_option maxRecDepth 100000 in
theorem impl_rootOf.calls (k : Nat) (A0 : Option Addr) (c0 : Nat) (l0 : List Int) (r : Int) (w : World) (hr0 : Kd.C (Kd.int .i64) w A0 l0.length l0) (hc0 : l0.length ≤ c0) (h : impl_rootOf.f k l0 = some r) :
  Calls Try.prog 84 #[.slice A0 l0.length c0] w fun e w' => e = .returned (.int .i64 r) ∧ Below w.heap.size w w' := by
 have HR0 := zm hr0; have Aa := zm hc0; clear hr0 hc0; have HB := zm (Below.refl w.heap.size w); have H : (impl_rootOf.l0 k (([] : List Int)) l0 (l0.length : Int) 0) = some r := h; clear h
 obtain ⟨y822, hy822⟩ : ∃ y_ : List Int, y_ = (([] : List Int)) := ⟨_, rfl⟩
 replace H : (impl_rootOf.l0 k y822 l0 (l0.length : Int) 0) = some r := by first | (rw [hy822]; with_reducible exact H) | (have H2_ := (Option.bind_some _ _).symm.trans H; rw [hy822]; with_reducible exact H2_) | (have H2_ := (Option.bind_some _ _).symm.trans H; with_reducible exact H2_) | with_reducible exact H | (rw [hy822]; exact H) | exact H
 have Ny822 := zm hy822; clear hy822
 have H' := zm H
 clear H; go_enter Try.func84, Try.ntmps84
 go_wp2_with (first | ((with_reducible refine gate_dst (N := 6) rfl ?_); refine Kd.R_lit (Kd.int .u8) _ 5 ?hg (N := 6) ?hd (xs := ([] : List Int)) (inner := []) (ok := fun _ => True) (okp := fun _ => True) ?hr ?hp (fun _ hk => hk) trivial (Below.refl _ _) (Nat.le_refl _) (by simp) ?_; (case hd => rfl); (case hg => rfl); (case hr => first | (go_simp; done) | (go_simp; rfl)); (case hp => exact (Reps.none _ _)); intro v823 w2 ho3 hb hg_ hnew_; clear hg_ hnew_; (first | rw [← Ny822.out] at ho3 | (simp only [Int.reduceToNat] at ho3; rw [← Ny822.out] at ho3)); have AM := zm (Kd.R_lower ho3 (below_size zB)); replace HB := zm (below_step zB hb); clear hb ho3))
 go_loopg [3, 9] k (fun kq v3 v9 w' => ∃ (AC : List Int) (AA : Int), v9 = .int .i64 AA ∧ Aside0 (impl_rootOf.l0 kq AC l0 (l0.length : Int) AA = some r) ∧ Aside0 (kq ≤ k) ∧ Aside0 (Kd.R (Kd.int .u8) 5 w' w.heap.size (fun _ => True) v3 AC) ∧ Aside0 (Below w.heap.size w w'))
 case atStart => exact ⟨(y822), (0), zF, H', ⟨Nat.le_refl _⟩, ⟨zr AM⟩, ⟨zB⟩⟩
 case round =>
  clear H'; obtain ⟨AC, AA, rfl, HA, AQ, AB, HB⟩ := hrel
  cases gk with
  | zero => exact absurd HA.out (by simp [impl_rootOf.l0])
  | succ k1 =>
   have H := HA.out; clear HA; simp only [impl_rootOf.l0] at H
   by_cases c4 : AA < (l0.length : Int)
   ·rw [if_pos c4] at H; have AT : decide (AA < (l0.length : Int)) = true := decide_eq_true c4; clear c4
    by_cases c5 : 0 ≤ AA
    ·rw [if_pos c5] at H; have AY : decide (0 ≤ AA) = true := decide_eq_true c5; clear c5
     by_cases c6 : AA < (l0.length : Int)
     ·rw [if_pos c6] at H; have AZ : decide (AA < (l0.length : Int)) = true := decide_eq_true c6; clear c6; replace H := Option.bind_eq_some_iff.mp H; obtain ⟨AE, AO, H⟩ := H; (try dsimp only at H); have A7 := zm AO; clear AO
      obtain ⟨y829, hy829⟩ : ∃ y_ : List (List Int), y_ = (([AC, AE] : List (List Int))) := ⟨_, rfl⟩
      replace H : ((impl_joined.f k1 y829).bind fun AG => (impl_rootOf.l0 k1 AG l0 (l0.length : Int) (wrap64 (AA + 1)))) = some r := by first | (rw [hy829]; with_reducible exact H) | (have H2_ := (Option.bind_some _ _).symm.trans H; rw [hy829]; with_reducible exact H2_) | (have H2_ := (Option.bind_some _ _).symm.trans H; with_reducible exact H2_) | with_reducible exact H | (rw [hy829]; exact H) | exact H
      have Ny829 := zm hy829; clear hy829; replace H := Option.bind_eq_some_iff.mp H; obtain ⟨AG, AP, H⟩ := H; (try dsimp only at H); have A8 := zm AP; clear AP
      have H' := zm H
      clear H; have p825 : 0 ≤ (AA : Int) := zd; have q825 : AA < (l0.length : Int) := zd; obtain ⟨ad825, e825, hx825_0⟩ := Kd.at_int (Kd.C_below HR0.out HB.out) AA p825 q825; cases e825; replace p825 := eq_true p825; replace q825 := eq_true q825
      go_wp2_with (first | ((with_reducible refine gate_callee (f := 80) rfl ?_); refine zg (some 15) #[.int .i64 (rd l0 AA)] Try.func80 ?_; (with_reducible refine (impl_PutNum.calls k1 (rd l0 AA) AE _ A7.out).mono ?_); rintro e w9 ⟨v827, rfl, ho0, hb⟩; refine ⟨_, rfl, ?_⟩; have AF := zm (Kd.R_lower (Kd.R_new' ho0 (Kd.R_lt (zr AB))) (below_size zB)); replace AB := zm (Kd.R_elder' (zr AB) (Kd.R_base ho0) hb); replace HB := zm (below_step zB hb); clear hb ho0; obtain ⟨AI, AK, eo10⟩ := Kd.R_slice AB.out; subst eo10; obtain ⟨AJ, AL, eo11⟩ := Kd.R_slice AF.out; subst eo11) | ((with_reducible refine gate_dst (N := 16) rfl ?_); refine Kd.N_lit (Kd.slice 5 (Kd.int .u8)) _ 22 ?hg (N' := 16) ?hd (xs := ([AC, AE] : List (List Int))) (inner := [.slice AI AC.length AK, .slice AJ AE.length AL]) (ok := (fun _ => True)) (okp := (fun _ => True)) ?hr ?hp (fun _ hk => hk) ((show ∀ k_, w9.heap.size ≤ k_ → (fun _ => True) k_ from fun k_ hk => trivial) _ (Nat.le_refl _)) (Below.refl _ _) (Nat.le_refl _) (by simp) ?_; (case hd => rfl); (case hg => rfl); (case hr => first | (go_simp; done) | (go_simp; rfl)); (case hp => exact (Reps.one (show Kd.FK (Kd.slice 5 (Kd.int .u8)) _ _ AC [.slice AI AC.length AK] from (Kd.FK_slice_mk (Kd.R_reads' (Kd.R_mono (ok' := (fun _ => True)) (AB.out) (fun k_ hk => trivial))).2.1 (Kd.R_F (Kd.R_mono (ok' := (fun _ => True)) (AB.out) (fun k_ hk => trivial))))) (Reps.one (show Kd.FK (Kd.slice 5 (Kd.int .u8)) _ _ AE [.slice AJ AE.length AL] from (Kd.FK_slice_mk (Kd.R_reads' (Kd.R_mono (ok' := (fun _ => True)) (AF.out) (fun k_ hk => trivial))).2.1 (Kd.R_F (Kd.R_mono (ok' := (fun _ => True)) (AF.out) (fun k_ hk => trivial))))) (Reps.none _ _)))); intro v830 Ab ho13 hb hg_ hnew_; clear hg_ hnew_; (first | rw [← Ny829.out] at ho13 | (simp only [Int.reduceToNat] at ho13; rw [← Ny829.out] at ho13)); have AD := zm (Kd.N_lower ho13 (below_size zB)); replace HB := zm (below_step zB hb); clear AF AB; clear hb ho13; obtain ⟨AR, AU, eo14⟩ := Kd.N_slice AD.out; subst eo14) | ((with_reducible refine gate_callee (f := 95) rfl ?_); refine zg (some 17) #[.slice AR y829.length AU] Try.func95 ?_; (with_reducible refine (impl_joined.calls k1 _ _ y829 AG _ ?side1 ?side2 A8.out).mono ?_); (case side1 => repeat (first | exact (Kd.N_reads' AD.out).2.2 | (with_reducible refine Kd.C_alloc ?_ _) | (with_reducible refine Kd.C_drewN ?_ _) | (with_reducible refine Kd.C_drew ?_))); (case side2 => exact (Kd.N_reads' AD.out).2.1); rintro e Ac ⟨v833, rfl, ho0, hb⟩; refine ⟨_, rfl, ?_⟩; replace AD := zm (Kd.N_elder' (by (with_reducible repeat (first | apply Kd.N_alloc | apply Kd.N_drewN | apply Kd.N_drew)); exact AD.out) (Kd.R_base ho0) hb); have AN := zm (Kd.R_lower ho0 (below_size zB)); replace HB := zm (below_step zB hb); clear hb ho0))
      go_roundg k1
      case measure => have := AQ.out; omega
      case rel => exact ⟨(AG), (wrap64 (AA + 1)), zF, H', ⟨by have := AQ.out; omega⟩, ⟨zr AN⟩, ⟨zB⟩⟩
     ·rw [if_neg c6] at H
      exact absurd H (by simp)
    ·rw [if_neg c5] at H
     exact absurd H (by simp)
   ·rw [if_neg c4] at H; have AT : decide (AA < (l0.length : Int)) = false := decide_eq_false c4; clear c4; replace H := Option.bind_eq_some_iff.mp H; obtain ⟨AW, AH, H⟩ := H; (try dsimp only at H); have AX := zm AH; clear AH; obtain rfl := Option.some.inj H; obtain ⟨AS, AV, eo17⟩ := Kd.R_slice AB.out; subst eo17
    go_wp2_with (first | ((with_reducible refine gate_callee (f := 79) rfl ?_); refine zg (some 20) #[.slice AS AC.length AV] Try.func79 ?_; (with_reducible refine (impl_Crc.calls k1 _ _ AC AW _ ?side1 ?side2 AX.out).mono ?_); (case side1 => repeat (first | exact (Kd.R_reads' AB.out).2.2 | (with_reducible refine Kd.C_alloc ?_ _) | (with_reducible refine Kd.C_drewN ?_ _) | (with_reducible refine Kd.C_drew ?_))); (case side2 => exact (Kd.R_reads' AB.out).2.1); rintro e w' ⟨rfl, ⟨nd, rfl⟩⟩; refine ⟨_, rfl, ?_⟩))
    go_ret
    exact ⟨zE, zB⟩

/-! ### impl_TreeOf: function 39 -/
def impl_TreeOf.l0 : Nat → Int → List (S44) → List (S58) → List Int → Int → Option (List Int × Int)
 | 0, _, _, _, _, _ => none
 | k + 1, x4, x837000, x837001, x839000, x839001 => if x4 < 4 then ((impl_LeafSum.f k x837000 x837001 x4).bind fun t840 => (if x839000.length < 17592186044416 then (impl_TreeOf.l0 k (wrap64 (x4 + 1)) x837000 x837001 (x839000 ++ [t840]) x839001) else (none))) else ((impl_rootOf.f k x839000).bind fun t844 => (some (x839000, t844)))
def impl_TreeOf.f (k : Nat) (l0_0 : List (S44)) (l0_1 : List (S58)) : Option (List Int × Int) := (impl_StateOk.f k l0_0 l0_1).bind fun t839 => (if t839 = true then (impl_TreeOf.l0 k 0 l0_0 l0_1 ([] : List Int) 0) else (some (([] : List Int), 0)))
theorem impl_TreeOf.mono_l : ∀ k, (∀ y0 y1 y2 y3 y4, LeO (impl_TreeOf.l0 k y0 y1 y2 y3 y4) (impl_TreeOf.l0 (k + 1) y0 y1 y2 y3 y4))
 | 0 => fun _ _ _ _ _ r h => by simp [impl_TreeOf.l0] at h
 | k + 1 => by
  have ih0 := impl_TreeOf.mono_l k
  ·intro y0 y1 y2 y3 y4
   unfold impl_TreeOf.l0
   repeat' first | (with_reducible first | exact LeO.refl _ | exact LeO.none _ | refine LeO.ite ?_ ?_ | refine LeO.bind ?_ (fun _ => ?_) | apply ih0 | apply impl_LeafSum.mono | apply impl_StateOk.mono | apply impl_rootOf.mono) | apply ih0 | apply impl_LeafSum.mono | apply impl_StateOk.mono | apply impl_rootOf.mono | exact LeO.none _ | refine LeO.ite ?_ ?_ | refine LeO.bind ?_ (fun _ => ?_)
theorem impl_TreeOf.mono : ∀ a0 a1 k, LeO (impl_TreeOf.f k a0 a1) (impl_TreeOf.f (k + 1) a0 a1) := by
 intro a0 a1 k; have ih0 := impl_TreeOf.mono_l k
 unfold impl_TreeOf.f
 repeat' first | (with_reducible first | exact LeO.refl _ | exact LeO.none _ | refine LeO.ite ?_ ?_ | refine LeO.bind ?_ (fun _ => ?_) | apply ih0 | apply impl_LeafSum.mono | apply impl_StateOk.mono | apply impl_rootOf.mono) | apply ih0 | apply impl_LeafSum.mono | apply impl_StateOk.mono | apply impl_rootOf.mono | exact LeO.none _ | refine LeO.ite ?_ ?_ | refine LeO.bind ?_ (fun _ => ?_)
def impl_TreeOf.T7 : Bool × List (List Nat × List Nat) := (true, [([], []), ([0], [0]), ([], []), ([], []), ([2, 3], [2, 3]), ([4], [4]), ([1, 5, 4], [1, 5]), ([0, 1, 2, 3, 4, 5, 6], []), ([7, 6, 6, 0, 1, 2, 3, 4, 5, 6], [6, 7])])
def impl_TreeOf.B7 : List Nat := [0, 1, 0, 0, 12, 28, 63, 127, 255]
theorem impl_TreeOf.tab7 : rtab .any (opsOf Try.f39 7) = impl_TreeOf.T7 := by kernel_rfl
theorem impl_TreeOf.bits7 : waitsOk impl_TreeOf.T7.2 impl_TreeOf.B7 = true := by kernel_rfl
set_option maxHeartbeats 8000000 in
set_option maxRecDepth 100000 in
theorem impl_TreeOf.calls (k : Nat) (A0_0 : Option Addr) (c0_0 : Nat) (l0_0 : List (S44)) (A0_1 : Option Addr) (c0_1 : Nat) (l0_1 : List (S58)) (r1 : List Int) (r2 : Int) (w : World) (hr0_0 : Kd.C k44 w A0_0 l0_0.length l0_0) (hc0_0 : l0_0.length ≤ c0_0) (hr0_1 : Kd.C k58 w A0_1 l0_1.length l0_1) (hc0_1 : l0_1.length ≤ c0_1) (h : impl_TreeOf.f k l0_0 l0_1 = some (r1, r2)) :
  Calls Try.prog 39 #[.agg #[.slice A0_0 l0_0.length c0_0, .slice A0_1 l0_1.length c0_1]] w fun e w' => ∃ v0_ : Value, e = .returned (.agg #[v0_, .int .i64 r2]) ∧ Kd.R (Kd.int .i64) 3 w' w.heap.size (fun _ => True) v0_ r1 ∧ Below w.heap.size w w' := by
 have hu27 := Try.underlying27; have hu54 := Try.underlying54; have HR0_0 := zm hr0_0; have HC0_0 := zm hc0_0; clear hr0_0 hc0_0; have HR0_1 := zm hr0_1; have HC0_1 := zm hc0_1; clear hr0_1 hc0_1; have HB := zm (Below.refl w.heap.size w); have H : ((impl_StateOk.f k l0_0 l0_1).bind fun AR => (if AR = true then (impl_TreeOf.l0 k 0 l0_0 l0_1 ([] : List Int) 0) else (some (([] : List Int), 0)))) = some (r1, r2) := h; clear h; replace H := Option.bind_eq_some_iff.mp H; obtain ⟨AR, Ao, H⟩ := H; (try dsimp only at H); have A2 := zm Ao; clear Ao
 by_cases c3 : AR = true
 ·subst c3; rw [if_pos rfl] at H
  have H' := zm H
  clear H; go_enter Try.func39, Try.ntmps39
  go_wp2_with (first | ((with_reducible refine gate_dst (N := 1) rfl ?_); refine zbox 1 #[.slice A0_0 l0_0.length c0_0, .slice A0_1 l0_1.length c0_1] 27 ?_; intro AN hg w4 hbox hb; have AA := zm (hbox); have Ak := zge w hg zB; have Ah := zge w hg zB; replace HB := zm (below_step zB hb); clear hb hbox hg) | ((with_reducible refine gate_dst (N := 2) rfl ?_); refine zbox 2 #[.slice none 0 0, .int .i64 0] 54 ?_; intro AO hg w5 hbox hb; have AB := zm (hbox); have Al := zge w hg zB; have Ai := zge w hg zB; replace HB := zm (below_step zB hb); have AJ := zlt hg (zb AA); have AK := zgt hg (zb AA); replace AA := zy AA hb; clear hb hbox hg) | ((with_reducible refine gate_dst (N := 3) rfl ?_); refine zbox 3 #[.slice none 0 0, .int .i64 0] 54 ?_; intro AM hg w6 hbox hb; have AD := zm (hbox); have Am := zge w hg zB; have Aj := zge w hg zB; replace HB := zm (below_step zB hb); have AF := zlt hg (zb AA); have AH := zgt hg (zb AA); replace AA := zy AA hb; have AE := zlt hg (zb AB); have AI := zgt hg (zb AB); replace AB := zy AB hb; clear hb hbox hg; have Bi := AH.out; have Bk := AF.out; have Bj := AI.out; have Bl := AE.out; obtain ⟨Ac, Ad, Ae, Af⟩ := zc2 AD; have BU := AJ.out; have Bb := AK.out; obtain ⟨AU, AV, AW, AX⟩ := zc2 AA) | ((with_reducible refine gate_callee (f := 27) rfl ?_); refine zg (some 7) #[.agg #[.slice A0_0 l0_0.length c0_0, .slice A0_1 l0_1.length c0_1]] Try.func27 ?_; (with_reducible refine (impl_StateOk.calls k _ _ l0_0 _ _ l0_1 true _ ?side1 HC0_0.out ?side3 HC0_1.out A2.out).mono ?_); (case side1 => exact Kd.C_below HR0_0.out zB); (case side3 => exact Kd.C_below HR0_1.out zB); rintro e Bm ⟨rfl, hb⟩; refine ⟨_, rfl, ?_⟩; replace AA := zyb hb (zfar (zfar (zb AA) AF) AF); replace AB := zyb hb (zfar (zfar (zb AB) AE) AE); replace AD := zm (blk_below (g := AM) (o := .cells #[.slice none 0 0, .int .i64 0] 54 (0, 0)) (zput (zput (zb AD) 0) 1) hb); replace HB := zm (below_step zB hb); clear hb))
  go_loopg [4] k (fun kq v4 w' => ∃ (AL : Int) (AG : List Int) (u839000 : Value), v4 = .int .i64 AL ∧ Aside0 (impl_TreeOf.l0 kq AL l0_0 l0_1 AG 0 = some (r1, r2)) ∧ Aside0 (kq ≤ k) ∧ Aside0 (Kd.R (Kd.int .i64) 3 w' w.heap.size (fun _ => True) u839000 AG) ∧ Aside0 (w'.heap[AN]? = some (.cells #[(.slice A0_0 l0_0.length c0_0), (.slice A0_1 l0_1.length c0_1)] 27 (0, 0))) ∧ Aside0 (w'.heap[AO]? = some (.cells #[(.slice none 0 0), .int .i64 0] 54 (0, 0))) ∧ Aside0 (w'.heap[AM]? = some (.cells #[u839000, .int .i64 0] 54 (0, 0))) ∧ Aside0 (Below w.heap.size w w'))
  case atStart => exact ⟨(0), (([] : List Int)), (.slice none 0 0), zF, H', ⟨Nat.le_refl _⟩, ⟨znil⟩, ⟨zb AA⟩, ⟨zb AB⟩, ⟨zb AD⟩, ⟨zB⟩⟩
  case round =>
   clear H'; (try clear c3); (try clear AU); (try clear AV); (try clear Ac); (try clear Ad); (try clear AW); (try clear AX); (try clear Ae); (try clear Af); obtain ⟨AL, AG, u839000, rfl, HA, Ap, AC, AA, AB, AD, HB⟩ := hrel
   cases gk with
   | zero => exact absurd HA.out (by simp [impl_TreeOf.l0])
   | succ k1 =>
    have H := HA.out; clear HA; simp only [impl_TreeOf.l0] at H
    by_cases AP : AL < 4
    ·rw [if_pos AP] at H; have An : decide (AL < 4) = true := decide_eq_true AP; clear AP; replace H := Option.bind_eq_some_iff.mp H; obtain ⟨AQ, AY, H⟩ := H; (try dsimp only at H); have BR := zm AY; clear AY
     by_cases AT : AG.length < 17592186044416
     ·rw [if_pos AT] at H; have LMc15 := zm AT; clear AT
      obtain ⟨y841, hy841⟩ : ∃ y_ : List Int, y_ = (AG ++ [AQ]) := ⟨_, rfl⟩
      replace H : (impl_TreeOf.l0 k1 (wrap64 (AL + 1)) l0_0 l0_1 y841 0) = some (r1, r2) := by first | (rw [hy841]; with_reducible exact H) | (have H2_ := (Option.bind_some _ _).symm.trans H; rw [hy841]; with_reducible exact H2_) | (have H2_ := (Option.bind_some _ _).symm.trans H; with_reducible exact H2_) | with_reducible exact H | (rw [hy841]; exact H) | exact H
      have Ny841 := zm hy841; clear hy841
      have H' := zm H
      clear H
      try go_wp2
      replace AC := zm (Kd.R_drew AC.out); replace AA := zq AA; replace AB := zq AB; replace AD := zq AD; replace HB := zm (below_drew1 HB.out)
      refine start_ (n := 9) (S := fun w' => w'.cell? ⟨AM, 0, none⟩ = some (u839000) ∧ w'.cell? ⟨AM, 1, none⟩ = some (.int .i64 0) ∧ w'.cell? ⟨AN, 0, none⟩ = some (.slice A0_0 l0_0.length c0_0) ∧ w'.cell? ⟨AN, 1, none⟩ = some (.slice A0_1 l0_1.length c0_1)) (ds := [8]) (zl 9 0) (by kernel_rfl) rfl rfl zS (fun hHeld => ?_); refine with_tabW impl_TreeOf.tab7 impl_TreeOf.bits7 (fun HT_ HW_ => ?_)
      generalize wr.drew = Bn at AC AA AB AD HB hHeld ⊢
      refine zu 0 14 9 1 ?_
      refine zu 3 17 9 9 ?_
      refine zv 1 15 9 11 ?_
      refine zv 2 16 9 15 ?_
      refine zo 4 (some 18) (zl 9 31) (fun K hK => ?_); refine zgo #[.agg #[.slice A0_0 l0_0.length c0_0, .slice A0_1 l0_1.length c0_1], .int .i64 AL] Try.func38 ?_; (with_reducible refine (impl_LeafSum.calls k1 _ _ l0_0 _ _ l0_1 AL AQ _ (zk (Kd.C_below HR0_0.out HB.out)) HC0_0.out (zk (Kd.C_below HR0_1.out HB.out)) HC0_1.out BR.out).mono ?_); rintro e Bo ⟨rfl, hb⟩; refine ⟨_, rfl, ?_⟩; replace AC := zw AC hb; replace AA := zy AA hb; replace AB := zy AB hb; replace AD := zy AD hb; replace HB := zm (below_step zB hb); (try clear hb); refine hK.out _ _ zS (fun hHeld => ?_); clear hK K; refine zn ?_; refine zo 5 (some 19) (zl 9 63) (fun K hK => ?_)
      refine value_ (w1 := ?_) (v := ?_) (by rfl) rfl ?_ ?_
      rotate_left 2
      ·go_simp
       constructor
       ·rfl
       ·rfl
      refine hK.out _ _ ⟨(blk_cell (blk_alloc AD.out _) 0).trans rfl, (blk_cell (blk_alloc AD.out _) 1).trans rfl, (blk_cell (blk_alloc AA.out _) 0).trans rfl, (blk_cell (blk_alloc AA.out _) 1).trans rfl⟩ (fun hHeld => ?_); clear hK K; refine zn (N := some 19) ?_; refine zo 6 (some 20) (zl 9 127) (fun K hK => ?_)
      refine Kd.R_append_step (Kd.int .i64) (w0 := w) w.heap.size (by rfl) (.tmp 15) (.tmp 19) 52 3 (.int .i64 0) 8 rfl Try.underlying52 info3 rfl (by decide) (by omega) u839000 AG AQ [.int .i64 AQ] (fun _ => True) (fun _ => False) rfl rfl ?aP (fun _ hk => hk.elim) ?aF ?aO ?aB ?aS ?aL ?_
      (case aP => exact rfl)
      (case aB => exact zB)
      (case aF => exact (fun _ _ => trivial))
      (case aO => exact (zr AC))
      (case aS => exact (below_size zB))
      (case aL => have := LMc15.out; omega)
      intro v842 BT ho hb hg hat; rw [← Ny841.out] at ho; replace AA := zgr hg (zb AA) (Kd.R_ne AC.out AA.out (by decide)); replace AB := zgr hg (zb AB) (Kd.R_ne AC.out AB.out (by decide)); replace AD := zgr hg (zb AD) (Kd.R_ne AC.out AD.out (by decide)); replace HB := zm hb; have AS := zm (ho); clear AC; clear ho hb hg hat; obtain ⟨Aq, Ar, eo19⟩ := Kd.R_slice AS.out
      (first | subst eo19 | (injection eo19 with f1_ f2_ f3_; have f4_ := f1_.symm; have f5_ := f3_.symm; clear f1_ f2_ f3_; subst f4_; subst f5_))
      refine hK.out _ _ zS (fun hHeld => ?_); clear hK K; refine zn (N := some 20) ?_
      refine zu 7 21 9 255 ?_
      refine last_ (i := 8) (N := none) #[true, true, true, true, true, true, true, true, true] rfl rfl (one_of HT_.out (by kernel_rfl)) (by decide) (fun K hK => ?_)
      have hs20 : BT.cell? ⟨AM, 0, none⟩ = some (u839000) := (blk_cell AD.out 0).trans rfl; have hfs20 := blk_frozen AD.out 0; have hns20_0 := AF.out; have hns20_1 := AE.out; have hms20_0 := AH.out; have hms20_1 := AI.out
      refine skip_ (w1 := ?_) (by rfl) rfl ?_ ?_
      rotate_left
      ·go_simp
       rfl
      refine hK.out _ _ ?_; clear hK K
      refine done_ (done_of HT_.out (by kernel_rfl)) ?_
      try go_wp2
      go_roundg k1
      case measure => have := Ap.out; omega
      case rel => exact ⟨(wrap64 (AL + 1)), (y841), (.slice Aq y841.length Ar), zF, H', ⟨by have := Ap.out; omega⟩, ⟨zrs <| Kd.R_mono (zfr (Kd.R_types AS.out AD.out (by decide))) (fun _ hk => trivial)⟩, ⟨zfar (zb AA) AF⟩, ⟨zfar (zb AB) AE⟩, ⟨zput (zb AD) 0⟩, ⟨zB⟩⟩
     ·rw [if_neg AT] at H
      exact absurd H (by simp)
    ·rw [if_neg AP] at H; have An : decide (AL < 4) = false := decide_eq_false AP; clear AP; replace H := Option.bind_eq_some_iff.mp H; obtain ⟨Ag, AZ, H⟩ := H; (try dsimp only at H); have BS := zm AZ; clear AZ; simp only [Option.some.injEq, Prod.mk.injEq] at H; obtain ⟨rfl, rfl⟩ := H; have BV := AH.out; have Bc := AF.out; have BW := AI.out; have Bd := AE.out; obtain ⟨As, At, BD, BE⟩ := zc2 AD; obtain ⟨Aa, Ab, eo25⟩ := Kd.R_slice AC.out; subst eo25
     go_wp2_with (first | ((with_reducible refine gate_callee (f := 84) rfl ?_); refine zg (some 24) #[.slice Aa AG.length Ab] Try.func84 ?_; (with_reducible refine (impl_rootOf.calls k1 _ _ AG Ag _ ?side1 ?side2 BS.out).mono ?_); (case side1 => repeat (first | exact (Kd.R_reads' AC.out).2.2 | (with_reducible refine Kd.C_alloc ?_ _) | (with_reducible refine Kd.C_drewN ?_ _) | (with_reducible refine Kd.C_drew ?_))); (case side2 => exact (Kd.R_reads' AC.out).2.1); rintro e Bp ⟨rfl, hb⟩; refine ⟨_, rfl, ?_⟩; replace AC := zw AC hb; replace AA := zy AA hb; replace AB := zy AB hb; replace AD := zy AD hb; replace HB := zm (below_step zB hb); clear hb; obtain ⟨Au, Av, BF, BG⟩ := zc2 AD; have BX := AK.out; have Be := AJ.out; obtain ⟨Aw, Ax, BH, BI⟩ := zc2 AB))
     refine bodyPost_ret (results_cell_row rfl _ _ AO 54 #[.slice Aa AG.length Ab, .int .i64 Ag] (0, 0) _ rfl (zput (zput (zfar (zb AB) AE) 0) 1) Try.underlying54 rfl (by kernel_rfl)) rfl ?_
     exact ⟨_, zE, zrs <| Kd.R_mono (zfr (zfr (zfq (Kd.R_types (Kd.R_types AC.out AD.out (by decide)) AB.out (by decide)) (fun _ hk => hk.1.2)))) (fun _ hk => trivial), zB⟩
 ·replace c3 := Bool.eq_false_iff.mpr c3; subst c3; rw [zff] at H; simp only [Option.some.injEq, Prod.mk.injEq] at H; obtain ⟨rfl, rfl⟩ := H; go_enter Try.func39, Try.ntmps39
  go_wp2_with (first | ((with_reducible refine gate_dst (N := 1) rfl ?_); refine zbox 1 #[.slice A0_0 l0_0.length c0_0, .slice A0_1 l0_1.length c0_1] 27 ?_; intro AN hg Bq hbox hb; have AA := zm (hbox); have Ak := zge w hg zB; have Ah := zge w hg zB; replace HB := zm (below_step zB hb); clear hb hbox hg) | ((with_reducible refine gate_dst (N := 2) rfl ?_); refine zbox 2 #[.slice none 0 0, .int .i64 0] 54 ?_; intro AO hg Br hbox hb; have AB := zm (hbox); have Al := zge w hg zB; have Ai := zge w hg zB; replace HB := zm (below_step zB hb); have AJ := zlt hg (zb AA); have AK := zgt hg (zb AA); replace AA := zy AA hb; clear hb hbox hg) | ((with_reducible refine gate_dst (N := 3) rfl ?_); refine zbox 3 #[.slice none 0 0, .int .i64 0] 54 ?_; intro AM hg Bs hbox hb; have AD := zm (hbox); have Am := zge w hg zB; have Aj := zge w hg zB; replace HB := zm (below_step zB hb); have AF := zlt hg (zb AA); have AH := zgt hg (zb AA); replace AA := zy AA hb; have AE := zlt hg (zb AB); have AI := zgt hg (zb AB); replace AB := zy AB hb; clear hb hbox hg; have BY := AH.out; have Bf := AF.out; have BZ := AI.out; have Bg := AE.out; obtain ⟨Ay, Az, BJ, BK⟩ := zc2 AD; have Ba := AJ.out; have Bh := AK.out; obtain ⟨B0, B2, BL, BM⟩ := zc2 AA) | ((with_reducible refine gate_callee (f := 27) rfl ?_); refine zg (some 7) #[.agg #[.slice A0_0 l0_0.length c0_0, .slice A0_1 l0_1.length c0_1]] Try.func27 ?_; (with_reducible refine (impl_StateOk.calls k _ _ l0_0 _ _ l0_1 false _ ?side1 HC0_0.out ?side3 HC0_1.out A2.out).mono ?_); (case side1 => exact Kd.C_below HR0_0.out zB); (case side3 => exact Kd.C_below HR0_1.out zB); rintro e Bt ⟨rfl, hb⟩; refine ⟨_, rfl, ?_⟩; replace AA := zyb hb (zfar (zfar (zb AA) AF) AF); replace AB := zyb hb (zfar (zfar (zb AB) AE) AE); replace AD := zm (blk_below (g := AM) (o := .cells #[.slice none 0 0, .int .i64 0] 54 (0, 0)) (zput (zput (zb AD) 0) 1) hb); replace HB := zm (below_step zB hb); clear hb; obtain ⟨B3, BA, BN, BO⟩ := zc2 AD; obtain ⟨BB, BC, BP, BQ⟩ := zc2 AB))
  refine bodyPost_ret (results_cell_row rfl _ _ AO 54 #[.slice none 0 0, .int .i64 0] (0, 0) _ rfl (zput (zput (zb AB) 0) 1) Try.underlying54 rfl (by kernel_rfl)) rfl ?_
  exact ⟨_, zE, znil, zB⟩

end Go.Proofs.Ytnmofppbijmhoaa.P
