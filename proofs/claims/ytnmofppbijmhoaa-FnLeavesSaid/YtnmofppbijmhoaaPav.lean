-- by a program of this session, for this seat
import Derived.Test.YtnmofppbijmhoaaZ
import Derived.Test.YtnmofppbijmhoaaP0
import Derived.Test.YtnmofppbijmhoaaPad
import Derived.Test.YtnmofppbijmhoaaPah
import Derived.Test.YtnmofppbijmhoaaPai
namespace Go.Proofs.Ytnmofppbijmhoaa.P
open Go.RowKit Go.Proofs.YtnmofppbijmhoaaW.PrintWords Go.Proofs.YtnmofppbijmhoaaW.PrintLast Go.Proofs.YtnmofppbijmhoaaW.PrintMore Go.Proofs.Ytnmofppbijmhoaa.Z
attribute [local go_sem] max2_int min2_int max_two min_two max_three min_three max_four min_four   -- for this text's walks alone
set_option linter.unusedVariables false
set_option linter.unusedSimpArgs false

/-! ### spec_DrawEntryOf: function 55 -/
def spec_DrawEntryOf.f (k : Nat) (l0 : List Int) : Option ((List (S44)) × (List (S58)) × Int) := (spec_l1New.f k l0).bind fun bt668 => ((spec_l3Draw.f k bt668.1 bt668.2.1 bt668.2.2).bind fun bt672 => ((spec_l1Below.f bt668.1 bt672.2.2.1 bt672.2.2.2 7).bind fun bt681 => (some (bt672.1, bt672.2.1, wrap64 (bt681.1 - 1)))))
theorem spec_DrawEntryOf.mono : ∀ a0 k, LeO (spec_DrawEntryOf.f k a0) (spec_DrawEntryOf.f (k + 1) a0) := by
 intro a0 k
 unfold spec_DrawEntryOf.f
 repeat' first | (with_reducible first | exact LeO.refl _ | exact LeO.none _ | refine LeO.ite ?_ ?_ | refine LeO.bind ?_ (fun _ => ?_) | apply spec_l1New.mono | apply spec_l3Draw.mono) | apply spec_l1New.mono | apply spec_l3Draw.mono | exact LeO.none _ | refine LeO.ite ?_ ?_ | refine LeO.bind ?_ (fun _ => ?_)
set_option maxHeartbeats 8000000 in
set_option maxRecDepth 100000 in
theorem spec_DrawEntryOf.calls (k : Nat) (A0 : Option Addr) (c0 : Nat) (l0 : List Int) (r1 : List (S44)) (r2 : List (S58)) (r3 : Int) (w : World) (hr0 : Kd.C (Kd.int .u8) w A0 l0.length l0) (hc0 : l0.length ≤ c0) (h : spec_DrawEntryOf.f k l0 = some (r1, r2, r3)) :
  Calls Try.prog 55 #[.slice A0 l0.length c0] w fun e w' => ∃ v0_ v1_ : Value, e = .returned (.tuple #[.agg #[v0_, v1_], .int .i64 r3]) ∧ Kd.R k44 44 w' w.heap.size (fun _ => True) v0_ r1 ∧ Kd.R k58 58 w' w.heap.size (fun _ => True) v1_ r2 ∧ Below w.heap.size w w' := by
 have hu27 := Try.underlying27; have HR0 := zm hr0; have Am := zm hc0; clear hr0 hc0; have HB := zm (Below.refl w.heap.size w); have H : ((spec_l1New.f k l0).bind fun AP => ((spec_l3Draw.f k AP.1 AP.2.1 AP.2.2).bind fun AQ => ((spec_l1Below.f AP.1 AQ.2.2.1 AQ.2.2.2 7).bind fun AZ => (some (AQ.1, AQ.2.1, wrap64 (AZ.1 - 1)))))) = some (r1, r2, r3) := h; clear h; replace H := Option.bind_eq_some_iff.mp H; obtain ⟨⟨AI, AX, AY⟩, Aa, H⟩ := H; (try dsimp only at H); have A2 := zm Aa; clear Aa; replace H := Option.bind_eq_some_iff.mp H; obtain ⟨⟨AJ, AK, AL, AM⟩, Ab, H⟩ := H; (try dsimp only at H); have A3 := zm Ab; clear Ab; replace H := Option.bind_eq_some_iff.mp H; obtain ⟨⟨Af, Ag, Ah⟩, Ac, H⟩ := H; (try dsimp only at H); have A4 := zm Ac; clear Ac; simp only [Option.some.injEq, Prod.mk.injEq] at H; obtain ⟨rfl, rfl, rfl⟩ := H; go_enter Try.func55, Try.ntmps55
 try go_wp2_with (first | ((with_reducible refine gate_dst (N := 2) rfl ?_); refine zbox 2 #[.slice none 0 0, .slice none 0 0] 27 ?_; intro AG hg w5 hbox hb; have AA := zm (hbox); have Ap := zge w hg zB; have An := zge w hg zB; replace HB := zm (below_step zB hb); clear hb hbox hg) | ((with_reducible refine gate_callee (f := 73) rfl ?_); refine zg (some 7) #[.slice A0 l0.length c0] Try.func73 ?_; (with_reducible refine (spec_l1New.calls k _ _ l0 AI AX AY w _ zB HR0.out Am.out A2.out).mono ?_); rintro e w6 ⟨g671, rfl, hi, hb, hb2⟩; refine ⟨_, rfl, ?_⟩; replace HB := zm hb; have HI0 := zm hi; have Ad := zm (IsS97.ne_blk hi (blk_below (zb AA) hb2) (by decide)); have AN := zm (Ne.symm (IsS97.ne_blk hi (blk_below (zb AA) hb2) (by decide))); replace AA := zm (blk_below (zb AA) hb2); clear hb hb2 hi) | ((with_reducible refine gate_callee (f := 72) rfl ?_); refine zg (some 9) #[.pointer (some ⟨g671, 0, none⟩)] Try.func72 ?_; (with_reducible refine (spec_l3Draw.calls k g671 AI AX AY AJ AK AL AM w _ zI zH A3.out).mono ?_); rintro e w7 ⟨v673, v676, rfl, ho0, ho1, hi, hb, hk⟩; refine ⟨_, rfl, ?_⟩; replace AA := zkk hk (zb AA) AN; have AC := zm (Kd.R_lower ho0 (below_size zH)); have AD := zm (Kd.R_lower ho1 (below_size zH)); replace HB := zm hb; replace HI0 := zm hi; clear hb hk hi ho0 ho1) | ((with_reducible refine gate_dst (N := 5) rfl ?_); refine zbox 5 #[.slice none 0 0, .slice none 0 0] 27 ?_; intro AH hg w8 hbox hb; replace AC := zw AC hb; replace AD := zw AD hb; have AE := zm (hbox); have Aq := zm ((by rw [hg]; exact (below_size zH) : w.heap.size ≤ AH)); have Ao := zm ((by rw [hg]; exact (below_size zH) : w.heap.size ≤ AH)); replace HB := zbh hb; have AF := zlt hg (zb AA); have AB := zgt hg (zb AA); replace AA := zy AA hb; have AV := zil97 hg (show IsS97 w _ g671 AI AL AM from zI); have AO := zig97 hg (show IsS97 w _ g671 AI AL AM from zI); replace HI0 := zib97 hb zI; clear hb hbox hg; obtain ⟨AU, AW, eo9⟩ := Kd.R_slice AC.out; subst eo9; have Ar := AB.out; have At := AF.out; have As := AO.out; have Au := AV.out; obtain ⟨Ai, Aj, Ak, Al⟩ := zc2 AE; obtain ⟨AR, AS, eo13⟩ := Kd.R_slice AD.out; subst eo13))
 obtain ⟨AT, hW_⟩ : ∃ q, q = ((w8.setCell ⟨AH, 0, none⟩ (.slice AU AJ.length AW)).setCell ⟨AH, 1, none⟩ (.slice AR AK.length AS)) := ⟨_, rfl⟩
 have n0_ : Aside0 (Kd.R k44 44 AT w.heap.size (fun _ => True) (.slice AU AJ.length AW) AJ) := ⟨by rw [hW_]; exact zrs <| Kd.R_mono (zfr (zfr (Kd.R_types AC.out AE.out (by decide)))) (fun _ hk => trivial)⟩; have n1_ : Aside0 (Kd.R k58 58 AT w.heap.size (fun _ => True) (.slice AR AK.length AS) AK) := ⟨by rw [hW_]; exact zrs <| Kd.R_mono (zfr (zfr (Kd.R_types AD.out AE.out (by decide)))) (fun _ hk => trivial)⟩; have n2_ : Aside0 (AT.heap[AG]? = some (.cells #[.slice none 0 0, .slice none 0 0] 27 (0, 0))) := ⟨by rw [hW_]; exact zfar (zfar (zb AA) AF) AF⟩; have n3_ : Aside0 (AT.heap[AH]? = some (.cells #[.slice AU AJ.length AW, .slice AR AK.length AS] 27 (0, 0))) := ⟨by rw [hW_]; exact zput (zput (zb AE) 0) 1⟩; have n4_ : Aside0 (IsS97 w AT g671 AI AL AM) := ⟨by rw [hW_]; exact zI⟩; have n5_ : Aside0 (Below w.heap.size w AT) := ⟨by rw [hW_]; exact zH⟩
 rw [← hW_]
 clear hW_; (try clear AC); (try clear AD); (try clear AA); (try clear AE); (try clear HI0); (try clear HB); have AC := n0_; have AD := n1_; have AA := n2_; have AE := n3_; have HI0 := n4_; have HB := n5_; clear n0_ n1_ n2_ n3_ n4_ n5_; replace AC := zm (Kd.R_drew AC.out); replace AD := zm (Kd.R_drew AD.out); replace AA := zq AA; replace AE := zq AE; replace HI0 := zid97 HI0; replace HB := zm (below_drew1 HB.out)
 refine start_ (n := 6) (S := fun w' => w'.cell? ⟨AH, 0, none⟩ = some (.slice AU AJ.length AW) ∧ w'.cell? ⟨AH, 1, none⟩ = some (.slice AR AK.length AS)) (ds := []) (zl 6 0) (by kernel_rfl) rfl rfl zS (fun hHeld => ?_)
 generalize AT.drew = Av at AC AD AA AE HI0 HB hHeld ⊢
 refine zu 1 11 6 2 ?_
 refine zv 0 10 6 3 ?_
 refine zo 2 (some 12) (zl 6 7) (fun K hK => ?_); refine zgo #[.pointer (some ⟨g671, 0, none⟩), .int .i64 7] Try.func77 ?_; (with_reducible refine (spec_l1Below.calls g671 AI AL AM 7 Af Ag Ah w _ zI zH A4.out).mono ?_)
 rintro e Ae ⟨rfl, hi, hb, hk⟩; refine ⟨_, rfl, ?_⟩; replace AA := zkk hk (zb AA) AN; replace AC := zka97 (show IsS97 w _ g671 AI AL AM from zI) (zr AC) hk; replace AD := zka97 (show IsS97 w _ g671 AI AL AM from zI) (zr AD) hk; replace AE := zkk hk (zb AE) AO; replace HB := zm hb; replace HI0 := zm hi; (try clear hb); (try clear hb2); (try clear hk); (try clear hi); refine hK.out _ _ zS (fun hHeld => ?_); clear hK K; refine zn ?_
 refine zu 3 13 6 15 ?_
 refine zo 4 none (zl 6 31) (fun K hK => ?_); have hs17 : Ae.cell? ⟨AG, 0, none⟩ = some (.slice none 0 0) := (blk_cell AA.out 0).trans rfl; have hfs17 := blk_frozen AA.out 0; have hns17_1 := AB.out; have hms17_1 := AF.out; have hs18 : Ae.cell? ⟨AG, 1, none⟩ = some (.slice none 0 0) := (blk_cell AA.out 1).trans rfl; have hfs18 := blk_frozen AA.out 1; have hns18_1 := AB.out; have hms18_1 := AF.out
 refine skip_ (w1 := ?_) (by rfl) rfl ?_ ?_
 rotate_left
 ·go_simp
  rfl
 refine hK.out _ _ ⟨((cell_far (p := ⟨AG, _, none⟩) AB.out _).trans (((cell_far (p := ⟨AG, _, none⟩) AB.out _).trans (hHeld.1)))), ((cell_far (p := ⟨AG, _, none⟩) AB.out _).trans (((cell_far (p := ⟨AG, _, none⟩) AB.out _).trans (hHeld.2))))⟩ (fun hHeld => ?_); clear hK K
 refine zu 5 3 6 63 ?_
 refine done_ (by kernel_rfl) ?_
 try go_wp2
 refine bodyPost_ret (results_ct rfl _ _ AG 27 #[.slice AU AJ.length AW, .slice AR AK.length AS] (0, 0) _ rfl (zput (zput (zb AA) 0) 1) Try.underlying27 rfl (by kernel_rfl)) rfl ?_
 exact ⟨_, _, zE, zrs <| Kd.R_mono (zfr (zfr (Kd.R_types AC.out AA.out (by decide)))) (fun _ hk => trivial), zrs <| Kd.R_mono (zfr (zfr (Kd.R_types AD.out AA.out (by decide)))) (fun _ hk => trivial), zH⟩

end Go.Proofs.Ytnmofppbijmhoaa.P
