-- by a program of this session, for this seat
import Derived.Test.YthljdiniccpobaaZ
import Derived.Test.YthljdiniccpobaaP0
import Derived.Test.YthljdiniccpobaaPaa
import Derived.Test.YthljdiniccpobaaPac
import Derived.Test.YthljdiniccpobaaPad
import Derived.Test.YthljdiniccpobaaPam
namespace Go.Proofs.Ythljdiniccpobaa.P
open Go.RowKit Go.Proofs.YthljdiniccpobaaW.PrintWords Go.Proofs.YthljdiniccpobaaW.PrintLast Go.Proofs.YthljdiniccpobaaW.PrintMore Go.Proofs.Ythljdiniccpobaa.Z
attribute [local go_sem] max2_int min2_int max_two min_two max_three min_three max_four min_four   -- for this text's walks alone
set_option linter.unusedVariables false
set_option linter.unusedSimpArgs false

/-! ### spec_l3Join: function 88 -/
mutual
def spec_l3Join.l0 : Nat → Int → List (S84) → List (S89) → List (S84) → List (S89) → List (S84) → List (S89) → Option ((List (S84)) × (List (S89)))
 | 0, _, _, _, _, _, _, _ => none
 | k + 1, x6, x699000, x699001, x700000, x700001, x702000, x702001 => if x6 < 5 then ((spec_FloorOf.f k x699000 x699001 x6).bind fun t702 => ((spec_FloorOf.f k x700000 x700001 x6).bind fun t703 => ((spec_l1Max.f t702 t703).bind fun t704 => (if t704 > 0 then (if x702001.length < 8796093022208 then (spec_l3Join.j1 k x6 t704 x699000 x699001 x700000 x700001 x702000 (x702001 ++ [(⟨x6, t704⟩ : S89)])) else (none)) else (spec_l3Join.j1 k x6 t704 x699000 x699001 x700000 x700001 x702000 x702001))))) else (some (x702000, x702001))
def spec_l3Join.j1 : Nat → Int → Int → List (S84) → List (S89) → List (S84) → List (S89) → List (S84) → List (S89) → Option ((List (S84)) × (List (S89)))
 | 0, _, _, _, _, _, _, _, _ => none
 | k + 1, x6, x7, x699000, x699001, x700000, x700001, x702000, x702001 => (spec_EntryOf.f k x699000 x699001 x6).bind fun bt708 => ((spec_EntryOf.f k x700000 x700001 x6).bind fun bt715 => (if bt708.2.2.2.2.2 = true then (spec_l3Join.j2 k x6 x7 bt708.2.2.2.2.2 bt715.2.2.2.2.2 false x699000 x699001 x700000 x700001 x702000 x702001 bt708.1 bt708.2.1 bt708.2.2.1 bt708.2.2.2.1 bt708.2.2.2.2.1 bt715.1 bt715.2.1 bt715.2.2.1 bt715.2.2.2.1 bt715.2.2.2.2.1) else (spec_l3Join.j2 k x6 x7 bt708.2.2.2.2.2 bt715.2.2.2.2.2 (!bt715.2.2.2.2.2) x699000 x699001 x700000 x700001 x702000 x702001 bt708.1 bt708.2.1 bt708.2.2.1 bt708.2.2.2.1 bt708.2.2.2.2.1 bt715.1 bt715.2.1 bt715.2.2.1 bt715.2.2.2.1 bt715.2.2.2.2.1)))
def spec_l3Join.j2 : Nat → Int → Int → Bool → Bool → Bool → List (S84) → List (S89) → List (S84) → List (S89) → List (S84) → List (S89) → Int → Int → Int → Int → ByteArray → Int → Int → Int → Int → ByteArray → Option ((List (S84)) × (List (S89)))
 | 0, _, _, _, _, _, _, _, _, _, _, _, _, _, _, _, _, _, _, _, _, _ => none
 | k + 1, x6, x7, x9, x11, x52, x699000, x699001, x700000, x700001, x702000, x702001, x715000, x715001, x715002, x715003, x715004, x722000, x722001, x722002, x722003, x722004 => if x52 = true then (spec_l3Join.l0 k (wrap64 (x6 + 1)) x699000 x699001 x700000 x700001 x702000 x702001) else (if x9 = true then (if x11 = true then ((spec_EntryCmp.f k x722000 x722001 x722002 x722003 x722004 x715000 x715001 x715002 x715003 x715004).bind fun t723 => (spec_l3Join.j3 k x6 x7 (decide (t723 > 0)) x699000 x699001 x700000 x700001 x702000 x702001 x722000 x722001 x722002 x722003 x722004 x715000 x715001 x715002 x715003 x715004)) else (spec_l3Join.j3 k x6 x7 false x699000 x699001 x700000 x700001 x702000 x702001 x722000 x722001 x722002 x722003 x722004 x715000 x715001 x715002 x715003 x715004)) else (spec_l3Join.j3 k x6 x7 true x699000 x699001 x700000 x700001 x702000 x702001 x722000 x722001 x722002 x722003 x722004 x715000 x715001 x715002 x715003 x715004))
def spec_l3Join.j3 : Nat → Int → Int → Bool → List (S84) → List (S89) → List (S84) → List (S89) → List (S84) → List (S89) → Int → Int → Int → Int → ByteArray → Int → Int → Int → Int → ByteArray → Option ((List (S84)) × (List (S89)))
 | 0, _, _, _, _, _, _, _, _, _, _, _, _, _, _, _, _, _, _, _ => none
 | k + 1, x6, x7, x64, x699000, x699001, x700000, x700001, x702000, x702001, x722000, x722001, x722002, x722003, x722004, x723000, x723001, x723002, x723003, x723004 => if x64 = true then (if x722000 > x7 then (if x702000.length < 2513169434916 then (spec_l3Join.l0 k (wrap64 (x6 + 1)) x699000 x699001 x700000 x700001 (x702000 ++ [(⟨x6, (⟨x722000, x722001, x722002, x722003, x722004⟩ : S25)⟩ : S84)]) x702001) else (none)) else (spec_l3Join.l0 k (wrap64 (x6 + 1)) x699000 x699001 x700000 x700001 x702000 x702001)) else (if x723000 > x7 then (if x702000.length < 2513169434916 then (spec_l3Join.l0 k (wrap64 (x6 + 1)) x699000 x699001 x700000 x700001 (x702000 ++ [(⟨x6, (⟨x723000, x723001, x723002, x723003, x723004⟩ : S25)⟩ : S84)]) x702001) else (none)) else (spec_l3Join.l0 k (wrap64 (x6 + 1)) x699000 x699001 x700000 x700001 x702000 x702001))
end
def spec_l3Join.f (k : Nat) (l0_0 : List (S84)) (l0_1 : List (S89)) (l1_0 : List (S84)) (l1_1 : List (S89)) : Option ((List (S84)) × (List (S89))) := spec_l3Join.l0 k 0 l0_0 l0_1 l1_0 l1_1 ([] : List (S84)) ([] : List (S89))
theorem spec_l3Join.mono_l : ∀ k, (∀ y0 y1 y2 y3 y4 y5 y6, LeO (spec_l3Join.l0 k y0 y1 y2 y3 y4 y5 y6) (spec_l3Join.l0 (k + 1) y0 y1 y2 y3 y4 y5 y6)) ∧ (∀ y0 y1 y2 y3 y4 y5 y6 y7, LeO (spec_l3Join.j1 k y0 y1 y2 y3 y4 y5 y6 y7) (spec_l3Join.j1 (k + 1) y0 y1 y2 y3 y4 y5 y6 y7)) ∧ (∀ y0 y1 y2 y3 y4 y5 y6 y7 y8 y9 y10 y11 y12 y13 y14 y15 y16 y17 y18 y19 y20, LeO (spec_l3Join.j2 k y0 y1 y2 y3 y4 y5 y6 y7 y8 y9 y10 y11 y12 y13 y14 y15 y16 y17 y18 y19 y20) (spec_l3Join.j2 (k + 1) y0 y1 y2 y3 y4 y5 y6 y7 y8 y9 y10 y11 y12 y13 y14 y15 y16 y17 y18 y19 y20)) ∧ (∀ y0 y1 y2 y3 y4 y5 y6 y7 y8 y9 y10 y11 y12 y13 y14 y15 y16 y17 y18, LeO (spec_l3Join.j3 k y0 y1 y2 y3 y4 y5 y6 y7 y8 y9 y10 y11 y12 y13 y14 y15 y16 y17 y18) (spec_l3Join.j3 (k + 1) y0 y1 y2 y3 y4 y5 y6 y7 y8 y9 y10 y11 y12 y13 y14 y15 y16 y17 y18))
 | 0 => ⟨fun _ _ _ _ _ _ _ r h => by simp [spec_l3Join.l0] at h, fun _ _ _ _ _ _ _ _ r h => by simp [spec_l3Join.j1] at h, fun _ _ _ _ _ _ _ _ _ _ _ _ _ _ _ _ _ _ _ _ _ r h => by simp [spec_l3Join.j2] at h, fun _ _ _ _ _ _ _ _ _ _ _ _ _ _ _ _ _ _ _ r h => by simp [spec_l3Join.j3] at h⟩
 | k + 1 => by
  obtain ⟨ih0, ih1, ih2, ih3⟩ := spec_l3Join.mono_l k
  refine ⟨?_, ?_, ?_, ?_⟩
  ·intro y0 y1 y2 y3 y4 y5 y6
   unfold spec_l3Join.l0
   repeat' first
   | (with_reducible exact ih0 _ _ _ _ _ _ _)
   | (with_reducible exact ih1 _ _ _ _ _ _ _ _)
   | (with_reducible exact ih2 _ _ _ _ _ _ _ _ _ _ _ _ _ _ _ _ _ _ _ _ _)
   | (with_reducible exact ih3 _ _ _ _ _ _ _ _ _ _ _ _ _ _ _ _ _ _ _)
   | (with_reducible exact spec_EntryCmp.mono _ _ _ _ _ _ _ _ _ _ _)
   | (with_reducible exact spec_EntryOf.mono _ _ _ _)
   | (with_reducible exact spec_FloorOf.mono _ _ _ _)
   | (with_reducible exact LeO.refl _)
   | (with_reducible exact LeO.none _)
   | (with_reducible refine LeO.ite ?_ ?_)
   | (with_reducible refine LeO.bind ?_ (fun _ => ?_))
   | exact ih0 _ _ _ _ _ _ _
   | exact ih1 _ _ _ _ _ _ _ _
   | exact ih2 _ _ _ _ _ _ _ _ _ _ _ _ _ _ _ _ _ _ _ _ _
   | exact ih3 _ _ _ _ _ _ _ _ _ _ _ _ _ _ _ _ _ _ _
   | exact spec_EntryCmp.mono _ _ _ _ _ _ _ _ _ _ _
   | exact spec_EntryOf.mono _ _ _ _
   | exact spec_FloorOf.mono _ _ _ _
   | exact LeO.none _
   | refine LeO.ite ?_ ?_
   | refine LeO.bind ?_ (fun _ => ?_)
  ·intro y0 y1 y2 y3 y4 y5 y6 y7
   unfold spec_l3Join.j1
   repeat' first
   | (with_reducible exact ih0 _ _ _ _ _ _ _)
   | (with_reducible exact ih1 _ _ _ _ _ _ _ _)
   | (with_reducible exact ih2 _ _ _ _ _ _ _ _ _ _ _ _ _ _ _ _ _ _ _ _ _)
   | (with_reducible exact ih3 _ _ _ _ _ _ _ _ _ _ _ _ _ _ _ _ _ _ _)
   | (with_reducible exact spec_EntryCmp.mono _ _ _ _ _ _ _ _ _ _ _)
   | (with_reducible exact spec_EntryOf.mono _ _ _ _)
   | (with_reducible exact spec_FloorOf.mono _ _ _ _)
   | (with_reducible exact LeO.refl _)
   | (with_reducible exact LeO.none _)
   | (with_reducible refine LeO.ite ?_ ?_)
   | (with_reducible refine LeO.bind ?_ (fun _ => ?_))
   | exact ih0 _ _ _ _ _ _ _
   | exact ih1 _ _ _ _ _ _ _ _
   | exact ih2 _ _ _ _ _ _ _ _ _ _ _ _ _ _ _ _ _ _ _ _ _
   | exact ih3 _ _ _ _ _ _ _ _ _ _ _ _ _ _ _ _ _ _ _
   | exact spec_EntryCmp.mono _ _ _ _ _ _ _ _ _ _ _
   | exact spec_EntryOf.mono _ _ _ _
   | exact spec_FloorOf.mono _ _ _ _
   | exact LeO.none _
   | refine LeO.ite ?_ ?_
   | refine LeO.bind ?_ (fun _ => ?_)
  ·intro y0 y1 y2 y3 y4 y5 y6 y7 y8 y9 y10 y11 y12 y13 y14 y15 y16 y17 y18 y19 y20
   unfold spec_l3Join.j2
   repeat' first
   | (with_reducible exact ih0 _ _ _ _ _ _ _)
   | (with_reducible exact ih1 _ _ _ _ _ _ _ _)
   | (with_reducible exact ih2 _ _ _ _ _ _ _ _ _ _ _ _ _ _ _ _ _ _ _ _ _)
   | (with_reducible exact ih3 _ _ _ _ _ _ _ _ _ _ _ _ _ _ _ _ _ _ _)
   | (with_reducible exact spec_EntryCmp.mono _ _ _ _ _ _ _ _ _ _ _)
   | (with_reducible exact spec_EntryOf.mono _ _ _ _)
   | (with_reducible exact spec_FloorOf.mono _ _ _ _)
   | (with_reducible exact LeO.refl _)
   | (with_reducible exact LeO.none _)
   | (with_reducible refine LeO.ite ?_ ?_)
   | (with_reducible refine LeO.bind ?_ (fun _ => ?_))
   | exact ih0 _ _ _ _ _ _ _
   | exact ih1 _ _ _ _ _ _ _ _
   | exact ih2 _ _ _ _ _ _ _ _ _ _ _ _ _ _ _ _ _ _ _ _ _
   | exact ih3 _ _ _ _ _ _ _ _ _ _ _ _ _ _ _ _ _ _ _
   | exact spec_EntryCmp.mono _ _ _ _ _ _ _ _ _ _ _
   | exact spec_EntryOf.mono _ _ _ _
   | exact spec_FloorOf.mono _ _ _ _
   | exact LeO.none _
   | refine LeO.ite ?_ ?_
   | refine LeO.bind ?_ (fun _ => ?_)
  ·intro y0 y1 y2 y3 y4 y5 y6 y7 y8 y9 y10 y11 y12 y13 y14 y15 y16 y17 y18
   unfold spec_l3Join.j3
   repeat' first
   | (with_reducible exact ih0 _ _ _ _ _ _ _)
   | (with_reducible exact ih1 _ _ _ _ _ _ _ _)
   | (with_reducible exact ih2 _ _ _ _ _ _ _ _ _ _ _ _ _ _ _ _ _ _ _ _ _)
   | (with_reducible exact ih3 _ _ _ _ _ _ _ _ _ _ _ _ _ _ _ _ _ _ _)
   | (with_reducible exact spec_EntryCmp.mono _ _ _ _ _ _ _ _ _ _ _)
   | (with_reducible exact spec_EntryOf.mono _ _ _ _)
   | (with_reducible exact spec_FloorOf.mono _ _ _ _)
   | (with_reducible exact LeO.refl _)
   | (with_reducible exact LeO.none _)
   | (with_reducible refine LeO.ite ?_ ?_)
   | (with_reducible refine LeO.bind ?_ (fun _ => ?_))
   | exact ih0 _ _ _ _ _ _ _
   | exact ih1 _ _ _ _ _ _ _ _
   | exact ih2 _ _ _ _ _ _ _ _ _ _ _ _ _ _ _ _ _ _ _ _ _
   | exact ih3 _ _ _ _ _ _ _ _ _ _ _ _ _ _ _ _ _ _ _
   | exact spec_EntryCmp.mono _ _ _ _ _ _ _ _ _ _ _
   | exact spec_EntryOf.mono _ _ _ _
   | exact spec_FloorOf.mono _ _ _ _
   | exact LeO.none _
   | refine LeO.ite ?_ ?_
   | refine LeO.bind ?_ (fun _ => ?_)
theorem spec_l3Join.mono : ∀ a0 a1 a2 a3 k, LeO (spec_l3Join.f k a0 a1 a2 a3) (spec_l3Join.f (k + 1) a0 a1 a2 a3) := by
 intro a0 a1 a2 a3 k
 obtain ⟨ih0, ih1, ih2, ih3⟩ := spec_l3Join.mono_l k
 unfold spec_l3Join.f
 repeat' first
   | (with_reducible exact ih0 _ _ _ _ _ _ _)
   | (with_reducible exact ih1 _ _ _ _ _ _ _ _)
   | (with_reducible exact ih2 _ _ _ _ _ _ _ _ _ _ _ _ _ _ _ _ _ _ _ _ _)
   | (with_reducible exact ih3 _ _ _ _ _ _ _ _ _ _ _ _ _ _ _ _ _ _ _)
   | (with_reducible exact spec_EntryCmp.mono _ _ _ _ _ _ _ _ _ _ _)
   | (with_reducible exact spec_EntryOf.mono _ _ _ _)
   | (with_reducible exact spec_FloorOf.mono _ _ _ _)
   | (with_reducible exact LeO.refl _)
   | (with_reducible exact LeO.none _)
   | (with_reducible refine LeO.ite ?_ ?_)
   | (with_reducible refine LeO.bind ?_ (fun _ => ?_))
   | exact ih0 _ _ _ _ _ _ _
   | exact ih1 _ _ _ _ _ _ _ _
   | exact ih2 _ _ _ _ _ _ _ _ _ _ _ _ _ _ _ _ _ _ _ _ _
   | exact ih3 _ _ _ _ _ _ _ _ _ _ _ _ _ _ _ _ _ _ _
   | exact spec_EntryCmp.mono _ _ _ _ _ _ _ _ _ _ _
   | exact spec_EntryOf.mono _ _ _ _
   | exact spec_FloorOf.mono _ _ _ _
   | exact LeO.none _
   | refine LeO.ite ?_ ?_
   | refine LeO.bind ?_ (fun _ => ?_)
def spec_l3Join.T5 : Bool × List (List Nat × List Nat) := (true, [([], []), ([], []), ([0, 1], [0, 1]), ([], []), ([], []), ([3, 4, 2], [3, 4]), ([2, 5, 5], [2, 5]), ([6, 6, 0, 1, 2, 3, 4, 5, 6], [6])])
def spec_l3Join.B5 : List Nat := [0, 0, 3, 0, 0, 31, 63, 127]
theorem spec_l3Join.tab5 : rtab .any (opsOf Try.f88 5) = spec_l3Join.T5 := by kernel_rfl
theorem spec_l3Join.bits5 : waitsOk spec_l3Join.T5.2 spec_l3Join.B5 = true := by kernel_rfl
set_option maxHeartbeats 8000000 in
set_option maxRecDepth 100000 in
theorem spec_l3Join.calls (k : Nat) (A0_0 : Option Addr) (c0_0 : Nat) (l0_0 : List (S84)) (A0_1 : Option Addr) (c0_1 : Nat) (l0_1 : List (S89)) (A1_0 : Option Addr) (c1_0 : Nat) (l1_0 : List (S84)) (A1_1 : Option Addr) (c1_1 : Nat) (l1_1 : List (S89)) (r1 : List (S84)) (r2 : List (S89)) (w : World) (hr0_0 : Kd.C k84 w A0_0 l0_0.length l0_0) (hc0_0 : l0_0.length ≤ c0_0) (hr0_1 : Kd.C k89 w A0_1 l0_1.length l0_1) (hc0_1 : l0_1.length ≤ c0_1) (hr1_0 : Kd.C k84 w A1_0 l1_0.length l1_0) (hc1_0 : l1_0.length ≤ c1_0) (hr1_1 : Kd.C k89 w A1_1 l1_1.length l1_1) (hc1_1 : l1_1.length ≤ c1_1) (h : spec_l3Join.f k l0_0 l0_1 l1_0 l1_1 = some (r1, r2)) :
  Calls Try.prog 88 #[.agg #[.slice A0_0 l0_0.length c0_0, .slice A0_1 l0_1.length c0_1], .agg #[.slice A1_0 l1_0.length c1_0, .slice A1_1 l1_1.length c1_1]] w fun e w' => ∃ v0_ v1_ : Value, e = .returned (.agg #[v0_, v1_]) ∧ Kd.R k84 84 w' w.heap.size (fun _ => True) v0_ r1 ∧ Kd.R k89 89 w' w.heap.size (fun _ => True) v1_ r2 ∧ Below w.heap.size w w' := by
 have hu55 := Try.underlying55
 have hu89 := Try.underlying89
 have hu25 := Try.underlying25
 have hu84 := Try.underlying84
 have HR0_0 := zm hr0_0
 have HC0_0 := zm hc0_0
 clear hr0_0 hc0_0
 have HR0_1 := zm hr0_1
 have HC0_1 := zm hc0_1
 clear hr0_1 hc0_1
 have HR1_0 := zm hr1_0
 have HC1_0 := zm hc1_0
 clear hr1_0 hc1_0
 have HR1_1 := zm hr1_1
 have HC1_1 := zm hc1_1
 clear hr1_1 hc1_1
 have HB := zm (Below.refl w.heap.size w)
 have H : (spec_l3Join.l0 k 0 l0_0 l0_1 l1_0 l1_1 ([] : List (S84)) ([] : List (S89))) = some (r1, r2) := h
 clear h
 have H' := zm H
 clear H
 go_enter Try.func88, Try.ntmps88
 go_wp2_with (first | ((with_reducible refine gate_dst (N := 2) rfl ?_); refine zbox 2 #[.slice A0_0 l0_0.length c0_0, .slice A0_1 l0_1.length c0_1] 55 ?_; intro gb698 hg w3 hbox hb; have BK698 := zm (hbox); have GW698 := zge w hg zB; have GE698 := zge w hg zB; replace HB := zm (below_step zB hb); clear hb hbox hg) | ((with_reducible refine gate_dst (N := 3) rfl ?_); refine zbox 3 #[.slice A1_0 l1_0.length c1_0, .slice A1_1 l1_1.length c1_1] 55 ?_; intro gb699 hg w4 hbox hb; have BK699 := zm (hbox); have GW699 := zge w hg zB; have GE699 := zge w hg zB; replace HB := zm (below_step zB hb); have NB698_699 := zlt hg (zb BK698); have NB699_698 := zgt hg (zb BK698); replace BK698 := zm (blk_below (zb BK698) hb); clear hb hbox hg) | ((with_reducible refine gate_dst (N := 4) rfl ?_); refine zbox 4 #[.slice none 0 0, .slice none 0 0] 55 ?_; intro gb700 hg w5 hbox hb; have BK700 := zm (hbox); have GW700 := zge w hg zB; have GE700 := zge w hg zB; replace HB := zm (below_step zB hb); have NB698_700 := zlt hg (zb BK698); have NB700_698 := zgt hg (zb BK698); replace BK698 := zm (blk_below (zb BK698) hb); have NB699_700 := zlt hg (zb BK699); have NB700_699 := zgt hg (zb BK699); replace BK699 := zm (blk_below (zb BK699) hb); clear hb hbox hg) | ((with_reducible refine gate_dst (N := 5) rfl ?_); refine zbox 5 #[.slice none 0 0, .slice none 0 0] 55 ?_; intro gb701 hg w6 hbox hb; have BK701 := zm (hbox); have GW701 := zge w hg zB; have GE701 := zge w hg zB; replace HB := zm (below_step zB hb); have NB698_701 := zlt hg (zb BK698); have NB701_698 := zgt hg (zb BK698); replace BK698 := zm (blk_below (zb BK698) hb); have NB699_701 := zlt hg (zb BK699); have NB701_699 := zgt hg (zb BK699); replace BK699 := zm (blk_below (zb BK699) hb); have NB700_701 := zlt hg (zb BK700); have NB701_700 := zgt hg (zb BK700); replace BK700 := zm (blk_below (zb BK700) hb); clear hb hbox hg; have hnb7 := NB701_698.out; have hnc7 := NB698_701.out; have hnb8 := NB701_699.out; have hnc8 := NB699_701.out; have hnb9 := NB701_700.out; have hnc9 := NB700_701.out; have hcz10_0 : w6.cell? ⟨gb701, 0, none⟩ = some (.slice none 0 0) := (blk_cell BK701.out 0).trans rfl; have hcz10_1 : w6.cell? ⟨gb701, 1, none⟩ = some (.slice none 0 0) := (blk_cell BK701.out 1).trans rfl; have hfz10_0 := blk_frozen BK701.out 0; have hfz10_1 := blk_frozen BK701.out 1))
 go_loopg [6] k (fun kq v6 w' => ∃ (x6_1 : Int) (x702000_1 : List (S84)) (x702001_1 : List (S89)) (u702000 : Value) (u702001 : Value), v6 = .int .i64 x6_1 ∧ Aside0 (spec_l3Join.l0 kq x6_1 l0_0 l0_1 l1_0 l1_1 x702000_1 x702001_1 = some (r1, r2)) ∧ Aside0 (kq ≤ k) ∧ Aside0 (Kd.R k84 84 w' w.heap.size (fun _ => True) u702000 x702000_1) ∧ Aside0 (Kd.R k89 89 w' w.heap.size (fun _ => True) u702001 x702001_1) ∧ Aside0 (w'.heap[gb698]? = some (.cells #[(.slice A0_0 l0_0.length c0_0), (.slice A0_1 l0_1.length c0_1)] 55 (0, 0))) ∧ Aside0 (w'.heap[gb699]? = some (.cells #[(.slice A1_0 l1_0.length c1_0), (.slice A1_1 l1_1.length c1_1)] 55 (0, 0))) ∧ Aside0 (w'.heap[gb700]? = some (.cells #[(.slice none 0 0), (.slice none 0 0)] 55 (0, 0))) ∧ Aside0 (w'.heap[gb701]? = some (.cells #[u702000, u702001] 55 (0, 0))) ∧ Aside0 (Below w.heap.size w w'))
 case atStart => exact ⟨(0), (([] : List (S84))), (([] : List (S89))), (.slice none 0 0), (.slice none 0 0), zF, H', ⟨Nat.le_refl _⟩, ⟨by first | exact Kd.R_nil _ _ _ _ _ | exact Kd.N_nil _ _ _ _ _ | exact Kd.V_nil _ _ _ _ _ | exact Kd.Q_nil _ _ _ _ _ | exact Kd.S_nil _ _ _ _ _⟩, ⟨by first | exact Kd.R_nil _ _ _ _ _ | exact Kd.N_nil _ _ _ _ _ | exact Kd.V_nil _ _ _ _ _ | exact Kd.Q_nil _ _ _ _ _ | exact Kd.S_nil _ _ _ _ _⟩, ⟨zfar (zfar (zb BK698) NB698_701) NB698_701⟩, ⟨zfar (zfar (zb BK699) NB699_701) NB699_701⟩, ⟨zfar (zfar (zb BK700) NB700_701) NB700_701⟩, ⟨zput (zput (zb BK701) 0) 1⟩, ⟨zB⟩⟩
 case round =>
  clear H'
  try clear c1
  try clear p2
  try clear c7
  try clear c8
  try clear c9
  try clear hcz10_0
  try clear hcz10_1
  try clear hfz10_0
  try clear hfz10_1
  obtain ⟨x6_1, x702000_1, x702001_1, u702000, u702001, rfl, HA, HK1, HO_702000, HO_702001, BK698, BK699, BK700, BK701, HB⟩ := hrel
  cases gk with
  | zero => exact absurd HA.out (by simp [spec_l3Join.l0])
  | succ k1 =>
   have H := HA.out
   clear HA
   simp only [spec_l3Join.l0] at H
   by_cases c11 : x6_1 < 5
   ·rw [if_pos c11] at H
    have c11b0 : decide (x6_1 < 5) = true := decide_eq_true c11
    clear c11
    replace H := Option.bind_eq_some_iff.mp H
    obtain ⟨t702, A120, H⟩ := H
    replace H : ((spec_FloorOf.f k1 l1_0 l1_1 x6_1).bind fun t703 => ((spec_l1Max.f t702 t703).bind fun t704 => (if t704 > 0 then (if x702001_1.length < 8796093022208 then (spec_l3Join.j1 k1 x6_1 t704 l0_0 l0_1 l1_0 l1_1 x702000_1 (x702001_1 ++ [(⟨x6_1, t704⟩ : S89)])) else (none)) else (spec_l3Join.j1 k1 x6_1 t704 l0_0 l0_1 l1_0 l1_1 x702000_1 x702001_1)))) = some (r1, r2) := H
    have A12 := zm A120
    clear A120
    replace H := Option.bind_eq_some_iff.mp H
    obtain ⟨t703, A130, H⟩ := H
    replace H : ((spec_l1Max.f t702 t703).bind fun t704 => (if t704 > 0 then (if x702001_1.length < 8796093022208 then (spec_l3Join.j1 k1 x6_1 t704 l0_0 l0_1 l1_0 l1_1 x702000_1 (x702001_1 ++ [(⟨x6_1, t704⟩ : S89)])) else (none)) else (spec_l3Join.j1 k1 x6_1 t704 l0_0 l0_1 l1_0 l1_1 x702000_1 x702001_1))) = some (r1, r2) := H
    have A13 := zm A130
    clear A130
    replace H := Option.bind_eq_some_iff.mp H
    obtain ⟨t704, A140, H⟩ := H
    replace H : (if t704 > 0 then (if x702001_1.length < 8796093022208 then (spec_l3Join.j1 k1 x6_1 t704 l0_0 l0_1 l1_0 l1_1 x702000_1 (x702001_1 ++ [(⟨x6_1, t704⟩ : S89)])) else (none)) else (spec_l3Join.j1 k1 x6_1 t704 l0_0 l0_1 l1_0 l1_1 x702000_1 x702001_1)) = some (r1, r2) := H
    have A14 := zm A140
    clear A140
    have HC15 := zm H
    clear H
    try go_wp2
    replace HO_702000 := zm (Kd.R_drew HO_702000.out)
    replace HO_702001 := zm (Kd.R_drew HO_702001.out)
    replace BK698 := zm (blk_drew BK698.out)
    replace BK699 := zm (blk_drew BK699.out)
    replace BK700 := zm (blk_drew BK700.out)
    replace BK701 := zm (blk_drew BK701.out)
    replace HB := zm (below_drew1 HB.out)
    refine start_ (n := 8) (S := fun w' => w'.cell? ⟨gb698, 0, none⟩ = some (.slice A0_0 l0_0.length c0_0) ∧ w'.cell? ⟨gb698, 1, none⟩ = some (.slice A0_1 l0_1.length c0_1) ∧ w'.cell? ⟨gb699, 0, none⟩ = some (.slice A1_0 l1_0.length c1_0) ∧ w'.cell? ⟨gb699, 1, none⟩ = some (.slice A1_1 l1_1.length c1_1)) (ds := []) (zl 8 0) (by kernel_rfl) rfl rfl ⟨(blk_cell BK698.out 0).trans rfl, (blk_cell BK698.out 1).trans rfl, (blk_cell BK699.out 0).trans rfl, (blk_cell BK699.out 1).trans rfl⟩ (fun hHeld => ?_); refine with_tabW spec_l3Join.tab5 spec_l3Join.bits5 (fun HT_ HW_ => ?_)
    generalize wr.drew = w16 at HO_702000 HO_702001 BK698 BK699 BK700 BK701 HB hHeld ⊢
    refine zp 1 (some 19) (zl 8 2) ?_
    refine zp 4 (some 22) (zl 8 18) ?_
    refine zt 0 (some 18) (zl 8 19) ?_
    refine zt 3 (some 21) (zl 8 27) ?_
    refine zo 2 (some 20) (zl 8 31) (fun K hK => ?_)
    refine zgo #[.agg #[.slice A0_0 l0_0.length c0_0, .slice A0_1 l0_1.length c0_1], .int .i64 x6_1] Try.func40 ?_
    with_reducible refine (spec_FloorOf.calls k1 _ _ l0_0 _ _ l0_1 x6_1 t702 _ (zk (Kd.C_below HR0_0.out HB.out)) HC0_0.out (zk (Kd.C_below HR0_1.out HB.out)) HC0_1.out A12.out).mono ?_
    rintro e w17 ⟨rfl, hb⟩
    refine ⟨_, rfl, ?_⟩
    replace HO_702000 := zm (Kd.R_below (zr HO_702000) hb)
    replace HO_702001 := zm (Kd.R_below (zr HO_702001) hb)
    replace BK698 := zm (blk_below (zb BK698) hb)
    replace BK699 := zm (blk_below (zb BK699) hb)
    replace BK700 := zm (blk_below (zb BK700) hb)
    replace BK701 := zm (blk_below (zb BK701) hb)
    replace HB := zm (below_step zB hb)
    (try clear hb)
    (try clear hb2)
    (try clear hk)
    (try clear hi)
    refine hK.out _ _ ⟨(blk_cell BK698.out 0).trans rfl, (blk_cell BK698.out 1).trans rfl, (blk_cell BK699.out 0).trans rfl, (blk_cell BK699.out 1).trans rfl⟩ (fun hHeld => ?_)
    clear hK K
    refine zn ?_
    refine zo 5 (some 23) (zl 8 63) (fun K hK => ?_)
    refine zgo #[.agg #[.slice A1_0 l1_0.length c1_0, .slice A1_1 l1_1.length c1_1], .int .i64 x6_1] Try.func40 ?_
    with_reducible refine (spec_FloorOf.calls k1 _ _ l1_0 _ _ l1_1 x6_1 t703 _ (zk (Kd.C_below HR1_0.out HB.out)) HC1_0.out (zk (Kd.C_below HR1_1.out HB.out)) HC1_1.out A13.out).mono ?_
    rintro e w18 ⟨rfl, hb⟩
    refine ⟨_, rfl, ?_⟩
    replace HO_702000 := zm (Kd.R_below (zr HO_702000) hb)
    replace HO_702001 := zm (Kd.R_below (zr HO_702001) hb)
    replace BK698 := zm (blk_below (zb BK698) hb)
    replace BK699 := zm (blk_below (zb BK699) hb)
    replace BK700 := zm (blk_below (zb BK700) hb)
    replace BK701 := zm (blk_below (zb BK701) hb)
    replace HB := zm (below_step zB hb)
    (try clear hb)
    (try clear hb2)
    (try clear hk)
    (try clear hi)
    refine hK.out _ _ ⟨(blk_cell BK698.out 0).trans rfl, (blk_cell BK698.out 1).trans rfl, (blk_cell BK699.out 0).trans rfl, (blk_cell BK699.out 1).trans rfl⟩ (fun hHeld => ?_)
    clear hK K
    refine zn ?_
    refine zo 6 (some 24) (zl 8 127) (fun K hK => ?_)
    refine zgo #[.int .i64 t702, .int .i64 t703] Try.func99 ?_
    with_reducible refine (spec_l1Max.calls t702 t703 t704 _ A14.out).mono ?_
    rintro e w' ⟨rfl, ⟨nd, rfl⟩⟩
    refine ⟨_, rfl, ?_⟩
    refine hK.out _ _ ⟨(blk_cell BK698.out 0).trans rfl, (blk_cell BK698.out 1).trans rfl, (blk_cell BK699.out 0).trans rfl, (blk_cell BK699.out 1).trans rfl⟩ (fun hHeld => ?_)
    clear hK K
    refine zn ?_
    refine zp 7 (some 7) (zl 8 255) ?_
    refine done_ (done_of HT_.out (by kernel_rfl)) ?_
    go_upto_if 26 with (fail)
    go_cut [] (fun wc => ∃ (kq : Nat) (x702001_14 : List (S89)) (u702001 : Value), Aside0 (spec_l3Join.j1 kq x6_1 t704 l0_0 l0_1 l1_0 l1_1 x702000_1 x702001_14 = some (r1, r2)) ∧ Aside0 (kq ≤ k1) ∧ Aside0 (Kd.R k84 84 wc w.heap.size (fun _ => True) u702000 x702000_1) ∧ Aside0 (Kd.R k89 89 wc w.heap.size (fun _ => True) u702001 x702001_14) ∧ Aside0 (wc.heap[gb698]? = some (.cells #[(.slice A0_0 l0_0.length c0_0), (.slice A0_1 l0_1.length c0_1)] 55 (0, 0))) ∧ Aside0 (wc.heap[gb699]? = some (.cells #[(.slice A1_0 l1_0.length c1_0), (.slice A1_1 l1_1.length c1_1)] 55 (0, 0))) ∧ Aside0 (wc.heap[gb700]? = some (.cells #[(.slice none 0 0), (.slice none 0 0)] 55 (0, 0))) ∧ Aside0 (wc.heap[gb701]? = some (.cells #[u702000, u702001] 55 (0, 0))) ∧ Aside0 (Below w.heap.size w wc))
    case first =>
     have H := HC15.out
     clear HC15
     by_cases c19 : t704 > 0
     ·rw [if_pos c19] at H
      have c19b0 : decide (0 < t704) = true := decide_eq_true c19
      clear c19
      (first | rw [c19b0] | (simp only [i64_w, i32_w]; rw [c19b0]) | skip)
      by_cases c20 : x702001_1.length < 8796093022208
      ·rw [if_pos c20] at H
       have LMc20 := zm c20
       clear c20
       obtain ⟨y705, hy705⟩ : ∃ y_ : List (S89), y_ = (x702001_1 ++ [(⟨x6_1, t704⟩ : S89)]) := ⟨_, rfl⟩
       replace H : (spec_l3Join.j1 k1 x6_1 t704 l0_0 l0_1 l1_0 l1_1 x702000_1 y705) = some (r1, r2) := by first | (rw [hy705]; with_reducible exact H) | (have H2_ := (Option.bind_some _ _).symm.trans H; rw [hy705]; with_reducible exact H2_) | (have H2_ := (Option.bind_some _ _).symm.trans H; with_reducible exact H2_) | with_reducible exact H | (rw [hy705]; exact H) | exact H
       have Ny705 := zm hy705
       clear hy705
       have H' := zm H
       clear H
       have hnb21 := NB701_698.out
       have hnc21 := NB698_701.out
       have hnb22 := NB701_699.out
       have hnc22 := NB699_701.out
       have hnb23 := NB701_700.out
       have hnc23 := NB700_701.out
       have hcz24_0 : w18.cell? ⟨gb701, 0, none⟩ = some (u702000) := (blk_cell BK701.out 0).trans rfl
       have hcz24_1 : w18.cell? ⟨gb701, 1, none⟩ = some (u702001) := (blk_cell BK701.out 1).trans rfl
       have hfz24_0 := blk_frozen BK701.out 0
       have hfz24_1 := blk_frozen BK701.out 1
       go_wp2_with (first | ((with_reducible refine gate_builtin (b := .append) (xs := #[.tmp 28, .tmp 32]) rfl ?_); at_builtin; refine Kd.R_append k89 (w0 := w) w.heap.size rfl (.tmp 28) (.tmp 32) 53 89 (.agg #[(.int .i64 0), (.int .i64 0)]) 16 rfl Try.underlying53 info89 rfl (by decide) (by omega) u702001 x702001_1 (⟨x6_1, t704⟩ : S89) [.int .i64 x6_1, .int .i64 t704] (fun _ => True) (fun _ => False) rfl rfl ?aP (fun _ hk => hk.elim) ?aF ?aO ?aB ?aS ?aL ?_; (case aP => exact k89_mkM _ _ _ (⟨x6_1, t704⟩ : S89)); (case aB => exact zB); (case aF => exact (fun _ _ => trivial)); (case aO => exact (zr HO_702001)); (case aS => exact (below_size zB)); (case aL => have := LMc20.out; omega); intro v706 w25 ho hb hg hat; rw [← Ny705.out] at ho; replace HO_702000 := zm (Kd.R_over' (zr HO_702000) (Kd.R_typed (zr HO_702001)) (by decide) hg); replace BK698 := zm (blk_grown (g := gb698) (o := .cells #[.slice A0_0 l0_0.length c0_0, .slice A0_1 l0_1.length c0_1] 55 (0, 0)) (zb BK698) hg (Kd.R_ne HO_702001.out BK698.out (by decide))); replace BK699 := zm (blk_grown (g := gb699) (o := .cells #[.slice A1_0 l1_0.length c1_0, .slice A1_1 l1_1.length c1_1] 55 (0, 0)) (zb BK699) hg (Kd.R_ne HO_702001.out BK699.out (by decide))); replace BK700 := zm (blk_grown (g := gb700) (o := .cells #[.slice none 0 0, .slice none 0 0] 55 (0, 0)) (zb BK700) hg (Kd.R_ne HO_702001.out BK700.out (by decide))); replace BK701 := zm (blk_grown (g := gb701) (o := .cells #[u702000, u702001] 55 (0, 0)) (zb BK701) hg (Kd.R_ne HO_702001.out BK701.out (by decide))); replace HB := zm (hb); have HO707 := zm (ho); clear HO_702001; clear ho hb hg hat; obtain ⟨Ao26, co26, eo26⟩ := Kd.R_slice HO707.out; subst eo26; have hcz27_0 : w25.cell? ⟨gb701, 0, none⟩ = some (u702000) := (blk_cell BK701.out 0).trans rfl; have hcz27_1 : w25.cell? ⟨gb701, 1, none⟩ = some (u702001) := (blk_cell BK701.out 1).trans rfl; have hfz27_0 := blk_frozen BK701.out 0; have hfz27_1 := blk_frozen BK701.out 1))
       go_meet
       case rel => exact ⟨_, (y705), (.slice Ao26 y705.length co26), H', ⟨by have := HK1.out; first | omega | exact Nat.le_refl _⟩, ⟨zrs <| Kd.R_mono (zfr (Kd.R_types HO_702000.out BK701.out (by decide))) (fun _ hk => trivial)⟩, ⟨zrs <| Kd.R_mono (zfr (Kd.R_types HO707.out BK701.out (by decide))) (fun _ hk => trivial)⟩, ⟨zfar (zb BK698) NB698_701⟩, ⟨zfar (zb BK699) NB699_701⟩, ⟨zfar (zb BK700) NB700_701⟩, ⟨zput (zb BK701) 1⟩, ⟨zB⟩⟩
      ·rw [if_neg c20] at H
       exact absurd H (by simp)
     ·rw [if_neg c19] at H
      have c19b0 : decide (0 < t704) = false := decide_eq_false c19
      clear c19
      (first | rw [c19b0] | (simp only [i64_w, i32_w]; rw [c19b0]) | skip)
      have H' := zm H
      clear H
      go_wp2
      go_meet
      case rel => exact ⟨_, (x702001_1), (u702001), H', ⟨by have := HK1.out; first | omega | exact Nat.le_refl _⟩, ⟨zr HO_702000⟩, ⟨zr HO_702001⟩, ⟨zb BK698⟩, ⟨zb BK699⟩, ⟨zb BK700⟩, ⟨zb BK701⟩, ⟨zB⟩⟩
    case rest =>
     clear HC15
     try clear c1
     try clear c2
     try clear p2
     try clear c4
     try clear c7
     try clear c8
     try clear c9
     try clear c11
     try clear c11b0
     try clear c19
     try clear c19b0
     try clear c20
     try clear c21
     try clear c22
     try clear c23
     try clear hcz10_0
     try clear hcz10_1
     try clear hcz24_0
     try clear hcz24_1
     try clear hcz27_0
     try clear hcz27_1
     try clear hfz10_0
     try clear hfz10_1
     try clear hfz24_0
     try clear hfz24_1
     try clear hfz27_0
     try clear hfz27_1
     try clear p2
     obtain ⟨kq, x702001_14, u702001, HA, HJ14, HO_702000, HO_702001, BK698, BK699, BK700, BK701, HB⟩ := hcut
     cases kq with
     | zero => exact absurd HA.out (by simp [spec_l3Join.j1])
     | succ kj14 =>
      have H := HA.out
      clear HA
      simp only [spec_l3Join.j1] at H
      replace H := Option.bind_eq_some_iff.mp H
      obtain ⟨⟨t708, t709, t710, t711, t712, t713⟩, A280, H⟩ := H
      replace H : ((spec_EntryOf.f kj14 l1_0 l1_1 x6_1).bind fun bt715 => (if t713 = true then (spec_l3Join.j2 kj14 x6_1 t704 t713 bt715.2.2.2.2.2 false l0_0 l0_1 l1_0 l1_1 x702000_1 x702001_14 t708 t709 t710 t711 t712 bt715.1 bt715.2.1 bt715.2.2.1 bt715.2.2.2.1 bt715.2.2.2.2.1) else (spec_l3Join.j2 kj14 x6_1 t704 t713 bt715.2.2.2.2.2 (!bt715.2.2.2.2.2) l0_0 l0_1 l1_0 l1_1 x702000_1 x702001_14 t708 t709 t710 t711 t712 bt715.1 bt715.2.1 bt715.2.2.1 bt715.2.2.2.1 bt715.2.2.2.2.1))) = some (r1, r2) := H
      have A28 := zm A280
      clear A280
      replace H := Option.bind_eq_some_iff.mp H
      obtain ⟨⟨t715, t716, t717, t718, t719, t720⟩, A290, H⟩ := H
      replace H : (if t713 = true then (spec_l3Join.j2 kj14 x6_1 t704 t713 t720 false l0_0 l0_1 l1_0 l1_1 x702000_1 x702001_14 t708 t709 t710 t711 t712 t715 t716 t717 t718 t719) else (spec_l3Join.j2 kj14 x6_1 t704 t713 t720 (!t720) l0_0 l0_1 l1_0 l1_1 x702000_1 x702001_14 t708 t709 t710 t711 t712 t715 t716 t717 t718 t719)) = some (r1, r2) := H
      have A29 := zm A290
      clear A290
      have HC30 := zm H
      clear H
      have hnb31 := NB698_699.out
      have hnc31 := NB699_698.out
      have hnb32 := NB698_700.out
      have hnc32 := NB700_698.out
      have hnb33 := NB698_701.out
      have hnc33 := NB701_698.out
      have hcz34_0 : wc.cell? ⟨gb698, 0, none⟩ = some (.slice A0_0 l0_0.length c0_0) := (blk_cell BK698.out 0).trans rfl
      have hcz34_1 : wc.cell? ⟨gb698, 1, none⟩ = some (.slice A0_1 l0_1.length c0_1) := (blk_cell BK698.out 1).trans rfl
      have hfz34_0 := blk_frozen BK698.out 0
      have hfz34_1 := blk_frozen BK698.out 1
      go_upto_region 10 with (first | ((with_reducible refine gate_callee (f := 36) rfl ?_); refine zg (some 38) #[.agg #[.slice A0_0 l0_0.length c0_0, .slice A0_1 l0_1.length c0_1], .int .i64 x6_1] Try.func36 ?_; (with_reducible refine (spec_EntryOf.calls kj14 _ _ l0_0 _ _ l0_1 x6_1 t708 t709 t710 t711 t712 t713 _ (zk (Kd.C_below HR0_0.out HB.out)) HC0_0.out (zk (Kd.C_below HR0_1.out HB.out)) HC0_1.out A28.out).mono ?_); rintro e w35 ⟨rfl, hb⟩; refine ⟨_, rfl, ?_⟩; replace HO_702000 := zm (Kd.R_below (zr HO_702000) hb); replace HO_702001 := zm (Kd.R_below (zr HO_702001) hb); replace BK698 := zm (blk_below (zb BK698) hb); replace BK699 := zm (blk_below (zb BK699) hb); replace BK700 := zm (blk_below (zb BK700) hb); replace BK701 := zm (blk_below (zb BK701) hb); replace HB := zm (below_step zB hb); clear hb) | ((with_reducible refine gate_dst (N := 8) rfl ?_); refine zbox 8 #[.int .i64 0, .int .i64 0, .int .i64 0, .int .i64 0, .string (⟨#[]⟩ : ByteArray)] 25 ?_; intro gb714 hg w36 hbox hb; replace HO_702000 := zm (Kd.R_below (zr HO_702000) hb); replace HO_702001 := zm (Kd.R_below (zr HO_702001) hb); have BK714 := zm (hbox); have GW714 := zge w hg zB; have GE714 := zge w hg zB; replace HB := zm (below_step zB hb); have NB698_714 := zlt hg (zb BK698); have NB714_698 := zgt hg (zb BK698); replace BK698 := zm (blk_below (zb BK698) hb); have NB699_714 := zlt hg (zb BK699); have NB714_699 := zgt hg (zb BK699); replace BK699 := zm (blk_below (zb BK699) hb); have NB700_714 := zlt hg (zb BK700); have NB714_700 := zgt hg (zb BK700); replace BK700 := zm (blk_below (zb BK700) hb); have NB701_714 := zlt hg (zb BK701); have NB714_701 := zgt hg (zb BK701); replace BK701 := zm (blk_below (zb BK701) hb); clear hb hbox hg; have hnb37 := NB714_698.out; have hnc37 := NB698_714.out; have hnb38 := NB714_699.out; have hnc38 := NB699_714.out; have hnb39 := NB714_700.out; have hnc39 := NB700_714.out; have hnb40 := NB714_701.out; have hnc40 := NB701_714.out; have hcz41_0 : w36.cell? ⟨gb714, 0, none⟩ = some (.int .i64 0) := (blk_cell BK714.out 0).trans rfl; have hcz41_1 : w36.cell? ⟨gb714, 1, none⟩ = some (.int .i64 0) := (blk_cell BK714.out 1).trans rfl; have hcz41_2 : w36.cell? ⟨gb714, 2, none⟩ = some (.int .i64 0) := (blk_cell BK714.out 2).trans rfl; have hcz41_3 : w36.cell? ⟨gb714, 3, none⟩ = some (.int .i64 0) := (blk_cell BK714.out 3).trans rfl; have hcz41_4 : w36.cell? ⟨gb714, 4, none⟩ = some (.string (⟨#[]⟩ : ByteArray)) := (blk_cell BK714.out 4).trans rfl; have hfz41_0 := blk_frozen BK714.out 0; have hfz41_1 := blk_frozen BK714.out 1; have hfz41_2 := blk_frozen BK714.out 2; have hfz41_3 := blk_frozen BK714.out 3; have hfz41_4 := blk_frozen BK714.out 4; have hnb42 := NB699_700.out; have hnc42 := NB700_699.out; have hnb43 := NB699_701.out; have hnc43 := NB701_699.out; have hcz44_0 : w36.cell? ⟨gb699, 0, none⟩ = some (.slice A1_0 l1_0.length c1_0) := (blk_cell BK699.out 0).trans rfl; have hcz44_1 : w36.cell? ⟨gb699, 1, none⟩ = some (.slice A1_1 l1_1.length c1_1) := (blk_cell BK699.out 1).trans rfl; have hfz44_0 := blk_frozen BK699.out 0; have hfz44_1 := blk_frozen BK699.out 1) | ((with_reducible refine gate_callee (f := 36) rfl ?_); refine zg (some 44) #[.agg #[.slice A1_0 l1_0.length c1_0, .slice A1_1 l1_1.length c1_1], .int .i64 x6_1] Try.func36 ?_; (with_reducible refine (spec_EntryOf.calls kj14 _ _ l1_0 _ _ l1_1 x6_1 t715 t716 t717 t718 t719 t720 _ ?side1 HC1_0.out ?side3 HC1_1.out A29.out).mono ?_); (case side1 => exact Kd.C_below HR1_0.out zB); (case side3 => exact Kd.C_below HR1_1.out zB); rintro e w45 ⟨rfl, hb⟩; refine ⟨_, rfl, ?_⟩; replace HO_702000 := zm (Kd.R_below (zrs <| (Kd.R_mono (zfr (zfr (zfr (zfr (zfr (Kd.R_types HO_702000.out BK714.out (by decide))))))) (fun _ h_ => h_.1))) hb); replace HO_702001 := zm (Kd.R_below (zrs <| (Kd.R_mono (zfr (zfr (zfr (zfr (zfr (Kd.R_types HO_702001.out BK714.out (by decide))))))) (fun _ h_ => h_.1))) hb); replace BK698 := zm (blk_below (g := gb698) (o := .cells #[.slice A0_0 l0_0.length c0_0, .slice A0_1 l0_1.length c0_1] 55 (0, 0)) (zfar (zfar (zfar (zfar (zfar (zb BK698) NB698_714) NB698_714) NB698_714) NB698_714) NB698_714) hb); replace BK699 := zm (blk_below (g := gb699) (o := .cells #[.slice A1_0 l1_0.length c1_0, .slice A1_1 l1_1.length c1_1] 55 (0, 0)) (zfar (zfar (zfar (zfar (zfar (zb BK699) NB699_714) NB699_714) NB699_714) NB699_714) NB699_714) hb); replace BK700 := zm (blk_below (g := gb700) (o := .cells #[.slice none 0 0, .slice none 0 0] 55 (0, 0)) (zfar (zfar (zfar (zfar (zfar (zb BK700) NB700_714) NB700_714) NB700_714) NB700_714) NB700_714) hb); replace BK701 := zm (blk_below (g := gb701) (o := .cells #[u702000, u702001] 55 (0, 0)) (zfar (zfar (zfar (zfar (zfar (zb BK701) NB701_714) NB701_714) NB701_714) NB701_714) NB701_714) hb); replace BK714 := zm (blk_below (g := gb714) (o := .cells #[.int .i64 t708, .int .i64 t709, .int .i64 t710, .int .i64 t711, .string t712] 25 (0, 0)) (zput (zput (zput (zput (zput (zb BK714) 0) 1) 2) 3) 4) hb); replace HB := zm (below_step zB hb); clear hb) | ((with_reducible refine gate_dst (N := 10) rfl ?_); refine zbox 10 #[.int .i64 0, .int .i64 0, .int .i64 0, .int .i64 0, .string (⟨#[]⟩ : ByteArray)] 25 ?_; intro gb721 hg w46 hbox hb; replace HO_702000 := zm (Kd.R_below (zr HO_702000) hb); replace HO_702001 := zm (Kd.R_below (zr HO_702001) hb); have BK721 := zm (hbox); have GW721 := zge w hg zB; have GE721 := zge w hg zB; replace HB := zm (below_step zB hb); have NB698_721 := zlt hg (zb BK698); have NB721_698 := zgt hg (zb BK698); replace BK698 := zm (blk_below (zb BK698) hb); have NB699_721 := zlt hg (zb BK699); have NB721_699 := zgt hg (zb BK699); replace BK699 := zm (blk_below (zb BK699) hb); have NB700_721 := zlt hg (zb BK700); have NB721_700 := zgt hg (zb BK700); replace BK700 := zm (blk_below (zb BK700) hb); have NB701_721 := zlt hg (zb BK701); have NB721_701 := zgt hg (zb BK701); replace BK701 := zm (blk_below (zb BK701) hb); have NB714_721 := zlt hg (zb BK714); have NB721_714 := zgt hg (zb BK714); replace BK714 := zm (blk_below (zb BK714) hb); clear hb hbox hg; have hnb47 := NB721_698.out; have hnc47 := NB698_721.out; have hnb48 := NB721_699.out; have hnc48 := NB699_721.out; have hnb49 := NB721_700.out; have hnc49 := NB700_721.out; have hnb50 := NB721_701.out; have hnc50 := NB701_721.out; have hnb51 := NB721_714.out; have hnc51 := NB714_721.out; have hcz52_0 : w46.cell? ⟨gb721, 0, none⟩ = some (.int .i64 0) := (blk_cell BK721.out 0).trans rfl; have hcz52_1 : w46.cell? ⟨gb721, 1, none⟩ = some (.int .i64 0) := (blk_cell BK721.out 1).trans rfl; have hcz52_2 : w46.cell? ⟨gb721, 2, none⟩ = some (.int .i64 0) := (blk_cell BK721.out 2).trans rfl; have hcz52_3 : w46.cell? ⟨gb721, 3, none⟩ = some (.int .i64 0) := (blk_cell BK721.out 3).trans rfl; have hcz52_4 : w46.cell? ⟨gb721, 4, none⟩ = some (.string (⟨#[]⟩ : ByteArray)) := (blk_cell BK721.out 4).trans rfl; have hfz52_0 := blk_frozen BK721.out 0; have hfz52_1 := blk_frozen BK721.out 1; have hfz52_2 := blk_frozen BK721.out 2; have hfz52_3 := blk_frozen BK721.out 3; have hfz52_4 := blk_frozen BK721.out 4))
      (try simp only [Act.put, List.setIfInBounds_toArray, List.set_cons_zero, List.set_cons_succ])
      go_cut [52] (fun v52 wc => ∃ (kq : Nat) (x52_29 : Bool), v52 = .bool x52_29 ∧ Aside0 (spec_l3Join.j2 kq x6_1 t704 t713 t720 x52_29 l0_0 l0_1 l1_0 l1_1 x702000_1 x702001_14 t708 t709 t710 t711 t712 t715 t716 t717 t718 t719 = some (r1, r2)) ∧ Aside0 (kq ≤ kj14) ∧ Aside0 (Kd.R k84 84 wc w.heap.size (fun _ => True) u702000 x702000_1) ∧ Aside0 (Kd.R k89 89 wc w.heap.size (fun _ => True) u702001 x702001_14) ∧ Aside0 (wc.heap[gb698]? = some (.cells #[(.slice A0_0 l0_0.length c0_0), (.slice A0_1 l0_1.length c0_1)] 55 (0, 0))) ∧ Aside0 (wc.heap[gb699]? = some (.cells #[(.slice A1_0 l1_0.length c1_0), (.slice A1_1 l1_1.length c1_1)] 55 (0, 0))) ∧ Aside0 (wc.heap[gb700]? = some (.cells #[(.slice none 0 0), (.slice none 0 0)] 55 (0, 0))) ∧ Aside0 (wc.heap[gb701]? = some (.cells #[u702000, u702001] 55 (0, 0))) ∧ Aside0 (wc.heap[gb714]? = some (.cells #[.int .i64 t708, .int .i64 t709, .int .i64 t710, .int .i64 t711, .string t712] 25 (0, 0))) ∧ Aside0 (wc.heap[gb721]? = some (.cells #[.int .i64 t715, .int .i64 t716, .int .i64 t717, .int .i64 t718, .string t719] 25 (0, 0))) ∧ Aside0 (Below w.heap.size w wc))
      case first =>
       have H := HC30.out
       clear HC30
       by_cases c53 : t713 = true
       ·subst c53
        have H1 : (spec_l3Join.j2 kj14 x6_1 t704 true t720 false l0_0 l0_1 l1_0 l1_1 x702000_1 x702001_14 t708 t709 t710 t711 t712 t715 t716 t717 t718 t719) = some (r1, r2) := by rw [if_pos rfl] at H; exact H
        clear H
        have H := H1
        clear H1
        have H' := zm H
        clear H
        go_wp2
        go_meet
        case rel => exact ⟨_, (false), zF, H', ⟨by have := HK1.out; have := HJ14.out; first | omega | exact Nat.le_refl _⟩, ⟨zrs <| Kd.R_mono (zfr (zfr (zfr (zfr (zfr (Kd.R_types HO_702000.out BK721.out (by decide))))))) (fun _ hk => trivial)⟩, ⟨zrs <| Kd.R_mono (zfr (zfr (zfr (zfr (zfr (Kd.R_types HO_702001.out BK721.out (by decide))))))) (fun _ hk => trivial)⟩, ⟨zfar (zfar (zfar (zfar (zfar (zb BK698) NB698_721) NB698_721) NB698_721) NB698_721) NB698_721⟩, ⟨zfar (zfar (zfar (zfar (zfar (zb BK699) NB699_721) NB699_721) NB699_721) NB699_721) NB699_721⟩, ⟨zfar (zfar (zfar (zfar (zfar (zb BK700) NB700_721) NB700_721) NB700_721) NB700_721) NB700_721⟩, ⟨zfar (zfar (zfar (zfar (zfar (zb BK701) NB701_721) NB701_721) NB701_721) NB701_721) NB701_721⟩, ⟨zfar (zfar (zfar (zfar (zfar (zb BK714) NB714_721) NB714_721) NB714_721) NB714_721) NB714_721⟩, ⟨zput (zput (zput (zput (zput (zb BK721) 0) 1) 2) 3) 4⟩, ⟨zB⟩⟩
       ·replace c53 := Bool.eq_false_iff.mpr c53
        subst c53
        have H1 : (spec_l3Join.j2 kj14 x6_1 t704 false t720 (!t720) l0_0 l0_1 l1_0 l1_1 x702000_1 x702001_14 t708 t709 t710 t711 t712 t715 t716 t717 t718 t719) = some (r1, r2) := by rw [if_neg (show ¬ (false = true) by decide)] at H; exact H
        clear H
        have H := H1
        clear H1
        have H' := zm H
        clear H
        go_wp2
        go_meet
        case rel => exact ⟨_, (!t720), zF, H', ⟨by have := HK1.out; have := HJ14.out; first | omega | exact Nat.le_refl _⟩, ⟨zrs <| Kd.R_mono (zfr (zfr (zfr (zfr (zfr (Kd.R_types HO_702000.out BK721.out (by decide))))))) (fun _ hk => trivial)⟩, ⟨zrs <| Kd.R_mono (zfr (zfr (zfr (zfr (zfr (Kd.R_types HO_702001.out BK721.out (by decide))))))) (fun _ hk => trivial)⟩, ⟨zfar (zfar (zfar (zfar (zfar (zb BK698) NB698_721) NB698_721) NB698_721) NB698_721) NB698_721⟩, ⟨zfar (zfar (zfar (zfar (zfar (zb BK699) NB699_721) NB699_721) NB699_721) NB699_721) NB699_721⟩, ⟨zfar (zfar (zfar (zfar (zfar (zb BK700) NB700_721) NB700_721) NB700_721) NB700_721) NB700_721⟩, ⟨zfar (zfar (zfar (zfar (zfar (zb BK701) NB701_721) NB701_721) NB701_721) NB701_721) NB701_721⟩, ⟨zfar (zfar (zfar (zfar (zfar (zb BK714) NB714_721) NB714_721) NB714_721) NB714_721) NB714_721⟩, ⟨zput (zput (zput (zput (zput (zb BK721) 0) 1) 2) 3) 4⟩, ⟨zB⟩⟩
      case rest =>
       clear HC30
       try clear c1
       try clear c2
       try clear p2
       try clear c3
       try clear c4
       try clear c5
       try clear c7
       try clear c8
       try clear c9
       try clear c11
       try clear c11b0
       try clear c19
       try clear c19b0
       try clear c20
       try clear c21
       try clear c22
       try clear c23
       try clear c31
       try clear c32
       try clear c33
       try clear c36
       try clear c37
       try clear c38
       try clear c39
       try clear c40
       try clear c42
       try clear c43
       try clear c47
       try clear c48
       try clear c49
       try clear c50
       try clear c51
       try clear c53
       try clear hcz10_0
       try clear hcz10_1
       try clear hcz24_0
       try clear hcz24_1
       try clear hcz27_0
       try clear hcz27_1
       try clear hcz34_0
       try clear hcz34_1
       try clear hcz41_0
       try clear hcz41_1
       try clear hcz41_2
       try clear hcz41_3
       try clear hcz41_4
       try clear hcz44_0
       try clear hcz44_1
       try clear hcz52_0
       try clear hcz52_1
       try clear hcz52_2
       try clear hcz52_3
       try clear hcz52_4
       try clear hfz10_0
       try clear hfz10_1
       try clear hfz24_0
       try clear hfz24_1
       try clear hfz27_0
       try clear hfz27_1
       try clear hfz34_0
       try clear hfz34_1
       try clear hfz41_0
       try clear hfz41_1
       try clear hfz41_2
       try clear hfz41_3
       try clear hfz41_4
       try clear hfz44_0
       try clear hfz44_1
       try clear hfz52_0
       try clear hfz52_1
       try clear hfz52_2
       try clear hfz52_3
       try clear hfz52_4
       try clear p2
       obtain ⟨kq, x52_29, rfl, HA, HJ29, HO_702000, HO_702001, BK698, BK699, BK700, BK701, BK714, BK721, HB⟩ := hcut
       cases kq with
       | zero => exact absurd HA.out (by simp [spec_l3Join.j2])
       | succ kj29 =>
        have H := HA.out
        clear HA
        simp only [spec_l3Join.j2] at H
        by_cases c54 : x52_29 = true
        ·subst c54
         have H1 : (spec_l3Join.l0 kj29 (wrap64 (x6_1 + 1)) l0_0 l0_1 l1_0 l1_1 x702000_1 x702001_14) = some (r1, r2) := by rw [if_pos rfl] at H; exact H
         clear H
         have H := H1
         clear H1
         have H' := zm H
         clear H
         go_wp2
         go_roundg kj29
         case measure => have := HK1.out; have := HJ14.out; have := HJ29.out; omega
         case rel => exact ⟨(wrap64 (x6_1 + 1)), (x702000_1), (x702001_14), (u702000), (u702001), zF, H', ⟨by have := HK1.out; have := HJ14.out; have := HJ29.out; omega⟩, ⟨zr HO_702000⟩, ⟨zr HO_702001⟩, ⟨zb BK698⟩, ⟨zb BK699⟩, ⟨zb BK700⟩, ⟨zb BK701⟩, ⟨zB⟩⟩
        ·replace c54 := Bool.eq_false_iff.mpr c54
         subst c54
         have H1 : (if t713 = true then (if t720 = true then ((spec_EntryCmp.f kj29 t715 t716 t717 t718 t719 t708 t709 t710 t711 t712).bind fun t723 => (spec_l3Join.j3 kj29 x6_1 t704 (decide (t723 > 0)) l0_0 l0_1 l1_0 l1_1 x702000_1 x702001_14 t715 t716 t717 t718 t719 t708 t709 t710 t711 t712)) else (spec_l3Join.j3 kj29 x6_1 t704 false l0_0 l0_1 l1_0 l1_1 x702000_1 x702001_14 t715 t716 t717 t718 t719 t708 t709 t710 t711 t712)) else (spec_l3Join.j3 kj29 x6_1 t704 true l0_0 l0_1 l1_0 l1_1 x702000_1 x702001_14 t715 t716 t717 t718 t719 t708 t709 t710 t711 t712)) = some (r1, r2) := by rw [if_neg (show ¬ (false = true) by decide)] at H; exact H
         clear H
         have H := H1
         clear H1
         have HC55 := zm H
         clear H
         have hnb56 := NB714_698.out
         have hnc56 := NB698_714.out
         have hnb57 := NB714_699.out
         have hnc57 := NB699_714.out
         have hnb58 := NB714_700.out
         have hnc58 := NB700_714.out
         have hnb59 := NB714_701.out
         have hnc59 := NB701_714.out
         have hnb60 := NB714_721.out
         have hnc60 := NB721_714.out
         have hcz61_0 : wc.cell? ⟨gb714, 0, none⟩ = some (.int .i64 t708) := (blk_cell BK714.out 0).trans rfl
         have hcz61_1 : wc.cell? ⟨gb714, 1, none⟩ = some (.int .i64 t709) := (blk_cell BK714.out 1).trans rfl
         have hcz61_2 : wc.cell? ⟨gb714, 2, none⟩ = some (.int .i64 t710) := (blk_cell BK714.out 2).trans rfl
         have hcz61_3 : wc.cell? ⟨gb714, 3, none⟩ = some (.int .i64 t711) := (blk_cell BK714.out 3).trans rfl
         have hcz61_4 : wc.cell? ⟨gb714, 4, none⟩ = some (.string t712) := (blk_cell BK714.out 4).trans rfl
         have hfz61_0 := blk_frozen BK714.out 0
         have hfz61_1 := blk_frozen BK714.out 1
         have hfz61_2 := blk_frozen BK714.out 2
         have hfz61_3 := blk_frozen BK714.out 3
         have hfz61_4 := blk_frozen BK714.out 4
         go_upto_region 12 with (first | ((with_reducible refine gate_dst (N := 12) rfl ?_); refine zbox 12 #[.int .i64 0, .int .i64 0, .int .i64 0, .int .i64 0, .string (⟨#[]⟩ : ByteArray)] 25 ?_; intro gb722 hg w62 hbox hb; replace HO_702000 := zm (Kd.R_below (zr HO_702000) hb); replace HO_702001 := zm (Kd.R_below (zr HO_702001) hb); have BK722 := zm (hbox); have GW722 := zge w hg zB; have GE722 := zge w hg zB; replace HB := zm (below_step zB hb); have NB698_722 := zlt hg (zb BK698); have NB722_698 := zgt hg (zb BK698); replace BK698 := zm (blk_below (zb BK698) hb); have NB699_722 := zlt hg (zb BK699); have NB722_699 := zgt hg (zb BK699); replace BK699 := zm (blk_below (zb BK699) hb); have NB700_722 := zlt hg (zb BK700); have NB722_700 := zgt hg (zb BK700); replace BK700 := zm (blk_below (zb BK700) hb); have NB701_722 := zlt hg (zb BK701); have NB722_701 := zgt hg (zb BK701); replace BK701 := zm (blk_below (zb BK701) hb); have NB714_722 := zlt hg (zb BK714); have NB722_714 := zgt hg (zb BK714); replace BK714 := zm (blk_below (zb BK714) hb); have NB721_722 := zlt hg (zb BK721); have NB722_721 := zgt hg (zb BK721); replace BK721 := zm (blk_below (zb BK721) hb); clear hb hbox hg; have hnb63 := NB722_698.out; have hnc63 := NB698_722.out; have hnb64 := NB722_699.out; have hnc64 := NB699_722.out; have hnb65 := NB722_700.out; have hnc65 := NB700_722.out; have hnb66 := NB722_701.out; have hnc66 := NB701_722.out; have hnb67 := NB722_714.out; have hnc67 := NB714_722.out; have hnb68 := NB722_721.out; have hnc68 := NB721_722.out; have hcz69_0 : w62.cell? ⟨gb722, 0, none⟩ = some (.int .i64 0) := (blk_cell BK722.out 0).trans rfl; have hcz69_1 : w62.cell? ⟨gb722, 1, none⟩ = some (.int .i64 0) := (blk_cell BK722.out 1).trans rfl; have hcz69_2 : w62.cell? ⟨gb722, 2, none⟩ = some (.int .i64 0) := (blk_cell BK722.out 2).trans rfl; have hcz69_3 : w62.cell? ⟨gb722, 3, none⟩ = some (.int .i64 0) := (blk_cell BK722.out 3).trans rfl; have hcz69_4 : w62.cell? ⟨gb722, 4, none⟩ = some (.string (⟨#[]⟩ : ByteArray)) := (blk_cell BK722.out 4).trans rfl; have hfz69_0 := blk_frozen BK722.out 0; have hfz69_1 := blk_frozen BK722.out 1; have hfz69_2 := blk_frozen BK722.out 2; have hfz69_3 := blk_frozen BK722.out 3; have hfz69_4 := blk_frozen BK722.out 4))
         (try simp only [Act.put, List.setIfInBounds_toArray, List.set_cons_zero, List.set_cons_succ])
         go_cut [64] (fun v64 wc => ∃ (kq : Nat) (x64_54 : Bool), v64 = .bool x64_54 ∧ Aside0 (spec_l3Join.j3 kq x6_1 t704 x64_54 l0_0 l0_1 l1_0 l1_1 x702000_1 x702001_14 t715 t716 t717 t718 t719 t708 t709 t710 t711 t712 = some (r1, r2)) ∧ Aside0 (kq ≤ kj29) ∧ Aside0 (Kd.R k84 84 wc w.heap.size (fun _ => True) u702000 x702000_1) ∧ Aside0 (Kd.R k89 89 wc w.heap.size (fun _ => True) u702001 x702001_14) ∧ Aside0 (wc.heap[gb698]? = some (.cells #[(.slice A0_0 l0_0.length c0_0), (.slice A0_1 l0_1.length c0_1)] 55 (0, 0))) ∧ Aside0 (wc.heap[gb699]? = some (.cells #[(.slice A1_0 l1_0.length c1_0), (.slice A1_1 l1_1.length c1_1)] 55 (0, 0))) ∧ Aside0 (wc.heap[gb700]? = some (.cells #[(.slice none 0 0), (.slice none 0 0)] 55 (0, 0))) ∧ Aside0 (wc.heap[gb701]? = some (.cells #[u702000, u702001] 55 (0, 0))) ∧ Aside0 (wc.heap[gb714]? = some (.cells #[.int .i64 t708, .int .i64 t709, .int .i64 t710, .int .i64 t711, .string t712] 25 (0, 0))) ∧ Aside0 (wc.heap[gb721]? = some (.cells #[.int .i64 t715, .int .i64 t716, .int .i64 t717, .int .i64 t718, .string t719] 25 (0, 0))) ∧ Aside0 (wc.heap[gb722]? = some (.cells #[.int .i64 t708, .int .i64 t709, .int .i64 t710, .int .i64 t711, .string t712] 25 (0, 0))) ∧ Aside0 (Below w.heap.size w wc))
         case first =>
          have H := HC55.out
          clear HC55
          by_cases c70 : t713 = true
          ·subst c70
           have H1 : (if t720 = true then ((spec_EntryCmp.f kj29 t715 t716 t717 t718 t719 t708 t709 t710 t711 t712).bind fun t723 => (spec_l3Join.j3 kj29 x6_1 t704 (decide (t723 > 0)) l0_0 l0_1 l1_0 l1_1 x702000_1 x702001_14 t715 t716 t717 t718 t719 t708 t709 t710 t711 t712)) else (spec_l3Join.j3 kj29 x6_1 t704 false l0_0 l0_1 l1_0 l1_1 x702000_1 x702001_14 t715 t716 t717 t718 t719 t708 t709 t710 t711 t712)) = some (r1, r2) := by rw [if_pos rfl] at H; exact H
           clear H
           have H := H1
           clear H1
           by_cases c71 : t720 = true
           ·subst c71
            have H1 : ((spec_EntryCmp.f kj29 t715 t716 t717 t718 t719 t708 t709 t710 t711 t712).bind fun t723 => (spec_l3Join.j3 kj29 x6_1 t704 (decide (t723 > 0)) l0_0 l0_1 l1_0 l1_1 x702000_1 x702001_14 t715 t716 t717 t718 t719 t708 t709 t710 t711 t712)) = some (r1, r2) := by rw [if_pos rfl] at H; exact H
            clear H
            have H := H1
            clear H1
            replace H := Option.bind_eq_some_iff.mp H
            obtain ⟨t723, A720, H⟩ := H
            replace H : (spec_l3Join.j3 kj29 x6_1 t704 (decide (t723 > 0)) l0_0 l0_1 l1_0 l1_1 x702000_1 x702001_14 t715 t716 t717 t718 t719 t708 t709 t710 t711 t712) = some (r1, r2) := H
            have A72 := zm A720
            clear A720
            have H' := zm H
            clear H
            have hnb73 := NB721_698.out
            have hnc73 := NB698_721.out
            have hnb74 := NB721_699.out
            have hnc74 := NB699_721.out
            have hnb75 := NB721_700.out
            have hnc75 := NB700_721.out
            have hnb76 := NB721_701.out
            have hnc76 := NB701_721.out
            have hnb77 := NB721_714.out
            have hnc77 := NB714_721.out
            have hnb78 := NB721_722.out
            have hnc78 := NB722_721.out
            have hcz79_0 : w62.cell? ⟨gb721, 0, none⟩ = some (.int .i64 t715) := (blk_cell BK721.out 0).trans rfl
            have hcz79_1 : w62.cell? ⟨gb721, 1, none⟩ = some (.int .i64 t716) := (blk_cell BK721.out 1).trans rfl
            have hcz79_2 : w62.cell? ⟨gb721, 2, none⟩ = some (.int .i64 t717) := (blk_cell BK721.out 2).trans rfl
            have hcz79_3 : w62.cell? ⟨gb721, 3, none⟩ = some (.int .i64 t718) := (blk_cell BK721.out 3).trans rfl
            have hcz79_4 : w62.cell? ⟨gb721, 4, none⟩ = some (.string t719) := (blk_cell BK721.out 4).trans rfl
            have hfz79_0 := blk_frozen BK721.out 0
            have hfz79_1 := blk_frozen BK721.out 1
            have hfz79_2 := blk_frozen BK721.out 2
            have hfz79_3 := blk_frozen BK721.out 3
            have hfz79_4 := blk_frozen BK721.out 4
            have hnb80 := NB714_698.out
            have hnc80 := NB698_714.out
            have hnb81 := NB714_699.out
            have hnc81 := NB699_714.out
            have hnb82 := NB714_700.out
            have hnc82 := NB700_714.out
            have hnb83 := NB714_701.out
            have hnc83 := NB701_714.out
            have hnb84 := NB714_722.out
            have hnc84 := NB722_714.out
            have hcz85_0 : w62.cell? ⟨gb714, 0, none⟩ = some (.int .i64 t708) := (blk_cell BK714.out 0).trans rfl
            have hcz85_1 : w62.cell? ⟨gb714, 1, none⟩ = some (.int .i64 t709) := (blk_cell BK714.out 1).trans rfl
            have hcz85_2 : w62.cell? ⟨gb714, 2, none⟩ = some (.int .i64 t710) := (blk_cell BK714.out 2).trans rfl
            have hcz85_3 : w62.cell? ⟨gb714, 3, none⟩ = some (.int .i64 t711) := (blk_cell BK714.out 3).trans rfl
            have hcz85_4 : w62.cell? ⟨gb714, 4, none⟩ = some (.string t712) := (blk_cell BK714.out 4).trans rfl
            have hfz85_0 := blk_frozen BK714.out 0
            have hfz85_1 := blk_frozen BK714.out 1
            have hfz85_2 := blk_frozen BK714.out 2
            have hfz85_3 := blk_frozen BK714.out 3
            have hfz85_4 := blk_frozen BK714.out 4
            go_wp2_with (first | (go_at_call 33; (with_reducible refine (spec_EntryCmp.calls kj29 t715 t716 t717 t718 t719 t708 t709 t710 t711 t712 t723 _ A72.out).mono ?_); rintro e w86 ⟨rfl, hb⟩; replace HO_702000 := zm (Kd.R_below (zrs <| (Kd.R_mono (zfr (zfr (zfr (zfr (zfr (Kd.R_types HO_702000.out BK722.out (by decide))))))) (fun _ h_ => h_.1))) hb); replace HO_702001 := zm (Kd.R_below (zrs <| (Kd.R_mono (zfr (zfr (zfr (zfr (zfr (Kd.R_types HO_702001.out BK722.out (by decide))))))) (fun _ h_ => h_.1))) hb); replace BK698 := zm (blk_below (g := gb698) (o := .cells #[.slice A0_0 l0_0.length c0_0, .slice A0_1 l0_1.length c0_1] 55 (0, 0)) (zfar (zfar (zfar (zfar (zfar (zb BK698) NB698_722) NB698_722) NB698_722) NB698_722) NB698_722) hb); replace BK699 := zm (blk_below (g := gb699) (o := .cells #[.slice A1_0 l1_0.length c1_0, .slice A1_1 l1_1.length c1_1] 55 (0, 0)) (zfar (zfar (zfar (zfar (zfar (zb BK699) NB699_722) NB699_722) NB699_722) NB699_722) NB699_722) hb); replace BK700 := zm (blk_below (g := gb700) (o := .cells #[.slice none 0 0, .slice none 0 0] 55 (0, 0)) (zfar (zfar (zfar (zfar (zfar (zb BK700) NB700_722) NB700_722) NB700_722) NB700_722) NB700_722) hb); replace BK701 := zm (blk_below (g := gb701) (o := .cells #[u702000, u702001] 55 (0, 0)) (zfar (zfar (zfar (zfar (zfar (zb BK701) NB701_722) NB701_722) NB701_722) NB701_722) NB701_722) hb); replace BK714 := zm (blk_below (g := gb714) (o := .cells #[.int .i64 t708, .int .i64 t709, .int .i64 t710, .int .i64 t711, .string t712] 25 (0, 0)) (zfar (zfar (zfar (zfar (zfar (zb BK714) NB714_722) NB714_722) NB714_722) NB714_722) NB714_722) hb); replace BK721 := zm (blk_below (g := gb721) (o := .cells #[.int .i64 t715, .int .i64 t716, .int .i64 t717, .int .i64 t718, .string t719] 25 (0, 0)) (zfar (zfar (zfar (zfar (zfar (zb BK721) NB721_722) NB721_722) NB721_722) NB721_722) NB721_722) hb); replace BK722 := zm (blk_below (g := gb722) (o := .cells #[.int .i64 t708, .int .i64 t709, .int .i64 t710, .int .i64 t711, .string t712] 25 (0, 0)) (zput (zput (zput (zput (zput (zb BK722) 0) 1) 2) 3) 4) hb); replace HB := zm (below_step zB hb); clear hb))
            go_meet
            case rel => exact ⟨_, (decide (t723 > 0)), zF, H', ⟨by have := HK1.out; have := HJ14.out; have := HJ29.out; first | omega | exact Nat.le_refl _⟩, ⟨zr HO_702000⟩, ⟨zr HO_702001⟩, ⟨zb BK698⟩, ⟨zb BK699⟩, ⟨zb BK700⟩, ⟨zb BK701⟩, ⟨zb BK714⟩, ⟨zb BK721⟩, ⟨zb BK722⟩, ⟨zB⟩⟩
           ·replace c71 := Bool.eq_false_iff.mpr c71
            subst c71
            have H1 : (spec_l3Join.j3 kj29 x6_1 t704 false l0_0 l0_1 l1_0 l1_1 x702000_1 x702001_14 t715 t716 t717 t718 t719 t708 t709 t710 t711 t712) = some (r1, r2) := by rw [if_neg (show ¬ (false = true) by decide)] at H; exact H
            clear H
            have H := H1
            clear H1
            have H' := zm H
            clear H
            go_wp2
            go_meet
            case rel => exact ⟨_, (false), zF, H', ⟨by have := HK1.out; have := HJ14.out; have := HJ29.out; first | omega | exact Nat.le_refl _⟩, ⟨zrs <| Kd.R_mono (zfr (zfr (zfr (zfr (zfr (Kd.R_types HO_702000.out BK722.out (by decide))))))) (fun _ hk => trivial)⟩, ⟨zrs <| Kd.R_mono (zfr (zfr (zfr (zfr (zfr (Kd.R_types HO_702001.out BK722.out (by decide))))))) (fun _ hk => trivial)⟩, ⟨zfar (zfar (zfar (zfar (zfar (zb BK698) NB698_722) NB698_722) NB698_722) NB698_722) NB698_722⟩, ⟨zfar (zfar (zfar (zfar (zfar (zb BK699) NB699_722) NB699_722) NB699_722) NB699_722) NB699_722⟩, ⟨zfar (zfar (zfar (zfar (zfar (zb BK700) NB700_722) NB700_722) NB700_722) NB700_722) NB700_722⟩, ⟨zfar (zfar (zfar (zfar (zfar (zb BK701) NB701_722) NB701_722) NB701_722) NB701_722) NB701_722⟩, ⟨zfar (zfar (zfar (zfar (zfar (zb BK714) NB714_722) NB714_722) NB714_722) NB714_722) NB714_722⟩, ⟨zfar (zfar (zfar (zfar (zfar (zb BK721) NB721_722) NB721_722) NB721_722) NB721_722) NB721_722⟩, ⟨zput (zput (zput (zput (zput (zb BK722) 0) 1) 2) 3) 4⟩, ⟨zB⟩⟩
          ·replace c70 := Bool.eq_false_iff.mpr c70
           subst c70
           have H1 : (spec_l3Join.j3 kj29 x6_1 t704 true l0_0 l0_1 l1_0 l1_1 x702000_1 x702001_14 t715 t716 t717 t718 t719 t708 t709 t710 t711 t712) = some (r1, r2) := by rw [if_neg (show ¬ (false = true) by decide)] at H; exact H
           clear H
           have H := H1
           clear H1
           have H' := zm H
           clear H
           go_wp2
           go_meet
           case rel => exact ⟨_, (true), zF, H', ⟨by have := HK1.out; have := HJ14.out; have := HJ29.out; first | omega | exact Nat.le_refl _⟩, ⟨zrs <| Kd.R_mono (zfr (zfr (zfr (zfr (zfr (Kd.R_types HO_702000.out BK722.out (by decide))))))) (fun _ hk => trivial)⟩, ⟨zrs <| Kd.R_mono (zfr (zfr (zfr (zfr (zfr (Kd.R_types HO_702001.out BK722.out (by decide))))))) (fun _ hk => trivial)⟩, ⟨zfar (zfar (zfar (zfar (zfar (zb BK698) NB698_722) NB698_722) NB698_722) NB698_722) NB698_722⟩, ⟨zfar (zfar (zfar (zfar (zfar (zb BK699) NB699_722) NB699_722) NB699_722) NB699_722) NB699_722⟩, ⟨zfar (zfar (zfar (zfar (zfar (zb BK700) NB700_722) NB700_722) NB700_722) NB700_722) NB700_722⟩, ⟨zfar (zfar (zfar (zfar (zfar (zb BK701) NB701_722) NB701_722) NB701_722) NB701_722) NB701_722⟩, ⟨zfar (zfar (zfar (zfar (zfar (zb BK714) NB714_722) NB714_722) NB714_722) NB714_722) NB714_722⟩, ⟨zfar (zfar (zfar (zfar (zfar (zb BK721) NB721_722) NB721_722) NB721_722) NB721_722) NB721_722⟩, ⟨zput (zput (zput (zput (zput (zb BK722) 0) 1) 2) 3) 4⟩, ⟨zB⟩⟩
         case rest =>
          clear HC55
          try clear c1
          try clear c2
          try clear p2
          try clear c3
          try clear c4
          try clear c5
          try clear c6
          try clear p6
          try clear c7
          try clear c8
          try clear c9
          try clear c11
          try clear c11b0
          try clear c19
          try clear c19b0
          try clear c20
          try clear c21
          try clear c22
          try clear c23
          try clear c31
          try clear c32
          try clear c33
          try clear c36
          try clear c37
          try clear c38
          try clear c39
          try clear c40
          try clear c42
          try clear c43
          try clear c47
          try clear c48
          try clear c49
          try clear c50
          try clear c51
          try clear c53
          try clear c54
          try clear c56
          try clear c57
          try clear c58
          try clear c59
          try clear c60
          try clear c63
          try clear c64
          try clear p64
          try clear c65
          try clear c66
          try clear c67
          try clear c68
          try clear c70
          try clear c71
          try clear c73
          try clear c74
          try clear c75
          try clear c76
          try clear c77
          try clear c78
          try clear c80
          try clear c81
          try clear c82
          try clear c83
          try clear c84
          try clear hcz10_0
          try clear hcz10_1
          try clear hcz24_0
          try clear hcz24_1
          try clear hcz27_0
          try clear hcz27_1
          try clear hcz34_0
          try clear hcz34_1
          try clear hcz41_0
          try clear hcz41_1
          try clear hcz41_2
          try clear hcz41_3
          try clear hcz41_4
          try clear hcz44_0
          try clear hcz44_1
          try clear hcz52_0
          try clear hcz52_1
          try clear hcz52_2
          try clear hcz52_3
          try clear hcz52_4
          try clear hcz61_0
          try clear hcz61_1
          try clear hcz61_2
          try clear hcz61_3
          try clear hcz61_4
          try clear hcz69_0
          try clear hcz69_1
          try clear hcz69_2
          try clear hcz69_3
          try clear hcz69_4
          try clear hcz79_0
          try clear hcz79_1
          try clear hcz79_2
          try clear hcz79_3
          try clear hcz79_4
          try clear hcz85_0
          try clear hcz85_1
          try clear hcz85_2
          try clear hcz85_3
          try clear hcz85_4
          try clear hfz10_0
          try clear hfz10_1
          try clear hfz24_0
          try clear hfz24_1
          try clear hfz27_0
          try clear hfz27_1
          try clear hfz34_0
          try clear hfz34_1
          try clear hfz41_0
          try clear hfz41_1
          try clear hfz41_2
          try clear hfz41_3
          try clear hfz41_4
          try clear hfz44_0
          try clear hfz44_1
          try clear hfz52_0
          try clear hfz52_1
          try clear hfz52_2
          try clear hfz52_3
          try clear hfz52_4
          try clear hfz61_0
          try clear hfz61_1
          try clear hfz61_2
          try clear hfz61_3
          try clear hfz61_4
          try clear hfz69_0
          try clear hfz69_1
          try clear hfz69_2
          try clear hfz69_3
          try clear hfz69_4
          try clear hfz79_0
          try clear hfz79_1
          try clear hfz79_2
          try clear hfz79_3
          try clear hfz79_4
          try clear hfz85_0
          try clear hfz85_1
          try clear hfz85_2
          try clear hfz85_3
          try clear hfz85_4
          try clear p2
          obtain ⟨kq, x64_54, rfl, HA, HJ54, HO_702000, HO_702001, BK698, BK699, BK700, BK701, BK714, BK721, BK722, HB⟩ := hcut
          cases kq with
          | zero => exact absurd HA.out (by simp [spec_l3Join.j3])
          | succ kj54 =>
           have H := HA.out
           clear HA
           simp only [spec_l3Join.j3] at H
           by_cases c87 : x64_54 = true
           ·subst c87
            have H1 : (if t715 > t704 then (if x702000_1.length < 2513169434916 then (spec_l3Join.l0 kj54 (wrap64 (x6_1 + 1)) l0_0 l0_1 l1_0 l1_1 (x702000_1 ++ [(⟨x6_1, (⟨t715, t716, t717, t718, t719⟩ : S25)⟩ : S84)]) x702001_14) else (none)) else (spec_l3Join.l0 kj54 (wrap64 (x6_1 + 1)) l0_0 l0_1 l1_0 l1_1 x702000_1 x702001_14)) = some (r1, r2) := by rw [if_pos rfl] at H; exact H
            clear H
            have H := H1
            clear H1
            by_cases c88 : t715 > t704
            ·rw [if_pos c88] at H
             have c88b0 : decide (t704 < t715) = true := decide_eq_true c88
             clear c88
             by_cases c89 : x702000_1.length < 2513169434916
             ·rw [if_pos c89] at H
              have LMc89 := zm c89
              clear c89
              obtain ⟨y724, hy724⟩ : ∃ y_ : List (S84), y_ = (x702000_1 ++ [(⟨x6_1, (⟨t715, t716, t717, t718, t719⟩ : S25)⟩ : S84)]) := ⟨_, rfl⟩
              replace H : (spec_l3Join.l0 kj54 (wrap64 (x6_1 + 1)) l0_0 l0_1 l1_0 l1_1 y724 x702001_14) = some (r1, r2) := by first | (rw [hy724]; with_reducible exact H) | (have H2_ := (Option.bind_some _ _).symm.trans H; rw [hy724]; with_reducible exact H2_) | (have H2_ := (Option.bind_some _ _).symm.trans H; with_reducible exact H2_) | with_reducible exact H | (rw [hy724]; exact H) | exact H
              have Ny724 := zm hy724
              clear hy724
              have H' := zm H
              clear H
              have hnb90 := NB721_698.out
              have hnc90 := NB698_721.out
              have hnb91 := NB721_699.out
              have hnc91 := NB699_721.out
              have hnb92 := NB721_700.out
              have hnc92 := NB700_721.out
              have hnb93 := NB721_701.out
              have hnc93 := NB701_721.out
              have hnb94 := NB721_714.out
              have hnc94 := NB714_721.out
              have hnb95 := NB721_722.out
              have hnc95 := NB722_721.out
              have hcz96_0 : wc.cell? ⟨gb721, 0, none⟩ = some (.int .i64 t715) := (blk_cell BK721.out 0).trans rfl
              have hcz96_1 : wc.cell? ⟨gb721, 1, none⟩ = some (.int .i64 t716) := (blk_cell BK721.out 1).trans rfl
              have hcz96_2 : wc.cell? ⟨gb721, 2, none⟩ = some (.int .i64 t717) := (blk_cell BK721.out 2).trans rfl
              have hcz96_3 : wc.cell? ⟨gb721, 3, none⟩ = some (.int .i64 t718) := (blk_cell BK721.out 3).trans rfl
              have hcz96_4 : wc.cell? ⟨gb721, 4, none⟩ = some (.string t719) := (blk_cell BK721.out 4).trans rfl
              have hfz96_0 := blk_frozen BK721.out 0
              have hfz96_1 := blk_frozen BK721.out 1
              have hfz96_2 := blk_frozen BK721.out 2
              have hfz96_3 := blk_frozen BK721.out 3
              have hfz96_4 := blk_frozen BK721.out 4
              have hnb97 := NB722_698.out
              have hnc97 := NB698_722.out
              have hnb98 := NB722_699.out
              have hnc98 := NB699_722.out
              have hnb99 := NB722_700.out
              have hnc99 := NB700_722.out
              have hnb100 := NB722_701.out
              have hnc100 := NB701_722.out
              have hnb101 := NB722_714.out
              have hnc101 := NB714_722.out
              have hcz102_0 : wc.cell? ⟨gb722, 0, none⟩ = some (.int .i64 t708) := (blk_cell BK722.out 0).trans rfl
              have hcz102_1 : wc.cell? ⟨gb722, 1, none⟩ = some (.int .i64 t709) := (blk_cell BK722.out 1).trans rfl
              have hcz102_2 : wc.cell? ⟨gb722, 2, none⟩ = some (.int .i64 t710) := (blk_cell BK722.out 2).trans rfl
              have hcz102_3 : wc.cell? ⟨gb722, 3, none⟩ = some (.int .i64 t711) := (blk_cell BK722.out 3).trans rfl
              have hcz102_4 : wc.cell? ⟨gb722, 4, none⟩ = some (.string t712) := (blk_cell BK722.out 4).trans rfl
              have hfz102_0 := blk_frozen BK722.out 0
              have hfz102_1 := blk_frozen BK722.out 1
              have hfz102_2 := blk_frozen BK722.out 2
              have hfz102_3 := blk_frozen BK722.out 3
              have hfz102_4 := blk_frozen BK722.out 4
              have hnb103 := NB701_698.out
              have hnc103 := NB698_701.out
              have hnb104 := NB701_699.out
              have hnc104 := NB699_701.out
              have hnb105 := NB701_700.out
              have hnc105 := NB700_701.out
              have hnb106 := NB701_714.out
              have hnc106 := NB714_701.out
              have hcz107_0 : wc.cell? ⟨gb701, 0, none⟩ = some (u702000) := (blk_cell BK701.out 0).trans rfl
              have hcz107_1 : wc.cell? ⟨gb701, 1, none⟩ = some (u702001) := (blk_cell BK701.out 1).trans rfl
              have hfz107_0 := blk_frozen BK701.out 0
              have hfz107_1 := blk_frozen BK701.out 1
              go_wp2_with (first | ((with_reducible refine gate_builtin (b := .append) (xs := #[.tmp 71, .tmp 75]) rfl ?_); at_builtin; refine Kd.R_append k84 (w0 := w) w.heap.size rfl (.tmp 71) (.tmp 75) 52 84 (.agg #[(.int .i64 0), (.int .i64 0), (.int .i64 0), (.int .i64 0), (.int .i64 0), (.string ⟨#[]⟩)]) 56 rfl Try.underlying52 info84 rfl (by decide) (by omega) u702000 x702000_1 (⟨x6_1, (⟨t715, t716, t717, t718, t719⟩ : S25)⟩ : S84) [.int .i64 x6_1, .int .i64 t715, .int .i64 t716, .int .i64 t717, .int .i64 t718, .string t719] (fun _ => True) (fun _ => False) rfl (by first | (go_simp; done) | (go_simp; rfl)) ?aP (fun _ hk => hk.elim) ?aF ?aO ?aB ?aS ?aL ?_; (case aP => exact k84_mkM _ _ _ (⟨x6_1, (⟨t715, t716, t717, t718, t719⟩ : S25)⟩ : S84)); (case aB => exact zB); (case aF => exact (fun _ _ => trivial)); (case aO => exact (zrs <| Kd.R_mono (zfr (zfr (zfr (zfr (zfr (Kd.R_types HO_702000.out BK722.out (by decide))))))) (fun _ hk => trivial))); (case aS => exact (below_size zB)); (case aL => have := LMc89.out; omega); intro v725 w108 ho hb hg hat; rw [← Ny724.out] at ho; replace HO_702001 := zm (Kd.R_over' (zrs <| (Kd.R_mono (zfr (zfr (zfr (zfr (zfr (Kd.R_types HO_702001.out BK722.out (by decide))))))) (fun _ h_ => h_.1))) (Kd.R_typed (zrs <| (Kd.R_mono (zfr (zfr (zfr (zfr (zfr (Kd.R_types HO_702000.out BK722.out (by decide))))))) (fun _ h_ => h_.1)))) (by decide) hg); replace BK698 := zm (blk_grown (g := gb698) (o := .cells #[.slice A0_0 l0_0.length c0_0, .slice A0_1 l0_1.length c0_1] 55 (0, 0)) (zfar (zfar (zfar (zfar (zfar (zb BK698) NB698_722) NB698_722) NB698_722) NB698_722) NB698_722) hg (Kd.R_ne HO_702000.out BK698.out (by decide))); replace BK699 := zm (blk_grown (g := gb699) (o := .cells #[.slice A1_0 l1_0.length c1_0, .slice A1_1 l1_1.length c1_1] 55 (0, 0)) (zfar (zfar (zfar (zfar (zfar (zb BK699) NB699_722) NB699_722) NB699_722) NB699_722) NB699_722) hg (Kd.R_ne HO_702000.out BK699.out (by decide))); replace BK700 := zm (blk_grown (g := gb700) (o := .cells #[.slice none 0 0, .slice none 0 0] 55 (0, 0)) (zfar (zfar (zfar (zfar (zfar (zb BK700) NB700_722) NB700_722) NB700_722) NB700_722) NB700_722) hg (Kd.R_ne HO_702000.out BK700.out (by decide))); replace BK701 := zm (blk_grown (g := gb701) (o := .cells #[u702000, u702001] 55 (0, 0)) (zfar (zfar (zfar (zfar (zfar (zb BK701) NB701_722) NB701_722) NB701_722) NB701_722) NB701_722) hg (Kd.R_ne HO_702000.out BK701.out (by decide))); replace BK714 := zm (blk_grown (g := gb714) (o := .cells #[.int .i64 t708, .int .i64 t709, .int .i64 t710, .int .i64 t711, .string t712] 25 (0, 0)) (zfar (zfar (zfar (zfar (zfar (zb BK714) NB714_722) NB714_722) NB714_722) NB714_722) NB714_722) hg (Kd.R_ne HO_702000.out BK714.out (by decide))); replace BK721 := zm (blk_grown (g := gb721) (o := .cells #[.int .i64 t715, .int .i64 t716, .int .i64 t717, .int .i64 t718, .string t719] 25 (0, 0)) (zfar (zfar (zfar (zfar (zfar (zb BK721) NB721_722) NB721_722) NB721_722) NB721_722) NB721_722) hg (Kd.R_ne HO_702000.out BK721.out (by decide))); replace BK722 := zm (blk_grown (g := gb722) (o := .cells #[.int .i64 t715, .int .i64 t716, .int .i64 t717, .int .i64 t718, .string t719] 25 (0, 0)) (zput (zput (zput (zput (zput (zb BK722) 0) 1) 2) 3) 4) hg (Kd.R_ne HO_702000.out BK722.out (by decide))); replace HB := zm (hb); have HO726 := zm (ho); clear HO_702000; clear ho hb hg hat; obtain ⟨Ao109, co109, eo109⟩ := Kd.R_slice HO726.out; subst eo109; have hcz110_0 : w108.cell? ⟨gb701, 0, none⟩ = some (u702000) := (blk_cell BK701.out 0).trans rfl; have hcz110_1 : w108.cell? ⟨gb701, 1, none⟩ = some (u702001) := (blk_cell BK701.out 1).trans rfl; have hfz110_0 := blk_frozen BK701.out 0; have hfz110_1 := blk_frozen BK701.out 1))
              go_roundg kj54
              case measure => have := HK1.out; have := HJ14.out; have := HJ29.out; have := HJ54.out; omega
              case rel => exact ⟨(wrap64 (x6_1 + 1)), (y724), (x702001_14), (.slice Ao109 y724.length co109), (u702001), zF, H', ⟨by have := HK1.out; have := HJ14.out; have := HJ29.out; have := HJ54.out; omega⟩, ⟨zrs <| Kd.R_mono (zfr (Kd.R_types HO726.out BK701.out (by decide))) (fun _ hk => trivial)⟩, ⟨zrs <| Kd.R_mono (zfr (Kd.R_types HO_702001.out BK701.out (by decide))) (fun _ hk => trivial)⟩, ⟨zfar (zb BK698) NB698_701⟩, ⟨zfar (zb BK699) NB699_701⟩, ⟨zfar (zb BK700) NB700_701⟩, ⟨zput (zb BK701) 0⟩, ⟨zB⟩⟩
             ·rw [if_neg c89] at H
              exact absurd H (by simp)
            ·rw [if_neg c88] at H
             have c88b0 : decide (t704 < t715) = false := decide_eq_false c88
             clear c88
             have H' := zm H
             clear H
             have hnb111 := NB721_698.out
             have hnc111 := NB698_721.out
             have hnb112 := NB721_699.out
             have hnc112 := NB699_721.out
             have hnb113 := NB721_700.out
             have hnc113 := NB700_721.out
             have hnb114 := NB721_701.out
             have hnc114 := NB701_721.out
             have hnb115 := NB721_714.out
             have hnc115 := NB714_721.out
             have hnb116 := NB721_722.out
             have hnc116 := NB722_721.out
             have hcz117_0 : wc.cell? ⟨gb721, 0, none⟩ = some (.int .i64 t715) := (blk_cell BK721.out 0).trans rfl
             have hcz117_1 : wc.cell? ⟨gb721, 1, none⟩ = some (.int .i64 t716) := (blk_cell BK721.out 1).trans rfl
             have hcz117_2 : wc.cell? ⟨gb721, 2, none⟩ = some (.int .i64 t717) := (blk_cell BK721.out 2).trans rfl
             have hcz117_3 : wc.cell? ⟨gb721, 3, none⟩ = some (.int .i64 t718) := (blk_cell BK721.out 3).trans rfl
             have hcz117_4 : wc.cell? ⟨gb721, 4, none⟩ = some (.string t719) := (blk_cell BK721.out 4).trans rfl
             have hfz117_0 := blk_frozen BK721.out 0
             have hfz117_1 := blk_frozen BK721.out 1
             have hfz117_2 := blk_frozen BK721.out 2
             have hfz117_3 := blk_frozen BK721.out 3
             have hfz117_4 := blk_frozen BK721.out 4
             have hnb118 := NB722_698.out
             have hnc118 := NB698_722.out
             have hnb119 := NB722_699.out
             have hnc119 := NB699_722.out
             have hnb120 := NB722_700.out
             have hnc120 := NB700_722.out
             have hnb121 := NB722_701.out
             have hnc121 := NB701_722.out
             have hnb122 := NB722_714.out
             have hnc122 := NB714_722.out
             have hcz123_0 : wc.cell? ⟨gb722, 0, none⟩ = some (.int .i64 t708) := (blk_cell BK722.out 0).trans rfl
             have hcz123_1 : wc.cell? ⟨gb722, 1, none⟩ = some (.int .i64 t709) := (blk_cell BK722.out 1).trans rfl
             have hcz123_2 : wc.cell? ⟨gb722, 2, none⟩ = some (.int .i64 t710) := (blk_cell BK722.out 2).trans rfl
             have hcz123_3 : wc.cell? ⟨gb722, 3, none⟩ = some (.int .i64 t711) := (blk_cell BK722.out 3).trans rfl
             have hcz123_4 : wc.cell? ⟨gb722, 4, none⟩ = some (.string t712) := (blk_cell BK722.out 4).trans rfl
             have hfz123_0 := blk_frozen BK722.out 0
             have hfz123_1 := blk_frozen BK722.out 1
             have hfz123_2 := blk_frozen BK722.out 2
             have hfz123_3 := blk_frozen BK722.out 3
             have hfz123_4 := blk_frozen BK722.out 4
             go_wp2
             go_roundg kj54
             case measure => have := HK1.out; have := HJ14.out; have := HJ29.out; have := HJ54.out; omega
             case rel => exact ⟨(wrap64 (x6_1 + 1)), (x702000_1), (x702001_14), (u702000), (u702001), zF, H', ⟨by have := HK1.out; have := HJ14.out; have := HJ29.out; have := HJ54.out; omega⟩, ⟨zrs <| Kd.R_mono (zfr (zfr (zfr (zfr (zfr (Kd.R_types HO_702000.out BK722.out (by decide))))))) (fun _ hk => trivial)⟩, ⟨zrs <| Kd.R_mono (zfr (zfr (zfr (zfr (zfr (Kd.R_types HO_702001.out BK722.out (by decide))))))) (fun _ hk => trivial)⟩, ⟨zfar (zfar (zfar (zfar (zfar (zb BK698) NB698_722) NB698_722) NB698_722) NB698_722) NB698_722⟩, ⟨zfar (zfar (zfar (zfar (zfar (zb BK699) NB699_722) NB699_722) NB699_722) NB699_722) NB699_722⟩, ⟨zfar (zfar (zfar (zfar (zfar (zb BK700) NB700_722) NB700_722) NB700_722) NB700_722) NB700_722⟩, ⟨zfar (zfar (zfar (zfar (zfar (zb BK701) NB701_722) NB701_722) NB701_722) NB701_722) NB701_722⟩, ⟨zB⟩⟩
           ·replace c87 := Bool.eq_false_iff.mpr c87
            subst c87
            have H1 : (if t708 > t704 then (if x702000_1.length < 2513169434916 then (spec_l3Join.l0 kj54 (wrap64 (x6_1 + 1)) l0_0 l0_1 l1_0 l1_1 (x702000_1 ++ [(⟨x6_1, (⟨t708, t709, t710, t711, t712⟩ : S25)⟩ : S84)]) x702001_14) else (none)) else (spec_l3Join.l0 kj54 (wrap64 (x6_1 + 1)) l0_0 l0_1 l1_0 l1_1 x702000_1 x702001_14)) = some (r1, r2) := by rw [if_neg (show ¬ (false = true) by decide)] at H; exact H
            clear H
            have H := H1
            clear H1
            by_cases c124 : t708 > t704
            ·rw [if_pos c124] at H
             have c124b0 : decide (t704 < t708) = true := decide_eq_true c124
             clear c124
             by_cases c125 : x702000_1.length < 2513169434916
             ·rw [if_pos c125] at H
              have LMc125 := zm c125
              clear c125
              obtain ⟨y727, hy727⟩ : ∃ y_ : List (S84), y_ = (x702000_1 ++ [(⟨x6_1, (⟨t708, t709, t710, t711, t712⟩ : S25)⟩ : S84)]) := ⟨_, rfl⟩
              replace H : (spec_l3Join.l0 kj54 (wrap64 (x6_1 + 1)) l0_0 l0_1 l1_0 l1_1 y727 x702001_14) = some (r1, r2) := by first | (rw [hy727]; with_reducible exact H) | (have H2_ := (Option.bind_some _ _).symm.trans H; rw [hy727]; with_reducible exact H2_) | (have H2_ := (Option.bind_some _ _).symm.trans H; with_reducible exact H2_) | with_reducible exact H | (rw [hy727]; exact H) | exact H
              have Ny727 := zm hy727
              clear hy727
              have H' := zm H
              clear H
              have hnb126 := NB722_698.out
              have hnc126 := NB698_722.out
              have hnb127 := NB722_699.out
              have hnc127 := NB699_722.out
              have hnb128 := NB722_700.out
              have hnc128 := NB700_722.out
              have hnb129 := NB722_701.out
              have hnc129 := NB701_722.out
              have hnb130 := NB722_714.out
              have hnc130 := NB714_722.out
              have hnb131 := NB722_721.out
              have hnc131 := NB721_722.out
              have hcz132_0 : wc.cell? ⟨gb722, 0, none⟩ = some (.int .i64 t708) := (blk_cell BK722.out 0).trans rfl
              have hcz132_1 : wc.cell? ⟨gb722, 1, none⟩ = some (.int .i64 t709) := (blk_cell BK722.out 1).trans rfl
              have hcz132_2 : wc.cell? ⟨gb722, 2, none⟩ = some (.int .i64 t710) := (blk_cell BK722.out 2).trans rfl
              have hcz132_3 : wc.cell? ⟨gb722, 3, none⟩ = some (.int .i64 t711) := (blk_cell BK722.out 3).trans rfl
              have hcz132_4 : wc.cell? ⟨gb722, 4, none⟩ = some (.string t712) := (blk_cell BK722.out 4).trans rfl
              have hfz132_0 := blk_frozen BK722.out 0
              have hfz132_1 := blk_frozen BK722.out 1
              have hfz132_2 := blk_frozen BK722.out 2
              have hfz132_3 := blk_frozen BK722.out 3
              have hfz132_4 := blk_frozen BK722.out 4
              have hnb133 := NB701_698.out
              have hnc133 := NB698_701.out
              have hnb134 := NB701_699.out
              have hnc134 := NB699_701.out
              have hnb135 := NB701_700.out
              have hnc135 := NB700_701.out
              have hnb136 := NB701_714.out
              have hnc136 := NB714_701.out
              have hnb137 := NB701_721.out
              have hnc137 := NB721_701.out
              have hcz138_0 : wc.cell? ⟨gb701, 0, none⟩ = some (u702000) := (blk_cell BK701.out 0).trans rfl
              have hcz138_1 : wc.cell? ⟨gb701, 1, none⟩ = some (u702001) := (blk_cell BK701.out 1).trans rfl
              have hfz138_0 := blk_frozen BK701.out 0
              have hfz138_1 := blk_frozen BK701.out 1
              go_wp2_with (first | ((with_reducible refine gate_builtin (b := .append) (xs := #[.tmp 71, .tmp 75]) rfl ?_); at_builtin; refine Kd.R_append k84 (w0 := w) w.heap.size rfl (.tmp 71) (.tmp 75) 52 84 (.agg #[(.int .i64 0), (.int .i64 0), (.int .i64 0), (.int .i64 0), (.int .i64 0), (.string ⟨#[]⟩)]) 56 rfl Try.underlying52 info84 rfl (by decide) (by omega) u702000 x702000_1 (⟨x6_1, (⟨t708, t709, t710, t711, t712⟩ : S25)⟩ : S84) [.int .i64 x6_1, .int .i64 t708, .int .i64 t709, .int .i64 t710, .int .i64 t711, .string t712] (fun _ => True) (fun _ => False) rfl rfl ?aP (fun _ hk => hk.elim) ?aF ?aO ?aB ?aS ?aL ?_; (case aP => exact k84_mkM _ _ _ (⟨x6_1, (⟨t708, t709, t710, t711, t712⟩ : S25)⟩ : S84)); (case aB => exact zB); (case aF => exact (fun _ _ => trivial)); (case aO => exact (zr HO_702000)); (case aS => exact (below_size zB)); (case aL => have := LMc125.out; omega); intro v728 w139 ho hb hg hat; rw [← Ny727.out] at ho; replace HO_702001 := zm (Kd.R_over' (zr HO_702001) (Kd.R_typed (zr HO_702000)) (by decide) hg); replace BK698 := zm (blk_grown (g := gb698) (o := .cells #[.slice A0_0 l0_0.length c0_0, .slice A0_1 l0_1.length c0_1] 55 (0, 0)) (zb BK698) hg (Kd.R_ne HO_702000.out BK698.out (by decide))); replace BK699 := zm (blk_grown (g := gb699) (o := .cells #[.slice A1_0 l1_0.length c1_0, .slice A1_1 l1_1.length c1_1] 55 (0, 0)) (zb BK699) hg (Kd.R_ne HO_702000.out BK699.out (by decide))); replace BK700 := zm (blk_grown (g := gb700) (o := .cells #[.slice none 0 0, .slice none 0 0] 55 (0, 0)) (zb BK700) hg (Kd.R_ne HO_702000.out BK700.out (by decide))); replace BK701 := zm (blk_grown (g := gb701) (o := .cells #[u702000, u702001] 55 (0, 0)) (zb BK701) hg (Kd.R_ne HO_702000.out BK701.out (by decide))); replace BK714 := zm (blk_grown (g := gb714) (o := .cells #[.int .i64 t708, .int .i64 t709, .int .i64 t710, .int .i64 t711, .string t712] 25 (0, 0)) (zb BK714) hg (Kd.R_ne HO_702000.out BK714.out (by decide))); replace BK721 := zm (blk_grown (g := gb721) (o := .cells #[.int .i64 t715, .int .i64 t716, .int .i64 t717, .int .i64 t718, .string t719] 25 (0, 0)) (zb BK721) hg (Kd.R_ne HO_702000.out BK721.out (by decide))); replace BK722 := zm (blk_grown (g := gb722) (o := .cells #[.int .i64 t708, .int .i64 t709, .int .i64 t710, .int .i64 t711, .string t712] 25 (0, 0)) (zb BK722) hg (Kd.R_ne HO_702000.out BK722.out (by decide))); replace HB := zm (hb); have HO729 := zm (ho); clear HO_702000; clear ho hb hg hat; obtain ⟨Ao140, co140, eo140⟩ := Kd.R_slice HO729.out; subst eo140; have hcz141_0 : w139.cell? ⟨gb701, 0, none⟩ = some (u702000) := (blk_cell BK701.out 0).trans rfl; have hcz141_1 : w139.cell? ⟨gb701, 1, none⟩ = some (u702001) := (blk_cell BK701.out 1).trans rfl; have hfz141_0 := blk_frozen BK701.out 0; have hfz141_1 := blk_frozen BK701.out 1))
              go_roundg kj54
              case measure => have := HK1.out; have := HJ14.out; have := HJ29.out; have := HJ54.out; omega
              case rel => exact ⟨(wrap64 (x6_1 + 1)), (y727), (x702001_14), (.slice Ao140 y727.length co140), (u702001), zF, H', ⟨by have := HK1.out; have := HJ14.out; have := HJ29.out; have := HJ54.out; omega⟩, ⟨zrs <| Kd.R_mono (zfr (Kd.R_types HO729.out BK701.out (by decide))) (fun _ hk => trivial)⟩, ⟨zrs <| Kd.R_mono (zfr (Kd.R_types HO_702001.out BK701.out (by decide))) (fun _ hk => trivial)⟩, ⟨zfar (zb BK698) NB698_701⟩, ⟨zfar (zb BK699) NB699_701⟩, ⟨zfar (zb BK700) NB700_701⟩, ⟨zput (zb BK701) 0⟩, ⟨zB⟩⟩
             ·rw [if_neg c125] at H
              exact absurd H (by simp)
            ·rw [if_neg c124] at H
             have c124b0 : decide (t704 < t708) = false := decide_eq_false c124
             clear c124
             have H' := zm H
             clear H
             have hnb142 := NB722_698.out
             have hnc142 := NB698_722.out
             have hnb143 := NB722_699.out
             have hnc143 := NB699_722.out
             have hnb144 := NB722_700.out
             have hnc144 := NB700_722.out
             have hnb145 := NB722_701.out
             have hnc145 := NB701_722.out
             have hnb146 := NB722_714.out
             have hnc146 := NB714_722.out
             have hnb147 := NB722_721.out
             have hnc147 := NB721_722.out
             have hcz148_0 : wc.cell? ⟨gb722, 0, none⟩ = some (.int .i64 t708) := (blk_cell BK722.out 0).trans rfl
             have hcz148_1 : wc.cell? ⟨gb722, 1, none⟩ = some (.int .i64 t709) := (blk_cell BK722.out 1).trans rfl
             have hcz148_2 : wc.cell? ⟨gb722, 2, none⟩ = some (.int .i64 t710) := (blk_cell BK722.out 2).trans rfl
             have hcz148_3 : wc.cell? ⟨gb722, 3, none⟩ = some (.int .i64 t711) := (blk_cell BK722.out 3).trans rfl
             have hcz148_4 : wc.cell? ⟨gb722, 4, none⟩ = some (.string t712) := (blk_cell BK722.out 4).trans rfl
             have hfz148_0 := blk_frozen BK722.out 0
             have hfz148_1 := blk_frozen BK722.out 1
             have hfz148_2 := blk_frozen BK722.out 2
             have hfz148_3 := blk_frozen BK722.out 3
             have hfz148_4 := blk_frozen BK722.out 4
             go_wp2
             go_roundg kj54
             case measure => have := HK1.out; have := HJ14.out; have := HJ29.out; have := HJ54.out; omega
             case rel => exact ⟨(wrap64 (x6_1 + 1)), (x702000_1), (x702001_14), (u702000), (u702001), zF, H', ⟨by have := HK1.out; have := HJ14.out; have := HJ29.out; have := HJ54.out; omega⟩, ⟨zr HO_702000⟩, ⟨zr HO_702001⟩, ⟨zb BK698⟩, ⟨zb BK699⟩, ⟨zb BK700⟩, ⟨zb BK701⟩, ⟨zB⟩⟩
   ·rw [if_neg c11] at H
    have c11b0 : decide (x6_1 < 5) = false := decide_eq_false c11
    clear c11
    simp only [Option.some.injEq, Prod.mk.injEq] at H
    obtain ⟨rfl, rfl⟩ := H
    have hnb149 := NB701_698.out
    have hnc149 := NB698_701.out
    have hnb150 := NB701_699.out
    have hnc150 := NB699_701.out
    have hnb151 := NB701_700.out
    have hnc151 := NB700_701.out
    have hcz152_0 : wr.cell? ⟨gb701, 0, none⟩ = some (u702000) := (blk_cell BK701.out 0).trans rfl
    have hcz152_1 : wr.cell? ⟨gb701, 1, none⟩ = some (u702001) := (blk_cell BK701.out 1).trans rfl
    have hfz152_0 := blk_frozen BK701.out 0
    have hfz152_1 := blk_frozen BK701.out 1
    obtain ⟨Ao153, co153, eo153⟩ := Kd.R_slice HO_702000.out
    subst eo153
    have hnb154 := NB700_698.out
    have hnc154 := NB698_700.out
    have hnb155 := NB700_699.out
    have hnc155 := NB699_700.out
    have hcz156_0 : wr.cell? ⟨gb700, 0, none⟩ = some (.slice none 0 0) := (blk_cell BK700.out 0).trans rfl
    have hcz156_1 : wr.cell? ⟨gb700, 1, none⟩ = some (.slice none 0 0) := (blk_cell BK700.out 1).trans rfl
    have hfz156_0 := blk_frozen BK700.out 0
    have hfz156_1 := blk_frozen BK700.out 1
    obtain ⟨Ao157, co157, eo157⟩ := Kd.R_slice HO_702001.out
    subst eo157
    go_wp2
    refine bodyPost_ret (results_cell_row rfl _ _ gb700 55 #[.slice Ao153 x702000_1.length co153, .slice Ao157 x702001_1.length co157] (0, 0) _ rfl (zput (zput (zb BK700) 0) 1) Try.underlying55 rfl (by kernel_rfl)) rfl ?_
    exact ⟨_, _, zE, zrs <| Kd.R_mono (zfr (zfr (Kd.R_types HO_702000.out BK700.out (by decide)))) (fun _ hk => trivial), zrs <| Kd.R_mono (zfr (zfr (Kd.R_types HO_702001.out BK700.out (by decide)))) (fun _ hk => trivial), zB⟩

end Go.Proofs.Ythljdiniccpobaa.P
