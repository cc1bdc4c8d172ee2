/- Short words for the walks of this seat: steps of a region, facts carried over draws and new memory. Plain theorems; no condition. -/
import Derived.Test.YtnmofppbijmhoaaWMore
import Derived.Test.YtnmofppbijmhoaaWTab
import Derived.Test.YtnmofppbijmhoaaWAt
import Derived.Test.YtnmofppbijmhoaaWEqStruct
import Derived.Test.YtnmofppbijmhoaaWFour
import Derived.Test.YtnmofppbijmhoaaWArr
import Derived.Test.YtnmofppbijmhoaaWInvWords
import Derived.Test.YtnmofppbijmhoaaWGuard
import Derived.Test.YtnmofppbijmhoaaWFootNe
import Derived.Test.YtnmofppbijmhoaaWRepsOne
import Derived.Tactics
import Derived.WalkKit
import Derived.KernelRfl
namespace Go.Proofs.Ytnmofppbijmhoaa.Z
open Go.RowKit Go.Proofs.YtnmofppbijmhoaaW.PrintWords Go.Proofs.YtnmofppbijmhoaaW.PrintLast Go.Proofs.YtnmofppbijmhoaaW.PrintMore
set_option linter.unusedVariables false
@[go_sem ↓] theorem isSome_set (w : World) (a b : Addr) (v : Value) : ((w.setCell a v).cell? b).isSome = (w.cell? b).isSome := by
  by_cases e : a = b
  · subst e
    cases h : w.cell? a with
    | some u => rw [World.cell?_setCell_same w a v h]; rfl
    | none =>
      simp only [World.setCell, World.cell?, Array.getElem?_modify] at h ⊢
      simp only [if_true]
      cases hb : w.heap[a.block]? with
      | none => simp
      | some x =>
        rw [hb] at h
        cases x <;> simp_all
  · rw [World.cell?_setCell_other w a b v e]
/-- w' is w, with draws and new memory. -/
class Later (w w' : World) : Prop where
  out : Below w.heap.size w w'
instance later_refl (w : World) : Later w w := ⟨Below.refl _ _⟩
instance later_alloc (w w' : World) (o : Obj) [i : Later w w'] : Later w (w'.alloc o) := ⟨below_alloc i.out o⟩
instance later_drewN (w w' : World) (n : Nat) [i : Later w w'] : Later w (w'.drewN n) := ⟨pw_below_drewN i.out n⟩
instance later_drew (w w' : World) [i : Later w w'] : Later w w'.drew := ⟨below_drew1 i.out⟩
section
variable {w w' w1 : World} {g : Nat} {o : Obj} {t : TypeId} {cs : Array Value} {α : Type} {d : Kd α} {e base n : Nat} {ok : Nat → Prop} {v : Value} {xs : List α} {A : Option Addr} {p : Addr} {u : Value}
theorem zb [i : Later w w'] (h : Aside0 (w.heap[g]? = some o)) : w'.heap[g]? = some o := blk_below h.out i.out
theorem zr [i : Later w w'] (h : Aside0 (Kd.R d e w base ok v xs)) : Kd.R d e w' base ok v xs := Kd.R_below h.out i.out
theorem zk [i : Later w w'] (h : Kd.C d w A n xs) : Kd.C d w' A n xs := Kd.C_below h i.out
theorem zm {p : Prop} (h : p) : Aside0 p := ⟨h⟩
theorem below_setA {w W : World} {g j : Nat} {v : Value} (h : Below w.heap.size w W) (hg : Aside0 (w.heap.size ≤ g)) : Below w.heap.size w (W.setCell ⟨g, j, none⟩ v) := below_set h hg.out
theorem zB {p : Prop} (h : p := by repeat (first | (with_reducible first | exact HB.out | apply below_alloc | apply pw_below_drewN | apply below_drew1 | apply below_setA | assumption) | exact HB.out)) : p := h
theorem keep_farA {w W : World} {g : Nat} {row : Option Nat} (h : KeepBut w W g row) {p : Addr} (hp : Aside0 (w.heap.size ≤ p.block)) (u : Value) : KeepBut w (W.setCell p u) g row := keep_far h hp.out u
theorem zK {p : Prop} (h : p := by repeat (first | (with_reducible first | exact HK.out | apply KeepBut.set_ | apply keep_drewN | apply keep_drew | apply keep_alloc | apply keep_farA | assumption) | exact HK.out)) : p := h
theorem zks (w : World) (g : Nat) {W : World} (h : KeepBut w W g none) : w.heap.size ≤ W.heap.size := keep_size h
theorem zkt {w W W1 : World} {g : Nat} (hk : KeepBut W W1 g none) (h : KeepBut w W g none := by exact zK) : Aside0 (KeepBut w W1 g none) := ⟨KeepBut.trans h hk (.inl rfl)⟩
theorem zkb (g : Nat) {w W W1 : World} (hb : Below W.heap.size W W1) (h : KeepBut w W g none := by exact zK) : Aside0 (KeepBut w W1 g none) := ⟨KeepBut.trans h (KeepBut.of_below hb g none) (.inl rfl)⟩
theorem zkg {n b : Nat} {W : World} (hg : b = W.heap.size) (h : n ≤ W.heap.size) : Aside0 (n ≤ b) := ⟨hg ▸ h⟩
theorem zkw {m n b : Nat} {W : World} (hg : b = W.heap.size) (H : Aside0 (m ≤ n)) (h : n ≤ W.heap.size) : Aside0 (m ≤ b) := ⟨hg ▸ Nat.le_trans H.out h⟩
theorem zkk {w w1 : World} {g g' : Nat} {o : Obj} (hk : KeepBut w w1 g none) (hb : w.heap[g']? = some o) (hg : Aside0 (g' ≠ g)) : Aside0 (w1.heap[g']? = some o) := ⟨hk.blk hb hg.out (by simp)⟩
theorem zD {p : Prop} (h : p := by repeat (first | exact Drawn0.refl _ | apply Drawn0.step)) : p := h
theorem zE {p : Prop} (h : p := by first | rfl | (simp [errW_none, errW_some] <;> rfl) | (simp [*, errW_none, errW_some] <;> rfl)) : p := h
theorem zF {p : Prop} (h : p := by first | rfl | (simp; done) | (simp [*]; done)) : p := h
theorem zge (w : World) {W : World} {g : Nat} (hg : g = W.heap.size) (h : Below w.heap.size w W) : Aside0 (w.heap.size ≤ g) := ⟨by rw [hg]; exact h.size⟩
theorem zlt {W : World} {g g0 : Nat} (hg : g = W.heap.size) (h : W.heap[g0]? = some o) : Aside0 (g0 ≠ g) := ⟨by rw [hg]; exact Nat.ne_of_lt (blk_lt h)⟩
theorem zgt {W : World} {g g0 : Nat} (hg : g = W.heap.size) (h : W.heap[g0]? = some o) : Aside0 (g ≠ g0) := ⟨by rw [hg]; exact Nat.ne_of_gt (blk_lt h)⟩
/-- The world beneath draws and new memory. -/
class Strip (w' : World) (w : outParam World) : Prop where
  out : Below w.heap.size w w'
instance (priority := low) strip_refl (w : World) : Strip w w := ⟨Below.refl _ _⟩
instance strip_alloc (w w' : World) (o : Obj) [i : Strip w' w] : Strip (w'.alloc o) w := ⟨below_alloc i.out o⟩
instance strip_drewN (w w' : World) (n : Nat) [i : Strip w' w] : Strip (w'.drewN n) w := ⟨pw_below_drewN i.out n⟩
instance strip_drew (w w' : World) [i : Strip w' w] : Strip w'.drew w := ⟨below_drew1 i.out⟩
theorem zx {a : Addr} (h : Aside0 (Below w.heap.size w w')) (e : w.cell? a = some v) : w'.cell? a = some v := (h.out.cell (World.block_lt_of_cell? w _ e)).trans e
theorem zcl {j : Nat} (h : Aside0 (w.heap[g]? = some (.cells cs t (0, 0)))) (e : cs[j]? = some v) (i : Later w w') : w'.cell? ⟨g, j, none⟩ = some v := (blk_cell (blk_below h.out i.out) j).trans e
theorem zxl {a : Addr} (h : Aside0 (Below w.heap.size w w')) (e : w.cell? a = some v) (i : Later w' w1) : w1.cell? a = some v := (i.out.cell (World.block_lt_of_cell? w' _ (zx h e))).trans (zx h e)
theorem zS {p : Prop} (h : p := by (repeat' apply And.intro) <;> first | (refine zcl (w := ?_) (cs := ?_) (t := ?_) ?_ ?_ ?_; rotate_left 3; assumption; rfl; infer_instance) | (refine zxl HB ?_ ?_; assumption; infer_instance)) : p := h
theorem zfar {g' j : Nat} {u : Value} [i : Strip w' (w.setCell ⟨g', j, none⟩ u)] (h : w.heap[g]? = some (.cells cs t (0, 0))) (hp : Aside0 (g ≠ g')) : w'.heap[g]? = some (.cells cs t (0, 0)) := blk_below (blk_far h hp.out u) i.out
theorem zput {cs' : Array Value} {u : Value} (h : w.heap[g]? = some (.cells cs t (0, 0))) (j : Nat) [i : Strip w' (w.setCell ⟨g, j, none⟩ u)] (e : cs.setIfInBounds j u = cs' := by rfl) : w'.heap[g]? = some (.cells cs' t (0, 0)) := blk_below (blk_put h j u e) i.out
theorem zfq {j : Nat} {u : Value} (h : Kd.R d e w base ok v xs) (f : ∀ k, ok k → k ≠ g) : Kd.R d e (w.setCell ⟨g, j, none⟩ u) base ok v xs := Kd.R_far h f u
theorem zrs [i : Strip w' w] (h : Kd.R d e w base ok v xs) : Kd.R d e w' base ok v xs := Kd.R_below h i.out
theorem zfr {j : Nat} {u : Value} (h : Kd.R d e w base ok v xs) (f : ∀ k, ok k → k ≠ g := by exact fun _ hk => hk.2) : Kd.R d e (w.setCell ⟨g, j, none⟩ u) base ok v xs := Kd.R_far h f u
theorem zc1 {v0 : Value} (h : Aside0 (w.heap[g]? = some (.cells #[v0] t (0, 0)))) : w.cell? ⟨g, 0, none⟩ = some v0 ∧ w.frozen? ⟨g, 0, none⟩ = false := ⟨(blk_cell h.out 0).trans rfl, blk_frozen h.out 0⟩
theorem zc2 {v0 v1 : Value} (h : Aside0 (w.heap[g]? = some (.cells #[v0, v1] t (0, 0)))) : w.cell? ⟨g, 0, none⟩ = some v0 ∧ w.cell? ⟨g, 1, none⟩ = some v1 ∧ w.frozen? ⟨g, 0, none⟩ = false ∧ w.frozen? ⟨g, 1, none⟩ = false := ⟨(blk_cell h.out 0).trans rfl, (blk_cell h.out 1).trans rfl, blk_frozen h.out 0, blk_frozen h.out 1⟩
theorem zc3 {v0 v1 v2 : Value} (h : Aside0 (w.heap[g]? = some (.cells #[v0, v1, v2] t (0, 0)))) : w.cell? ⟨g, 0, none⟩ = some v0 ∧ w.cell? ⟨g, 1, none⟩ = some v1 ∧ w.cell? ⟨g, 2, none⟩ = some v2 ∧ w.frozen? ⟨g, 0, none⟩ = false ∧ w.frozen? ⟨g, 1, none⟩ = false ∧ w.frozen? ⟨g, 2, none⟩ = false := ⟨(blk_cell h.out 0).trans rfl, (blk_cell h.out 1).trans rfl, (blk_cell h.out 2).trans rfl, blk_frozen h.out 0, blk_frozen h.out 1, blk_frozen h.out 2⟩
theorem zc4 {v0 v1 v2 v3 : Value} (h : Aside0 (w.heap[g]? = some (.cells #[v0, v1, v2, v3] t (0, 0)))) : w.cell? ⟨g, 0, none⟩ = some v0 ∧ w.cell? ⟨g, 1, none⟩ = some v1 ∧ w.cell? ⟨g, 2, none⟩ = some v2 ∧ w.cell? ⟨g, 3, none⟩ = some v3 ∧ w.frozen? ⟨g, 0, none⟩ = false ∧ w.frozen? ⟨g, 1, none⟩ = false ∧ w.frozen? ⟨g, 2, none⟩ = false ∧ w.frozen? ⟨g, 3, none⟩ = false := ⟨(blk_cell h.out 0).trans rfl, (blk_cell h.out 1).trans rfl, (blk_cell h.out 2).trans rfl, (blk_cell h.out 3).trans rfl, blk_frozen h.out 0, blk_frozen h.out 1, blk_frozen h.out 2, blk_frozen h.out 3⟩
theorem zc5 {v0 v1 v2 v3 v4 : Value} (h : Aside0 (w.heap[g]? = some (.cells #[v0, v1, v2, v3, v4] t (0, 0)))) : w.cell? ⟨g, 0, none⟩ = some v0 ∧ w.cell? ⟨g, 1, none⟩ = some v1 ∧ w.cell? ⟨g, 2, none⟩ = some v2 ∧ w.cell? ⟨g, 3, none⟩ = some v3 ∧ w.cell? ⟨g, 4, none⟩ = some v4 ∧ w.frozen? ⟨g, 0, none⟩ = false ∧ w.frozen? ⟨g, 1, none⟩ = false ∧ w.frozen? ⟨g, 2, none⟩ = false ∧ w.frozen? ⟨g, 3, none⟩ = false ∧ w.frozen? ⟨g, 4, none⟩ = false := ⟨(blk_cell h.out 0).trans rfl, (blk_cell h.out 1).trans rfl, (blk_cell h.out 2).trans rfl, (blk_cell h.out 3).trans rfl, (blk_cell h.out 4).trans rfl, blk_frozen h.out 0, blk_frozen h.out 1, blk_frozen h.out 2, blk_frozen h.out 3, blk_frozen h.out 4⟩
theorem zc6 {v0 v1 v2 v3 v4 v5 : Value} (h : Aside0 (w.heap[g]? = some (.cells #[v0, v1, v2, v3, v4, v5] t (0, 0)))) : w.cell? ⟨g, 0, none⟩ = some v0 ∧ w.cell? ⟨g, 1, none⟩ = some v1 ∧ w.cell? ⟨g, 2, none⟩ = some v2 ∧ w.cell? ⟨g, 3, none⟩ = some v3 ∧ w.cell? ⟨g, 4, none⟩ = some v4 ∧ w.cell? ⟨g, 5, none⟩ = some v5 ∧ w.frozen? ⟨g, 0, none⟩ = false ∧ w.frozen? ⟨g, 1, none⟩ = false ∧ w.frozen? ⟨g, 2, none⟩ = false ∧ w.frozen? ⟨g, 3, none⟩ = false ∧ w.frozen? ⟨g, 4, none⟩ = false ∧ w.frozen? ⟨g, 5, none⟩ = false := ⟨(blk_cell h.out 0).trans rfl, (blk_cell h.out 1).trans rfl, (blk_cell h.out 2).trans rfl, (blk_cell h.out 3).trans rfl, (blk_cell h.out 4).trans rfl, (blk_cell h.out 5).trans rfl, blk_frozen h.out 0, blk_frozen h.out 1, blk_frozen h.out 2, blk_frozen h.out 3, blk_frozen h.out 4, blk_frozen h.out 5⟩
theorem zc7 {v0 v1 v2 v3 v4 v5 v6 : Value} (h : Aside0 (w.heap[g]? = some (.cells #[v0, v1, v2, v3, v4, v5, v6] t (0, 0)))) : w.cell? ⟨g, 0, none⟩ = some v0 ∧ w.cell? ⟨g, 1, none⟩ = some v1 ∧ w.cell? ⟨g, 2, none⟩ = some v2 ∧ w.cell? ⟨g, 3, none⟩ = some v3 ∧ w.cell? ⟨g, 4, none⟩ = some v4 ∧ w.cell? ⟨g, 5, none⟩ = some v5 ∧ w.cell? ⟨g, 6, none⟩ = some v6 ∧ w.frozen? ⟨g, 0, none⟩ = false ∧ w.frozen? ⟨g, 1, none⟩ = false ∧ w.frozen? ⟨g, 2, none⟩ = false ∧ w.frozen? ⟨g, 3, none⟩ = false ∧ w.frozen? ⟨g, 4, none⟩ = false ∧ w.frozen? ⟨g, 5, none⟩ = false ∧ w.frozen? ⟨g, 6, none⟩ = false := ⟨(blk_cell h.out 0).trans rfl, (blk_cell h.out 1).trans rfl, (blk_cell h.out 2).trans rfl, (blk_cell h.out 3).trans rfl, (blk_cell h.out 4).trans rfl, (blk_cell h.out 5).trans rfl, (blk_cell h.out 6).trans rfl, blk_frozen h.out 0, blk_frozen h.out 1, blk_frozen h.out 2, blk_frozen h.out 3, blk_frozen h.out 4, blk_frozen h.out 5, blk_frozen h.out 6⟩
theorem zc8 {v0 v1 v2 v3 v4 v5 v6 v7 : Value} (h : Aside0 (w.heap[g]? = some (.cells #[v0, v1, v2, v3, v4, v5, v6, v7] t (0, 0)))) : w.cell? ⟨g, 0, none⟩ = some v0 ∧ w.cell? ⟨g, 1, none⟩ = some v1 ∧ w.cell? ⟨g, 2, none⟩ = some v2 ∧ w.cell? ⟨g, 3, none⟩ = some v3 ∧ w.cell? ⟨g, 4, none⟩ = some v4 ∧ w.cell? ⟨g, 5, none⟩ = some v5 ∧ w.cell? ⟨g, 6, none⟩ = some v6 ∧ w.cell? ⟨g, 7, none⟩ = some v7 ∧ w.frozen? ⟨g, 0, none⟩ = false ∧ w.frozen? ⟨g, 1, none⟩ = false ∧ w.frozen? ⟨g, 2, none⟩ = false ∧ w.frozen? ⟨g, 3, none⟩ = false ∧ w.frozen? ⟨g, 4, none⟩ = false ∧ w.frozen? ⟨g, 5, none⟩ = false ∧ w.frozen? ⟨g, 6, none⟩ = false ∧ w.frozen? ⟨g, 7, none⟩ = false := ⟨(blk_cell h.out 0).trans rfl, (blk_cell h.out 1).trans rfl, (blk_cell h.out 2).trans rfl, (blk_cell h.out 3).trans rfl, (blk_cell h.out 4).trans rfl, (blk_cell h.out 5).trans rfl, (blk_cell h.out 6).trans rfl, (blk_cell h.out 7).trans rfl, blk_frozen h.out 0, blk_frozen h.out 1, blk_frozen h.out 2, blk_frozen h.out 3, blk_frozen h.out 4, blk_frozen h.out 5, blk_frozen h.out 6, blk_frozen h.out 7⟩
theorem zff {a b : α} : (if false = true then a else b) = b := rfl
theorem znil {p : Prop} (h : p := by first | exact Kd.R_nil _ _ _ _ _ | exact Kd.N_nil _ _ _ _ _ | exact Kd.V_nil _ _ _ _ _ | exact Kd.Q_nil _ _ _ _ _ | exact Kd.S_nil _ _ _ _ _) : p := h
theorem zO {p : Prop} (h : p := by first | omega | exact Nat.le_refl _) : p := h
theorem zy [i : Later w w'] (h : Aside0 (w.heap[g]? = some o)) (hb : Below w'.heap.size w' w1) : Aside0 (w1.heap[g]? = some o) := ⟨blk_below (blk_below h.out i.out) hb⟩
theorem zw [i : Later w w'] (h : Aside0 (Kd.R d e w base ok v xs)) (hb : Below w'.heap.size w' w1) : Aside0 (Kd.R d e w1 base ok v xs) := ⟨Kd.R_below (Kd.R_below h.out i.out) hb⟩
theorem zq (h : Aside0 (w.heap[g]? = some o)) : Aside0 (w.drew.heap[g]? = some o) := h
theorem zyb (hb : Below w'.heap.size w' w1) (h : w'.heap[g]? = some o) : Aside0 (w1.heap[g]? = some o) := ⟨blk_below h hb⟩
theorem zgr {row : Option Nat} (hg : w'.grownBy w1 row) (h : w'.heap[g]? = some o) (hne : some g ≠ row) : Aside0 (w1.heap[g]? = some o) := ⟨blk_grown h hg hne⟩
theorem zd {p : Prop} [Decidable p] (h : decide p = true := by first | (with_reducible assumption) | assumption) : p := of_decide_eq_true h
end
section
variable {P : Program} {ops : Array Oper} {Q : Exit → Act → World → Prop} {md : Region.Mode} {S : World → Prop} {ds : List Nat}
/-- n marks: those of m's bits. -/
def zl (n m : Nat) : Array Bool := ((List.range n).map fun i => m.testBit i).toArray
theorem zp {oi : Oper} {v : Value} {fuel : Nat} {l : Array Bool} {a a' : Act} {w : World} (i : Nat) (N : Option Tmp) (l' : Array Bool) (h : wpAnyLast P md ops Q S ds fuel l' a' w) (hi : ops[i]? = some oi := by rfl) (hN : oi.dst = N := by rfl)
    (hc : anyB md ops l l' i = true := by first | exact any_of HT_.out (by kernel_rfl) | kernel_rfl) (hQ : ∀ c a w, Q (.panic c) (a.put oi.dst v) w → Q (.panic c) a w := by exact fun _ _ _ h => h)
    (hy : Yields P ops oi v a := by first | exact Or.inl ⟨by rfl, by intro w'; go_simp; with_reducible rfl⟩ | exact Or.inr ⟨by rfl, rfl⟩)
    (ha : a.put N v = a' := by simp only [Act.put, List.setIfInBounds_toArray, List.set_cons_zero, List.set_cons_succ, i64_w, i32_w]; rfl) : wpAnyLast P md ops Q S ds (fuel + 1) l a w := pure_ l' hi hN hc hQ hy ha h
theorem zt {oi : Oper} {v : Value} {fuel : Nat} {l : Array Bool} {a a' : Act} {w : World} (i : Nat) (N : Option Tmp) (l' : Array Bool) (h : wpAnyLast P md ops Q S ds fuel l' a' w) (hi : ops[i]? = some oi := by rfl) (hN : oi.dst = N := by rfl)
    (hc : takeB md ops ds l l' i = true := by first | exact take_ofW HT_.out HW_.out (by kernel_rfl) | kernel_rfl) (hQ : ∀ c a w, Q (.panic c) (a.put oi.dst v) w → Q (.panic c) a w := by exact fun _ _ _ h => h)
    (hy : YieldsIf P ops S oi v a := by exact Or.inl ⟨by rfl, by intro w' hs; go_simp; with_reducible rfl⟩) (hS : S w := by exact hHeld)
    (ha : a.put N v = a' := by simp only [Act.put, List.setIfInBounds_toArray, List.set_cons_zero, List.set_cons_succ, i64_w, i32_w]; rfl) : wpAnyLast P md ops Q S ds (fuel + 1) l a w := take_ l' hi hN hc hQ hy hS ha h
theorem zu {oi : Oper} {v : Value} {fuel : Nat} {l : Array Bool} {a a' : Act} {w : World} (i N n m : Nat) (h : wpAnyLast P md ops Q S ds fuel (zl n m) a' w) (hi : ops[i]? = some oi := by rfl) (hN : oi.dst = some N := by rfl)
    (hc : anyB md ops l (zl n m) i = true := by first | exact any_of HT_.out (by kernel_rfl) | kernel_rfl) (hQ : ∀ c a w, Q (.panic c) (a.put oi.dst v) w → Q (.panic c) a w := by exact fun _ _ _ h => h)
    (hy : Yields P ops oi v a := by first | exact Or.inl ⟨by rfl, by intro w'; go_simp; with_reducible rfl⟩ | exact Or.inr ⟨by rfl, rfl⟩)
    (ha : a.put (some N) v = a' := by simp only [Act.put, List.setIfInBounds_toArray, List.set_cons_zero, List.set_cons_succ, i64_w, i32_w]; rfl) : wpAnyLast P md ops Q S ds (fuel + 1) l a w := pure_ (zl n m) hi hN hc hQ hy ha h
theorem zv {oi : Oper} {v : Value} {fuel : Nat} {l : Array Bool} {a a' : Act} {w : World} (i N n m : Nat) (h : wpAnyLast P md ops Q S ds fuel (zl n m) a' w) (hi : ops[i]? = some oi := by rfl) (hN : oi.dst = some N := by rfl)
    (hc : takeB md ops ds l (zl n m) i = true := by first | exact take_ofW HT_.out HW_.out (by kernel_rfl) | kernel_rfl) (hQ : ∀ c a w, Q (.panic c) (a.put oi.dst v) w → Q (.panic c) a w := by exact fun _ _ _ h => h)
    (hy : YieldsIf P ops S oi v a := by exact Or.inl ⟨by rfl, by intro w' hs; go_simp; with_reducible rfl⟩) (hS : S w := by exact hHeld)
    (ha : a.put (some N) v = a' := by simp only [Act.put, List.setIfInBounds_toArray, List.set_cons_zero, List.set_cons_succ, i64_w, i32_w]; rfl) : wpAnyLast P md ops Q S ds (fuel + 1) l a w := take_ (zl n m) hi hN hc hQ hy hS ha h
theorem zn {fuel : Nat} {l : Array Bool} {a a' : Act} {N : Option Tmp} {v : Value} {w : World} (h : wpAnyLast P md ops Q S ds fuel l a' w)
    (ha : a.put N v = a' := by simp only [Act.put, List.setIfInBounds_toArray, List.set_cons_zero, List.set_cons_succ, i64_w, i32_w]; rfl) : wpAnyLast P md ops Q S ds fuel l (a.put N v) w := norm_ ha h
theorem zo {oi : Oper} {fuel : Nat} {l : Array Bool} {a : Act} {w : World} (i : Nat) (N : Option Tmp) (l' : Array Bool)
    (h : ∀ K : Act → World → Prop, Shut (∀ a' w', S w' → (S w' → wpAnyLast P md ops Q S ds fuel l' a' w') → K a' w') → if Region.wanted oi (yielded ops a.tmps) = true then Oper.wp P oi a w K Q else K (a.put N undef) w)
    (hi : ops[i]? = some oi := by rfl) (hN : oi.dst = N := by rfl) (hc : readyB md ops l l' i = true := by first | exact one_of HT_.out (by kernel_rfl) | kernel_rfl) (hd : i ∉ ds := by decide) : wpAnyLast P md ops Q S ds (fuel + 1) l a w := one_ l' hi hN hc hd h
theorem zbox {rest : List Oper} {o : Oper} {a : Act} {W : World} (N : Tmp) (cs : Array Value) (t : TypeId)
    (h : ∀ g, g = W.heap.size → ∀ w1, w1.heap[g]? = some (.cells cs t (0, 0)) → Below W.heap.size W w1 → wpList P ops Q rest (a.put o.dst (.pointer (some ⟨g, 0, none⟩))) w1)
    (hgd : o.guard = none := by rfl) (hd : o.dst = some N := by rfl)
    (hrun : (execOp a.eval o).run P W = .ok (.value (.pointer (some ⟨W.heap.size, 0, none⟩))) (W.alloc (.cells cs t (0, 0))) := by first | (go_simp; done) | (go_simp; rfl)) : wpList P ops Q (o :: rest) a W := box_event hgd hd hrun h
theorem zgo {oi : Oper} {N : Option Tmp} {a : Act} {w : World} {K : Act → World → Prop} {f : FuncId} {fn : Func} {as : Array Operand} {ts : Array TypeId} (args : Array Value) (hf : P.funcs[f]? = some fn)
    (h : Calls P f args w fun e w' => ∃ v, e = .returned v ∧ K (a.put N v) w') (hname : (fn.name == "runtime.NumGoroutine") = false := by kernel_rfl) (hb : fn.body.isSome = true := by rfl)
    (hw : Region.wanted oi (yielded ops a.tmps) = true := by rfl) (hN : oi.dst = N := by rfl) (hop : oi.op = .call { callee := .value (.func f), args := as, argTypes := ts } := by rfl)
    (hargs : as.map a.eval = args := by (try simp only [List.map_toArray, List.map_cons, List.map_nil]); first | done | rfl | (simp only [List.length_drop, List.length_take]; rfl)) : if Region.wanted oi (yielded ops a.tmps) = true then Oper.wp P oi a w K Q else K (a.put N undef) w := goes_ hf hname hb args hw hN hop hargs h
theorem zg {rest : List Oper} {oi : Oper} {a : Act} {w : World} {f : FuncId} {fn : Func} {as : Array Operand} {ts : Array TypeId} (N : Option Tmp) (args : Array Value) (hf : P.funcs[f]? = some fn)
    (h : Calls P f args w fun e w' => ∃ v, e = .returned v ∧ wpList P ops Q rest (a.put N v) w') (hd : oi.dst = N := by rfl) (hg : oi.guard = none := by rfl) (hname : (fn.name == "runtime.NumGoroutine") = false := by kernel_rfl) (hb : fn.body.isSome = true := by rfl)
    (hop : oi.op = .call { callee := .value (.func f), args := as, argTypes := ts } := by rfl)
    (hargs : as.map a.eval = args := by (try simp only [List.map_toArray, List.map_cons, List.map_nil]); first | done | rfl | (simp only [List.length_drop, List.length_take]; rfl)) : wpList P ops Q (oi :: rest) a w := goesL_ N hd hg hf hname hb args hop hargs h
end
end Go.Proofs.Ytnmofppbijmhoaa.Z
