/- How a law's arguments are read: from the row's own reading of an argument (slices, structs, numbers, strings) to the lists and numbers that the walks speak of. No condition. -/
import Derived.Test.YtnmofppbijmhoaaWWords
import Derived.SizedLaws
import Derived.ChangeSlices
import Derived.ChangeMaps5
import Derived.Deep.Slices
import Derived.Deep.Fields
import Derived.OpenShut
import Derived.Carry
import Derived.ProofKit
import Derived.WalkKit
import Derived.ShutString
import Derived.ChangeOld
import Derived.Below
namespace Go.Proofs.Ytnmofppbijmhoaa.Gate
open Go.ChangeShapes Go.WideShapes Go.ChangeAt Go.RowKit Go.Deep
open Go.Proofs.YtnmofppbijmhoaaW.PrintWords
set_option linter.unusedVariables false
set_option linter.unusedSectionVars false
section
variable {H : Type} {enc : TypeId × Value → H} {P : Program} {w : World} {base : Nat} {spare : Nat → Bool} {held : Bool}
/-- What reads as data of type t is laid out as the kind d tells, and is good. -/
def Opens {H : Type} (enc : TypeId × Value → H) (P : Program) (w : World) (base : Nat) (spare : Nat → Bool) (held : Bool) {α : Type} (t : TypeId) (d : Kd α) (G : α → Prop) : Prop :=
  ∀ (fuel : Nat) (cs : List Value) (y : DataW H × List MemPlace), DataW.trod enc P w base spare held fuel t cs = some y → (∀ n ∈ y.1.weights P t, n ≤ reachBytes) → ∃ x, d.K w x cs ∧ G x
theorem opens_int {t : TypeId} {k : IntKind} (hu : P.underlying t = some (.int k)) : Opens enc P w base spare held t (Kd.int k) (fun x => (Lit.int k x).wf = true) := by
  intro fuel cs y h _
  cases fuel with
  | zero => simp [DataW.trod] at h
  | succ n =>
    unfold DataW.trod at h
    rw [hu] at h
    split at h <;> simp_all
    obtain ⟨⟨rfl, hw⟩, _⟩ := h
    exact ⟨_, rfl, hw⟩
theorem opens_bool {t : TypeId} (hu : P.underlying t = some .bool) : Opens enc P w base spare held t Kd.bool (fun _ => True) := by
  intro fuel cs y h _
  cases fuel with
  | zero => simp [DataW.trod] at h
  | succ n =>
    unfold DataW.trod at h
    rw [hu] at h
    split at h <;> simp_all
    rename_i b
    cases b
    · exact .inl rfl
    · exact .inr rfl
theorem opens_string {t : TypeId} (hu : P.underlying t = some .string) : Opens enc P w base spare held t Kd.string (fun x => x.size ≤ 140737488351232) := by
  intro fuel cs y h hw
  cases fuel with
  | zero => simp [DataW.trod] at h
  | succ n =>
    unfold DataW.trod at h
    rw [hu] at h
    split at h <;> simp_all
    rename_i s
    obtain ⟨hl, rfl⟩ := h
    refine ⟨s, rfl, ?_⟩
    have := hw s.size (by simp [DataW.weights])
    exact this
theorem weightsAll_mem {e : TypeId} : ∀ (l : List (DataW H)) (d : DataW H) (n : Nat), d ∈ l → n ∈ d.weights P e → n ∈ DataW.weightsAll P e l
  | [], _, _, h, _ => by simp at h
  | a :: r, d, n, h, hn => by
    unfold DataW.weightsAll
    rcases List.mem_cons.1 h with rfl | h
    · exact List.mem_append_left _ hn
    · exact List.mem_append_right _ (weightsAll_mem r d n h hn)
theorem weightsEach_mem {n : Nat} : ∀ (ts : List TypeId) (ds : List (DataW H)) (j : Nat) (t : TypeId) (d : DataW H), ts[j]? = some t → ds[j]? = some d → n ∈ d.weights P t → n ∈ DataW.weightsEach P ts ds
  | [], _, _, _, _, h, _, _ => by simp at h
  | _ :: _, [], _, _, _, _, h, _ => by simp at h
  | t0 :: ts, d0 :: ds, j, t, d, ht, hd, hn => by
    unfold DataW.weightsEach
    cases j with
    | zero =>
      simp at ht hd
      subst ht hd
      exact List.mem_append_left _ hn
    | succ j => exact List.mem_append_right _ (weightsEach_mem ts ds j t d (by simpa using ht) (by simpa using hd) hn)
theorem opens_slice {α : Type} {t e B : Nat} {d : Kd α} {G : α → Prop} (hu : P.underlying t = some (.slice e)) (hC : P.cellsOf e = d.sz) (hB : P.bytesOf e = B) (h : Opens enc P w base spare held e d G) :
    Opens enc P w base spare held t (Kd.slice e d) (fun xs => xs.length ≤ maxLen ∧ xs.length * B ≤ 140737488351232 ∧ ∀ x ∈ xs, G x) := by
  intro fuel cs y hy hw
  rcases open_slice hu hy with ⟨rfl, rfl⟩ | ⟨a, len, cap, m, n, D, Pl, rfl, hb, hl, hm, hmm, rfl, hi⟩
  · refine ⟨[], ⟨none, 0, rfl, Nat.le_refl _, rfl, Nat.zero_le _, fun h0 => absurd h0 (Nat.lt_irrefl _)⟩, Nat.zero_le _, by simp, fun x hx => by simp at hx⟩
  have hlm : len ≤ m := by rw [hmm]; split <;> omega
  have hwt : (DataW.slice ((List.range len).map D) ((List.range (m - len)).map fun j => D (len + j))).weights P t = (len + (m - len)) * P.bytesOf e :: (DataW.weightsAll P e ((List.range len).map D) ++ DataW.weightsAll P e ((List.range (m - len)).map fun j => D (len + j))) := by
    unfold DataW.weights
    rw [hu]
    simp
  have hsz : len * B ≤ 140737488351232 := by
    have := hw ((len + (m - len)) * P.bytesOf e) (by rw [hwt]; exact List.mem_cons_self)
    rw [hB] at this
    exact Nat.le_trans (Nat.mul_le_mul_right _ (by omega)) this
  have hel : ∀ i, i < len → ∃ x, (∃ c, c.length = d.sz ∧ d.K w x c ∧ ∀ j u, c[j]? = some u → w.cell? (a.add (i * d.sz + j)) = some u) ∧ G x := by
    intro i hil
    obtain ⟨cs', hc, ht⟩ := hi i (by omega)
    obtain ⟨x, hk, hg⟩ := h n cs' _ ht (by
      intro q hq
      refine hw q ?_
      rw [hwt]
      refine List.mem_cons_of_mem _ (List.mem_append_left _ (weightsAll_mem _ (D i) q ?_ hq))
      exact List.mem_map.2 ⟨i, List.mem_range.2 hil, rfl⟩)
    refine ⟨x, ⟨cs', d.K_len hk, hk, fun j u hj => ?_⟩, hg⟩
    obtain ⟨_, hcl, hat⟩ := World.cells?_some hc
    have hjl : j < d.sz := by rw [← d.K_len hk]; exact (List.getElem?_eq_some_iff.1 hj).1
    have h1 := hat j (by rw [hC]; exact hjl)
    rw [hC] at h1
    rw [← Go.Deep.add_add, h1, hj]
  have hch : ∃ xs : List α, xs.length = len ∧ ∀ j p, xs[j]? = some p → (∃ c, c.length = d.sz ∧ d.K w p c ∧ ∀ i u, c[i]? = some u → w.cell? (a.add (j * d.sz + i)) = some u) ∧ G p := by
    clear hwt hsz hw hi hy hlm hmm hl hm
    revert hel
    induction len with
    | zero => intro _; exact ⟨[], rfl, fun j p hj => by simp at hj⟩
    | succ l ih =>
      intro hel
      obtain ⟨xs, hx, hp⟩ := ih (fun i hi => hel i (by omega))
      obtain ⟨x, hx1, hx2⟩ := hel l (by omega)
      refine ⟨xs ++ [x], by simp [hx], fun j p hj => ?_⟩
      by_cases hjl : j < l
      · rw [List.getElem?_append_left (by omega)] at hj
        exact hp j p hj
      · rw [List.getElem?_append_right (by omega)] at hj
        have hj0 : j - xs.length = 0 := by
          have := (List.getElem?_eq_some_iff.1 hj).1
          simp at this
          omega
        rw [hj0] at hj
        simp at hj
        subst hj
        have : j = l := by omega
        subst this
        exact ⟨hx1, hx2⟩
  obtain ⟨xs, hxl, hxp⟩ := hch
  have hmx : maxLen ≤ 9223372036854775807 := by unfold maxLen; omega
  refine ⟨xs, ⟨some a, cap, by rw [hxl], by rw [hxl]; exact hl, rfl, by rw [hxl]; omega, fun _ => ⟨a, rfl, fun j p hj => (hxp j p hj).1⟩⟩, by rw [hxl]; omega, by rw [hxl]; exact hsz, fun x hx => ?_⟩
  obtain ⟨j, hj⟩ := List.mem_iff_getElem?.1 hx
  exact (hxp j x hj).2
/-- The fields of a struct from offset off on. -/
def OpensF {H : Type} (enc : TypeId × Value → H) (P : Program) (w : World) (base : Nat) (spare : Nat → Bool) (held : Bool) {α : Type} (fs : List Field) (off : Nat) (d : Kd α) (G : α → Prop) : Prop :=
  ∀ (n : Nat) (cs : List Value) (ys : List (DataW H × List MemPlace)), ys.length = fs.length → cs.length = off + d.sz →
    (∀ (j : Nat) (f : Field), fs[j]? = some f → DataW.trod enc P w base spare held n f.type ((cs.drop f.offset).take (P.cellsOf f.type)) = ys[j]?) →
    (∀ n ∈ DataW.weightsEach P (fs.map (·.type)) (ys.map (·.1)), n ≤ reachBytes) → ∃ x, d.K w x (cs.drop off) ∧ G x
theorem opensF_one {α : Type} {f : Field} {off : Nat} {d : Kd α} {G : α → Prop} (ho : f.offset = off) (hC : P.cellsOf f.type = d.sz) (h : Opens enc P w base spare held f.type d G) : OpensF enc P w base spare held [f] off d G := by
  intro n cs ys hl hc hg hw
  match ys, hl with
  | [y], _ =>
    have h0 := hg 0 f rfl
    rw [ho, hC, List.take_of_length_le (by rw [List.length_drop]; omega)] at h0
    refine h n _ y h0 (fun q hq => hw q ?_)
    simp only [List.map_cons, List.map_nil]
    unfold DataW.weightsEach
    exact List.mem_append_left _ hq
theorem opensF_cons {α β : Type} {f : Field} {fs : List Field} {off : Nat} {d0 : Kd α} {d1 : Kd β} {G0 : α → Prop} {G1 : β → Prop} (ho : f.offset = off) (hC : P.cellsOf f.type = d0.sz) (h0 : Opens enc P w base spare held f.type d0 G0)
    (h1 : OpensF enc P w base spare held fs (off + d0.sz) d1 G1) : OpensF enc P w base spare held (f :: fs) off (Kd.pair d0 d1) (fun x => G0 x.1 ∧ G1 x.2) := by
  intro n cs ys hl hc hg hw
  match ys, hl with
  | y :: ys, hl =>
    have hp : (Kd.pair d0 d1).sz = d0.sz + d1.sz := rfl
    rw [hp] at hc
    have e0 := hg 0 f rfl
    rw [ho, hC] at e0
    simp only [List.map_cons] at hw
    unfold DataW.weightsEach at hw
    obtain ⟨x0, k0, g0⟩ := h0 n _ y e0 (fun q hq => hw q (List.mem_append_left _ hq))
    obtain ⟨x1, k1, g1⟩ := h1 n cs ys (by simpa using hl) (by omega) (fun j f' hj => by have := hg (j + 1) f' (by simpa using hj); simpa using this) (fun q hq => hw q (List.mem_append_right _ hq))
    refine ⟨(x0, x1), ⟨_, _, ?_, k0, k1⟩, g0, g1⟩
    rw [← List.drop_drop, List.take_append_drop]
theorem opens_struct {α : Type} {t : TypeId} {fs : Array Field} {d : Kd α} {G : α → Prop} (hu : P.underlying t = some (.struct fs)) (hC : P.cellsOf t = d.sz) (h : OpensF enc P w base spare held fs.toList 0 d G) : Opens enc P w base spare held t d G := by
  intro fuel cs y hy hw
  obtain ⟨xs, n, _, rfl, hl, hlen, hf⟩ := DataW.trod_struct hu hy
  have hwt : (DataW.agg (xs.map (·.1))).weights P t = DataW.weightsEach P (fs.toList.map (·.type)) (xs.map (·.1)) := by
    unfold DataW.weights
    rw [hu]
  obtain ⟨x, k, g⟩ := h n cs xs (by simpa using hlen) (by omega) (fun j f hj => hf j f (by simpa using hj)) (fun q hq => hw q (by rw [hwt]; exact hq))
  exact ⟨x, by simpa using k, g⟩
theorem opens_iso {α β : Type} {t : TypeId} {d : Kd α} {f : β → α} {G : α → Prop} (g : α → β) (hg : ∀ p, f (g p) = p) (h : Opens enc P w base spare held t d G) : Opens enc P w base spare held t (Kd.iso d f) (fun x => G (f x)) := by
  intro fuel cs y hy hw
  obtain ⟨x, k, hx⟩ := h fuel cs y hy hw
  refine ⟨g x, ?_, by show G (f (g x)); rw [hg]; exact hx⟩
  show d.K w (f (g x)) cs
  rw [hg]
  exact k
theorem weights_of {ts : List TypeId} {ds : List (DataW H)} (h : (DataW.weightsEach P ts ds).all (· ≤ reachBytes) = true) {j : Nat} {t : TypeId} {d : DataW H} (ht : ts[j]? = some t) (hd : ds[j]? = some d) : ∀ n ∈ d.weights P t, n ≤ reachBytes := by
  intro n hn
  have := List.all_eq_true.1 h n (weightsEach_mem ts ds j t d ht hd hn)
  simpa using this
end
end Go.Proofs.Ytnmofppbijmhoaa.Gate
