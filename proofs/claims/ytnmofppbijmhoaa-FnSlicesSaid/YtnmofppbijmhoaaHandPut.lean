/- Words for '[]byte(s)' and for a literal of two slices (PutText, by hand). Plain theorems; no condition. -/
import Derived.Test.YtnmofppbijmhoaaZ
namespace Go.Proofs.Ytnmofppbijmhoaa.Z
open Go.RowKit Go.Proofs.YtnmofppbijmhoaaW.PrintWords Go.Proofs.YtnmofppbijmhoaaW.PrintLast Go.Proofs.YtnmofppbijmhoaaW.PrintMore
set_option linter.unusedVariables false
section
variable {P : Program} {ops : Array Oper} {rest : List Oper} {o : Oper} {a : Act} {Q : Exit → Act → World → Prop}
/-- '[]byte(s)': a slice that is read. -/
theorem zcv (s : ByteArray) (W : World) (src dst e : TypeId) {u : TypeDesc} (hs : P.underlying src = some u) (hd : P.underlying dst = some (.slice e)) (he : P.underlying e = some (.int .u8)) (hz : s.size ≤ 9223372036854775807)
    (hgd : o.guard = none) (hrun : (∀ W_ : World, (convert src dst (.string s)).run P W_ = .ok (.slice (some ⟨W_.heap.size, 0, none⟩) s.size (grownCap W_ s.size 0 e)) (Lib.bytesWorld W_ e s)) → (execOp a.eval o).run P W = .ok (.value (.slice (some ⟨W.heap.size, 0, none⟩) s.size (grownCap W s.size 0 e))) (Lib.bytesWorld W e s))
    (h : ∀ (A : Option Addr) (c : Nat) (w1 : World), Kd.C (Kd.int .u8) w1 A s.size (bytesOf s) → s.size ≤ c → Below W.heap.size W w1 → wpList P ops Q rest (a.put o.dst (.slice A s.size c)) w1) : wpList P ops Q (o :: rest) a W :=
  Kd.event_run hgd (hrun fun W_ => print_bytes (P := P) src dst e hs hd he s W_) (h _ _ _ (Kd.C_of_reads (enc := Value.int .u8) (d := (0 : Int)) (h1 := fun _ => rfl) (bytes_reads W e s hz)) (grownCap_ge W s.size 0 e) (bytes_below (Below.refl W.heap.size W) (Nat.le_refl _) e s))
/-- A literal of two slices. -/
theorem zls (N : Tmp) (v1 v2 : Value) (t : TypeId) {W : World} (hgd : o.guard = none)
    (h : ∀ g, g = W.heap.size → ∀ w1, w1.heap[g]? = some (.cells #[v1, v2] t (0, 0)) → Below W.heap.size W w1 → wpList P ops Q rest (a.put o.dst (.slice (some ⟨g, 0, none⟩) 2 2)) w1)
    (hrun : (execOp a.eval o).run P W = .ok (.value (.slice (some ⟨W.heap.size, 0, none⟩) 2 2)) (W.alloc (.cells #[v1, v2] t (0, 0))) := by first | (go_simp; done) | (go_simp; rfl)) : wpList P ops Q (o :: rest) a W :=
  Kd.event_run hgd hrun (h _ rfl _ (blk_new W _) (below_alloc (Below.refl _ _) _))
theorem ztwo {w : World} {g n c1 c2 : Nat} {A1 A2 : Option Addr} {x y : List Int} {t : TypeId} (e : Nat) (h1 : Kd.C (Kd.int .u8) w A1 x.length x) (hc1 : x.length ≤ c1) (h2 : Kd.C (Kd.int .u8) w A2 n y) (hc2 : n ≤ c2)
    (hb : w.heap[g]? = some (.cells #[.slice A1 x.length c1, .slice A2 n c2] t (0, 0))) : Kd.C (Kd.slice e (Kd.int .u8)) w (some ⟨g, 0, none⟩) [x, y].length [x, y] := by
  have hn : y.length = n := h2.1
  subst hn
  refine ⟨rfl, by simp, fun _ => ⟨_, rfl, fun j p hj => ?_⟩⟩
  match j, hj with
  | 0, hj =>
    obtain rfl : x = p := by simpa using hj
    refine ⟨[.slice A1 x.length c1], rfl, ⟨A1, c1, rfl, hc1, h1⟩, fun i u hu => ?_⟩
    match i, hu with
    | 0, hu =>
      obtain rfl := (Option.some.inj hu)
      rw [add_plain]
      exact (blk_cell hb 0).trans rfl
    | i + 1, hu => simp at hu
  | 1, hj =>
    obtain rfl : y = p := by simpa using hj
    refine ⟨[.slice A2 y.length c2], rfl, ⟨A2, c2, rfl, hc2, h2⟩, fun i u hu => ?_⟩
    match i, hu with
    | 0, hu =>
      obtain rfl := (Option.some.inj hu)
      rw [add_plain]
      exact (blk_cell hb 1).trans rfl
    | i + 1, hu => simp at hu
  | j + 2, hj => simp at hj
end
end Go.Proofs.Ytnmofppbijmhoaa.Z
