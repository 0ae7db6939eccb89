/-
  A slice of four-number structs that came in: its cells, loads from it; kiln.New's parts.
-/
import Derived.Test.YtkedpokbbogkmaaDoorKclone
import Derived.Deep.DeepCutAuto
namespace Go.Proofs.YtkedpokbbogkmaaDoor
open Go.RowKit
set_option linter.unusedSimpArgs false

/-- A slice that reads as a list of structs of four numbers. -/
def RepQ (w : World) (v : Value) (l : List Q4) : Prop := (∃ A c, v = .slice A 0 c ∧ l = []) ∨ ∃ b o c, v = .slice (some ⟨b, o, none⟩) l.length c ∧ ∀ (j : Nat) (u : Value), (flat q4 l)[j]? = some u → w.cell? ⟨b, o + j, none⟩ = some u
theorem RepQ.below {w w' : World} {v : Value} {l : List Q4} (h : RepQ w v l) (hb : Below w.heap.size w w') : RepQ w' v l := by
  rcases h with h | ⟨b, o, c, hv, h⟩
  · exact .inl h
  · exact .inr ⟨b, o, c, hv, fun j x hj => (hb.cell (World.block_lt_of_cell? w _ (h j x hj))).trans (h j x hj)⟩
theorem RepQ.blk {w : World} {g c : Nat} {T : TypeId} {l : List Q4} {pad : List Value} (H : Blk w g T (flat q4 l ++ pad).toArray) : RepQ w (.slice (some ⟨g, 0, none⟩) l.length c) l := by
  refine .inr ⟨g, 0, c, rfl, fun j u h => ?_⟩
  have hj := (List.getElem?_eq_some_iff.1 h).1
  have := H.cell j
  rw [List.getElem?_toArray, List.getElem?_append_left hj, h] at this
  rw [Nat.zero_add]
  exact this
theorem RepQ.addr {w : World} {b o : Nat} {l : List Q4} (h : ∀ (j : Nat) (u : Value), (flat q4 l)[j]? = some u → w.cell? ⟨b, o + j, none⟩ = some u) : ∀ j u, (flat q4 l)[j]? = some u → w.cell? ((⟨b, o, none⟩ : Addr).add j) = some u := fun j u hj => by
  rw [show (⟨b, o, none⟩ : Addr).add j = ⟨b, o + j, none⟩ by cases j <;> simp [Addr.add]]
  exact h j u hj
theorem RepQ.row {w : World} {b o : Nat} {l : List Q4} (h : ∀ (j : Nat) (u : Value), (flat q4 l)[j]? = some u → w.cell? ⟨b, o + j, none⟩ = some u) (k : Nat) (x : Q4) (hx : l[k]? = some x) : w.rangeAt b (o + k * 4) (q4 x) := fun j u hj => by
  have hj4 : j < 4 := (List.getElem?_eq_some_iff.1 hj).1
  have h1 : ((flat q4 l).drop (k * 4)).take 4 = q4 x := flat_at q4 4 q4_len l k x hx
  have h2 : (flat q4 l)[k * 4 + j]? = some u := by
    rw [← hj, ← h1, List.getElem?_take, if_pos hj4, List.getElem?_drop]
  have := h (k * 4 + j) _ h2
  rw [← Nat.add_assoc] at this
  exact this
section
variable {P : Program}
theorem rng_load_row {ops : Array Oper} {rest : List Oper} {o : Oper} {a : Act} {w : World} {Q : Exit → Act → World → Prop} (hw : Region.wanted o (yielded ops a.tmps) = true) (ty : TypeId) (x : Operand) (ho : o.op = .load ty x) {g k : Nat} {vs : List Value} (hra : w.rangeAt g k vs)
    (hx : a.eval x = .pointer (some ⟨g, k, none⟩)) (dst : Option Tmp) (hd : o.dst = dst) (d : TypeDesc) (hu : P.underlying ty = some d) (hr : d.isRow = true) (hs : (P.info? ty).map (·.size) = some vs.length)
    (h : wpList P ops Q rest (a.put dst (.agg vs.toArray)) w) : wpList P ops Q (o :: rest) a w :=
  wpList_run_w hw dst hd _ _ (run_load_row ty x ho g k hx vs hra d hu hr hs) h
end
theorem range_below {w w' : World} {b o : Nat} {vs : List Value} (h : w.rangeAt b o vs) (hb : Below w.heap.size w w') : w'.rangeAt b o vs := fun j u hj => (hb.cell (World.block_lt_of_cell? w _ (h j u hj))).trans (h j u hj)
end Go.Proofs.YtkedpokbbogkmaaDoor
