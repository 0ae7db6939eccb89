/-
  A whole block stored and loaded: laws for the walk that leave the world a letter.
-/
import Derived.Test.YtkedpokbbogkmaaDoorValue
import Derived.Deep.MidRow
import Derived.Laws.Tables
namespace Go.Proofs.YtkedpokbbogkmaaDoor
open Go.RowKit

def putAllA (cs : Array Value) : Nat → List Value → Array Value
  | _, [] => cs
  | o, v :: vs => putAllA (cs.setIfInBounds o v) (o + 1) vs
theorem putAllA_size (vs : List Value) : ∀ (cs : Array Value) (o : Nat), (putAllA cs o vs).size = cs.size := by
  induction vs with
  | nil => intros; rfl
  | cons v vs ih => intro cs o; rw [putAllA, ih]; simp
theorem putAllA_get (vs : List Value) : ∀ (cs : Array Value) (o j : Nat), o + vs.length ≤ cs.size → (putAllA cs o vs)[j]? = if o ≤ j ∧ j < o + vs.length then vs[j - o]? else cs[j]? := by
  induction vs with
  | nil => intro cs o j _; simp [putAllA]; omega
  | cons v vs ih =>
    intro cs o j h
    simp at h
    rw [putAllA, ih _ _ _ (by simp; omega)]
    by_cases hj : j = o
    · subst hj
      rw [if_neg (by omega), if_pos (by simp), Array.getElem?_setIfInBounds_self_of_lt (by omega)]
      simp
    · rw [Array.getElem?_setIfInBounds_ne (by omega)]
      by_cases h2 : o + 1 ≤ j ∧ j < o + 1 + vs.length
      · rw [if_pos h2, if_pos (by simp; omega), show j - o = (j - (o + 1)) + 1 by omega, List.getElem?_cons_succ]
      · rw [if_neg h2, if_neg (by simp; omega)]
theorem putAllA_all {cs : Array Value} {vs : List Value} (h : vs.length = cs.size) : putAllA cs 0 vs = vs.toArray := by
  apply Array.ext_getElem?
  intro j
  rw [putAllA_get vs cs 0 j (by omega)]
  by_cases hj : j < vs.length
  · rw [if_pos (by omega)]; simp
  · rw [if_neg (by omega), Array.getElem?_eq_none (by omega), Array.getElem?_eq_none (by simp; omega)]
theorem Blk.putAll {t : TypeId} {b : Nat} (vs : List Value) : ∀ {w : World} {cs : Array Value} (o : Nat), Blk w b t cs → Blk (w.setCells b o vs) b t (putAllA cs o vs) := by
  induction vs with
  | nil => intro w cs o h; exact h
  | cons v vs ih => intro w cs o h; exact ih (o + 1) (h.set_ o v)
theorem Blk.setAll {w : World} {t : TypeId} {b : Nat} {cs : Array Value} (h : Blk w b t cs) {vs : List Value} (hl : vs.length = cs.size) : Blk (w.setCells b 0 vs) b t vs.toArray := by
  rw [← putAllA_all hl]; exact h.putAll vs 0
theorem grown_setCells (b : Nat) (vs : List Value) : ∀ (w : World) (o : Nat), w.grownBy (w.setCells b o vs) (some b) := by
  induction vs with
  | nil => intro w o; exact World.grownBy.refl _ _
  | cons v vs ih =>
    intro w o
    have h := ih (w.setCell ⟨b, o, none⟩ v) (o + 1)
    exact ⟨h.os, h.tape, h.output, Nat.le_trans (by simp [World.setCell]) h.size, fun k hk hn => (h.block k (by simpa [World.setCell] using hk) hn).trans (Below.heap_setCell w _ _ k (by rintro rfl; exact hn rfl))⟩
theorem Blk.there {w : World} {t : TypeId} {b : Nat} {cs : Array Value} (h : Blk w b t cs) : w.there b 0 cs.size := fun j hj => by
  rw [Nat.zero_add]
  exact ⟨by rw [h.cell j, Array.getElem?_eq_getElem hj]; rfl, h.frozen j⟩
section
variable {P : Program}
/-- A whole variable is stored: the world behind is a letter. -/
theorem wpList_store_blk {ops : Array Oper} {rest : List Oper} {o : Oper} {a : Act} {w : World} {Q : Exit → Act → World → Prop} (hgd : o.guard = none) (ty : TypeId) (x y : Operand) (ho : o.op = .store ty x y)
    (g : Nat) (cells : Array Value) (hx : a.eval x = .pointer (some ⟨g, 0, none⟩)) (hy : a.eval y = .agg cells) (t : TypeId) (cs : Array Value) (hg : Blk w g t cs) (hs : cs.size = cells.size)
    (hi : (P.info? ty).map (·.size) = some cells.size) (h1 : cells.all (·.oneCell') = true)
    (h : ∀ w', Blk w' g t cells → w.grownBy w' (some g) → w'.heap.size = w.heap.size → wpList P ops Q rest (a.put o.dst undef) w') : wpList P ops Q (o :: rest) a w := by
  refine wpList_store_mid hgd ty x y ho g 0 cells hx hy (by rw [← hs]; exact hg.there) hi h1 (h _ ?_ (grown_setCells g _ w 0) ?_)
  · simpa using hg.setAll (vs := cells.toList) (by simp [hs])
  · have : ∀ (vs : List Value) (w : World) (o : Nat), (w.setCells g o vs).heap.size = w.heap.size := by
      intro vs
      induction vs with
      | nil => intros; rfl
      | cons v vs ih => intro w o; exact (ih _ _).trans (by simp [World.setCell])
    exact this _ _ _
/-- A struct is built: its cells are told. -/
theorem wpList_build_is {ops : Array Oper} {rest : List Oper} {o : Oper} {a : Act} {w : World} {Q : Exit → Act → World → Prop} (hgd : o.guard = none) (t : TypeId) (parts : Array (Nat × Operand)) (ho : o.op = .build t parts)
    (cells : Array Value) (hc : P.built t (parts.map fun (i, x) => (i, a.eval x)).toList = some cells) (h : wpList P ops Q rest (a.put o.dst (.agg cells)) w) : wpList P ops Q (o :: rest) a w :=
  wpList_plain hgd fun _ hK => wp_build t parts ho (by rw [hc]; rfl) (by rw [hc]; exact hK _ _ h)
/-- A whole variable is loaded. -/
theorem wpList_load_blk {ops : Array Oper} {rest : List Oper} {o : Oper} {a : Act} {w : World} {Q : Exit → Act → World → Prop} (hgd : o.guard = none) (ty : TypeId) (x : Operand) (ho : o.op = .load ty x)
    (g : Nat) (hx : a.eval x = .pointer (some ⟨g, 0, none⟩)) (t : TypeId) (cs : Array Value) (hg : Blk w g t cs) (d : TypeDesc)
    (hu : P.underlying ty = some d) (hd : (match d with | .struct _ | .array _ _ => true | _ => false) = true) (hi : (P.info? ty).map (·.size) = some cs.size)
    (h : wpList P ops Q rest (a.put o.dst (.agg cs)) w) : wpList P ops Q (o :: rest) a w := wpList_load_row hgd ty x ho g hx t cs (0, 0) d hg hu hd hi h
end
theorem Blk.grown {w w1 : World} {g : Nat} {t : TypeId} {cs : Array Value} {row : Option Nat} (h : Blk w g t cs) (hb : w.grownBy w1 row) (hn : some g ≠ row) : Blk w1 g t cs := (hb.block g h.lt hn).trans h
theorem below_grown {B : Nat} {w a b : World} {g : Nat} (h : Below B w a) (hs : B ≤ a.heap.size) (hb : B ≤ g) (hg : a.grownBy b (some g)) : Below B w b := h.grown hg hs (fun k hk => by cases hk; exact hb)
end Go.Proofs.YtkedpokbbogkmaaDoor
