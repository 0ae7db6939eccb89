/-
  Lists of structs laid flat in a block; owned rows as blocks; the library's Clone.
-/
import Derived.Test.YtkedpokbbogkmaaDoorOwn
import Derived.Maps.AppendAt
import Derived.Deep.AppendLies
namespace Go.Proofs.YtkedpokbbogkmaaDoor
open Go.RowKit

theorem Own.join {w0 w w' : World} {L L' : List (Nat × TypeId × Array Value)} (h : Own w0 L w) (h' : Own w L' w') : Own w0 (L' ++ L) w' where
  blk x hx := by
    rcases List.mem_append.1 hx with hx | hx
    · exact h'.blk x hx
    · exact (h.blk x hx).below h'.bel (h.blk x hx).lt
  dif := by
    rw [List.map_append, List.nodup_append]
    refine ⟨h'.dif, h.dif, ?_⟩
    intro a ha b hb e
    obtain ⟨x, hx, rfl⟩ := List.mem_map.1 ha
    obtain ⟨y, hy, rfl⟩ := List.mem_map.1 hb
    have h1 := h'.low x hx
    have h2 := (h.blk y hy).lt
    omega
  low x hx := by
    rcases List.mem_append.1 hx with hx | hx
    · exact Nat.le_trans h.bel.size (h'.low x hx)
    · exact h.low x hx
  bel := h.bel.trans (h'.bel.mono h.bel.size)
theorem Own.one {w w' : World} {g : Nat} {t : TypeId} {cs : Array Value} (hb : Blk w' g t cs) (hg : w.heap.size ≤ g) (h : Below w.heap.size w w') : Own w [(g, t, cs)] w' where
  blk x hx := by
    simp only [List.mem_singleton] at hx
    subst hx
    exact hb
  dif := by simp
  low x hx := by
    simp only [List.mem_singleton] at hx
    subst hx
    exact hg
  bel := h
theorem row_blk {w : World} {base : Nat} {e : TypeId} {sz n : Nat} {v : Value} {xs : List Value} (h : w.ownsRow base e sz v n xs) (hn : 0 < n) :
    ∃ g c pad, v = .slice (some ⟨g, 0, none⟩) n c ∧ n ≤ c ∧ c ≤ maxLen ∧ base ≤ g ∧ Blk w g e (xs ++ pad).toArray := by
  rcases h.2 with ⟨_, h0⟩ | ⟨g, cap, cur, hv, hb, hg, h1, h2, h3, h4⟩
  · omega
  · refine ⟨g, cap, cur.toList.drop (n * sz), hv, h1, h2, hb, ?_⟩
    have : (xs ++ cur.toList.drop (n * sz)).toArray = cur := by
      rw [← h4, List.take_append_drop]
    rw [this]
    exact hg

section
variable {α : Type} (f : α → List Value) (sz : Nat)
def flat (l : List α) : List Value := l.flatMap f
theorem flat_len (hf : ∀ x, (f x).length = sz) (l : List α) : (flat f l).length = l.length * sz := by
  induction l with
  | nil => simp [flat]
  | cons x l ih =>
    have : flat f (x :: l) = f x ++ flat f l := rfl
    rw [this, List.length_append, hf, ih, List.length_cons, Nat.succ_mul]
    omega
theorem flat_at (hf : ∀ x, (f x).length = sz) : ∀ (l : List α) (i : Nat) (x : α), l[i]? = some x → ((flat f l).drop (i * sz)).take sz = f x
  | y :: l, 0, x, h => by
    have e : flat f (y :: l) = f y ++ flat f l := rfl
    simp only [List.getElem?_cons_zero, Option.some.injEq] at h
    subst h
    rw [Nat.zero_mul, List.drop_zero, e, List.take_append, List.take_of_length_le (by rw [hf]; omega), hf, Nat.sub_self, List.take_zero, List.append_nil]
  | y :: l, i + 1, x, h => by
    have e : flat f (y :: l) = f y ++ flat f l := rfl
    rw [e, List.drop_append, hf, List.drop_of_length_le (by rw [hf, Nat.succ_mul]; omega), List.nil_append, show (i + 1) * sz - sz = i * sz by rw [Nat.succ_mul]; omega]
    exact flat_at hf l i x (by simpa using h)
theorem flat_set (hf : ∀ x, (f x).length = sz) : ∀ (l : List α) (i : Nat) (y : α), i < l.length → flat f (l.set i y) = (flat f l).take (i * sz) ++ f y ++ (flat f l).drop (i * sz + sz)
  | z :: l, 0, y, _ => by
    have e : ∀ a, flat f (a :: l) = f a ++ flat f l := fun _ => rfl
    rw [List.set_cons_zero, e, e, Nat.zero_mul, List.take_zero, List.nil_append, Nat.zero_add, List.drop_append, hf, Nat.sub_self, List.drop_zero, List.drop_of_length_le (by rw [hf]; omega), List.nil_append]
  | z :: l, i + 1, y, h => by
    have e : ∀ a (l : List α), flat f (a :: l) = f a ++ flat f l := fun _ _ => rfl
    have ih := flat_set hf l i y (by simpa using h)
    have t1 : (f z ++ flat f l).take ((i + 1) * sz) = f z ++ (flat f l).take (i * sz) := by
      rw [List.take_append, List.take_of_length_le (by rw [hf, Nat.succ_mul]; omega), hf, show (i + 1) * sz - sz = i * sz by rw [Nat.succ_mul]; omega]
    have d1 : (f z ++ flat f l).drop ((i + 1) * sz + sz) = (flat f l).drop (i * sz + sz) := by
      rw [List.drop_append, List.drop_of_length_le (by rw [hf, Nat.succ_mul]; omega), List.nil_append, hf, show (i + 1) * sz + sz - sz = i * sz + sz by rw [Nat.succ_mul]; omega]
    rw [List.set_cons_succ, e, e, ih, t1, d1]
    simp only [List.append_assoc]
/-- The cells of an element, out of the block. -/
theorem flat_row (hf : ∀ x, (f x).length = sz) (l : List α) (pad : List Value) (i : Nat) (x : α) (h : l[i]? = some x) : ((flat f l ++ pad).toArray.extract (i * sz) (i * sz + sz)).toList = f x := by
  have hi : i < l.length := (List.getElem?_eq_some_iff.1 h).1
  have hl := flat_len f sz hf l
  have hle : i * sz + sz ≤ (flat f l).length := by
    rw [hl, ← Nat.succ_mul]
    exact Nat.mul_le_mul_right _ hi
  rw [← flat_at f sz hf l i x h]
  simp only [List.extract_toArray, List.extract_eq_take_drop]
  rw [List.drop_append, List.take_append, List.length_drop, show i * sz + sz - i * sz - ((flat f l).length - i * sz) = 0 by omega, List.take_zero, List.append_nil, show i * sz + sz - i * sz = sz by omega]
theorem flat_cell (hf : ∀ x, (f x).length = sz) (l : List α) (pad : List Value) (i j : Nat) (x : α) (v : Value) (h : l[i]? = some x) (hj : (f x)[j]? = some v) : (flat f l ++ pad).toArray[i * sz + j]? = some v := by
  have hi : i < l.length := (List.getElem?_eq_some_iff.1 h).1
  have hjl : j < sz := by
    have := (List.getElem?_eq_some_iff.1 hj).1
    rw [hf] at this
    exact this
  have hl := flat_len f sz hf l
  have hle : i * sz + sz ≤ (flat f l).length := by
    rw [hl, ← Nat.succ_mul]
    exact Nat.mul_le_mul_right _ hi
  rw [List.getElem?_toArray, List.getElem?_append_left (by omega)]
  have := flat_at f sz hf l i x h
  rw [← this, List.getElem?_take, if_pos hjl, List.getElem?_drop] at hj
  exact hj
/-- An element put in its place. -/
theorem flat_put (hf : ∀ x, (f x).length = sz) (l : List α) (pad : List Value) (i o : Nat) (vs : List Value) (x y : α) (h : l[i]? = some x) (ho : o + vs.length ≤ sz) (hy : f y = (f x).take o ++ vs ++ (f x).drop (o + vs.length)) :
    putAllA (flat f l ++ pad).toArray (i * sz + o) vs = (flat f (l.set i y) ++ pad).toArray := by
  have hi : i < l.length := (List.getElem?_eq_some_iff.1 h).1
  have hl := flat_len f sz hf l
  have hx := hf x
  have hle : i * sz + sz ≤ (flat f l).length := by
    rw [hl, ← Nat.succ_mul]
    exact Nat.mul_le_mul_right _ hi
  have hat := flat_at f sz hf l i x h
  apply Array.ext_getElem?
  intro j
  rw [putAllA_get _ _ _ _ (by simp; omega), flat_set f sz hf l i y hi, hy]
  simp only [List.getElem?_toArray]
  have t1 : ((flat f l).take (i * sz)).length = i * sz := by rw [List.length_take]; omega
  by_cases c1 : j < i * sz
  · rw [if_neg (by omega), List.getElem?_append_left (by omega)]
    simp only [List.append_assoc]
    rw [List.getElem?_append_left (by omega), List.getElem?_take, if_pos c1]
  · by_cases c2 : j < i * sz + sz
    · obtain ⟨d, rfl⟩ : ∃ d, j = i * sz + d := ⟨j - i * sz, by omega⟩
      have hd : d < sz := by omega
      have hfx : (flat f l)[i * sz + d]? = (f x)[d]? := by
        rw [← hat, List.getElem?_take, if_pos hd, List.getElem?_drop]
      have e2 : ((flat f l).take (i * sz) ++ ((f x).take o ++ vs ++ (f x).drop (o + vs.length)) ++ (flat f l).drop (i * sz + sz) ++ pad)[i * sz + d]? = ((f x).take o ++ vs ++ (f x).drop (o + vs.length))[d]? := by
        simp only [List.append_assoc]
        rw [List.getElem?_append_right (by omega), t1, show i * sz + d - i * sz = d by omega]
        rw [← List.append_assoc, ← List.append_assoc, ← List.append_assoc, List.append_assoc ((f x).take o ++ vs ++ _), List.getElem?_append_left (by simp; omega)]
        simp only [List.append_assoc]
      rw [e2]
      by_cases c3 : o ≤ d ∧ d < o + vs.length
      · rw [if_pos (by omega), List.append_assoc, List.getElem?_append_right (by simp; omega), List.length_take, List.getElem?_append_left (by omega)]
        congr 1
        omega
      · rw [if_neg (by omega), List.getElem?_append_left (by omega), hfx]
        by_cases c4 : d < o
        · rw [List.append_assoc, List.getElem?_append_left (by simp; omega), List.getElem?_take, if_pos c4]
        · rw [List.getElem?_append_right (by simp; omega), List.getElem?_drop]
          congr 1
          simp
          omega
    · rw [if_neg (by omega)]
      have e1 : ((flat f l).take (i * sz) ++ ((f x).take o ++ vs ++ (f x).drop (o + vs.length))).length = i * sz + sz := by
        simp; omega
      have R : ((flat f l).take (i * sz) ++ ((f x).take o ++ vs ++ (f x).drop (o + vs.length)) ++ (flat f l).drop (i * sz + sz) ++ pad)[j]? = ((flat f l).drop (i * sz + sz) ++ pad)[j - (i * sz + sz)]? := by
        rw [List.append_assoc, List.getElem?_append_right (by omega), e1]
      rw [R]
      by_cases c3 : j < (flat f l).length
      · rw [List.getElem?_append_left c3, List.getElem?_append_left (by simp; omega), List.getElem?_drop]
        congr 1
        omega
      · rw [List.getElem?_append_right (by omega), List.getElem?_append_right (by simp; omega)]
        congr 1
        simp
        omega
theorem flat_part (hf : ∀ x, (f x).length = sz) (l : List α) (pad : List Value) (i o m : Nat) (x : α) (h : l[i]? = some x) (hm : o + m ≤ sz) : ((flat f l ++ pad).toArray.extract (i * sz + o) (i * sz + o + m)).toList = ((f x).drop o).take m := by
  have h0 := flat_row f sz hf l pad i x h
  rw [← h0]
  simp only [List.extract_toArray, List.extract_eq_take_drop]
  rw [show i * sz + sz - i * sz = sz by omega, show i * sz + o + m - (i * sz + o) = m by omega, List.drop_take, List.take_take, List.drop_drop, Nat.min_eq_left (by omega)]
end
end Go.Proofs.YtkedpokbbogkmaaDoor
