/-
  The arguments of the statements about the kiln, opened: a case, lists of faults.
-/
import Derived.Test.YtkedpokbbogkmaaDoorLaid38
import Derived.Test.YtkedpokbbogkmaaDoorKlaw
import Derived.Deep.Slices
namespace Go.Proofs.YtkedpokbbogkmaaDoor
set_option linter.unusedVariables false
set_option linter.unusedSimpArgs false
open Go.Deep Go.ChangeShapes Go.WideShapes Go.ChangeAt Go.WideElems Go.RowKit
section
variable {H : Type} {enc : TypeId × Value → H} {w : World} {base : Nat} {spare : Nat → Bool} {held : Bool} {fuel : Nat} {x : DataW H × List MemPlace}
def I64 (n : Int) : Prop := -9223372036854775808 ≤ n ∧ n ≤ 9223372036854775807
set_option maxRecDepth 100000 in
theorem I64.of {n : Int} (h : (Lit.int .i64 n).wf = true) : I64 n := by
  have : (Lit.int .i64 n).wf = (decide (-9223372036854775808 ≤ n) && decide (n ≤ 9223372036854775807)) := rfl
  rw [this] at h
  unfold I64
  simpa using h
set_option maxRecDepth 100000 in
theorem one_int {c : Value} (h : DataW.trod enc Tryd.prog w base spare held fuel 3 [c] = some x) : ∃ n, c = .int .i64 n ∧ I64 n := by
  obtain ⟨n, e, _, hw⟩ := DataW.trod_int Tryd.underlying3 h
  exact ⟨n, by simpa using e, I64.of hw⟩
set_option maxRecDepth 100000 in
theorem one_bool {c : Value} (h : DataW.trod enc Tryd.prog w base spare held fuel 4 [c] = some x) : ∃ n, c = .bool n := by
  obtain ⟨n, e, _⟩ := DataW.trod_bool Tryd.underlying4 h
  exact ⟨n, by simpa using e⟩
set_option maxRecDepth 100000 in
theorem one_string {c : Value} (h : DataW.trod enc Tryd.prog w base spare held fuel 9 [c] = some x) : ∃ n, c = .string n := by
  obtain ⟨n, e, _⟩ := DataW.trod_string Tryd.underlying9 h
  exact ⟨n, by simpa using e⟩
set_option maxRecDepth 100000 in
theorem got {α : Type} {xs : List α} {n i : Nat} (h : xs.length = n) (hi : i < n) : ∃ y, xs[i]? = some y := ⟨xs[i], List.getElem?_eq_getElem (by omega)⟩
set_option maxRecDepth 100000 in
theorem open_cell {c0 c1 c2 : Value} (h : DataW.trod enc Tryd.prog w base spare held fuel 51 [c0, c1, c2] = some x) :
    ∃ (c0' : Int) (c1' : Int) (c2' : Int), c0 = .int .i64 c0' ∧ I64 c0' ∧ c1 = .int .i64 c1' ∧ I64 c1' ∧ c2 = .int .i64 c2' ∧ I64 c2' := by
  obtain ⟨xs, n, rfl, _, _, hn, hel⟩ := DataW.trod_struct Tryd.underlying51 h
  have hn : xs.length = 3 := hn
  clear h
  have h0 := hel 0 _ rfl
  obtain ⟨y0, e0⟩ := got (i := 0) hn (by decide)
  rw [e0] at h0
  replace h0 := one_int (c := c0) h0
  obtain ⟨c0', rfl, g0⟩ := h0
  have h1 := hel 1 _ rfl
  obtain ⟨y1, e1⟩ := got (i := 1) hn (by decide)
  rw [e1] at h1
  replace h1 := one_int (c := c1) h1
  obtain ⟨c1', rfl, g1⟩ := h1
  have h2 := hel 2 _ rfl
  obtain ⟨y2, e2⟩ := got (i := 2) hn (by decide)
  rw [e2] at h2
  replace h2 := one_int (c := c2) h2
  obtain ⟨c2', rfl, g2⟩ := h2
  exact ⟨c0', c1', c2', rfl, g0, rfl, g1, rfl, g2⟩
set_option maxRecDepth 100000 in
theorem open_climate {c0 c1 : Value} (h : DataW.trod enc Tryd.prog w base spare held fuel 37 [c0, c1] = some x) :
    ∃ (c0' : Int) (c1' : Int), c0 = .int .i64 c0' ∧ I64 c0' ∧ c1 = .int .i64 c1' ∧ I64 c1' := by
  obtain ⟨xs, n, rfl, _, _, hn, hel⟩ := DataW.trod_struct Tryd.underlying37 h
  have hn : xs.length = 2 := hn
  clear h
  have h0 := hel 0 _ rfl
  obtain ⟨y0, e0⟩ := got (i := 0) hn (by decide)
  rw [e0] at h0
  replace h0 := one_int (c := c0) h0
  obtain ⟨c0', rfl, g0⟩ := h0
  have h1 := hel 1 _ rfl
  obtain ⟨y1, e1⟩ := got (i := 1) hn (by decide)
  rw [e1] at h1
  replace h1 := one_int (c := c1) h1
  obtain ⟨c1', rfl, g1⟩ := h1
  exact ⟨c0', c1', rfl, g0, rfl, g1⟩
set_option maxRecDepth 100000 in
theorem open_species {c0 c1 c2 c3 c4 c5 c6 c7 c8 c9 c10 c11 c12 : Value} (h : DataW.trod enc Tryd.prog w base spare held fuel 26 [c0, c1, c2, c3, c4, c5, c6, c7, c8, c9, c10, c11, c12] = some x) :
    ∃ (c0' : ByteArray) (c1' : Int) (c2' : Int) (c3' : Int) (c4' : Int) (c5' : Int) (c6' : Int) (c7' : Int) (c8' : Int) (c9' : Int) (c10' : Int) (c11' : Int) (c12' : Int), c0 = .string c0' ∧ c1 = .int .i64 c1' ∧ I64 c1' ∧ c2 = .int .i64 c2' ∧ I64 c2' ∧ c3 = .int .i64 c3' ∧ I64 c3' ∧ c4 = .int .i64 c4' ∧ I64 c4' ∧ c5 = .int .i64 c5' ∧ I64 c5' ∧ c6 = .int .i64 c6' ∧ I64 c6' ∧ c7 = .int .i64 c7' ∧ I64 c7' ∧ c8 = .int .i64 c8' ∧ I64 c8' ∧ c9 = .int .i64 c9' ∧ I64 c9' ∧ c10 = .int .i64 c10' ∧ I64 c10' ∧ c11 = .int .i64 c11' ∧ I64 c11' ∧ c12 = .int .i64 c12' ∧ I64 c12' := by
  obtain ⟨xs, n, rfl, _, _, hn, hel⟩ := DataW.trod_struct Tryd.underlying26 h
  have hn : xs.length = 13 := hn
  clear h
  have h0 := hel 0 _ rfl
  obtain ⟨y0, e0⟩ := got (i := 0) hn (by decide)
  rw [e0] at h0
  replace h0 := one_string (c := c0) h0
  obtain ⟨c0', rfl⟩ := h0
  have h1 := hel 1 _ rfl
  obtain ⟨y1, e1⟩ := got (i := 1) hn (by decide)
  rw [e1] at h1
  replace h1 := one_int (c := c1) h1
  obtain ⟨c1', rfl, g1⟩ := h1
  have h2 := hel 2 _ rfl
  obtain ⟨y2, e2⟩ := got (i := 2) hn (by decide)
  rw [e2] at h2
  replace h2 := one_int (c := c2) h2
  obtain ⟨c2', rfl, g2⟩ := h2
  have h3 := hel 3 _ rfl
  obtain ⟨y3, e3⟩ := got (i := 3) hn (by decide)
  rw [e3] at h3
  replace h3 := one_int (c := c3) h3
  obtain ⟨c3', rfl, g3⟩ := h3
  have h4 := hel 4 _ rfl
  obtain ⟨y4, e4⟩ := got (i := 4) hn (by decide)
  rw [e4] at h4
  replace h4 := one_int (c := c4) h4
  obtain ⟨c4', rfl, g4⟩ := h4
  have h5 := hel 5 _ rfl
  obtain ⟨y5, e5⟩ := got (i := 5) hn (by decide)
  rw [e5] at h5
  replace h5 := one_int (c := c5) h5
  obtain ⟨c5', rfl, g5⟩ := h5
  have h6 := hel 6 _ rfl
  obtain ⟨y6, e6⟩ := got (i := 6) hn (by decide)
  rw [e6] at h6
  replace h6 := one_int (c := c6) h6
  obtain ⟨c6', rfl, g6⟩ := h6
  have h7 := hel 7 _ rfl
  obtain ⟨y7, e7⟩ := got (i := 7) hn (by decide)
  rw [e7] at h7
  replace h7 := one_int (c := c7) h7
  obtain ⟨c7', rfl, g7⟩ := h7
  have h8 := hel 8 _ rfl
  obtain ⟨y8, e8⟩ := got (i := 8) hn (by decide)
  rw [e8] at h8
  replace h8 := one_int (c := c8) h8
  obtain ⟨c8', rfl, g8⟩ := h8
  have h9 := hel 9 _ rfl
  obtain ⟨y9, e9⟩ := got (i := 9) hn (by decide)
  rw [e9] at h9
  replace h9 := one_int (c := c9) h9
  obtain ⟨c9', rfl, g9⟩ := h9
  have h10 := hel 10 _ rfl
  obtain ⟨y10, e10⟩ := got (i := 10) hn (by decide)
  rw [e10] at h10
  replace h10 := one_int (c := c10) h10
  obtain ⟨c10', rfl, g10⟩ := h10
  have h11 := hel 11 _ rfl
  obtain ⟨y11, e11⟩ := got (i := 11) hn (by decide)
  rw [e11] at h11
  replace h11 := one_int (c := c11) h11
  obtain ⟨c11', rfl, g11⟩ := h11
  have h12 := hel 12 _ rfl
  obtain ⟨y12, e12⟩ := got (i := 12) hn (by decide)
  rw [e12] at h12
  replace h12 := one_int (c := c12) h12
  obtain ⟨c12', rfl, g12⟩ := h12
  exact ⟨c0', c1', c2', c3', c4', c5', c6', c7', c8', c9', c10', c11', c12', rfl, rfl, g1, rfl, g2, rfl, g3, rfl, g4, rfl, g5, rfl, g6, rfl, g7, rfl, g8, rfl, g9, rfl, g10, rfl, g11, rfl, g12⟩
set_option maxRecDepth 100000 in
theorem addr_plain {w : World} {a : Addr} {v : Value} (h : w.cell? a = some v) : a = ⟨a.block, a.off, none⟩ := by
  obtain ⟨b, o, s⟩ := a
  cases s with
  | none => rfl
  | some s =>
    unfold World.cell? at h
    split at h <;> simp at h
set_option maxRecDepth 100000 in
theorem repi_of {v : Value} (h : DataW.trod enc Tryd.prog w base spare held fuel 46 [v] = some x) : ∃ l, RepI w v l ∧ l.length ≤ maxLen := by
  rcases ChangeShapes.open_ints Tryd.underlying46 Tryd.underlying3 (by kernel_rfl) h with ⟨h0, _⟩ | ⟨a, len, cap, zs, h0, _, h1, h2, h3, _, h4, _⟩
  · injection h0 with h0 _
    exact ⟨[], .inl ⟨none, 0, h0, rfl⟩, by simp [maxLen]⟩
  · injection h0 with h0 _
    rcases Nat.eq_zero_or_pos len with hz | hz
    · subst hz
      exact ⟨[], .inl ⟨some a, cap, h0, rfl⟩, by simp [maxLen]⟩
    · have hle : len ≤ zs.length := by rw [h3]; split <;> omega
      have hp := addr_plain (h4 0 (by omega))
      have ha : a = ⟨a.block, a.off, none⟩ := by simpa [Addr.add] using hp
      generalize a.block = b at ha
      generalize a.off = o at ha
      subst ha
      refine ⟨zs.take len, .inr ⟨b, o, cap, ?_, fun j y hj => ?_⟩, ?_⟩
      · rw [h0, List.length_take, Nat.min_eq_left hle]
      · have hjl : j < len := by
          have := (List.getElem?_eq_some_iff.1 hj).1
          rw [List.length_take] at this
          omega
        have h5 := h4 j (by omega)
        rw [show (⟨b, o, none⟩ : Addr).add j = ⟨b, o + j, none⟩ by cases j <;> simp [Addr.add]] at h5
        rw [List.getElem?_take, if_pos hjl] at hj
        rw [h5, List.getD_eq_getElem?_getD, hj]
        rfl
      · rw [List.length_take, Nat.min_eq_left hle]
        omega
set_option maxRecDepth 100000 in
theorem choose_list {α : Type} (p : Nat → α → Prop) : ∀ n : Nat, (∀ i, i < n → ∃ a, p i a) → ∃ l : List α, l.length = n ∧ ∀ i a, l[i]? = some a → p i a
  | 0, _ => ⟨[], rfl, fun i a h => by simp at h⟩
  | n + 1, h => by
    obtain ⟨l, hl, hp⟩ := choose_list p n (fun i hi => h i (by omega))
    obtain ⟨a, ha⟩ := h n (by omega)
    refine ⟨l ++ [a], by simp [hl], fun i b hb => ?_⟩
    by_cases hi : i < l.length
    · rw [List.getElem?_append_left hi] at hb
      exact hp i b hb
    · have hlt := (List.getElem?_eq_some_iff.1 hb).1
      simp at hlt
      obtain rfl : i = l.length := by omega
      simp at hb
      subst hb
      rw [hl]
      exact ha
set_option maxRecDepth 100000 in
theorem repf_of {v : Value} (h : DataW.trod enc Tryd.prog w base spare held fuel 43 [v] = some x) : ∃ F, RepF w v F ∧ F.length ≤ maxLen ∧ ∀ f ∈ F, f.length ≤ maxLen := by
  rcases open_slice1 Tryd.underlying43 (by kernel_rfl) h with ⟨h0, _⟩ | ⟨a, len, cap, m, n, V, D, Pl, h0, _, h1, h2, h3, _, h4⟩
  · injection h0 with h0 _
    exact ⟨[], .inl ⟨none, 0, h0, rfl⟩, by simp [maxLen], by simp⟩
  · injection h0 with h0 _
    rcases Nat.eq_zero_or_pos len with hz | hz
    · subst hz
      exact ⟨[], .inl ⟨some a, cap, h0, rfl⟩, by simp [maxLen], by simp⟩
    · have hle : len ≤ m := by rw [h3]; split <;> omega
      have hp := addr_plain (h4 0 (by omega)).1
      have ha : a = ⟨a.block, a.off, none⟩ := by simpa [Addr.add] using hp
      generalize a.block = b at ha
      generalize a.off = o at ha
      subst ha
      obtain ⟨F, hF, hp⟩ := choose_list (fun i (f : List Int) => (∃ u, w.cell? ⟨b, o + i, none⟩ = some u ∧ RepI w u f) ∧ f.length ≤ maxLen) len (fun i hi => by
        obtain ⟨h5, h6⟩ := h4 i (by omega)
        obtain ⟨f, hf, hl⟩ := repi_of h6
        rw [show (⟨b, o, none⟩ : Addr).add i = ⟨b, o + i, none⟩ by cases i <;> simp [Addr.add]] at h5
        exact ⟨f, ⟨V i, h5, hf⟩, hl⟩)
      refine ⟨F, .inr ⟨b, o, cap, by rw [h0, hF], fun i f hf => (hp i f hf).1⟩, by omega, fun f hf => ?_⟩
      obtain ⟨i, hi⟩ := List.mem_iff_getElem?.1 hf
      exact (hp i f hi).2
set_option maxRecDepth 100000 in
theorem four {cs : List Value} (h : cs.length = 4) : ∃ a b c d, cs = [a, b, c, d] := by
  match cs, h with
  | [a, b, c, d], _ => exact ⟨a, b, c, d, rfl⟩
set_option maxRecDepth 100000 in
theorem stage_q4 {cs : List Value} (h : DataW.trod enc Tryd.prog w base spare held fuel 65 cs = some x) : ∃ q : Q4, cs = q4 q := by
  obtain ⟨xs, n, rfl, _, hl, hn, hel⟩ := DataW.trod_struct Tryd.underlying65 h
  have hn : xs.length = 4 := hn
  obtain ⟨c0, c1, c2, c3, rfl⟩ := four (hl.trans (by kernel_rfl))
  have h0 := hel 0 _ rfl
  obtain ⟨y0, e0⟩ := got (i := 0) hn (by decide)
  rw [e0] at h0
  obtain ⟨n0, rfl, _⟩ := one_int (c := c0) h0
  have h1 := hel 1 _ rfl
  obtain ⟨y1, e1⟩ := got (i := 1) hn (by decide)
  rw [e1] at h1
  obtain ⟨n1, rfl, _⟩ := one_int (c := c1) h1
  have h2 := hel 2 _ rfl
  obtain ⟨y2, e2⟩ := got (i := 2) hn (by decide)
  rw [e2] at h2
  obtain ⟨n2, rfl, _⟩ := one_int (c := c2) h2
  have h3 := hel 3 _ rfl
  obtain ⟨y3, e3⟩ := got (i := 3) hn (by decide)
  rw [e3] at h3
  obtain ⟨n3, rfl, _⟩ := one_int (c := c3) h3
  exact ⟨(n0, n1, n2, n3), rfl⟩
set_option maxRecDepth 100000 in
theorem item_q4 {cs : List Value} (h : DataW.trod enc Tryd.prog w base spare held fuel 54 cs = some x) : ∃ q : Q4, cs = q4 q := by
  obtain ⟨xs, n, rfl, _, hl, hn, hel⟩ := DataW.trod_struct Tryd.underlying54 h
  have hn : xs.length = 2 := hn
  obtain ⟨c0, c1, c2, c3, rfl⟩ := four (hl.trans (by kernel_rfl))
  have h0 := hel 0 _ rfl
  obtain ⟨y0, e0⟩ := got (i := 0) hn (by decide)
  rw [e0] at h0
  obtain ⟨n0, rfl, _⟩ := one_int (c := c0) h0
  have h1 := hel 1 _ rfl
  obtain ⟨y1, e1⟩ := got (i := 1) hn (by decide)
  rw [e1] at h1
  obtain ⟨n1, n2, n3, rfl, _, rfl, _, rfl, _⟩ := open_cell (c0 := c1) (c1 := c2) (c2 := c3) h1
  exact ⟨(n0, n1, n2, n3), rfl⟩
set_option maxRecDepth 100000 in
theorem repq_of {v : Value} {t e : TypeId} (ht : Tryd.prog.underlying t = some (.slice e)) (hc : Tryd.prog.cellsOf e = 4) (hel : ∀ {fuel : Nat} {cs : List Value} {x : DataW H × List MemPlace}, DataW.trod enc Tryd.prog w base spare held fuel e cs = some x → ∃ q : Q4, cs = q4 q)
    (h : DataW.trod enc Tryd.prog w base spare held fuel t [v] = some x) : ∃ l, RepQ w v l ∧ ∀ A m c, v = .slice A m c → m ≤ c := by
  rcases open_slice ht h with ⟨h0, _⟩ | ⟨a, len, cap, m, n, D, Pl, h0, _, h1, h2, h3, _, h4⟩
  · injection h0 with h0 _
    exact ⟨[], .inl ⟨none, 0, h0, rfl⟩, fun A m c hv => by
      rw [h0] at hv
      injection hv with _ h1 h2
      omega⟩
  · injection h0 with h0 _
    rcases Nat.eq_zero_or_pos len with hz | hz
    · subst hz
      exact ⟨[], .inl ⟨some a, cap, h0, rfl⟩, fun A m c hv => by
        rw [h0] at hv
        injection hv with _ h1 h2
        omega⟩
    · have hle : len ≤ m := by rw [h3]; split <;> omega
      rw [hc] at h4
      have each : ∀ i, i < len → ∃ q : Q4, ∀ j u, (q4 q)[j]? = some u → w.cell? ((a.add (i * 4)).add j) = some u := fun i hi => by
        obtain ⟨cs', h5, h6⟩ := h4 i (by omega)
        obtain ⟨q, rfl⟩ := hel h6
        obtain ⟨_, _, h7⟩ := World.cells?_some h5
        exact ⟨q, fun j u hj => by
          have hj4 : j < 4 := (List.getElem?_eq_some_iff.1 hj).1
          rw [h7 j hj4]
          exact hj⟩
      obtain ⟨q0, hq0⟩ := each 0 hz
      have hp := addr_plain (hq0 0 _ rfl)
      have ha : a = ⟨a.block, a.off, none⟩ := by simpa [Addr.add] using hp
      generalize a.block = b at ha
      generalize a.off = o at ha
      subst ha
      obtain ⟨l, hl, hp⟩ := choose_list (fun i (q : Q4) => ∀ j u, (q4 q)[j]? = some u → w.cell? ⟨b, o + i * 4 + j, none⟩ = some u) len (fun i hi => by
        obtain ⟨q, hq⟩ := each i hi
        refine ⟨q, fun j u hj => ?_⟩
        have := hq j u hj
        rw [Addr.add_mid, Addr.add_mid] at this
        exact this)
      refine ⟨l, .inr ⟨b, o, cap, by rw [h0, hl], fun j u hj => ?_⟩, fun A m c hv => by
        rw [h0] at hv
        injection hv with _ h8 h9
        omega⟩
      have hjl := (List.getElem?_eq_some_iff.1 hj).1
      rw [flat_len q4 4 q4_len l] at hjl
      obtain ⟨q, hq⟩ : ∃ q, l[j / 4]? = some q := ⟨_, List.getElem?_eq_getElem (by omega)⟩
      have h8 := flat_at q4 4 q4_len l (j / 4) q hq
      have h9 : (q4 q)[j % 4]? = some u := by
        rw [← h8, List.getElem?_take, if_pos (by omega), List.getElem?_drop, show j / 4 * 4 + j % 4 = j by omega]
        exact hj
      have := hp (j / 4) q hq (j % 4) u h9
      rw [show o + j / 4 * 4 + j % 4 = o + j by omega] at this
      exact this
set_option maxRecDepth 100000 in
theorem open_case {r : Reach} {b0 : Nat} {v : Value} {d : DataW H} {ps : List MemPlace} (hv : Value.okWide Tryd.prog w r b0 29 v) (h : DataW.Trod enc Tryd.prog w base spare held 29 v d ps) :
    ∃ (pn n : ByteArray) (ramp a0 a1 a2 a3 a4 a5 a6 a7 a8 a9 a10 a11 : Int) (vS vI : Value) (st l : List Q4), v = .agg #[.string pn, .int .i64 ramp, vS, .string n, .int .i64 a0, .int .i64 a1, .int .i64 a2, .int .i64 a3, .int .i64 a4, .int .i64 a5, .int .i64 a6, .int .i64 a7, .int .i64 a8, .int .i64 a9, .int .i64 a10, .int .i64 a11, vI] ∧ RepQ w vS st ∧ RepQ w vI l ∧ ∀ A m c, vI = .slice A m c → m ≤ c := by
  obtain ⟨cs, rfl, hsz⟩ := okWide_struct Tryd.underlying29 hv
  obtain ⟨fuel, hf⟩ := h
  have hsz : cs.size = 17 := hsz.trans (by kernel_rfl)
  obtain ⟨l⟩ := cs
  simp at hsz
  match l, hsz with
  | [c0, c1, c2, c3, c4, c5, c6, c7, c8, c9, c10, c11, c12, c13, c14, c15, c16], _ =>
    obtain ⟨xs, n, rfl, _, _, hn, hel⟩ := DataW.trod_struct Tryd.underlying29 (show DataW.trod enc Tryd.prog w base spare held fuel 29 [c0, c1, c2, c3, c4, c5, c6, c7, c8, c9, c10, c11, c12, c13, c14, c15, c16] = some (_, _) from hf)
    have hn : xs.length = 3 := hn
    have h0 := hel 0 _ rfl
    obtain ⟨y0, e0⟩ := got (i := 0) hn (by decide)
    rw [e0] at h0
    have h1 := hel 1 _ rfl
    obtain ⟨y1, e1⟩ := got (i := 1) hn (by decide)
    rw [e1] at h1
    have h2 := hel 2 _ rfl
    obtain ⟨y2, e2⟩ := got (i := 2) hn (by decide)
    rw [e2] at h2
    obtain ⟨nm, a0, a1, a2, a3, a4, a5, a6, a7, a8, a9, a10, a11, rfl, rfl, _, rfl, _, rfl, _, rfl, _, rfl, _, rfl, _, rfl, _, rfl, _, rfl, _, rfl, _, rfl, _, rfl, _⟩ := open_species (c0 := c3) (c1 := c4) (c2 := c5) (c3 := c6) (c4 := c7) (c5 := c8) (c6 := c9) (c7 := c10) (c8 := c11) (c9 := c12) (c10 := c13) (c11 := c14) (c12 := c15) h1
    obtain ⟨l, hl, hcap⟩ := repq_of (v := c16) Tryd.underlying27 (by kernel_rfl) item_q4 h2
    obtain ⟨zs, m, rfl, _, _, hm, hem⟩ := DataW.trod_struct Tryd.underlying24 h0
    have hm : zs.length = 3 := hm
    have k0 := hem 0 _ rfl
    obtain ⟨z0, f0⟩ := got (i := 0) hm (by decide)
    rw [f0] at k0
    obtain ⟨pn, rfl⟩ := one_string (c := c0) k0
    have k1 := hem 1 _ rfl
    obtain ⟨z1, f1⟩ := got (i := 1) hm (by decide)
    rw [f1] at k1
    obtain ⟨ramp, rfl, _⟩ := one_int (c := c1) k1
    have k2 := hem 2 _ rfl
    obtain ⟨z2, f2⟩ := got (i := 2) hm (by decide)
    rw [f2] at k2
    obtain ⟨st, hst, _⟩ := repq_of (v := c2) Tryd.underlying22 (by kernel_rfl) stage_q4 k2
    exact ⟨pn, nm, ramp, a0, a1, a2, a3, a4, a5, a6, a7, a8, a9, a10, a11, c2, c16, st, l, rfl, hst, hl, hcap⟩
end
end Go.Proofs.YtkedpokbbogkmaaDoor
