/-
  A board's, a species', a cell's and a climate's cells, opened.
-/
import Derived.Test.YtfjlbpjjcehcnaaDoorArgs36
namespace Go.Proofs.YtfjlbpjjcehcnaaDoor
open Go.ChangeShapes Go.WideShapes Go.ChangeAt Go.WideElems Go.RowKit
section
variable {H : Type} {enc : TypeId × Value → H} {w : World} {base : Nat} {spare : Nat → Bool} {held : Bool} {fuel : Nat} {x : DataW H × List MemPlace}
def I64 (n : Int) : Prop := -9223372036854775808 ≤ n ∧ n ≤ 9223372036854775807
theorem I64.of {n : Int} (h : (Lit.int .i64 n).wf = true) : I64 n := by
  have : (Lit.int .i64 n).wf = (decide (-9223372036854775808 ≤ n) && decide (n ≤ 9223372036854775807)) := rfl
  rw [this] at h
  unfold I64
  simpa using h
theorem one_int {c : Value} (h : DataW.trod enc Tryd.prog w base spare held fuel 3 [c] = some x) : ∃ n, c = .int .i64 n ∧ I64 n := by
  obtain ⟨n, e, _, hw⟩ := DataW.trod_int Tryd.underlying3 h
  exact ⟨n, by simpa using e, I64.of hw⟩
theorem one_bool {c : Value} (h : DataW.trod enc Tryd.prog w base spare held fuel 4 [c] = some x) : ∃ n, c = .bool n := by
  obtain ⟨n, e, _⟩ := DataW.trod_bool Tryd.underlying4 h
  exact ⟨n, by simpa using e⟩
theorem one_string {c : Value} (h : DataW.trod enc Tryd.prog w base spare held fuel 9 [c] = some x) : ∃ n, c = .string n := by
  obtain ⟨n, e, _⟩ := DataW.trod_string Tryd.underlying9 h
  exact ⟨n, by simpa using e⟩
theorem got {α : Type} {xs : List α} {n i : Nat} (h : xs.length = n) (hi : i < n) : ∃ y, xs[i]? = some y := ⟨xs[i], List.getElem?_eq_getElem (by omega)⟩
theorem open_cell {c0 c1 c2 : Value} (h : DataW.trod enc Tryd.prog w base spare held fuel 23 [c0, c1, c2] = some x) :
    ∃ (c0' : Int) (c1' : Int) (c2' : Int), c0 = .int .i64 c0' ∧ I64 c0' ∧ c1 = .int .i64 c1' ∧ I64 c1' ∧ c2 = .int .i64 c2' ∧ I64 c2' := by
  obtain ⟨xs, n, rfl, _, _, hn, hel⟩ := DataW.trod_struct Tryd.underlying23 h
  have hn : xs.length = 3 := hn
  clear h
  have h0 := hel 0 _ rfl
  obtain ⟨y0, e0⟩ := got (i := 0) hn (by decide)
  rw [e0] at h0
  replace h0 := one_int (c := c0) h0
  obtain ⟨c0', rfl, g0⟩ := h0
  have h1 := hel 1 _ rfl
  obtain ⟨y1, e1⟩ := got (i := 1) hn (by decide)
  rw [e1] at h1
  replace h1 := one_int (c := c1) h1
  obtain ⟨c1', rfl, g1⟩ := h1
  have h2 := hel 2 _ rfl
  obtain ⟨y2, e2⟩ := got (i := 2) hn (by decide)
  rw [e2] at h2
  replace h2 := one_int (c := c2) h2
  obtain ⟨c2', rfl, g2⟩ := h2
  exact ⟨c0', c1', c2', rfl, g0, rfl, g1, rfl, g2⟩
theorem open_climate {c0 c1 : Value} (h : DataW.trod enc Tryd.prog w base spare held fuel 27 [c0, c1] = some x) :
    ∃ (c0' : Int) (c1' : Int), c0 = .int .i64 c0' ∧ I64 c0' ∧ c1 = .int .i64 c1' ∧ I64 c1' := by
  obtain ⟨xs, n, rfl, _, _, hn, hel⟩ := DataW.trod_struct Tryd.underlying27 h
  have hn : xs.length = 2 := hn
  clear h
  have h0 := hel 0 _ rfl
  obtain ⟨y0, e0⟩ := got (i := 0) hn (by decide)
  rw [e0] at h0
  replace h0 := one_int (c := c0) h0
  obtain ⟨c0', rfl, g0⟩ := h0
  have h1 := hel 1 _ rfl
  obtain ⟨y1, e1⟩ := got (i := 1) hn (by decide)
  rw [e1] at h1
  replace h1 := one_int (c := c1) h1
  obtain ⟨c1', rfl, g1⟩ := h1
  exact ⟨c0', c1', rfl, g0, rfl, g1⟩
theorem open_species {c0 c1 c2 c3 c4 c5 c6 c7 c8 c9 c10 c11 c12 : Value} (h : DataW.trod enc Tryd.prog w base spare held fuel 25 [c0, c1, c2, c3, c4, c5, c6, c7, c8, c9, c10, c11, c12] = some x) :
    ∃ (c0' : ByteArray) (c1' : Int) (c2' : Int) (c3' : Int) (c4' : Int) (c5' : Int) (c6' : Int) (c7' : Int) (c8' : Int) (c9' : Int) (c10' : Int) (c11' : Int) (c12' : Int), c0 = .string c0' ∧ c1 = .int .i64 c1' ∧ I64 c1' ∧ c2 = .int .i64 c2' ∧ I64 c2' ∧ c3 = .int .i64 c3' ∧ I64 c3' ∧ c4 = .int .i64 c4' ∧ I64 c4' ∧ c5 = .int .i64 c5' ∧ I64 c5' ∧ c6 = .int .i64 c6' ∧ I64 c6' ∧ c7 = .int .i64 c7' ∧ I64 c7' ∧ c8 = .int .i64 c8' ∧ I64 c8' ∧ c9 = .int .i64 c9' ∧ I64 c9' ∧ c10 = .int .i64 c10' ∧ I64 c10' ∧ c11 = .int .i64 c11' ∧ I64 c11' ∧ c12 = .int .i64 c12' ∧ I64 c12' := by
  obtain ⟨xs, n, rfl, _, _, hn, hel⟩ := DataW.trod_struct Tryd.underlying25 h
  have hn : xs.length = 13 := hn
  clear h
  have h0 := hel 0 _ rfl
  obtain ⟨y0, e0⟩ := got (i := 0) hn (by decide)
  rw [e0] at h0
  replace h0 := one_string (c := c0) h0
  obtain ⟨c0', rfl⟩ := h0
  have h1 := hel 1 _ rfl
  obtain ⟨y1, e1⟩ := got (i := 1) hn (by decide)
  rw [e1] at h1
  replace h1 := one_int (c := c1) h1
  obtain ⟨c1', rfl, g1⟩ := h1
  have h2 := hel 2 _ rfl
  obtain ⟨y2, e2⟩ := got (i := 2) hn (by decide)
  rw [e2] at h2
  replace h2 := one_int (c := c2) h2
  obtain ⟨c2', rfl, g2⟩ := h2
  have h3 := hel 3 _ rfl
  obtain ⟨y3, e3⟩ := got (i := 3) hn (by decide)
  rw [e3] at h3
  replace h3 := one_int (c := c3) h3
  obtain ⟨c3', rfl, g3⟩ := h3
  have h4 := hel 4 _ rfl
  obtain ⟨y4, e4⟩ := got (i := 4) hn (by decide)
  rw [e4] at h4
  replace h4 := one_int (c := c4) h4
  obtain ⟨c4', rfl, g4⟩ := h4
  have h5 := hel 5 _ rfl
  obtain ⟨y5, e5⟩ := got (i := 5) hn (by decide)
  rw [e5] at h5
  replace h5 := one_int (c := c5) h5
  obtain ⟨c5', rfl, g5⟩ := h5
  have h6 := hel 6 _ rfl
  obtain ⟨y6, e6⟩ := got (i := 6) hn (by decide)
  rw [e6] at h6
  replace h6 := one_int (c := c6) h6
  obtain ⟨c6', rfl, g6⟩ := h6
  have h7 := hel 7 _ rfl
  obtain ⟨y7, e7⟩ := got (i := 7) hn (by decide)
  rw [e7] at h7
  replace h7 := one_int (c := c7) h7
  obtain ⟨c7', rfl, g7⟩ := h7
  have h8 := hel 8 _ rfl
  obtain ⟨y8, e8⟩ := got (i := 8) hn (by decide)
  rw [e8] at h8
  replace h8 := one_int (c := c8) h8
  obtain ⟨c8', rfl, g8⟩ := h8
  have h9 := hel 9 _ rfl
  obtain ⟨y9, e9⟩ := got (i := 9) hn (by decide)
  rw [e9] at h9
  replace h9 := one_int (c := c9) h9
  obtain ⟨c9', rfl, g9⟩ := h9
  have h10 := hel 10 _ rfl
  obtain ⟨y10, e10⟩ := got (i := 10) hn (by decide)
  rw [e10] at h10
  replace h10 := one_int (c := c10) h10
  obtain ⟨c10', rfl, g10⟩ := h10
  have h11 := hel 11 _ rfl
  obtain ⟨y11, e11⟩ := got (i := 11) hn (by decide)
  rw [e11] at h11
  replace h11 := one_int (c := c11) h11
  obtain ⟨c11', rfl, g11⟩ := h11
  have h12 := hel 12 _ rfl
  obtain ⟨y12, e12⟩ := got (i := 12) hn (by decide)
  rw [e12] at h12
  replace h12 := one_int (c := c12) h12
  obtain ⟨c12', rfl, g12⟩ := h12
  exact ⟨c0', c1', c2', c3', c4', c5', c6', c7', c8', c9', c10', c11', c12', rfl, rfl, g1, rfl, g2, rfl, g3, rfl, g4, rfl, g5, rfl, g6, rfl, g7, rfl, g8, rfl, g9, rfl, g10, rfl, g11, rfl, g12⟩
theorem open_boardC {c0 c1 c2 c3 c4 c5 c6 c7 c8 c9 c10 c11 c12 c13 c14 c15 c16 c17 c18 c19 : Value} (h : DataW.trod enc Tryd.prog w base spare held fuel 29 [c0, c1, c2, c3, c4, c5, c6, c7, c8, c9, c10, c11, c12, c13, c14, c15, c16, c17, c18, c19] = some x) :
    ∃ (c0' : Int) (c1' : Int) (c2' : Int) (c3' : ByteArray) (c4' : Int) (c5' : Int) (c6' : Int) (c7' : Int) (c8' : Int) (c9' : Int) (c10' : Int) (c11' : Int) (c12' : Int) (c13' : Int) (c14' : Int) (c15' : Int) (c16' : Int) (c17' : Int) (c18' : Int) (c19' : Bool), c0 = .int .i64 c0' ∧ I64 c0' ∧ c1 = .int .i64 c1' ∧ I64 c1' ∧ c2 = .int .i64 c2' ∧ I64 c2' ∧ c3 = .string c3' ∧ c4 = .int .i64 c4' ∧ I64 c4' ∧ c5 = .int .i64 c5' ∧ I64 c5' ∧ c6 = .int .i64 c6' ∧ I64 c6' ∧ c7 = .int .i64 c7' ∧ I64 c7' ∧ c8 = .int .i64 c8' ∧ I64 c8' ∧ c9 = .int .i64 c9' ∧ I64 c9' ∧ c10 = .int .i64 c10' ∧ I64 c10' ∧ c11 = .int .i64 c11' ∧ I64 c11' ∧ c12 = .int .i64 c12' ∧ I64 c12' ∧ c13 = .int .i64 c13' ∧ I64 c13' ∧ c14 = .int .i64 c14' ∧ I64 c14' ∧ c15 = .int .i64 c15' ∧ I64 c15' ∧ c16 = .int .i64 c16' ∧ I64 c16' ∧ c17 = .int .i64 c17' ∧ I64 c17' ∧ c18 = .int .i64 c18' ∧ I64 c18' ∧ c19 = .bool c19' := by
  obtain ⟨xs, n, rfl, _, _, hn, hel⟩ := DataW.trod_struct Tryd.underlying29 h
  have hn : xs.length = 5 := hn
  clear h
  have h0 := hel 0 _ rfl
  obtain ⟨y0, e0⟩ := got (i := 0) hn (by decide)
  rw [e0] at h0
  obtain ⟨c0', c1', c2', rfl, g0_0, rfl, g0_1, rfl, g0_2⟩ := open_cell h0
  have h1 := hel 1 _ rfl
  obtain ⟨y1, e1⟩ := got (i := 1) hn (by decide)
  rw [e1] at h1
  obtain ⟨c3', c4', c5', c6', c7', c8', c9', c10', c11', c12', c13', c14', c15', rfl, rfl, g1_1, rfl, g1_2, rfl, g1_3, rfl, g1_4, rfl, g1_5, rfl, g1_6, rfl, g1_7, rfl, g1_8, rfl, g1_9, rfl, g1_10, rfl, g1_11, rfl, g1_12⟩ := open_species h1
  have h2 := hel 2 _ rfl
  obtain ⟨y2, e2⟩ := got (i := 2) hn (by decide)
  rw [e2] at h2
  replace h2 := one_int (c := c16) h2
  obtain ⟨c16', rfl, g2⟩ := h2
  have h3 := hel 3 _ rfl
  obtain ⟨y3, e3⟩ := got (i := 3) hn (by decide)
  rw [e3] at h3
  obtain ⟨c17', c18', rfl, g3_0, rfl, g3_1⟩ := open_climate h3
  have h4 := hel 4 _ rfl
  obtain ⟨y4, e4⟩ := got (i := 4) hn (by decide)
  rw [e4] at h4
  replace h4 := one_bool (c := c19) h4
  obtain ⟨c19', rfl⟩ := h4
  exact ⟨c0', c1', c2', c3', c4', c5', c6', c7', c8', c9', c10', c11', c12', c13', c14', c15', c16', c17', c18', c19', rfl, g0_0, rfl, g0_1, rfl, g0_2, rfl, rfl, g1_1, rfl, g1_2, rfl, g1_3, rfl, g1_4, rfl, g1_5, rfl, g1_6, rfl, g1_7, rfl, g1_8, rfl, g1_9, rfl, g1_10, rfl, g1_11, rfl, g1_12, rfl, g2, rfl, g3_0, rfl, g3_1, rfl⟩
theorem open_board {r : Reach} {b0 : Nat} {v : Value} {d : DataW H} {ps : List MemPlace} (hv : Value.okWide Tryd.prog w r b0 29 v) (h : DataW.Trod enc Tryd.prog w base spare held 29 v d ps) :
    ∃ (a b s : Int) (n : ByteArray) (a0 a1 a2 a3 a4 a5 a6 a7 a8 a9 a10 a11 thick t d : Int) (fan : Bool), v = .agg #[.int .i64 a, .int .i64 b, .int .i64 s, .string n, .int .i64 a0, .int .i64 a1, .int .i64 a2, .int .i64 a3, .int .i64 a4, .int .i64 a5, .int .i64 a6, .int .i64 a7, .int .i64 a8, .int .i64 a9, .int .i64 a10, .int .i64 a11, .int .i64 thick, .int .i64 t, .int .i64 d, .bool fan] ∧ I64 a5 ∧ I64 thick := by
  obtain ⟨cs, rfl, hsz⟩ := okWide_struct Tryd.underlying29 hv
  obtain ⟨fuel, hf⟩ := h
  have hsz : cs.size = 20 := hsz.trans (by kernel_rfl)
  obtain ⟨l⟩ := cs
  simp at hsz
  match l, hsz with
  | [c0, c1, c2, c3, c4, c5, c6, c7, c8, c9, c10, c11, c12, c13, c14, c15, c16, c17, c18, c19], _ =>
    obtain ⟨a, b, s, n, a0, a1, a2, a3, a4, a5, a6, a7, a8, a9, a10, a11, th, t, d, fan, rfl, _, rfl, _, rfl, _, rfl, rfl, _, rfl, _, rfl, _, rfl, _, rfl, _, rfl, h5, rfl, _, rfl, _, rfl, _, rfl, _, rfl, _, rfl, _, rfl, hth, rfl, _, rfl, _, rfl⟩ := open_boardC (show DataW.trod enc Tryd.prog w base spare held fuel 29 [c0, c1, c2, c3, c4, c5, c6, c7, c8, c9, c10, c11, c12, c13, c14, c15, c16, c17, c18, c19] = some (_, _) from hf)
    exact ⟨a, b, s, n, a0, a1, a2, a3, a4, a5, a6, a7, a8, a9, a10, a11, th, t, d, fan, rfl, h5, hth⟩
theorem flat_board : flatT Tryd.prog 8 29 = true := by kernel_rfl
end
end Go.Proofs.YtfjlbpjjcehcnaaDoor
