/-
  A cell and a species that came in, opened.
-/
import Derived.Test.YtfjlbpjjcehcnaaDoorOpen36
namespace Go.Proofs.YtfjlbpjjcehcnaaDoor
open Go.RowKit Go.ChangeShapes Go.WideShapes Go.ChangeAt Go.WideElems
section
variable {H : Type} {enc : TypeId × Value → H} {w : World} {base : Nat} {spare : Nat → Bool} {held : Bool}
theorem open_cellV {r : Reach} {b0 : Nat} {v : Value} {d : DataW H} {ps : List MemPlace} (hv : Value.okWide Tryd.prog w r b0 23 v) (h : DataW.Trod enc Tryd.prog w base spare held 23 v d ps) :
    ∃ (a b s : Int), v = .agg #[.int .i64 a, .int .i64 b, .int .i64 s] := by
  obtain ⟨cs, rfl, hsz⟩ := okWide_struct Tryd.underlying23 hv
  obtain ⟨fuel, hf⟩ := h
  have hsz : cs.size = 3 := hsz.trans (by kernel_rfl)
  obtain ⟨l⟩ := cs
  simp at hsz
  match l, hsz with
  | [c0, c1, c2], _ =>
    obtain ⟨a, b, s, rfl, _, rfl, _, rfl, _⟩ := open_cell (show DataW.trod enc Tryd.prog w base spare held fuel 23 [c0, c1, c2] = some (_, _) from hf)
    exact ⟨a, b, s, rfl⟩
theorem open_speciesV {r : Reach} {b0 : Nat} {v : Value} {d : DataW H} {ps : List MemPlace} (hv : Value.okWide Tryd.prog w r b0 25 v) (h : DataW.Trod enc Tryd.prog w base spare held 25 v d ps) :
    ∃ (n : ByteArray) (a0 a1 a2 a3 a4 a5 a6 a7 a8 a9 a10 a11 : Int), v = .agg #[.string n, .int .i64 a0, .int .i64 a1, .int .i64 a2, .int .i64 a3, .int .i64 a4, .int .i64 a5, .int .i64 a6, .int .i64 a7, .int .i64 a8, .int .i64 a9, .int .i64 a10, .int .i64 a11] ∧ I64 a5 := by
  obtain ⟨cs, rfl, hsz⟩ := okWide_struct Tryd.underlying25 hv
  obtain ⟨fuel, hf⟩ := h
  have hsz : cs.size = 13 := hsz.trans (by kernel_rfl)
  obtain ⟨l⟩ := cs
  simp at hsz
  match l, hsz with
  | [c0, c1, c2, c3, c4, c5, c6, c7, c8, c9, c10, c11, c12], _ =>
    obtain ⟨n, a0, a1, a2, a3, a4, a5, a6, a7, a8, a9, a10, a11, rfl, rfl, _, rfl, _, rfl, _, rfl, _, rfl, _, rfl, h5, rfl, _, rfl, _, rfl, _, rfl, _, rfl, _, rfl, _⟩ := open_species (show DataW.trod enc Tryd.prog w base spare held fuel 25 [c0, c1, c2, c3, c4, c5, c6, c7, c8, c9, c10, c11, c12] = some (_, _) from hf)
    exact ⟨n, a0, a1, a2, a3, a4, a5, a6, a7, a8, a9, a10, a11, rfl, h5⟩
theorem flat_cell : flatT Tryd.prog 8 23 = true := by kernel_rfl
theorem flat_species : flatT Tryd.prog 8 25 = true := by kernel_rfl
end
end Go.Proofs.YtfjlbpjjcehcnaaDoor
