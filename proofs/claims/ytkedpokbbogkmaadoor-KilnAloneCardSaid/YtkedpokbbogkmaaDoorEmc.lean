/-
  The contract of air.Emc: the equilibrium moisture content, out of the program's tables.
-/
import Derived.Test.YtkedpokbbogkmaaDoorTable
namespace Go.Proofs.YtkedpokbbogkmaaDoor
open Go.RowKit

theorem asc_temps : Asc Pl.temps := ⟨by show ∀ j, j < 6 → _; intro j hj; match j, hj with | 0, _ | 1, _ | 2, _ | 3, _ | 4, _ | 5, _ => decide, by show ∀ j, j + 1 < 6 → _; intro j hj; match j, hj with | 0, _ | 1, _ | 2, _ | 3, _ | 4, _ => decide⟩
theorem asc_deps : Asc Pl.deps := ⟨by show ∀ j, j < 7 → _; intro j hj; match j, hj with | 0, _ | 1, _ | 2, _ | 3, _ | 4, _ | 5, _ | 6, _ => decide, by show ∀ j, j + 1 < 7 → _; intro j hj; match j, hj with | 0, _ | 1, _ | 2, _ | 3, _ | 4, _ | 5, _ => decide⟩
theorem getD_mem {α : Type} {l : List α} (d : α) (j : Nat) (h : j < l.length) : l.getD j d ∈ l := by
  rw [List.getD_eq_getElem?_getD, List.getElem?_eq_getElem h]; exact List.getElem_mem h
theorem small_conts : ∀ i, i < 6 → (Pl.conts.getD i []).length = 7 ∧ Small (Pl.conts.getD i []) := by
  have h : ∀ r ∈ Pl.conts, r.length = 7 ∧ ∀ y ∈ r, -1000000 ≤ y ∧ y ≤ 1000000 := by decide
  intro i hi
  have hl : i < Pl.conts.length := hi
  obtain ⟨a, b⟩ := h _ (getD_mem _ _ hl)
  exact ⟨a, fun j hj => b _ (getD_mem _ _ hj)⟩

set_option maxHeartbeats 2000000 in
theorem emc_ok (t d : Int) (w : World) (hG : Hid (Glob w)) :
    Calls Tryd.prog 58 #[.agg #[.int .i64 t, .int .i64 d]] w fun e w' => e = .returned (.int .i64 (Pl.emcZ t d)) ∧ Below w.heap.size w w' := by
  have HB := Lib.hid (below_new w (.cells #[.int .i64 t, .int .i64 d] 37))
  have HG := Lib.hid (hG.out.below HB.out)
  have AT := Lib.hid asc_temps
  have AD := Lib.hid asc_deps
  have SC := Lib.hid small_conts
  have LN : Hid (Pl.temps.length = 6 ∧ Pl.deps.length = 7 ∧ Pl.conts.length = 6) := ⟨rfl, rfl, rfl⟩
  have hk : Blk (w.alloc (.cells #[.int .i64 t, .int .i64 d] 37)) w.heap.size 37 #[.int .i64 t, .int .i64 d] := Blk.new w _ _
  have HK := Lib.hid hk
  have c0 : (w.alloc (.cells #[.int .i64 t, .int .i64 d] 37)).cell? ⟨w.heap.size, 0, none⟩ = some (.int .i64 t) := hk.cell 0
  have c1 : (w.alloc (.cells #[.int .i64 t, .int .i64 d] 37)).cell? ⟨w.heap.size, 1, none⟩ = some (.int .i64 d) := hk.cell 1
  have hz : w.heap.size + 1 = (w.alloc (.cells #[.int .i64 t, .int .i64 d] 37)).heap.size := by simp
  have HZ := Lib.hid hz
  clear hk hz
  go_enter Tryd.func58, Tryd.ntmps58
  go_wp2
  generalize w.alloc (.cells #[.int .i64 t, .int .i64 d] 37) = W at *
  go_region_held3 (fun w' => w'.cell? ⟨w.heap.size, 0, none⟩ = some (.int .i64 t) ∧ w'.cell? ⟨w.heap.size, 1, none⟩ = some (.int .i64 d)) (first | exact ⟨keepD hb1 c0, keepD hb1 c1⟩ | exact ⟨(hb2.cell (World.block_lt_of_cell? _ _ (keepD hb1 c0))).trans (keepD hb1 c0), (hb2.cell (World.block_lt_of_cell? _ _ (keepD hb1 c1))).trans (keepD hb1 c1)⟩ | go_keep)
    ((first | (go_at_call 80; with_reducible refine (table_ok _ ?hg).mono ?_; (case hg => exact HG.out.drew); rintro e w1 ⟨gx, cx, gy, cy, gv, cv, rfl, hIx, hIy, hIr, hb1⟩) | (go_at_call 79; with_reducible refine (value_ok gx cx gy cy gv cv 6 7 Pl.temps Pl.deps Pl.conts t d _ (Lib.hid hIx) AT (Lib.hid hIy) AD (Lib.hid hIr) LN SC (by decide) (by decide) (by decide) (by decide)).mono ?_; rintro e w2 ⟨rfl, hb2⟩)))
  all_goals go_wp2
  all_goals go_ret
  all_goals exact ⟨rfl, (bDrew HB.out).trans ((hb1.mono (by have := HZ.out; simp; omega)).trans (hb2.mono (by have := hb1.size; have := HZ.out; simp at *; omega)))⟩

end Go.Proofs.YtkedpokbbogkmaaDoor
