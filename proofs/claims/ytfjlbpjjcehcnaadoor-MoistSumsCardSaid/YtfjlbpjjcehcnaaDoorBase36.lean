/-
  Contracts of the helpers of the statements about moist: tick, sample, awake, between, size.
-/
import Derived.Test.YtfjlbpjjcehcnaaDoorTick
namespace Go.Proofs.YtfjlbpjjcehcnaaDoor
open Go.RowKit

def tickZ (a b s fast slow safe thick t d : Int) (fan : Bool) : Int × Int × Int :=
  if Comp a b s fast slow safe thick t d then (surfZ a fast t d fan, coreZ b (surfZ a fast t d fan) slow t thick, strZ s (surfZ a fast t d fan) (coreZ b (surfZ a fast t d fan) slow t thick) safe) else (a, b, s)
abbrev vCell (c : Int × Int × Int) : Value := .agg #[.int .i64 c.1, .int .i64 c.2.1, .int .i64 c.2.2]
theorem tick_any (a b s : Int) (n : ByteArray) (a0 a1 a2 a3 a4 a5 a6 a7 a8 a9 a10 a11 thick t d : Int) (fan : Bool) (w : World) (hG : Hid (Glob w)) :
    Calls Tryd.prog 25 #[.agg #[.int .i64 a, .int .i64 b, .int .i64 s], .agg #[.string n, .int .i64 a0, .int .i64 a1, .int .i64 a2, .int .i64 a3, .int .i64 a4, .int .i64 a5, .int .i64 a6, .int .i64 a7, .int .i64 a8, .int .i64 a9, .int .i64 a10, .int .i64 a11], .int .i64 thick, .agg #[.int .i64 t, .int .i64 d], .bool fan] w fun e w' => e = .returned (vCell (tickZ a b s a1 a2 a3 thick t d fan)) ∧ Below w.heap.size w w' := by
  by_cases hc : Comp a b s a1 a2 a3 thick t d
  · cases fan
    · refine (tick_still a b s n a0 a1 a2 a3 a4 a5 a6 a7 a8 a9 a10 a11 thick t d w hc).mono fun e w' h => ⟨?_, h.2⟩
      rw [h.1, tickZ, if_pos hc]
      simp [surfZ]
    · refine (tick_fan a b s n a0 a1 a2 a3 a4 a5 a6 a7 a8 a9 a10 a11 thick t d w hG hc).mono fun e w' h => ⟨?_, h.2⟩
      rw [h.1, tickZ, if_pos hc]
  · refine (tick_no a b s n a0 a1 a2 a3 a4 a5 a6 a7 a8 a9 a10 a11 thick t d fan w hc).mono fun e w' h => ⟨?_, h.2⟩
    rw [h.1, tickZ, if_neg hc]

set_option maxHeartbeats 4000000 in
set_option maxRecDepth 100000 in
theorem ltick_any (a b s : Int) (n : ByteArray) (a0 a1 a2 a3 a4 a5 a6 a7 a8 a9 a10 a11 thick t d : Int) (fan : Bool) (w : World) (hG : Hid (Glob w)) :
    Calls Tryd.prog 9 #[.agg #[.int .i64 a, .int .i64 b, .int .i64 s, .string n, .int .i64 a0, .int .i64 a1, .int .i64 a2, .int .i64 a3, .int .i64 a4, .int .i64 a5, .int .i64 a6, .int .i64 a7, .int .i64 a8, .int .i64 a9, .int .i64 a10, .int .i64 a11, .int .i64 thick, .int .i64 t, .int .i64 d, .bool fan]] w fun e w' => e = .returned (vCell (tickZ a b s a1 a2 a3 thick t d fan)) ∧ Below w.heap.size w w' := by
  have hb := (below_new w (.cells #[.int .i64 a, .int .i64 b, .int .i64 s, .string n, .int .i64 a0, .int .i64 a1, .int .i64 a2, .int .i64 a3, .int .i64 a4, .int .i64 a5, .int .i64 a6, .int .i64 a7, .int .i64 a8, .int .i64 a9, .int .i64 a10, .int .i64 a11, .int .i64 thick, .int .i64 t, .int .i64 d, .bool fan] 29)).alloc (by simp) (.cells #[.int .i64 0, .int .i64 0, .int .i64 0] 23)
  have hk : Blk ((w.alloc (.cells #[.int .i64 a, .int .i64 b, .int .i64 s, .string n, .int .i64 a0, .int .i64 a1, .int .i64 a2, .int .i64 a3, .int .i64 a4, .int .i64 a5, .int .i64 a6, .int .i64 a7, .int .i64 a8, .int .i64 a9, .int .i64 a10, .int .i64 a11, .int .i64 thick, .int .i64 t, .int .i64 d, .bool fan] 29)).alloc (.cells #[.int .i64 0, .int .i64 0, .int .i64 0] 23)) (w.heap.size + 1) 23 #[.int .i64 0, .int .i64 0, .int .i64 0] := by
    simpa using Blk.new (w.alloc (.cells #[.int .i64 a, .int .i64 b, .int .i64 s, .string n, .int .i64 a0, .int .i64 a1, .int .i64 a2, .int .i64 a3, .int .i64 a4, .int .i64 a5, .int .i64 a6, .int .i64 a7, .int .i64 a8, .int .i64 a9, .int .i64 a10, .int .i64 a11, .int .i64 thick, .int .i64 t, .int .i64 d, .bool fan] 29)) 23 #[.int .i64 0, .int .i64 0, .int .i64 0]
  have HB := Lib.hid hb
  have HK := Lib.hid hk
  have HG1 := Lib.hid (hG.out.below hb)
  clear hb hk
  go_enter Tryd.func9, Tryd.ntmps9
  go_wp2_with fail
  refine (tick_any a b s n a0 a1 a2 a3 a4 a5 a6 a7 a8 a9 a10 a11 thick t d fan _ HG1).mono ?_
  rintro e w1 ⟨rfl, hb1⟩
  have hk1 := HK.out.below hb1 HK.out.lt
  have HF := Lib.hid (HB.out.trans (hb1.mono (by simp; omega)))
  have HK1 := Lib.hid hk1
  have r0 : w1.cell? ⟨w.heap.size + 1, 0, none⟩ = some (.int .i64 0) := hk1.cell 0
  have r1 : w1.cell? ⟨w.heap.size + 1, 1, none⟩ = some (.int .i64 0) := hk1.cell 1
  have r2 : w1.cell? ⟨w.heap.size + 1, 2, none⟩ = some (.int .i64 0) := hk1.cell 2
  have f0 := hk1.frozen 0
  have f1 := hk1.frozen 1
  have f2 := hk1.frozen 2
  clear hb1 hk1
  generalize ec : tickZ a b s a1 a2 a3 thick t d fan = c
  have EC := Lib.hid ec
  clear ec
  obtain ⟨x, y, z⟩ := c
  go_wp2
  refine bodyPost_ret (results_cell_row Tryd.results9 _ _ (w.heap.size + 1) 23 _ (0, 0) _ rfl (((HK1.out.set_ 0 _).set_ 1 _).set_ 2 _) Tryd.underlying23 rfl (by kernel_rfl)) rfl ⟨?_, ((HF.out.setCell (by simp) _).setCell (by simp) _).setCell (by simp) _⟩
  rw [EC.out]
  rfl

def szZ (n : Int) : Int := if n < 0 then -n else n
theorem size_any (n : Int) (w : World) (h : -9223372036854775807 ≤ n) (h' : n ≤ 9223372036854775807) : Calls Tryd.prog 24 #[.int .i64 n] w fun e w' => e = .returned (.int .i64 (szZ n)) ∧ w = w' := by
  rcases Int.lt_or_le n 0 with q | q
  · go_enter Tryd.func24, Tryd.ntmps24
    go_wp2
    go_ret
    exact ⟨ret_int (by unfold szZ; rw [if_pos q]), rfl⟩
  · go_enter Tryd.func24, Tryd.ntmps24
    go_wp2
    all_goals go_ret
    all_goals exact ⟨ret_int (by unfold szZ; rw [if_neg (by omega)]; try omega), rfl⟩
def Btw (n a b : Int) : Prop := (a ≤ n ∧ n ≤ b) ∨ (b ≤ n ∧ n ≤ a)
theorem between_yes (n a b : Int) (w : World) (h : Btw n a b) : Calls Tryd.prog 22 #[.int .i64 n, .int .i64 a, .int .i64 b] w fun e w' => e = .returned (.bool true) ∧ w = w' := by
  unfold Btw at h
  by_cases h1 : a ≤ n <;> by_cases h2 : n ≤ b <;> by_cases h3 : b ≤ n <;> by_cases h4 : n ≤ a
  all_goals first | (exfalso; omega) | skip
  all_goals
    clear h
    go_enter Tryd.func22, Tryd.ntmps22
    go_wp2
    all_goals go_ret
    all_goals exact ⟨rfl, rfl⟩

end Go.Proofs.YtfjlbpjjcehcnaaDoor
