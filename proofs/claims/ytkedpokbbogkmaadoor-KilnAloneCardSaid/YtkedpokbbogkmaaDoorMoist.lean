/-
  Contracts of air.Check and of package moist.
-/
import Derived.Test.YtkedpokbbogkmaaDoorEq
namespace Go.Proofs.YtkedpokbbogkmaaDoor
open Go.RowKit

def chkZ (a b s : Int) : Int := if a < 0 ∨ 20000 < a ∨ b < 0 ∨ 20000 < b then 25 else if s < 0 ∨ 1099511627776 < s then 9 else 0
theorem chkZ_ok {a b s : Int} : chkZ a b s = 0 ↔ 0 ≤ a ∧ a ≤ 20000 ∧ 0 ≤ b ∧ b ≤ 20000 ∧ 0 ≤ s ∧ s ≤ 1099511627776 := by
  unfold chkZ; split <;> (try split) <;> omega
theorem mcheck_any (a b s : Int) (w : World) :
    Calls Tryd.prog 17 #[.agg #[.int .i64 a, .int .i64 b, .int .i64 s]] w fun e w' => e = .returned (.int .i64 (chkZ a b s)) ∧ Below w.heap.size w w' := by
  rcases Int.lt_or_le a b with hab | hab
  all_goals
    go_enter Tryd.func17, Tryd.ntmps17
    go_wp2
    all_goals go_ret
    all_goals refine ⟨ret_int ?_, below_new _ _⟩
    all_goals (unfold chkZ; split <;> (try split) <;> first | rfl | omega)

def gradZ (a b s : Int) : Int := if chkZ a b s = 0 then b - a else 0
def meanZ (a b s : Int) : Int := if chkZ a b s = 0 then (a + 2 * b) / 3 else 0
def checksZ (a b s k : Int) : Int := if chkZ a b s = 0 ∧ 1 ≤ k then s / k else 0
set_option maxHeartbeats 1000000 in
theorem grad_any (a b s : Int) (w : World) :
    Calls Tryd.prog 18 #[.agg #[.int .i64 a, .int .i64 b, .int .i64 s]] w fun e w' => e = .returned (.int .i64 (gradZ a b s)) ∧ Below w.heap.size w w' := by
  have hb := below_new w (.cells #[.int .i64 a, .int .i64 b, .int .i64 s] 51)
  have hk : Blk (w.alloc (.cells #[.int .i64 a, .int .i64 b, .int .i64 s] 51)) w.heap.size 51 #[.int .i64 a, .int .i64 b, .int .i64 s] := Blk.new w _ _
  have HB := Lib.hid hb
  have HK := Lib.hid hk
  clear hb hk
  by_cases h : chkZ a b s = 0
  · have h' := chkZ_ok.1 h
    have H := Lib.hid h
    have hb0 : (chkZ a b s != 0) = false := by simp [h]
    clear h
    go_enter Tryd.func18, Tryd.ntmps18
    go_wp2_with fail
    refine (mcheck_any _ _ _ _).mono ?_
    rintro e w1 ⟨rfl, hb1⟩
    have hk1 := HK.out.below hb1 (by simp)
    have c0 : w1.cell? ⟨w.heap.size, 0, none⟩ = some (.int .i64 a) := hk1.cell 0
    have c1 : w1.cell? ⟨w.heap.size, 1, none⟩ = some (.int .i64 b) := hk1.cell 1
    have HF := Lib.hid (HB.out.trans (hb1.mono (by simp)))
    clear hb1 hk1
    go_wp2
    go_ret
    exact ⟨ret_int (by unfold gradZ; rw [if_pos H.out]), HF.out⟩
  · have hb0 : (chkZ a b s != 0) = true := by simpa using h
    have H := Lib.hid h
    clear h
    go_enter Tryd.func18, Tryd.ntmps18
    go_wp2_with fail
    refine (mcheck_any _ _ _ _).mono ?_
    rintro e w1 ⟨rfl, hb1⟩
    have HF := Lib.hid (HB.out.trans (hb1.mono (by simp)))
    clear hb1
    go_wp2
    go_ret
    exact ⟨ret_int (by unfold gradZ; rw [if_neg H.out]), HF.out⟩

def airZ (t d : Int) : Int := if 0 ≤ t ∧ t ≤ 1200 ∧ 0 ≤ d ∧ d ≤ 400 then 0 else 9
set_option maxHeartbeats 1000000 in
theorem clamped_any (t d : Int) (w : World) :
    Calls Tryd.prog 47 #[.agg #[.int .i64 t, .int .i64 d]] w fun e w' => e = .returned (.agg #[.int .i64 (clampZ t 0 1200), .int .i64 (clampZ d 0 400)]) ∧ Below w.heap.size w w' := by
  have hb := (below_new w (.cells #[.int .i64 t, .int .i64 d] 37)).alloc (by simp) (.cells #[.int .i64 0, .int .i64 0] 37)
  have hk1 : Blk ((w.alloc (.cells #[.int .i64 t, .int .i64 d] 37)).alloc (.cells #[.int .i64 0, .int .i64 0] 37)) w.heap.size 37 #[.int .i64 t, .int .i64 d] := (Blk.new w _ _).alloc _
  have hk2 : Blk ((w.alloc (.cells #[.int .i64 t, .int .i64 d] 37)).alloc (.cells #[.int .i64 0, .int .i64 0] 37)) (w.heap.size + 1) 37 #[.int .i64 0, .int .i64 0] := by
    simpa using Blk.new (w.alloc (.cells #[.int .i64 t, .int .i64 d] 37)) 37 #[.int .i64 0, .int .i64 0]
  have HB := Lib.hid hb
  have HK := Lib.hid hk2
  have c0 : ((w.alloc (.cells #[.int .i64 t, .int .i64 d] 37)).alloc (.cells #[.int .i64 0, .int .i64 0] 37)).cell? ⟨w.heap.size, 0, none⟩ = some (.int .i64 t) := hk1.cell 0
  have c1 : ((w.alloc (.cells #[.int .i64 t, .int .i64 d] 37)).alloc (.cells #[.int .i64 0, .int .i64 0] 37)).cell? ⟨w.heap.size, 1, none⟩ = some (.int .i64 d) := hk1.cell 1
  have d0 : ((w.alloc (.cells #[.int .i64 t, .int .i64 d] 37)).alloc (.cells #[.int .i64 0, .int .i64 0] 37)).cell? ⟨w.heap.size + 1, 0, none⟩ = some (.int .i64 0) := hk2.cell 0
  have d1 : ((w.alloc (.cells #[.int .i64 t, .int .i64 d] 37)).alloc (.cells #[.int .i64 0, .int .i64 0] 37)).cell? ⟨w.heap.size + 1, 1, none⟩ = some (.int .i64 0) := hk2.cell 1
  have f0 := hk2.frozen 0
  have f1 := hk2.frozen 1
  clear hb hk1 hk2
  go_enter Tryd.func47, Tryd.ntmps47
  go_wp2
  generalize (w.alloc (.cells #[.int .i64 t, .int .i64 d] 37)).alloc (.cells #[.int .i64 0, .int .i64 0] 37) = W at *
  go_region_held3 (fun w' => w'.cell? ⟨w.heap.size, 0, none⟩ = some (.int .i64 t) ∧ w'.cell? ⟨w.heap.size, 1, none⟩ = some (.int .i64 d)) (go_keep)
    ((go_at_call 48; with_reducible refine (clamp_any _ _ _ _).mono ?_; rintro e w1 ⟨rfl, rfl⟩))
  all_goals go_wp2
  have hf : Blk (((W.setCell ⟨w.heap.size + 1, 0, none⟩ (.int .i64 (clampZ t 0 1200))).setCell ⟨w.heap.size + 1, 1, none⟩ (.int .i64 (clampZ d 0 400))).drew) (w.heap.size + 1) 37 #[.int .i64 (clampZ t 0 1200), .int .i64 (clampZ d 0 400)] := by
    have := ((HK.out.set_ 0 (.int .i64 (clampZ t 0 1200))).set_ 1 (.int .i64 (clampZ d 0 400))).drew
    simpa using this
  refine bodyPost_ret (results_cell_row Tryd.results47 _ _ (w.heap.size + 1) 37 _ (0, 0) _ rfl hf Tryd.underlying37 rfl (by kernel_rfl)) rfl ⟨rfl, ?_⟩
  exact bDrew ((HB.out.setCell (by simp) _).setCell (by simp) _)

set_option maxHeartbeats 1000000 in
theorem acheck_any (t d : Int) (w : World) :
    Calls Tryd.prog 76 #[.agg #[.int .i64 t, .int .i64 d]] w fun e w' => e = .returned (.int .i64 (airZ t d)) ∧ Below w.heap.size w w' := by
  have hb := below_new w (.cells #[.int .i64 t, .int .i64 d] 37)
  have hk : Blk (w.alloc (.cells #[.int .i64 t, .int .i64 d] 37)) w.heap.size 37 #[.int .i64 t, .int .i64 d] := Blk.new w _ _
  have c0 : (w.alloc (.cells #[.int .i64 t, .int .i64 d] 37)).cell? ⟨w.heap.size, 0, none⟩ = some (.int .i64 t) := hk.cell 0
  have c1 : (w.alloc (.cells #[.int .i64 t, .int .i64 d] 37)).cell? ⟨w.heap.size, 1, none⟩ = some (.int .i64 d) := hk.cell 1
  have HB := Lib.hid hb
  have hne := neq_clim t d (clampZ t 0 1200) (clampZ d 0 400)
  have hv : (!(t == clampZ t 0 1200 && d == clampZ d 0 400)) = decide (¬ (0 ≤ t ∧ t ≤ 1200 ∧ 0 ≤ d ∧ d ≤ 400)) := by
    unfold clampZ
    rw [Bool.eq_iff_iff]
    simp
    split <;> split <;> omega
  rw [hv] at hne
  clear hb hk hv
  have hz : w.heap.size ≤ (w.alloc (.cells #[.int .i64 t, .int .i64 d] 37)).heap.size := by simp
  by_cases hq : 0 ≤ t ∧ t ≤ 1200 ∧ 0 ≤ d ∧ d ≤ 400
  · have hd : decide (¬ (0 ≤ t ∧ t ≤ 1200 ∧ 0 ≤ d ∧ d ≤ 400)) = false := by simpa using hq
    rw [hd] at hne
    have HQ := Lib.hid hq
    clear hq hd
    go_enter Tryd.func76, Tryd.ntmps76
    go_wp2
    generalize w.alloc (.cells #[.int .i64 t, .int .i64 d] 37) = W at *
    go_region_held3 (fun w' => w'.cell? ⟨w.heap.size, 0, none⟩ = some (.int .i64 t) ∧ w'.cell? ⟨w.heap.size, 1, none⟩ = some (.int .i64 d)) (first | exact ⟨keepD hb1 c0, keepD hb1 c1⟩ | go_keep)
      ((go_at_call 47; with_reducible refine (clamped_any _ _ _).mono ?_; rintro e w1 ⟨rfl, hb1⟩))
    all_goals go_wp2
    all_goals go_ret
    all_goals exact ⟨ret_int (by unfold airZ; rw [if_pos HQ.out]), (bDrew HB.out).trans (hb1.mono (by simpa using hz))⟩
  · have hd : decide (¬ (0 ≤ t ∧ t ≤ 1200 ∧ 0 ≤ d ∧ d ≤ 400)) = true := by simp; omega
    rw [hd] at hne
    have HQ := Lib.hid hq
    clear hq hd
    go_enter Tryd.func76, Tryd.ntmps76
    go_wp2
    generalize w.alloc (.cells #[.int .i64 t, .int .i64 d] 37) = W at *
    go_region_held3 (fun w' => w'.cell? ⟨w.heap.size, 0, none⟩ = some (.int .i64 t) ∧ w'.cell? ⟨w.heap.size, 1, none⟩ = some (.int .i64 d)) (first | exact ⟨keepD hb1 c0, keepD hb1 c1⟩ | go_keep)
      ((go_at_call 47; with_reducible refine (clamped_any _ _ _).mono ?_; rintro e w1 ⟨rfl, hb1⟩))
    all_goals go_wp2
    all_goals go_ret
    all_goals exact ⟨ret_int (by unfold airZ; rw [if_neg HQ.out]), (bDrew HB.out).trans (hb1.mono (by simpa using hz))⟩

/-- Can a tick be computed? -/
def Comp (a b s fast slow safe thick t d : Int) : Prop := chkZ a b s = 0 ∧ airZ t d = 0 ∧ (1 ≤ fast ∧ fast ≤ 10000 ∧ 1 ≤ slow ∧ slow ≤ 10000 ∧ 0 ≤ safe ∧ safe ≤ 20000 ∧ 1 ≤ thick ∧ thick ≤ 600)
instance (a b s fast slow safe thick t d : Int) : Decidable (Comp a b s fast slow safe thick t d) := by unfold Comp; infer_instance
def compB (a b s fast slow safe thick t d : Int) : Bool := decide (Comp a b s fast slow safe thick t d)
theorem compB_is {a b s fast slow safe thick t d : Int} {v : Bool} (h1 : chkZ a b s = 0) (h2 : airZ t d = 0) (h : v = true ↔ (1 ≤ fast ∧ fast ≤ 10000 ∧ 1 ≤ slow ∧ slow ≤ 10000 ∧ 0 ≤ safe ∧ safe ≤ 20000 ∧ 1 ≤ thick ∧ thick ≤ 600)) : v = compB a b s fast slow safe thick t d := by
  rw [compB, Bool.eq_iff_iff, decide_eq_true_iff, h]
  exact ⟨fun q => ⟨h1, h2, q⟩, fun q => q.2.2⟩
theorem ret_bool {a b : Bool} (h : a = b) : Ending.returned (.bool a) = .returned (.bool b) := by rw [h]
set_option maxHeartbeats 2000000 in
theorem comp_any (a b s : Int) (n : ByteArray) (a0 a1 a2 a3 a4 a5 a6 a7 a8 a9 a10 a11 thick t d : Int) (w : World) :
    Calls Tryd.prog 56 #[.agg #[.int .i64 a, .int .i64 b, .int .i64 s], .agg #[.string n, .int .i64 a0, .int .i64 a1, .int .i64 a2, .int .i64 a3, .int .i64 a4, .int .i64 a5, .int .i64 a6, .int .i64 a7, .int .i64 a8, .int .i64 a9, .int .i64 a10, .int .i64 a11], .int .i64 thick, .agg #[.int .i64 t, .int .i64 d]] w fun e w' => e = .returned (.bool (compB a b s a1 a2 a3 thick t d)) ∧ Below w.heap.size w w' := by
  have hb := ((below_new w (.cells #[.int .i64 a, .int .i64 b, .int .i64 s] 51)).alloc (by simp) (.cells #[.string n, .int .i64 a0, .int .i64 a1, .int .i64 a2, .int .i64 a3, .int .i64 a4, .int .i64 a5, .int .i64 a6, .int .i64 a7, .int .i64 a8, .int .i64 a9, .int .i64 a10, .int .i64 a11] 26)).alloc (by simp; omega) (.cells #[.int .i64 t, .int .i64 d] 37)
  have hk1 : Blk (((w.alloc (.cells #[.int .i64 a, .int .i64 b, .int .i64 s] 51)).alloc (.cells #[.string n, .int .i64 a0, .int .i64 a1, .int .i64 a2, .int .i64 a3, .int .i64 a4, .int .i64 a5, .int .i64 a6, .int .i64 a7, .int .i64 a8, .int .i64 a9, .int .i64 a10, .int .i64 a11] 26)).alloc (.cells #[.int .i64 t, .int .i64 d] 37)) (w.heap.size + 1) 26 #[.string n, .int .i64 a0, .int .i64 a1, .int .i64 a2, .int .i64 a3, .int .i64 a4, .int .i64 a5, .int .i64 a6, .int .i64 a7, .int .i64 a8, .int .i64 a9, .int .i64 a10, .int .i64 a11] := by
    simpa using (Blk.new (w.alloc (.cells #[.int .i64 a, .int .i64 b, .int .i64 s] 51)) 26 #[.string n, .int .i64 a0, .int .i64 a1, .int .i64 a2, .int .i64 a3, .int .i64 a4, .int .i64 a5, .int .i64 a6, .int .i64 a7, .int .i64 a8, .int .i64 a9, .int .i64 a10, .int .i64 a11]).alloc (.cells #[.int .i64 t, .int .i64 d] 37)
  have hk2 : Blk (((w.alloc (.cells #[.int .i64 a, .int .i64 b, .int .i64 s] 51)).alloc (.cells #[.string n, .int .i64 a0, .int .i64 a1, .int .i64 a2, .int .i64 a3, .int .i64 a4, .int .i64 a5, .int .i64 a6, .int .i64 a7, .int .i64 a8, .int .i64 a9, .int .i64 a10, .int .i64 a11] 26)).alloc (.cells #[.int .i64 t, .int .i64 d] 37)) (w.heap.size + 2) 37 #[.int .i64 t, .int .i64 d] := by
    simpa using Blk.new ((w.alloc (.cells #[.int .i64 a, .int .i64 b, .int .i64 s] 51)).alloc (.cells #[.string n, .int .i64 a0, .int .i64 a1, .int .i64 a2, .int .i64 a3, .int .i64 a4, .int .i64 a5, .int .i64 a6, .int .i64 a7, .int .i64 a8, .int .i64 a9, .int .i64 a10, .int .i64 a11] 26)) 37 #[.int .i64 t, .int .i64 d]
  have hz : (((w.alloc (.cells #[.int .i64 a, .int .i64 b, .int .i64 s] 51)).alloc (.cells #[.string n, .int .i64 a0, .int .i64 a1, .int .i64 a2, .int .i64 a3, .int .i64 a4, .int .i64 a5, .int .i64 a6, .int .i64 a7, .int .i64 a8, .int .i64 a9, .int .i64 a10, .int .i64 a11] 26)).alloc (.cells #[.int .i64 t, .int .i64 d] 37)).heap.size = w.heap.size + 3 := by simp
  have HB := Lib.hid hb
  have HK1 := Lib.hid hk1
  have HK2 := Lib.hid hk2
  have HZ := Lib.hid hz
  clear hb hk1 hk2 hz
  by_cases h : chkZ a b s = 0
  · have H := Lib.hid h
    have hb0 : (chkZ a b s != 0) = false := by simp [h]
    clear h
    go_enter Tryd.func56, Tryd.ntmps56
    go_wp2_with fail
    refine (mcheck_any _ _ _ _).mono ?_
    rintro e w1 ⟨rfl, hb1⟩
    have hk1 := HK1.out.below hb1 (by rw [HZ.out]; omega)
    have hk2 := HK2.out.below hb1 (by rw [HZ.out]; omega)
    have c2 : w1.cell? ⟨w.heap.size + 1, 2, none⟩ = some (.int .i64 a1) := hk1.cell 2
    have c3 : w1.cell? ⟨w.heap.size + 1, 3, none⟩ = some (.int .i64 a2) := hk1.cell 3
    have c4 : w1.cell? ⟨w.heap.size + 1, 4, none⟩ = some (.int .i64 a3) := hk1.cell 4
    have d0 : w1.cell? ⟨w.heap.size + 2, 0, none⟩ = some (.int .i64 t) := hk2.cell 0
    have d1 : w1.cell? ⟨w.heap.size + 2, 1, none⟩ = some (.int .i64 d) := hk2.cell 1
    have HF := Lib.hid (HB.out.trans (hb1.mono (by rw [HZ.out]; omega)))
    have hs1 : w.heap.size + 3 ≤ w1.heap.size := by have := hb1.size; rw [HZ.out] at this; exact this
    clear hb1 hk1 hk2
    by_cases h2 : airZ t d = 0
    · have H2 := Lib.hid h2
      have hb2 : (airZ t d != 0) = false := by simp [h2]
      clear h2
      go_wp2_with fail
      refine (acheck_any _ _ _).mono ?_
      rintro e w2 ⟨rfl, hb2'⟩
      have c2 := (hb2'.cell (World.block_lt_of_cell? w1 _ c2)).trans c2
      have c3 := (hb2'.cell (World.block_lt_of_cell? w1 _ c3)).trans c3
      have c4 := (hb2'.cell (World.block_lt_of_cell? w1 _ c4)).trans c4
      have HF2 := Lib.hid (HF.out.trans (hb2'.mono HF.out.size))
      clear hb2'
      rcases Int.lt_or_le a1 a2 with q | q
      all_goals
        go_wp2
        all_goals go_ret
        all_goals exact ⟨ret_bool (compB_is H.out H2.out (by simp; try omega)), HF2.out⟩
    · have H2 := Lib.hid h2
      have hb2 : (airZ t d != 0) = true := by simpa using h2
      clear h2
      go_wp2_with fail
      refine (acheck_any _ _ _).mono ?_
      rintro e w2 ⟨rfl, hb2'⟩
      have HF2 := Lib.hid (HF.out.trans (hb2'.mono HF.out.size))
      clear hb2'
      go_wp2
      go_ret
      exact ⟨ret_bool (by unfold compB; rw [eq_comm, decide_eq_false_iff_not]; exact fun hh => H2.out hh.2.1), HF2.out⟩
  · have hb0 : (chkZ a b s != 0) = true := by simpa using h
    have H := Lib.hid h
    clear h
    go_enter Tryd.func56, Tryd.ntmps56
    go_wp2_with fail
    refine (mcheck_any _ _ _ _).mono ?_
    rintro e w1 ⟨rfl, hb1⟩
    have HF := Lib.hid (HB.out.trans (hb1.mono (by rw [HZ.out]; omega)))
    clear hb1
    go_wp2
    go_ret
    exact ⟨ret_bool (by unfold compB; rw [eq_comm, decide_eq_false_iff_not]; exact fun hh => H.out hh.1), HF.out⟩

end Go.Proofs.YtkedpokbbogkmaaDoor
