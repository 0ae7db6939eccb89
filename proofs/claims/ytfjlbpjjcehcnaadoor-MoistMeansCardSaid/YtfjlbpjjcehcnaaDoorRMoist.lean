/-
  Contracts of the reference's Check, Green, Mean, Gradient and Checks.
-/
import Derived.Test.YtfjlbpjjcehcnaaDoorMoist
namespace Go.Proofs.YtfjlbpjjcehcnaaDoor
open Go.RowKit

theorem rcheck_any (a b s : Int) (w : World) :
    Calls Tryd.prog 13 #[.agg #[.int .i64 a, .int .i64 b, .int .i64 s]] w fun e w' => e = .returned (.int .i64 (chkZ a b s)) ∧ Below w.heap.size w w' := by
  go_enter Tryd.func13, Tryd.ntmps13
  go_wp2
  all_goals go_ret
  all_goals refine ⟨ret_int ?_, below_new _ _⟩
  all_goals (unfold chkZ; split <;> (try split) <;> first | rfl | omega)

theorem rgreen_any (n : ByteArray) (a0 a1 a2 a3 a4 a5 a6 a7 a8 a9 a10 a11 : Int) (w : World) :
    Calls Tryd.prog 15 #[.agg #[.string n, .int .i64 a0, .int .i64 a1, .int .i64 a2, .int .i64 a3, .int .i64 a4, .int .i64 a5, .int .i64 a6, .int .i64 a7, .int .i64 a8, .int .i64 a9, .int .i64 a10, .int .i64 a11]] w fun e w' => e = .returned (.agg #[.int .i64 a0, .int .i64 a0, .int .i64 0]) ∧ Below w.heap.size w w' := by
  go_enter Tryd.func15, Tryd.ntmps15
  go_wp2
  exact bodyPost_ret (v := .agg #[.int .i64 a0, .int .i64 a0, .int .i64 0]) (by simp [results, Tryd.results15, go_sem]) rfl ⟨rfl, ((Below.refl _ _).alloc (Nat.le_refl _) _).alloc (by simp) _⟩


set_option maxHeartbeats 1000000 in
theorem rgrad_any (a b s : Int) (w : World) :
    Calls Tryd.prog 19 #[.agg #[.int .i64 a, .int .i64 b, .int .i64 s]] w fun e w' => e = .returned (.int .i64 (gradZ a b s)) ∧ Below w.heap.size w w' := by
  have hb := below_new w (.cells #[.int .i64 a, .int .i64 b, .int .i64 s] 23)
  have hk : Blk (w.alloc (.cells #[.int .i64 a, .int .i64 b, .int .i64 s] 23)) w.heap.size 23 #[.int .i64 a, .int .i64 b, .int .i64 s] := Blk.new w _ _
  have HB := Lib.hid hb
  have HK := Lib.hid hk
  clear hb hk
  by_cases h : chkZ a b s = 0
  · have h' := chkZ_ok.1 h
    have H := Lib.hid h
    have hb0 : (chkZ a b s != 0) = false := by simp [h]
    clear h
    go_enter Tryd.func19, Tryd.ntmps19
    go_wp2_with fail
    refine (rcheck_any _ _ _ _).mono ?_
    rintro e w1 ⟨rfl, hb1⟩
    have hk1 := HK.out.below hb1 (by simp)
    have c0 : w1.cell? ⟨w.heap.size, 0, none⟩ = some (.int .i64 a) := hk1.cell 0
    have c1 : w1.cell? ⟨w.heap.size, 1, none⟩ = some (.int .i64 b) := hk1.cell 1
    have HF := Lib.hid (HB.out.trans (hb1.mono (by simp)))
    clear hb1 hk1
    go_wp2
    go_ret
    exact ⟨ret_int (by unfold gradZ; rw [if_pos H.out]), HF.out⟩
  · have hb0 : (chkZ a b s != 0) = true := by simpa using h
    have H := Lib.hid h
    clear h
    go_enter Tryd.func19, Tryd.ntmps19
    go_wp2_with fail
    refine (rcheck_any _ _ _ _).mono ?_
    rintro e w1 ⟨rfl, hb1⟩
    have HF := Lib.hid (HB.out.trans (hb1.mono (by simp)))
    clear hb1
    go_wp2
    go_ret
    exact ⟨ret_int (by unfold gradZ; rw [if_neg H.out]), HF.out⟩

set_option maxHeartbeats 1000000 in
theorem rmean_any (a b s : Int) (w : World) :
    Calls Tryd.prog 17 #[.agg #[.int .i64 a, .int .i64 b, .int .i64 s]] w fun e w' => e = .returned (.int .i64 (meanZ a b s)) ∧ Below w.heap.size w w' := by
  have hb := below_new w (.cells #[.int .i64 a, .int .i64 b, .int .i64 s] 23)
  have hk : Blk (w.alloc (.cells #[.int .i64 a, .int .i64 b, .int .i64 s] 23)) w.heap.size 23 #[.int .i64 a, .int .i64 b, .int .i64 s] := Blk.new w _ _
  have HB := Lib.hid hb
  have HK := Lib.hid hk
  clear hb hk
  by_cases h : chkZ a b s = 0
  · have h' := chkZ_ok.1 h
    have H := Lib.hid h
    have hb0 : (chkZ a b s != 0) = false := by simp [h]
    clear h
    go_enter Tryd.func17, Tryd.ntmps17
    go_wp2_with fail
    refine (rcheck_any _ _ _ _).mono ?_
    rintro e w1 ⟨rfl, hb1⟩
    have hk1 := HK.out.below hb1 (by simp)
    have c0 : w1.cell? ⟨w.heap.size, 0, none⟩ = some (.int .i64 a) := hk1.cell 0
    have c1 : w1.cell? ⟨w.heap.size, 1, none⟩ = some (.int .i64 b) := hk1.cell 1
    have HF := Lib.hid (HB.out.trans (hb1.mono (by simp)))
    clear hb1 hk1
    go_wp2
    go_ret
    exact ⟨ret_int (by unfold meanZ; rw [if_pos H.out]), HF.out⟩
  · have hb0 : (chkZ a b s != 0) = true := by simpa using h
    have H := Lib.hid h
    clear h
    go_enter Tryd.func17, Tryd.ntmps17
    go_wp2_with fail
    refine (rcheck_any _ _ _ _).mono ?_
    rintro e w1 ⟨rfl, hb1⟩
    have HF := Lib.hid (HB.out.trans (hb1.mono (by simp)))
    clear hb1
    go_wp2
    go_ret
    exact ⟨ret_int (by unfold meanZ; rw [if_neg H.out]), HF.out⟩

set_option maxHeartbeats 1000000 in
theorem rchecks_any (a b s : Int) (n : ByteArray) (a0 a1 a2 a3 a4 k a6 a7 a8 a9 a10 a11 : Int) (w : World) (hk : k ≤ 9223372036854775807) :
    Calls Tryd.prog 21 #[.agg #[.int .i64 a, .int .i64 b, .int .i64 s], .agg #[.string n, .int .i64 a0, .int .i64 a1, .int .i64 a2, .int .i64 a3, .int .i64 a4, .int .i64 k, .int .i64 a6, .int .i64 a7, .int .i64 a8, .int .i64 a9, .int .i64 a10, .int .i64 a11]] w fun e w' => e = .returned (.int .i64 (checksZ a b s k)) ∧ Below w.heap.size w w' := by
  have hb := (below_new w (.cells #[.int .i64 a, .int .i64 b, .int .i64 s] 23)).alloc (by simp) (.cells #[.string n, .int .i64 a0, .int .i64 a1, .int .i64 a2, .int .i64 a3, .int .i64 a4, .int .i64 k, .int .i64 a6, .int .i64 a7, .int .i64 a8, .int .i64 a9, .int .i64 a10, .int .i64 a11] 25)
  have hk1 : Blk ((w.alloc (.cells #[.int .i64 a, .int .i64 b, .int .i64 s] 23)).alloc (.cells #[.string n, .int .i64 a0, .int .i64 a1, .int .i64 a2, .int .i64 a3, .int .i64 a4, .int .i64 k, .int .i64 a6, .int .i64 a7, .int .i64 a8, .int .i64 a9, .int .i64 a10, .int .i64 a11] 25)) w.heap.size 23 #[.int .i64 a, .int .i64 b, .int .i64 s] := (Blk.new w _ _).alloc _
  have hk2 := Blk.new (w.alloc (.cells #[.int .i64 a, .int .i64 b, .int .i64 s] 23)) 25 #[.string n, .int .i64 a0, .int .i64 a1, .int .i64 a2, .int .i64 a3, .int .i64 a4, .int .i64 k, .int .i64 a6, .int .i64 a7, .int .i64 a8, .int .i64 a9, .int .i64 a10, .int .i64 a11]
  have HB := Lib.hid hb
  have HK1 := Lib.hid hk1
  have HK2 := Lib.hid hk2
  clear hb hk1 hk2
  by_cases h : chkZ a b s = 0
  · have h' := chkZ_ok.1 h
    have H := Lib.hid h
    have hb0 : (chkZ a b s != 0) = false := by simp [h]
    clear h
    go_enter Tryd.func21, Tryd.ntmps21
    go_wp2_with fail
    refine (rcheck_any _ _ _ _).mono ?_
    rintro e w1 ⟨rfl, hb1⟩
    have hk1 := HK1.out.below hb1 (by simp; omega)
    have hk2 := HK2.out.below hb1 (by simp)
    have c2 : w1.cell? ⟨w.heap.size, 2, none⟩ = some (.int .i64 s) := hk1.cell 2
    have c6 : w1.cell? ⟨w.heap.size + 1, 6, none⟩ = some (.int .i64 k) := by simpa using hk2.cell 6
    have HF := Lib.hid (HB.out.trans (hb1.mono (by simp; omega)))
    clear hb1 hk1 hk2
    rcases Int.lt_or_le k 1 with q | q
    · go_wp2
      go_ret
      exact ⟨ret_int (by unfold checksZ; rw [if_neg (by omega)]), HF.out⟩
    · go_wp2
      go_ret
      exact ⟨ret_int (by unfold checksZ; rw [if_pos ⟨H.out, q⟩]), HF.out⟩
  · have hb0 : (chkZ a b s != 0) = true := by simpa using h
    have H := Lib.hid h
    clear h
    go_enter Tryd.func21, Tryd.ntmps21
    go_wp2_with fail
    refine (rcheck_any _ _ _ _).mono ?_
    rintro e w1 ⟨rfl, hb1⟩
    have HF := Lib.hid (HB.out.trans (hb1.mono (by simp; omega)))
    clear hb1
    go_wp2
    all_goals go_ret
    all_goals exact ⟨ret_int (by unfold checksZ; rw [if_neg (fun q => H.out q.1)]), HF.out⟩

end Go.Proofs.YtfjlbpjjcehcnaaDoor
