/-
  The examples of the chapter: sample and awake.
-/
import Derived.Test.YtfjlbpjjcehcnaaDoorBase36
import Derived.Test.YtfjlbpjjcehcnaaDoorOwn
import Derived.Deep.DeepCutAuto
namespace Go.Proofs.YtfjlbpjjcehcnaaDoor
open Go.RowKit Go.Proofs.YtfjlbpjjcehcnaaDoorW.PrintLast
set_option linter.unusedSimpArgs false

set_option maxHeartbeats 1000000 in
set_option maxRecDepth 100000 in
theorem sample_any (w : World) : Calls Tryd.prog 30 #[] w fun e w' => e = .returned (.agg #[.int .i64 9000, .int .i64 9000, .int .i64 0, .string ⟨#[]⟩, .int .i64 9000, .int .i64 500, .int .i64 80, .int .i64 600, .int .i64 0, .int .i64 100, .int .i64 0, .int .i64 0, .int .i64 0, .int .i64 0, .int .i64 0, .int .i64 0, .int .i64 25, .int .i64 200, .int .i64 100, .bool true]) ∧ Below w.heap.size w w' := by
  have hk0 : Blk ((w.alloc (.cells #[.int .i64 0, .int .i64 0, .int .i64 0, .string ⟨#[]⟩, .int .i64 0, .int .i64 0, .int .i64 0, .int .i64 0, .int .i64 0, .int .i64 0, .int .i64 0, .int .i64 0, .int .i64 0, .int .i64 0, .int .i64 0, .int .i64 0, .int .i64 0, .int .i64 0, .int .i64 0, .bool false] 29)).alloc (.cells #[.string ⟨#[]⟩, .int .i64 0, .int .i64 0, .int .i64 0, .int .i64 0, .int .i64 0, .int .i64 0, .int .i64 0, .int .i64 0, .int .i64 0, .int .i64 0, .int .i64 0, .int .i64 0] 25)) w.heap.size 29 #[.int .i64 0, .int .i64 0, .int .i64 0, .string ⟨#[]⟩, .int .i64 0, .int .i64 0, .int .i64 0, .int .i64 0, .int .i64 0, .int .i64 0, .int .i64 0, .int .i64 0, .int .i64 0, .int .i64 0, .int .i64 0, .int .i64 0, .int .i64 0, .int .i64 0, .int .i64 0, .bool false] := (Blk.new w _ _).alloc _
  have hk1 : Blk ((w.alloc (.cells #[.int .i64 0, .int .i64 0, .int .i64 0, .string ⟨#[]⟩, .int .i64 0, .int .i64 0, .int .i64 0, .int .i64 0, .int .i64 0, .int .i64 0, .int .i64 0, .int .i64 0, .int .i64 0, .int .i64 0, .int .i64 0, .int .i64 0, .int .i64 0, .int .i64 0, .int .i64 0, .bool false] 29)).alloc (.cells #[.string ⟨#[]⟩, .int .i64 0, .int .i64 0, .int .i64 0, .int .i64 0, .int .i64 0, .int .i64 0, .int .i64 0, .int .i64 0, .int .i64 0, .int .i64 0, .int .i64 0, .int .i64 0] 25)) (w.heap.size + 1) 25 #[.string ⟨#[]⟩, .int .i64 0, .int .i64 0, .int .i64 0, .int .i64 0, .int .i64 0, .int .i64 0, .int .i64 0, .int .i64 0, .int .i64 0, .int .i64 0, .int .i64 0, .int .i64 0] := by
    simpa using Blk.new (w.alloc (.cells #[.int .i64 0, .int .i64 0, .int .i64 0, .string ⟨#[]⟩, .int .i64 0, .int .i64 0, .int .i64 0, .int .i64 0, .int .i64 0, .int .i64 0, .int .i64 0, .int .i64 0, .int .i64 0, .int .i64 0, .int .i64 0, .int .i64 0, .int .i64 0, .int .i64 0, .int .i64 0, .bool false] 29)) 25 #[.string ⟨#[]⟩, .int .i64 0, .int .i64 0, .int .i64 0, .int .i64 0, .int .i64 0, .int .i64 0, .int .i64 0, .int .i64 0, .int .i64 0, .int .i64 0, .int .i64 0, .int .i64 0]
  have hb := (below_new w (.cells #[.int .i64 0, .int .i64 0, .int .i64 0, .string ⟨#[]⟩, .int .i64 0, .int .i64 0, .int .i64 0, .int .i64 0, .int .i64 0, .int .i64 0, .int .i64 0, .int .i64 0, .int .i64 0, .int .i64 0, .int .i64 0, .int .i64 0, .int .i64 0, .int .i64 0, .int .i64 0, .bool false] 29)).alloc (by simp) (.cells #[.string ⟨#[]⟩, .int .i64 0, .int .i64 0, .int .i64 0, .int .i64 0, .int .i64 0, .int .i64 0, .int .i64 0, .int .i64 0, .int .i64 0, .int .i64 0, .int .i64 0, .int .i64 0] 25)
  have hz : ((w.alloc (.cells #[.int .i64 0, .int .i64 0, .int .i64 0, .string ⟨#[]⟩, .int .i64 0, .int .i64 0, .int .i64 0, .int .i64 0, .int .i64 0, .int .i64 0, .int .i64 0, .int .i64 0, .int .i64 0, .int .i64 0, .int .i64 0, .int .i64 0, .int .i64 0, .int .i64 0, .int .i64 0, .bool false] 29)).alloc (.cells #[.string ⟨#[]⟩, .int .i64 0, .int .i64 0, .int .i64 0, .int .i64 0, .int .i64 0, .int .i64 0, .int .i64 0, .int .i64 0, .int .i64 0, .int .i64 0, .int .i64 0, .int .i64 0] 25)).heap.size = w.heap.size + 2 := by simp
  have K0 := Lib.hid hk0
  have K1 := Lib.hid hk1
  have HB := Lib.hid hb
  have HZ := Lib.hid hz
  clear hk0 hk1 hb hz
  go_enter Tryd.func30, Tryd.ntmps30
  go_wp2_with (first
    | (refine wpList_build_is rfl 25 _ rfl #[.string ⟨#[]⟩, .int .i64 9000, .int .i64 500, .int .i64 80, .int .i64 600, .int .i64 0, .int .i64 100, .int .i64 0, .int .i64 0, .int .i64 0, .int .i64 0, .int .i64 0, .int .i64 0] (by kernel_rfl) ?_)
    | (refine wpList_build_is rfl 29 _ rfl #[.int .i64 9000, .int .i64 9000, .int .i64 0, .string ⟨#[]⟩, .int .i64 9000, .int .i64 500, .int .i64 80, .int .i64 600, .int .i64 0, .int .i64 100, .int .i64 0, .int .i64 0, .int .i64 0, .int .i64 0, .int .i64 0, .int .i64 0, .int .i64 25, .int .i64 200, .int .i64 100, .bool true] (by kernel_rfl) ?_)
    | ((refine wpList_store_blk rfl 25 _ _ rfl (w.heap.size + 1) _ rfl rfl 25 _ K1.out rfl (by kernel_rfl) (by kernel_rfl) ?_); intro w1 k1 g1 z1; have J1 := Lib.hid k1; have J0 := Lib.hid (K0.out.grown g1 (by simp)); have JB := Lib.hid (below_grown HB.out (by rw [HZ.out]; omega) (by omega) g1); clear g1 z1 k1)
    | (refine wpList_load_blk rfl 25 _ rfl (w.heap.size + 1) rfl 25 _ J1.out _ Tryd.underlying25 rfl (by kernel_rfl) ?_)
    | ((refine wpList_store_blk rfl 29 _ _ rfl w.heap.size _ rfl rfl 29 _ J0.out rfl (by kernel_rfl) (by kernel_rfl) ?_); intro w2 k2 g2 z2; have I0 := Lib.hid k2; have IB := Lib.hid (below_grown JB.out JB.out.size (Nat.le_refl _) g2); clear g2 z2 k2))
  exact bodyPost_ret (results_cell_row Tryd.results30 _ _ w.heap.size 29 _ (0, 0) _ rfl I0.out Tryd.underlying29 rfl (by kernel_rfl)) rfl ⟨rfl, IB.out⟩

theorem tick1 (w : World) (hG : Hid (Glob w)) : Calls Tryd.prog 9 #[.agg #[.int .i64 9000, .int .i64 9000, .int .i64 0, .string ⟨#[]⟩, .int .i64 9000, .int .i64 500, .int .i64 80, .int .i64 600, .int .i64 0, .int .i64 100, .int .i64 0, .int .i64 0, .int .i64 0, .int .i64 0, .int .i64 0, .int .i64 0, .int .i64 25, .int .i64 200, .int .i64 100, .bool true]] w fun e w' => e = .returned (.agg #[.int .i64 8613, .int .i64 8997, .int .i64 0]) ∧ Below w.heap.size w w' := by
  have h := ltick_any 9000 9000 0 ⟨#[]⟩ 9000 500 80 600 0 100 0 0 0 0 0 0 25 200 100 true w hG
  have e : tickZ 9000 9000 0 500 80 600 25 200 100 true = (8613, 8997, 0) := by decide +kernel
  rw [e] at h
  exact h
theorem tick2 (w : World) (hG : Hid (Glob w)) : Calls Tryd.prog 9 #[.agg #[.int .i64 2000, .int .i64 3000, .int .i64 5, .string ⟨#[]⟩, .int .i64 9000, .int .i64 500, .int .i64 80, .int .i64 600, .int .i64 0, .int .i64 100, .int .i64 0, .int .i64 0, .int .i64 0, .int .i64 0, .int .i64 0, .int .i64 0, .int .i64 25, .int .i64 200, .int .i64 100, .bool false]] w fun e w' => e = .returned (.agg #[.int .i64 2000, .int .i64 2992, .int .i64 397]) ∧ Below w.heap.size w w' := by
  have h := ltick_any 2000 3000 5 ⟨#[]⟩ 9000 500 80 600 0 100 0 0 0 0 0 0 25 200 100 false w hG
  have e : tickZ 2000 3000 5 500 80 600 25 200 100 false = (2000, 2992, 397) := by decide +kernel
  rw [e] at h
  exact h
theorem green1 (w : World) : Calls Tryd.prog 14 #[.agg #[.string ⟨#[]⟩, .int .i64 9000, .int .i64 500, .int .i64 80, .int .i64 600, .int .i64 0, .int .i64 100, .int .i64 0, .int .i64 0, .int .i64 0, .int .i64 0, .int .i64 0, .int .i64 0]] w fun e w' => e = .returned (.agg #[.int .i64 9000, .int .i64 9000, .int .i64 0]) ∧ Below w.heap.size w w' := green_any ⟨#[]⟩ 9000 500 80 600 0 100 0 0 0 0 0 0 w
theorem mean1 (w : World) : Calls Tryd.prog 16 #[.agg #[.int .i64 8613, .int .i64 8997, .int .i64 0]] w fun e w' => e = .returned (.int .i64 8869) ∧ Below w.heap.size w w' := by
  have h := mean_any 8613 8997 0 w
  rw [show meanZ 8613 8997 0 = 8869 by decide +kernel] at h
  exact h
theorem grad1 (w : World) : Calls Tryd.prog 18 #[.agg #[.int .i64 8613, .int .i64 8997, .int .i64 0]] w fun e w' => e = .returned (.int .i64 384) ∧ Below w.heap.size w w' := by
  have h := grad_any 8613 8997 0 w
  rw [show gradZ 8613 8997 0 = 384 by decide +kernel] at h
  exact h
theorem checks1 (w : World) : Calls Tryd.prog 20 #[.agg #[.int .i64 2000, .int .i64 2992, .int .i64 397], .agg #[.string ⟨#[]⟩, .int .i64 9000, .int .i64 500, .int .i64 80, .int .i64 600, .int .i64 0, .int .i64 100, .int .i64 0, .int .i64 0, .int .i64 0, .int .i64 0, .int .i64 0, .int .i64 0]] w fun e w' => e = .returned (.int .i64 3) ∧ Below w.heap.size w w' := by
  have h := checks_any 2000 2992 397 ⟨#[]⟩ 9000 500 80 600 0 100 0 0 0 0 0 0 w (by decide)
  rw [show checksZ 2000 2992 397 100 = 3 by decide +kernel] at h
  exact h
theorem check1 (w : World) : Calls Tryd.prog 12 #[.agg #[.int .i64 2000, .int .i64 2992, .int .i64 397]] w fun e w' => e = .returned (.int .i64 0) ∧ Below w.heap.size w w' := by
  have h := mcheck_any 2000 2992 397 w
  rw [show chkZ 2000 2992 397 = 0 by decide +kernel] at h
  exact h
theorem check2 (w : World) : Calls Tryd.prog 12 #[.agg #[.int .i64 (-1), .int .i64 0, .int .i64 0]] w fun e w' => e = .returned (.int .i64 25) ∧ Below w.heap.size w w' := by
  have h := mcheck_any (-1) 0 0 w
  rw [show chkZ (-1) 0 0 = 25 by decide +kernel] at h
  exact h
set_option maxHeartbeats 4000000 in
set_option maxRecDepth 100000 in
theorem awake_any (w : World) (hG : Hid (Glob w)) : Calls Tryd.prog 11 #[] w fun e w' => e = .returned (.bool true) ∧ Below w.heap.size w w' := by
  have hO := Own.nil w
  go_enter Tryd.func11, Tryd.ntmps11
  go_wp2_with fail
  refine (sample_any _).mono ?_
  rintro e w1 ⟨rfl, hb1⟩
  replace hO := Own.call hO hb1
  clear hb1
  go_upto_region 5 with (first
    | (refine own_alloc rfl 29 rfl hO _ rfl #[.int .i64 0, .int .i64 0, .int .i64 0, .string ⟨#[]⟩, .int .i64 0, .int .i64 0, .int .i64 0, .int .i64 0, .int .i64 0, .int .i64 0, .int .i64 0, .int .i64 0, .int .i64 0, .int .i64 0, .int .i64 0, .int .i64 0, .int .i64 0, .int .i64 0, .int .i64 0, .bool false] (by kernel_rfl) ?_; clear hO; (try clear w_); intro g_ w_ hO)
    | (refine own_box rfl 29 _ rfl hO _ rfl ?_ ?_ ?_; rotate_left; (focus (first | (go_simp; done) | (go_simp; with_reducible rfl) | rfl)); clear hO; (try clear w_); intro g_ w_ hO; simp only [Value.cells] at hO)
    | ((first | refine own_load_row rfl 29 _ rfl hO 0 _ _ rfl _ _ rfl _ rfl 20 ?_ ?_ ?_ _ Tryd.underlying29 rfl ?_ ?_ | refine own_load_row rfl 29 _ rfl hO 1 _ _ rfl _ _ rfl _ rfl 20 ?_ ?_ ?_ _ Tryd.underlying29 rfl ?_ ?_); rotate_left; (focus (simp only [Array.toList_extract, List.extract_toArray, List.extract_eq_take_drop, List.drop_zero, List.drop_succ_cons, List.take_succ_cons, List.take_zero, Nat.reduceAdd, Nat.reduceSub, Nat.zero_add, Nat.add_zero, Nat.add_sub_cancel_left, Nat.sub_zero, Nat.sub_self]; rfl)); (focus rfl); (focus kernel_rfl))
    | ((first | refine own_store rfl 29 _ _ rfl hO 0 _ _ ?_ rfl ?_ _ _ rfl _ rfl ?_ ?_ ?_ ?_ | refine own_store rfl 29 _ _ rfl hO 1 _ _ ?_ rfl ?_ _ _ rfl _ rfl ?_ ?_ ?_ ?_); rotate_left; (focus (first | (go_simp; done) | (go_simp; with_reducible rfl) | rfl)); (focus kernel_rfl); (focus kernel_rfl); (focus kernel_rfl); clear hO; (try clear w_); intro w_ hO; simp only [List.set_cons_zero, List.set_cons_succ, putAllA, Value.cells, List.setIfInBounds_toArray] at hO)
    | (refine own_alloc rfl 23 rfl hO _ rfl #[.int .i64 0, .int .i64 0, .int .i64 0] (by kernel_rfl) ?_; clear hO; (try clear w_); intro g_ w_ hO)
    | (refine own_box rfl 23 _ rfl hO _ rfl ?_ ?_ ?_; rotate_left; (focus (first | (go_simp; done) | (go_simp; with_reducible rfl) | rfl)); clear hO; (try clear w_); intro g_ w_ hO; simp only [Value.cells] at hO)
    | ((first | refine own_load_row rfl 23 _ rfl hO 0 _ _ rfl _ _ rfl _ rfl 3 ?_ ?_ ?_ _ Tryd.underlying23 rfl ?_ ?_ | refine own_load_row rfl 23 _ rfl hO 1 _ _ rfl _ _ rfl _ rfl 3 ?_ ?_ ?_ _ Tryd.underlying23 rfl ?_ ?_); rotate_left; (focus (simp only [Array.toList_extract, List.extract_toArray, List.extract_eq_take_drop, List.drop_zero, List.drop_succ_cons, List.take_succ_cons, List.take_zero, Nat.reduceAdd, Nat.reduceSub, Nat.zero_add, Nat.add_zero, Nat.add_sub_cancel_left, Nat.sub_zero, Nat.sub_self]; rfl)); (focus rfl); (focus kernel_rfl))
    | ((first | refine own_store rfl 23 _ _ rfl hO 0 _ _ ?_ rfl ?_ _ _ rfl _ rfl ?_ ?_ ?_ ?_ | refine own_store rfl 23 _ _ rfl hO 1 _ _ ?_ rfl ?_ _ _ rfl _ rfl ?_ ?_ ?_ ?_); rotate_left; (focus (first | (go_simp; done) | (go_simp; with_reducible rfl) | rfl)); (focus kernel_rfl); (focus kernel_rfl); (focus kernel_rfl); clear hO; (try clear w_); intro w_ hO; simp only [List.set_cons_zero, List.set_cons_succ, putAllA, Value.cells, List.setIfInBounds_toArray] at hO)
    | (refine own_alloc rfl 3 rfl hO _ rfl #[.int .i64 0] (by kernel_rfl) ?_; clear hO; (try clear w_); intro g_ w_ hO)
    | (refine own_box rfl 3 _ rfl hO _ rfl ?_ ?_ ?_; rotate_left; (focus (first | (go_simp; done) | (go_simp; with_reducible rfl) | rfl)); clear hO; (try clear w_); intro g_ w_ hO; simp only [Value.cells] at hO)
    | ((first | refine own_load_one rfl 3 _ rfl hO 0 _ _ rfl _ _ rfl _ rfl ?_ ?_ _ Tryd.underlying3 rfl ?_ | refine own_load_one rfl 3 _ rfl hO 1 _ _ rfl _ _ rfl _ rfl ?_ ?_ _ Tryd.underlying3 rfl ?_); rotate_left; (focus (simp only [List.getElem?_toArray, List.getElem?_cons_zero, List.getElem?_cons_succ]; rfl)))
    | ((first | refine own_store rfl 3 _ _ rfl hO 0 _ _ ?_ rfl ?_ _ _ rfl _ rfl ?_ ?_ ?_ ?_ | refine own_store rfl 3 _ _ rfl hO 1 _ _ ?_ rfl ?_ _ _ rfl _ rfl ?_ ?_ ?_ ?_); rotate_left; (focus (first | (go_simp; done) | (go_simp; with_reducible rfl) | rfl)); (focus kernel_rfl); (focus kernel_rfl); (focus kernel_rfl); clear hO; (try clear w_); intro w_ hO; simp only [List.set_cons_zero, List.set_cons_succ, putAllA, Value.cells, List.setIfInBounds_toArray] at hO)
    | (refine own_alloc rfl 4 rfl hO _ rfl #[.bool false] (by kernel_rfl) ?_; clear hO; (try clear w_); intro g_ w_ hO)
    | (refine own_box rfl 4 _ rfl hO _ rfl ?_ ?_ ?_; rotate_left; (focus (first | (go_simp; done) | (go_simp; with_reducible rfl) | rfl)); clear hO; (try clear w_); intro g_ w_ hO; simp only [Value.cells] at hO)
    | ((first | refine own_load_one rfl 4 _ rfl hO 0 _ _ rfl _ _ rfl _ rfl ?_ ?_ _ Tryd.underlying4 rfl ?_ | refine own_load_one rfl 4 _ rfl hO 1 _ _ rfl _ _ rfl _ rfl ?_ ?_ _ Tryd.underlying4 rfl ?_); rotate_left; (focus (simp only [List.getElem?_toArray, List.getElem?_cons_zero, List.getElem?_cons_succ]; rfl)))
    | ((first | refine own_store rfl 4 _ _ rfl hO 0 _ _ ?_ rfl ?_ _ _ rfl _ rfl ?_ ?_ ?_ ?_ | refine own_store rfl 4 _ _ rfl hO 1 _ _ ?_ rfl ?_ _ _ rfl _ rfl ?_ ?_ ?_ ?_); rotate_left; (focus (first | (go_simp; done) | (go_simp; with_reducible rfl) | rfl)); (focus kernel_rfl); (focus kernel_rfl); (focus kernel_rfl); clear hO; (try clear w_); intro w_ hO; simp only [List.set_cons_zero, List.set_cons_succ, putAllA, Value.cells, List.setIfInBounds_toArray] at hO)
    )
  simp only [Act.put, List.setIfInBounds_toArray, List.set_cons_zero, List.set_cons_succ]
  rename_i ga _ _
  go_cut [3, 4] (fun v3 v4 wc => ∃ g3 g4 : Nat, v3 = .pointer (some ⟨g3, 0, none⟩) ∧ v4 = .pointer (some ⟨g4, 0, none⟩) ∧ Own w [(g3, 23, #[.int .i64 8613, .int .i64 8997, .int .i64 0]), (g4, 23, #[.int .i64 2000, .int .i64 2992, .int .i64 397]), (g_, 29, #[.int .i64 2000, .int .i64 3000, .int .i64 5, .string ⟨#[]⟩, .int .i64 9000, .int .i64 500, .int .i64 80, .int .i64 600, .int .i64 0, .int .i64 100, .int .i64 0, .int .i64 0, .int .i64 0, .int .i64 0, .int .i64 0, .int .i64 0, .int .i64 25, .int .i64 200, .int .i64 100, .bool false]), (ga, 29, #[.int .i64 9000, .int .i64 9000, .int .i64 0, .string ⟨#[]⟩, .int .i64 9000, .int .i64 500, .int .i64 80, .int .i64 600, .int .i64 0, .int .i64 100, .int .i64 0, .int .i64 0, .int .i64 0, .int .i64 0, .int .i64 0, .int .i64 0, .int .i64 25, .int .i64 200, .int .i64 100, .bool true])] wc)
  case first =>
    have HG := Lib.hid hG
    refine start_ (n := 8) (S := fun w' => Own w [(g_, 29, #[.int .i64 2000, .int .i64 3000, .int .i64 5, .string ⟨#[]⟩, .int .i64 9000, .int .i64 500, .int .i64 80, .int .i64 600, .int .i64 0, .int .i64 100, .int .i64 0, .int .i64 0, .int .i64 0, .int .i64 0, .int .i64 0, .int .i64 0, .int .i64 25, .int .i64 200, .int .i64 100, .bool false]), (ga, 29, #[.int .i64 9000, .int .i64 9000, .int .i64 0, .string ⟨#[]⟩, .int .i64 9000, .int .i64 500, .int .i64 80, .int .i64 600, .int .i64 0, .int .i64 100, .int .i64 0, .int .i64 0, .int .i64 0, .int .i64 0, .int .i64 0, .int .i64 0, .int .i64 25, .int .i64 200, .int .i64 100, .bool true])] w') (ds := [6, 7]) #[false, false, false, false, false, false, false, false] (by kernel_rfl) rfl rfl (Own.drew hO) (fun hS => ?_)
    clear hO
    have hO := hS
    first
      | (refine take_ (i := 0) (N := some 10) (a' := ?_) #[true, false, false, false, false, false, false, false] rfl rfl (by kernel_rfl) (fun _ _ _ h => h) (yRow hS ?_ 29 _ rfl 0 _ _ rfl _ _ rfl 20 ?_ ?_ ?_ _ Tryd.underlying29 rfl ?_) hS ?_ ?_; (focus rfl); rotate_left; (focus (simp only [Array.toList_extract, List.extract_toArray, List.extract_eq_take_drop, List.drop_zero, List.drop_succ_cons, List.take_succ_cons, List.take_zero, Nat.reduceAdd, Nat.reduceSub, Nat.zero_add, Nat.add_zero, Nat.add_sub_cancel_left, Nat.sub_zero, Nat.sub_self]; rfl)); (focus rfl); (focus kernel_rfl); rotate_left; (focus (simp only [Act.put, List.setIfInBounds_toArray, List.set_cons_zero, List.set_cons_succ]; rfl)))
      | (refine take_ (i := 0) (N := some 10) (a' := ?_) #[true, false, false, false, false, false, false, false] rfl rfl (by kernel_rfl) (fun _ _ _ h => h) (yRow hS ?_ 29 _ rfl 1 _ _ rfl _ _ rfl 20 ?_ ?_ ?_ _ Tryd.underlying29 rfl ?_) hS ?_ ?_; (focus rfl); rotate_left; (focus (simp only [Array.toList_extract, List.extract_toArray, List.extract_eq_take_drop, List.drop_zero, List.drop_succ_cons, List.take_succ_cons, List.take_zero, Nat.reduceAdd, Nat.reduceSub, Nat.zero_add, Nat.add_zero, Nat.add_sub_cancel_left, Nat.sub_zero, Nat.sub_self]; rfl)); (focus rfl); (focus kernel_rfl); rotate_left; (focus (simp only [Act.put, List.setIfInBounds_toArray, List.set_cons_zero, List.set_cons_succ]; rfl)))
    first
      | (refine take_ (i := 2) (N := some 12) (a' := ?_) #[true, false, true, false, false, false, false, false] rfl rfl (by kernel_rfl) (fun _ _ _ h => h) (yRow hS ?_ 29 _ rfl 0 _ _ rfl _ _ rfl 20 ?_ ?_ ?_ _ Tryd.underlying29 rfl ?_) hS ?_ ?_; (focus rfl); rotate_left; (focus (simp only [Array.toList_extract, List.extract_toArray, List.extract_eq_take_drop, List.drop_zero, List.drop_succ_cons, List.take_succ_cons, List.take_zero, Nat.reduceAdd, Nat.reduceSub, Nat.zero_add, Nat.add_zero, Nat.add_sub_cancel_left, Nat.sub_zero, Nat.sub_self]; rfl)); (focus rfl); (focus kernel_rfl); rotate_left; (focus (simp only [Act.put, List.setIfInBounds_toArray, List.set_cons_zero, List.set_cons_succ]; rfl)))
      | (refine take_ (i := 2) (N := some 12) (a' := ?_) #[true, false, true, false, false, false, false, false] rfl rfl (by kernel_rfl) (fun _ _ _ h => h) (yRow hS ?_ 29 _ rfl 1 _ _ rfl _ _ rfl 20 ?_ ?_ ?_ _ Tryd.underlying29 rfl ?_) hS ?_ ?_; (focus rfl); rotate_left; (focus (simp only [Array.toList_extract, List.extract_toArray, List.extract_eq_take_drop, List.drop_zero, List.drop_succ_cons, List.take_succ_cons, List.take_zero, Nat.reduceAdd, Nat.reduceSub, Nat.zero_add, Nat.add_zero, Nat.add_sub_cancel_left, Nat.sub_zero, Nat.sub_self]; rfl)); (focus rfl); (focus kernel_rfl); rotate_left; (focus (simp only [Act.put, List.setIfInBounds_toArray, List.set_cons_zero, List.set_cons_succ]; rfl)))
    refine three_ (i := 1) (j := 4) (k := 5) (Ni := some 11) (Nj := some 3) (Nk := some 4) #[true, true, true, false, false, false, false, false] #[true, false, true, false, true, false, false, false] #[true, false, true, false, false, true, false, false] rfl rfl rfl rfl rfl rfl (by kernel_rfl) (by decide) (by decide) (by decide) (fun K hK => ?_) (fun K hK => ?_) (fun K hK => ?_)
    · -- number 1
      refine goes_ Tryd.func9 (by kernel_rfl) rfl #[.agg #[.int .i64 9000, .int .i64 9000, .int .i64 0, .string ⟨#[]⟩, .int .i64 9000, .int .i64 500, .int .i64 80, .int .i64 600, .int .i64 0, .int .i64 100, .int .i64 0, .int .i64 0, .int .i64 0, .int .i64 0, .int .i64 0, .int .i64 0, .int .i64 25, .int .i64 200, .int .i64 100, .bool true]] (by rfl) rfl rfl (by (try simp only [List.map_toArray, List.map_cons, List.map_nil]); first | done | rfl) ?_
      with_reducible refine (tick1 _ (Lib.hid (hG.out.below hO.bel))).mono ?_
      rintro e w_ ⟨rfl, hb_⟩
      refine ⟨_, rfl, ?_⟩
      replace hO := Own.call hO hb_
      clear hb_
      refine hK.out _ _ (hO) (fun hS => ?_)
      clear hK K
      refine norm_ (a' := ?_) ?_ ?_
      rotate_left
      · show Act.put _ (some 11) _ = _
        simp only [Act.put, List.setIfInBounds_toArray, List.set_cons_zero, List.set_cons_succ]
        rfl
      refine three_ (i := 3) (j := 4) (k := 5) (Ni := some 13) (Nj := some 3) (Nk := some 4) #[true, true, true, true, false, false, false, false] #[true, true, true, false, true, false, false, false] #[true, true, true, false, false, true, false, false] rfl rfl rfl rfl rfl rfl (by kernel_rfl) (by decide) (by decide) (by decide) (fun K hK => ?_) (fun K hK => ?_) (fun K hK => ?_)
      · -- number 3
        refine goes_ Tryd.func9 (by kernel_rfl) rfl #[.agg #[.int .i64 2000, .int .i64 3000, .int .i64 5, .string ⟨#[]⟩, .int .i64 9000, .int .i64 500, .int .i64 80, .int .i64 600, .int .i64 0, .int .i64 100, .int .i64 0, .int .i64 0, .int .i64 0, .int .i64 0, .int .i64 0, .int .i64 0, .int .i64 25, .int .i64 200, .int .i64 100, .bool false]] (by rfl) rfl rfl (by (try simp only [List.map_toArray, List.map_cons, List.map_nil]); first | done | rfl) ?_
        with_reducible refine (tick2 _ (Lib.hid (hG.out.below hO.bel))).mono ?_
        rintro e w_ ⟨rfl, hb_⟩
        refine ⟨_, rfl, ?_⟩
        replace hO := Own.call hO hb_
        clear hb_
        refine hK.out _ _ (hO) (fun hS => ?_)
        clear hK K
        refine norm_ (a' := ?_) ?_ ?_
        rotate_left
        · show Act.put _ (some 13) _ = _
          simp only [Act.put, List.setIfInBounds_toArray, List.set_cons_zero, List.set_cons_succ]
          rfl
        refine two_ (i := 4) (j := 5) (Ni := some 3) (Nj := some 4) #[true, true, true, true, true, false, false, false] #[true, true, true, true, false, true, false, false] rfl rfl rfl rfl (by kernel_rfl) (by decide) (by decide) (fun K hK => ?_) (fun K hK => ?_)
        · -- number 4
          refine rAlloc (by rfl) rfl 23 rfl hO #[.int .i64 0, .int .i64 0, .int .i64 0] (by kernel_rfl) ?_
          clear hO
          intro ha w_ hO
          refine hK.out _ _ (Own.sub hO (List.Sublist.cons _ (List.Sublist.refl _))) (fun hS => ?_)
          clear hK K
          refine norm_ (a' := ?_) ?_ ?_
          rotate_left
          · show Act.put _ (some 3) _ = _
            simp only [Act.put, List.setIfInBounds_toArray, List.set_cons_zero, List.set_cons_succ]
            rfl
          refine one_ (i := 5) (N := some 4) #[true, true, true, true, true, true, false, false] rfl rfl (by kernel_rfl) (by decide) (fun K hK => ?_)
          refine rAlloc (by rfl) rfl 23 rfl hO #[.int .i64 0, .int .i64 0, .int .i64 0] (by kernel_rfl) ?_
          clear hO
          intro hb w_ hO
          refine hK.out _ _ (Own.sub hO (List.Sublist.cons _ (List.Sublist.cons _ (List.Sublist.refl _)))) (fun hS => ?_)
          clear hK K
          refine norm_ (a' := ?_) ?_ ?_
          rotate_left
          · show Act.put _ (some 4) _ = _
            simp only [Act.put, List.setIfInBounds_toArray, List.set_cons_zero, List.set_cons_succ]
            rfl
          refine last_ (i := 6) (N := none) #[true, true, true, true, true, true, true, false] rfl rfl (by kernel_rfl) (by decide) (fun K hK => ?_)
          refine rStore (by rfl) rfl 23 _ _ rfl hO 1 _ _ ?_ rfl ?_ _ _ rfl ?_ ?_ ?_ ?_
          rotate_left
          · first | (go_simp; done) | (go_simp; with_reducible rfl) | rfl
          · kernel_rfl
          · kernel_rfl
          · kernel_rfl
          clear hO
          intro w_ hO
          simp only [List.set_cons_zero, List.set_cons_succ, putAllA, Value.cells, List.setIfInBounds_toArray] at hO
          refine hK.out _ _ ?_
          clear hK K
          refine norm_ (a' := ?_) ?_ ?_
          rotate_left
          · rfl
          refine last_ (i := 7) (N := none) #[true, true, true, true, true, true, true, true] rfl rfl (by kernel_rfl) (by decide) (fun K hK => ?_)
          refine rStore (by rfl) rfl 23 _ _ rfl hO 0 _ _ ?_ rfl ?_ _ _ rfl ?_ ?_ ?_ ?_
          rotate_left
          · first | (go_simp; done) | (go_simp; with_reducible rfl) | rfl
          · kernel_rfl
          · kernel_rfl
          · kernel_rfl
          clear hO
          intro w_ hO
          simp only [List.set_cons_zero, List.set_cons_succ, putAllA, Value.cells, List.setIfInBounds_toArray] at hO
          refine hK.out _ _ ?_
          clear hK K
          refine norm_ (a' := ?_) ?_ ?_
          rotate_left
          · rfl
          refine done_ (by kernel_rfl) ?_
          go_wp2_with fail
          go_meet
          first | exact ⟨_, _, rfl, rfl, hO⟩ | exact ⟨_, _, rfl, rfl, hO.swap⟩
        · -- number 5
          refine rAlloc (by rfl) rfl 23 rfl hO #[.int .i64 0, .int .i64 0, .int .i64 0] (by kernel_rfl) ?_
          clear hO
          intro hb w_ hO
          refine hK.out _ _ (Own.sub hO (List.Sublist.cons _ (List.Sublist.refl _))) (fun hS => ?_)
          clear hK K
          refine norm_ (a' := ?_) ?_ ?_
          rotate_left
          · show Act.put _ (some 4) _ = _
            simp only [Act.put, List.setIfInBounds_toArray, List.set_cons_zero, List.set_cons_succ]
            rfl
          refine one_ (i := 4) (N := some 3) #[true, true, true, true, true, true, false, false] rfl rfl (by kernel_rfl) (by decide) (fun K hK => ?_)
          refine rAlloc (by rfl) rfl 23 rfl hO #[.int .i64 0, .int .i64 0, .int .i64 0] (by kernel_rfl) ?_
          clear hO
          intro ha w_ hO
          refine hK.out _ _ (Own.sub hO (List.Sublist.cons _ (List.Sublist.cons _ (List.Sublist.refl _)))) (fun hS => ?_)
          clear hK K
          refine norm_ (a' := ?_) ?_ ?_
          rotate_left
          · show Act.put _ (some 3) _ = _
            simp only [Act.put, List.setIfInBounds_toArray, List.set_cons_zero, List.set_cons_succ]
            rfl
          refine last_ (i := 6) (N := none) #[true, true, true, true, true, true, true, false] rfl rfl (by kernel_rfl) (by decide) (fun K hK => ?_)
          refine rStore (by rfl) rfl 23 _ _ rfl hO 0 _ _ ?_ rfl ?_ _ _ rfl ?_ ?_ ?_ ?_
          rotate_left
          · first | (go_simp; done) | (go_simp; with_reducible rfl) | rfl
          · kernel_rfl
          · kernel_rfl
          · kernel_rfl
          clear hO
          intro w_ hO
          simp only [List.set_cons_zero, List.set_cons_succ, putAllA, Value.cells, List.setIfInBounds_toArray] at hO
          refine hK.out _ _ ?_
          clear hK K
          refine norm_ (a' := ?_) ?_ ?_
          rotate_left
          · rfl
          refine last_ (i := 7) (N := none) #[true, true, true, true, true, true, true, true] rfl rfl (by kernel_rfl) (by decide) (fun K hK => ?_)
          refine rStore (by rfl) rfl 23 _ _ rfl hO 1 _ _ ?_ rfl ?_ _ _ rfl ?_ ?_ ?_ ?_
          rotate_left
          · first | (go_simp; done) | (go_simp; with_reducible rfl) | rfl
          · kernel_rfl
          · kernel_rfl
          · kernel_rfl
          clear hO
          intro w_ hO
          simp only [List.set_cons_zero, List.set_cons_succ, putAllA, Value.cells, List.setIfInBounds_toArray] at hO
          refine hK.out _ _ ?_
          clear hK K
          refine norm_ (a' := ?_) ?_ ?_
          rotate_left
          · rfl
          refine done_ (by kernel_rfl) ?_
          go_wp2_with fail
          go_meet
          first | exact ⟨_, _, rfl, rfl, hO⟩ | exact ⟨_, _, rfl, rfl, hO.swap⟩
      · -- number 4
        refine rAlloc (by rfl) rfl 23 rfl hO #[.int .i64 0, .int .i64 0, .int .i64 0] (by kernel_rfl) ?_
        clear hO
        intro ha w_ hO
        refine hK.out _ _ (Own.sub hO (List.Sublist.cons _ (List.Sublist.refl _))) (fun hS => ?_)
        clear hK K
        refine norm_ (a' := ?_) ?_ ?_
        rotate_left
        · show Act.put _ (some 3) _ = _
          simp only [Act.put, List.setIfInBounds_toArray, List.set_cons_zero, List.set_cons_succ]
          rfl
        refine two_ (i := 3) (j := 5) (Ni := some 13) (Nj := some 4) #[true, true, true, true, true, false, false, false] #[true, true, true, false, true, true, false, false] rfl rfl rfl rfl (by kernel_rfl) (by decide) (by decide) (fun K hK => ?_) (fun K hK => ?_)
        · -- number 3
          refine goes_ Tryd.func9 (by kernel_rfl) rfl #[.agg #[.int .i64 2000, .int .i64 3000, .int .i64 5, .string ⟨#[]⟩, .int .i64 9000, .int .i64 500, .int .i64 80, .int .i64 600, .int .i64 0, .int .i64 100, .int .i64 0, .int .i64 0, .int .i64 0, .int .i64 0, .int .i64 0, .int .i64 0, .int .i64 25, .int .i64 200, .int .i64 100, .bool false]] (by rfl) rfl rfl (by (try simp only [List.map_toArray, List.map_cons, List.map_nil]); first | done | rfl) ?_
          with_reducible refine (tick2 _ (Lib.hid (hG.out.below hO.bel))).mono ?_
          rintro e w_ ⟨rfl, hb_⟩
          refine ⟨_, rfl, ?_⟩
          replace hO := Own.call hO hb_
          clear hb_
          refine hK.out _ _ (Own.sub hO (List.Sublist.cons _ (List.Sublist.refl _))) (fun hS => ?_)
          clear hK K
          refine norm_ (a' := ?_) ?_ ?_
          rotate_left
          · show Act.put _ (some 13) _ = _
            simp only [Act.put, List.setIfInBounds_toArray, List.set_cons_zero, List.set_cons_succ]
            rfl
          refine one_ (i := 5) (N := some 4) #[true, true, true, true, true, true, false, false] rfl rfl (by kernel_rfl) (by decide) (fun K hK => ?_)
          refine rAlloc (by rfl) rfl 23 rfl hO #[.int .i64 0, .int .i64 0, .int .i64 0] (by kernel_rfl) ?_
          clear hO
          intro hb w_ hO
          refine hK.out _ _ (Own.sub hO (List.Sublist.cons _ (List.Sublist.cons _ (List.Sublist.refl _)))) (fun hS => ?_)
          clear hK K
          refine norm_ (a' := ?_) ?_ ?_
          rotate_left
          · show Act.put _ (some 4) _ = _
            simp only [Act.put, List.setIfInBounds_toArray, List.set_cons_zero, List.set_cons_succ]
            rfl
          refine last_ (i := 6) (N := none) #[true, true, true, true, true, true, true, false] rfl rfl (by kernel_rfl) (by decide) (fun K hK => ?_)
          refine rStore (by rfl) rfl 23 _ _ rfl hO 1 _ _ ?_ rfl ?_ _ _ rfl ?_ ?_ ?_ ?_
          rotate_left
          · first | (go_simp; done) | (go_simp; with_reducible rfl) | rfl
          · kernel_rfl
          · kernel_rfl
          · kernel_rfl
          clear hO
          intro w_ hO
          simp only [List.set_cons_zero, List.set_cons_succ, putAllA, Value.cells, List.setIfInBounds_toArray] at hO
          refine hK.out _ _ ?_
          clear hK K
          refine norm_ (a' := ?_) ?_ ?_
          rotate_left
          · rfl
          refine last_ (i := 7) (N := none) #[true, true, true, true, true, true, true, true] rfl rfl (by kernel_rfl) (by decide) (fun K hK => ?_)
          refine rStore (by rfl) rfl 23 _ _ rfl hO 0 _ _ ?_ rfl ?_ _ _ rfl ?_ ?_ ?_ ?_
          rotate_left
          · first | (go_simp; done) | (go_simp; with_reducible rfl) | rfl
          · kernel_rfl
          · kernel_rfl
          · kernel_rfl
          clear hO
          intro w_ hO
          simp only [List.set_cons_zero, List.set_cons_succ, putAllA, Value.cells, List.setIfInBounds_toArray] at hO
          refine hK.out _ _ ?_
          clear hK K
          refine norm_ (a' := ?_) ?_ ?_
          rotate_left
          · rfl
          refine done_ (by kernel_rfl) ?_
          go_wp2_with fail
          go_meet
          first | exact ⟨_, _, rfl, rfl, hO⟩ | exact ⟨_, _, rfl, rfl, hO.swap⟩
        · -- number 5
          refine rAlloc (by rfl) rfl 23 rfl hO #[.int .i64 0, .int .i64 0, .int .i64 0] (by kernel_rfl) ?_
          clear hO
          intro hb w_ hO
          refine hK.out _ _ (Own.sub hO (List.Sublist.cons _ (List.Sublist.cons _ (List.Sublist.refl _)))) (fun hS => ?_)
          clear hK K
          refine norm_ (a' := ?_) ?_ ?_
          rotate_left
          · show Act.put _ (some 4) _ = _
            simp only [Act.put, List.setIfInBounds_toArray, List.set_cons_zero, List.set_cons_succ]
            rfl
          refine one_ (i := 3) (N := some 13) #[true, true, true, true, true, true, false, false] rfl rfl (by kernel_rfl) (by decide) (fun K hK => ?_)
          refine goes_ Tryd.func9 (by kernel_rfl) rfl #[.agg #[.int .i64 2000, .int .i64 3000, .int .i64 5, .string ⟨#[]⟩, .int .i64 9000, .int .i64 500, .int .i64 80, .int .i64 600, .int .i64 0, .int .i64 100, .int .i64 0, .int .i64 0, .int .i64 0, .int .i64 0, .int .i64 0, .int .i64 0, .int .i64 25, .int .i64 200, .int .i64 100, .bool false]] (by rfl) rfl rfl (by (try simp only [List.map_toArray, List.map_cons, List.map_nil]); first | done | rfl) ?_
          with_reducible refine (tick2 _ (Lib.hid (hG.out.below hO.bel))).mono ?_
          rintro e w_ ⟨rfl, hb_⟩
          refine ⟨_, rfl, ?_⟩
          replace hO := Own.call hO hb_
          clear hb_
          refine hK.out _ _ (Own.sub hO (List.Sublist.cons _ (List.Sublist.cons _ (List.Sublist.refl _)))) (fun hS => ?_)
          clear hK K
          refine norm_ (a' := ?_) ?_ ?_
          rotate_left
          · show Act.put _ (some 13) _ = _
            simp only [Act.put, List.setIfInBounds_toArray, List.set_cons_zero, List.set_cons_succ]
            rfl
          refine last_ (i := 6) (N := none) #[true, true, true, true, true, true, true, false] rfl rfl (by kernel_rfl) (by decide) (fun K hK => ?_)
          refine rStore (by rfl) rfl 23 _ _ rfl hO 1 _ _ ?_ rfl ?_ _ _ rfl ?_ ?_ ?_ ?_
          rotate_left
          · first | (go_simp; done) | (go_simp; with_reducible rfl) | rfl
          · kernel_rfl
          · kernel_rfl
          · kernel_rfl
          clear hO
          intro w_ hO
          simp only [List.set_cons_zero, List.set_cons_succ, putAllA, Value.cells, List.setIfInBounds_toArray] at hO
          refine hK.out _ _ ?_
          clear hK K
          refine norm_ (a' := ?_) ?_ ?_
          rotate_left
          · rfl
          refine last_ (i := 7) (N := none) #[true, true, true, true, true, true, true, true] rfl rfl (by kernel_rfl) (by decide) (fun K hK => ?_)
          refine rStore (by rfl) rfl 23 _ _ rfl hO 0 _ _ ?_ rfl ?_ _ _ rfl ?_ ?_ ?_ ?_
          rotate_left
          · first | (go_simp; done) | (go_simp; with_reducible rfl) | rfl
          · kernel_rfl
          · kernel_rfl
          · kernel_rfl
          clear hO
          intro w_ hO
          simp only [List.set_cons_zero, List.set_cons_succ, putAllA, Value.cells, List.setIfInBounds_toArray] at hO
          refine hK.out _ _ ?_
          clear hK K
          refine norm_ (a' := ?_) ?_ ?_
          rotate_left
          · rfl
          refine done_ (by kernel_rfl) ?_
          go_wp2_with fail
          go_meet
          first | exact ⟨_, _, rfl, rfl, hO⟩ | exact ⟨_, _, rfl, rfl, hO.swap⟩
      · -- number 5
        refine rAlloc (by rfl) rfl 23 rfl hO #[.int .i64 0, .int .i64 0, .int .i64 0] (by kernel_rfl) ?_
        clear hO
        intro hb w_ hO
        refine hK.out _ _ (Own.sub hO (List.Sublist.cons _ (List.Sublist.refl _))) (fun hS => ?_)
        clear hK K
        refine norm_ (a' := ?_) ?_ ?_
        rotate_left
        · show Act.put _ (some 4) _ = _
          simp only [Act.put, List.setIfInBounds_toArray, List.set_cons_zero, List.set_cons_succ]
          rfl
        refine two_ (i := 3) (j := 4) (Ni := some 13) (Nj := some 3) #[true, true, true, true, false, true, false, false] #[true, true, true, false, true, true, false, false] rfl rfl rfl rfl (by kernel_rfl) (by decide) (by decide) (fun K hK => ?_) (fun K hK => ?_)
        · -- number 3
          refine goes_ Tryd.func9 (by kernel_rfl) rfl #[.agg #[.int .i64 2000, .int .i64 3000, .int .i64 5, .string ⟨#[]⟩, .int .i64 9000, .int .i64 500, .int .i64 80, .int .i64 600, .int .i64 0, .int .i64 100, .int .i64 0, .int .i64 0, .int .i64 0, .int .i64 0, .int .i64 0, .int .i64 0, .int .i64 25, .int .i64 200, .int .i64 100, .bool false]] (by rfl) rfl rfl (by (try simp only [List.map_toArray, List.map_cons, List.map_nil]); first | done | rfl) ?_
          with_reducible refine (tick2 _ (Lib.hid (hG.out.below hO.bel))).mono ?_
          rintro e w_ ⟨rfl, hb_⟩
          refine ⟨_, rfl, ?_⟩
          replace hO := Own.call hO hb_
          clear hb_
          refine hK.out _ _ (Own.sub hO (List.Sublist.cons _ (List.Sublist.refl _))) (fun hS => ?_)
          clear hK K
          refine norm_ (a' := ?_) ?_ ?_
          rotate_left
          · show Act.put _ (some 13) _ = _
            simp only [Act.put, List.setIfInBounds_toArray, List.set_cons_zero, List.set_cons_succ]
            rfl
          refine one_ (i := 4) (N := some 3) #[true, true, true, true, true, true, false, false] rfl rfl (by kernel_rfl) (by decide) (fun K hK => ?_)
          refine rAlloc (by rfl) rfl 23 rfl hO #[.int .i64 0, .int .i64 0, .int .i64 0] (by kernel_rfl) ?_
          clear hO
          intro ha w_ hO
          refine hK.out _ _ (Own.sub hO (List.Sublist.cons _ (List.Sublist.cons _ (List.Sublist.refl _)))) (fun hS => ?_)
          clear hK K
          refine norm_ (a' := ?_) ?_ ?_
          rotate_left
          · show Act.put _ (some 3) _ = _
            simp only [Act.put, List.setIfInBounds_toArray, List.set_cons_zero, List.set_cons_succ]
            rfl
          refine last_ (i := 6) (N := none) #[true, true, true, true, true, true, true, false] rfl rfl (by kernel_rfl) (by decide) (fun K hK => ?_)
          refine rStore (by rfl) rfl 23 _ _ rfl hO 0 _ _ ?_ rfl ?_ _ _ rfl ?_ ?_ ?_ ?_
          rotate_left
          · first | (go_simp; done) | (go_simp; with_reducible rfl) | rfl
          · kernel_rfl
          · kernel_rfl
          · kernel_rfl
          clear hO
          intro w_ hO
          simp only [List.set_cons_zero, List.set_cons_succ, putAllA, Value.cells, List.setIfInBounds_toArray] at hO
          refine hK.out _ _ ?_
          clear hK K
          refine norm_ (a' := ?_) ?_ ?_
          rotate_left
          · rfl
          refine last_ (i := 7) (N := none) #[true, true, true, true, true, true, true, true] rfl rfl (by kernel_rfl) (by decide) (fun K hK => ?_)
          refine rStore (by rfl) rfl 23 _ _ rfl hO 1 _ _ ?_ rfl ?_ _ _ rfl ?_ ?_ ?_ ?_
          rotate_left
          · first | (go_simp; done) | (go_simp; with_reducible rfl) | rfl
          · kernel_rfl
          · kernel_rfl
          · kernel_rfl
          clear hO
          intro w_ hO
          simp only [List.set_cons_zero, List.set_cons_succ, putAllA, Value.cells, List.setIfInBounds_toArray] at hO
          refine hK.out _ _ ?_
          clear hK K
          refine norm_ (a' := ?_) ?_ ?_
          rotate_left
          · rfl
          refine done_ (by kernel_rfl) ?_
          go_wp2_with fail
          go_meet
          first | exact ⟨_, _, rfl, rfl, hO⟩ | exact ⟨_, _, rfl, rfl, hO.swap⟩
        · -- number 4
          refine rAlloc (by rfl) rfl 23 rfl hO #[.int .i64 0, .int .i64 0, .int .i64 0] (by kernel_rfl) ?_
          clear hO
          intro ha w_ hO
          refine hK.out _ _ (Own.sub hO (List.Sublist.cons _ (List.Sublist.cons _ (List.Sublist.refl _)))) (fun hS => ?_)
          clear hK K
          refine norm_ (a' := ?_) ?_ ?_
          rotate_left
          · show Act.put _ (some 3) _ = _
            simp only [Act.put, List.setIfInBounds_toArray, List.set_cons_zero, List.set_cons_succ]
            rfl
          refine one_ (i := 3) (N := some 13) #[true, true, true, true, true, true, false, false] rfl rfl (by kernel_rfl) (by decide) (fun K hK => ?_)
          refine goes_ Tryd.func9 (by kernel_rfl) rfl #[.agg #[.int .i64 2000, .int .i64 3000, .int .i64 5, .string ⟨#[]⟩, .int .i64 9000, .int .i64 500, .int .i64 80, .int .i64 600, .int .i64 0, .int .i64 100, .int .i64 0, .int .i64 0, .int .i64 0, .int .i64 0, .int .i64 0, .int .i64 0, .int .i64 25, .int .i64 200, .int .i64 100, .bool false]] (by rfl) rfl rfl (by (try simp only [List.map_toArray, List.map_cons, List.map_nil]); first | done | rfl) ?_
          with_reducible refine (tick2 _ (Lib.hid (hG.out.below hO.bel))).mono ?_
          rintro e w_ ⟨rfl, hb_⟩
          refine ⟨_, rfl, ?_⟩
          replace hO := Own.call hO hb_
          clear hb_
          refine hK.out _ _ (Own.sub hO (List.Sublist.cons _ (List.Sublist.cons _ (List.Sublist.refl _)))) (fun hS => ?_)
          clear hK K
          refine norm_ (a' := ?_) ?_ ?_
          rotate_left
          · show Act.put _ (some 13) _ = _
            simp only [Act.put, List.setIfInBounds_toArray, List.set_cons_zero, List.set_cons_succ]
            rfl
          refine last_ (i := 6) (N := none) #[true, true, true, true, true, true, true, false] rfl rfl (by kernel_rfl) (by decide) (fun K hK => ?_)
          refine rStore (by rfl) rfl 23 _ _ rfl hO 0 _ _ ?_ rfl ?_ _ _ rfl ?_ ?_ ?_ ?_
          rotate_left
          · first | (go_simp; done) | (go_simp; with_reducible rfl) | rfl
          · kernel_rfl
          · kernel_rfl
          · kernel_rfl
          clear hO
          intro w_ hO
          simp only [List.set_cons_zero, List.set_cons_succ, putAllA, Value.cells, List.setIfInBounds_toArray] at hO
          refine hK.out _ _ ?_
          clear hK K
          refine norm_ (a' := ?_) ?_ ?_
          rotate_left
          · rfl
          refine last_ (i := 7) (N := none) #[true, true, true, true, true, true, true, true] rfl rfl (by kernel_rfl) (by decide) (fun K hK => ?_)
          refine rStore (by rfl) rfl 23 _ _ rfl hO 1 _ _ ?_ rfl ?_ _ _ rfl ?_ ?_ ?_ ?_
          rotate_left
          · first | (go_simp; done) | (go_simp; with_reducible rfl) | rfl
          · kernel_rfl
          · kernel_rfl
          · kernel_rfl
          clear hO
          intro w_ hO
          simp only [List.set_cons_zero, List.set_cons_succ, putAllA, Value.cells, List.setIfInBounds_toArray] at hO
          refine hK.out _ _ ?_
          clear hK K
          refine norm_ (a' := ?_) ?_ ?_
          rotate_left
          · rfl
          refine done_ (by kernel_rfl) ?_
          go_wp2_with fail
          go_meet
          first | exact ⟨_, _, rfl, rfl, hO⟩ | exact ⟨_, _, rfl, rfl, hO.swap⟩
    · -- number 4
      refine rAlloc (by rfl) rfl 23 rfl hO #[.int .i64 0, .int .i64 0, .int .i64 0] (by kernel_rfl) ?_
      clear hO
      intro ha w_ hO
      refine hK.out _ _ (Own.sub hO (List.Sublist.cons _ (List.Sublist.refl _))) (fun hS => ?_)
      clear hK K
      refine norm_ (a' := ?_) ?_ ?_
      rotate_left
      · show Act.put _ (some 3) _ = _
        simp only [Act.put, List.setIfInBounds_toArray, List.set_cons_zero, List.set_cons_succ]
        rfl
      refine two_ (i := 1) (j := 5) (Ni := some 11) (Nj := some 4) #[true, true, true, false, true, false, false, false] #[true, false, true, false, true, true, false, false] rfl rfl rfl rfl (by kernel_rfl) (by decide) (by decide) (fun K hK => ?_) (fun K hK => ?_)
      · -- number 1
        refine goes_ Tryd.func9 (by kernel_rfl) rfl #[.agg #[.int .i64 9000, .int .i64 9000, .int .i64 0, .string ⟨#[]⟩, .int .i64 9000, .int .i64 500, .int .i64 80, .int .i64 600, .int .i64 0, .int .i64 100, .int .i64 0, .int .i64 0, .int .i64 0, .int .i64 0, .int .i64 0, .int .i64 0, .int .i64 25, .int .i64 200, .int .i64 100, .bool true]] (by rfl) rfl rfl (by (try simp only [List.map_toArray, List.map_cons, List.map_nil]); first | done | rfl) ?_
        with_reducible refine (tick1 _ (Lib.hid (hG.out.below hO.bel))).mono ?_
        rintro e w_ ⟨rfl, hb_⟩
        refine ⟨_, rfl, ?_⟩
        replace hO := Own.call hO hb_
        clear hb_
        refine hK.out _ _ (Own.sub hO (List.Sublist.cons _ (List.Sublist.refl _))) (fun hS => ?_)
        clear hK K
        refine norm_ (a' := ?_) ?_ ?_
        rotate_left
        · show Act.put _ (some 11) _ = _
          simp only [Act.put, List.setIfInBounds_toArray, List.set_cons_zero, List.set_cons_succ]
          rfl
        refine two_ (i := 3) (j := 5) (Ni := some 13) (Nj := some 4) #[true, true, true, true, true, false, false, false] #[true, true, true, false, true, true, false, false] rfl rfl rfl rfl (by kernel_rfl) (by decide) (by decide) (fun K hK => ?_) (fun K hK => ?_)
        · -- number 3
          refine goes_ Tryd.func9 (by kernel_rfl) rfl #[.agg #[.int .i64 2000, .int .i64 3000, .int .i64 5, .string ⟨#[]⟩, .int .i64 9000, .int .i64 500, .int .i64 80, .int .i64 600, .int .i64 0, .int .i64 100, .int .i64 0, .int .i64 0, .int .i64 0, .int .i64 0, .int .i64 0, .int .i64 0, .int .i64 25, .int .i64 200, .int .i64 100, .bool false]] (by rfl) rfl rfl (by (try simp only [List.map_toArray, List.map_cons, List.map_nil]); first | done | rfl) ?_
          with_reducible refine (tick2 _ (Lib.hid (hG.out.below hO.bel))).mono ?_
          rintro e w_ ⟨rfl, hb_⟩
          refine ⟨_, rfl, ?_⟩
          replace hO := Own.call hO hb_
          clear hb_
          refine hK.out _ _ (Own.sub hO (List.Sublist.cons _ (List.Sublist.refl _))) (fun hS => ?_)
          clear hK K
          refine norm_ (a' := ?_) ?_ ?_
          rotate_left
          · show Act.put _ (some 13) _ = _
            simp only [Act.put, List.setIfInBounds_toArray, List.set_cons_zero, List.set_cons_succ]
            rfl
          refine one_ (i := 5) (N := some 4) #[true, true, true, true, true, true, false, false] rfl rfl (by kernel_rfl) (by decide) (fun K hK => ?_)
          refine rAlloc (by rfl) rfl 23 rfl hO #[.int .i64 0, .int .i64 0, .int .i64 0] (by kernel_rfl) ?_
          clear hO
          intro hb w_ hO
          refine hK.out _ _ (Own.sub hO (List.Sublist.cons _ (List.Sublist.cons _ (List.Sublist.refl _)))) (fun hS => ?_)
          clear hK K
          refine norm_ (a' := ?_) ?_ ?_
          rotate_left
          · show Act.put _ (some 4) _ = _
            simp only [Act.put, List.setIfInBounds_toArray, List.set_cons_zero, List.set_cons_succ]
            rfl
          refine last_ (i := 6) (N := none) #[true, true, true, true, true, true, true, false] rfl rfl (by kernel_rfl) (by decide) (fun K hK => ?_)
          refine rStore (by rfl) rfl 23 _ _ rfl hO 1 _ _ ?_ rfl ?_ _ _ rfl ?_ ?_ ?_ ?_
          rotate_left
          · first | (go_simp; done) | (go_simp; with_reducible rfl) | rfl
          · kernel_rfl
          · kernel_rfl
          · kernel_rfl
          clear hO
          intro w_ hO
          simp only [List.set_cons_zero, List.set_cons_succ, putAllA, Value.cells, List.setIfInBounds_toArray] at hO
          refine hK.out _ _ ?_
          clear hK K
          refine norm_ (a' := ?_) ?_ ?_
          rotate_left
          · rfl
          refine last_ (i := 7) (N := none) #[true, true, true, true, true, true, true, true] rfl rfl (by kernel_rfl) (by decide) (fun K hK => ?_)
          refine rStore (by rfl) rfl 23 _ _ rfl hO 0 _ _ ?_ rfl ?_ _ _ rfl ?_ ?_ ?_ ?_
          rotate_left
          · first | (go_simp; done) | (go_simp; with_reducible rfl) | rfl
          · kernel_rfl
          · kernel_rfl
          · kernel_rfl
          clear hO
          intro w_ hO
          simp only [List.set_cons_zero, List.set_cons_succ, putAllA, Value.cells, List.setIfInBounds_toArray] at hO
          refine hK.out _ _ ?_
          clear hK K
          refine norm_ (a' := ?_) ?_ ?_
          rotate_left
          · rfl
          refine done_ (by kernel_rfl) ?_
          go_wp2_with fail
          go_meet
          first | exact ⟨_, _, rfl, rfl, hO⟩ | exact ⟨_, _, rfl, rfl, hO.swap⟩
        · -- number 5
          refine rAlloc (by rfl) rfl 23 rfl hO #[.int .i64 0, .int .i64 0, .int .i64 0] (by kernel_rfl) ?_
          clear hO
          intro hb w_ hO
          refine hK.out _ _ (Own.sub hO (List.Sublist.cons _ (List.Sublist.cons _ (List.Sublist.refl _)))) (fun hS => ?_)
          clear hK K
          refine norm_ (a' := ?_) ?_ ?_
          rotate_left
          · show Act.put _ (some 4) _ = _
            simp only [Act.put, List.setIfInBounds_toArray, List.set_cons_zero, List.set_cons_succ]
            rfl
          refine one_ (i := 3) (N := some 13) #[true, true, true, true, true, true, false, false] rfl rfl (by kernel_rfl) (by decide) (fun K hK => ?_)
          refine goes_ Tryd.func9 (by kernel_rfl) rfl #[.agg #[.int .i64 2000, .int .i64 3000, .int .i64 5, .string ⟨#[]⟩, .int .i64 9000, .int .i64 500, .int .i64 80, .int .i64 600, .int .i64 0, .int .i64 100, .int .i64 0, .int .i64 0, .int .i64 0, .int .i64 0, .int .i64 0, .int .i64 0, .int .i64 25, .int .i64 200, .int .i64 100, .bool false]] (by rfl) rfl rfl (by (try simp only [List.map_toArray, List.map_cons, List.map_nil]); first | done | rfl) ?_
          with_reducible refine (tick2 _ (Lib.hid (hG.out.below hO.bel))).mono ?_
          rintro e w_ ⟨rfl, hb_⟩
          refine ⟨_, rfl, ?_⟩
          replace hO := Own.call hO hb_
          clear hb_
          refine hK.out _ _ (Own.sub hO (List.Sublist.cons _ (List.Sublist.cons _ (List.Sublist.refl _)))) (fun hS => ?_)
          clear hK K
          refine norm_ (a' := ?_) ?_ ?_
          rotate_left
          · show Act.put _ (some 13) _ = _
            simp only [Act.put, List.setIfInBounds_toArray, List.set_cons_zero, List.set_cons_succ]
            rfl
          refine last_ (i := 6) (N := none) #[true, true, true, true, true, true, true, false] rfl rfl (by kernel_rfl) (by decide) (fun K hK => ?_)
          refine rStore (by rfl) rfl 23 _ _ rfl hO 1 _ _ ?_ rfl ?_ _ _ rfl ?_ ?_ ?_ ?_
          rotate_left
          · first | (go_simp; done) | (go_simp; with_reducible rfl) | rfl
          · kernel_rfl
          · kernel_rfl
          · kernel_rfl
          clear hO
          intro w_ hO
          simp only [List.set_cons_zero, List.set_cons_succ, putAllA, Value.cells, List.setIfInBounds_toArray] at hO
          refine hK.out _ _ ?_
          clear hK K
          refine norm_ (a' := ?_) ?_ ?_
          rotate_left
          · rfl
          refine last_ (i := 7) (N := none) #[true, true, true, true, true, true, true, true] rfl rfl (by kernel_rfl) (by decide) (fun K hK => ?_)
          refine rStore (by rfl) rfl 23 _ _ rfl hO 0 _ _ ?_ rfl ?_ _ _ rfl ?_ ?_ ?_ ?_
          rotate_left
          · first | (go_simp; done) | (go_simp; with_reducible rfl) | rfl
          · kernel_rfl
          · kernel_rfl
          · kernel_rfl
          clear hO
          intro w_ hO
          simp only [List.set_cons_zero, List.set_cons_succ, putAllA, Value.cells, List.setIfInBounds_toArray] at hO
          refine hK.out _ _ ?_
          clear hK K
          refine norm_ (a' := ?_) ?_ ?_
          rotate_left
          · rfl
          refine done_ (by kernel_rfl) ?_
          go_wp2_with fail
          go_meet
          first | exact ⟨_, _, rfl, rfl, hO⟩ | exact ⟨_, _, rfl, rfl, hO.swap⟩
      · -- number 5
        refine rAlloc (by rfl) rfl 23 rfl hO #[.int .i64 0, .int .i64 0, .int .i64 0] (by kernel_rfl) ?_
        clear hO
        intro hb w_ hO
        refine hK.out _ _ (Own.sub hO (List.Sublist.cons _ (List.Sublist.cons _ (List.Sublist.refl _)))) (fun hS => ?_)
        clear hK K
        refine norm_ (a' := ?_) ?_ ?_
        rotate_left
        · show Act.put _ (some 4) _ = _
          simp only [Act.put, List.setIfInBounds_toArray, List.set_cons_zero, List.set_cons_succ]
          rfl
        refine one_ (i := 1) (N := some 11) #[true, true, true, false, true, true, false, false] rfl rfl (by kernel_rfl) (by decide) (fun K hK => ?_)
        refine goes_ Tryd.func9 (by kernel_rfl) rfl #[.agg #[.int .i64 9000, .int .i64 9000, .int .i64 0, .string ⟨#[]⟩, .int .i64 9000, .int .i64 500, .int .i64 80, .int .i64 600, .int .i64 0, .int .i64 100, .int .i64 0, .int .i64 0, .int .i64 0, .int .i64 0, .int .i64 0, .int .i64 0, .int .i64 25, .int .i64 200, .int .i64 100, .bool true]] (by rfl) rfl rfl (by (try simp only [List.map_toArray, List.map_cons, List.map_nil]); first | done | rfl) ?_
        with_reducible refine (tick1 _ (Lib.hid (hG.out.below hO.bel))).mono ?_
        rintro e w_ ⟨rfl, hb_⟩
        refine ⟨_, rfl, ?_⟩
        replace hO := Own.call hO hb_
        clear hb_
        refine hK.out _ _ (Own.sub hO (List.Sublist.cons _ (List.Sublist.cons _ (List.Sublist.refl _)))) (fun hS => ?_)
        clear hK K
        refine norm_ (a' := ?_) ?_ ?_
        rotate_left
        · show Act.put _ (some 11) _ = _
          simp only [Act.put, List.setIfInBounds_toArray, List.set_cons_zero, List.set_cons_succ]
          rfl
        refine one_ (i := 3) (N := some 13) #[true, true, true, true, true, true, false, false] rfl rfl (by kernel_rfl) (by decide) (fun K hK => ?_)
        refine goes_ Tryd.func9 (by kernel_rfl) rfl #[.agg #[.int .i64 2000, .int .i64 3000, .int .i64 5, .string ⟨#[]⟩, .int .i64 9000, .int .i64 500, .int .i64 80, .int .i64 600, .int .i64 0, .int .i64 100, .int .i64 0, .int .i64 0, .int .i64 0, .int .i64 0, .int .i64 0, .int .i64 0, .int .i64 25, .int .i64 200, .int .i64 100, .bool false]] (by rfl) rfl rfl (by (try simp only [List.map_toArray, List.map_cons, List.map_nil]); first | done | rfl) ?_
        with_reducible refine (tick2 _ (Lib.hid (hG.out.below hO.bel))).mono ?_
        rintro e w_ ⟨rfl, hb_⟩
        refine ⟨_, rfl, ?_⟩
        replace hO := Own.call hO hb_
        clear hb_
        refine hK.out _ _ (Own.sub hO (List.Sublist.cons _ (List.Sublist.cons _ (List.Sublist.refl _)))) (fun hS => ?_)
        clear hK K
        refine norm_ (a' := ?_) ?_ ?_
        rotate_left
        · show Act.put _ (some 13) _ = _
          simp only [Act.put, List.setIfInBounds_toArray, List.set_cons_zero, List.set_cons_succ]
          rfl
        refine last_ (i := 6) (N := none) #[true, true, true, true, true, true, true, false] rfl rfl (by kernel_rfl) (by decide) (fun K hK => ?_)
        refine rStore (by rfl) rfl 23 _ _ rfl hO 1 _ _ ?_ rfl ?_ _ _ rfl ?_ ?_ ?_ ?_
        rotate_left
        · first | (go_simp; done) | (go_simp; with_reducible rfl) | rfl
        · kernel_rfl
        · kernel_rfl
        · kernel_rfl
        clear hO
        intro w_ hO
        simp only [List.set_cons_zero, List.set_cons_succ, putAllA, Value.cells, List.setIfInBounds_toArray] at hO
        refine hK.out _ _ ?_
        clear hK K
        refine norm_ (a' := ?_) ?_ ?_
        rotate_left
        · rfl
        refine last_ (i := 7) (N := none) #[true, true, true, true, true, true, true, true] rfl rfl (by kernel_rfl) (by decide) (fun K hK => ?_)
        refine rStore (by rfl) rfl 23 _ _ rfl hO 0 _ _ ?_ rfl ?_ _ _ rfl ?_ ?_ ?_ ?_
        rotate_left
        · first | (go_simp; done) | (go_simp; with_reducible rfl) | rfl
        · kernel_rfl
        · kernel_rfl
        · kernel_rfl
        clear hO
        intro w_ hO
        simp only [List.set_cons_zero, List.set_cons_succ, putAllA, Value.cells, List.setIfInBounds_toArray] at hO
        refine hK.out _ _ ?_
        clear hK K
        refine norm_ (a' := ?_) ?_ ?_
        rotate_left
        · rfl
        refine done_ (by kernel_rfl) ?_
        go_wp2_with fail
        go_meet
        first | exact ⟨_, _, rfl, rfl, hO⟩ | exact ⟨_, _, rfl, rfl, hO.swap⟩
    · -- number 5
      refine rAlloc (by rfl) rfl 23 rfl hO #[.int .i64 0, .int .i64 0, .int .i64 0] (by kernel_rfl) ?_
      clear hO
      intro hb w_ hO
      refine hK.out _ _ (Own.sub hO (List.Sublist.cons _ (List.Sublist.refl _))) (fun hS => ?_)
      clear hK K
      refine norm_ (a' := ?_) ?_ ?_
      rotate_left
      · show Act.put _ (some 4) _ = _
        simp only [Act.put, List.setIfInBounds_toArray, List.set_cons_zero, List.set_cons_succ]
        rfl
      refine two_ (i := 1) (j := 4) (Ni := some 11) (Nj := some 3) #[true, true, true, false, false, true, false, false] #[true, false, true, false, true, true, false, false] rfl rfl rfl rfl (by kernel_rfl) (by decide) (by decide) (fun K hK => ?_) (fun K hK => ?_)
      · -- number 1
        refine goes_ Tryd.func9 (by kernel_rfl) rfl #[.agg #[.int .i64 9000, .int .i64 9000, .int .i64 0, .string ⟨#[]⟩, .int .i64 9000, .int .i64 500, .int .i64 80, .int .i64 600, .int .i64 0, .int .i64 100, .int .i64 0, .int .i64 0, .int .i64 0, .int .i64 0, .int .i64 0, .int .i64 0, .int .i64 25, .int .i64 200, .int .i64 100, .bool true]] (by rfl) rfl rfl (by (try simp only [List.map_toArray, List.map_cons, List.map_nil]); first | done | rfl) ?_
        with_reducible refine (tick1 _ (Lib.hid (hG.out.below hO.bel))).mono ?_
        rintro e w_ ⟨rfl, hb_⟩
        refine ⟨_, rfl, ?_⟩
        replace hO := Own.call hO hb_
        clear hb_
        refine hK.out _ _ (Own.sub hO (List.Sublist.cons _ (List.Sublist.refl _))) (fun hS => ?_)
        clear hK K
        refine norm_ (a' := ?_) ?_ ?_
        rotate_left
        · show Act.put _ (some 11) _ = _
          simp only [Act.put, List.setIfInBounds_toArray, List.set_cons_zero, List.set_cons_succ]
          rfl
        refine two_ (i := 3) (j := 4) (Ni := some 13) (Nj := some 3) #[true, true, true, true, false, true, false, false] #[true, true, true, false, true, true, false, false] rfl rfl rfl rfl (by kernel_rfl) (by decide) (by decide) (fun K hK => ?_) (fun K hK => ?_)
        · -- number 3
          refine goes_ Tryd.func9 (by kernel_rfl) rfl #[.agg #[.int .i64 2000, .int .i64 3000, .int .i64 5, .string ⟨#[]⟩, .int .i64 9000, .int .i64 500, .int .i64 80, .int .i64 600, .int .i64 0, .int .i64 100, .int .i64 0, .int .i64 0, .int .i64 0, .int .i64 0, .int .i64 0, .int .i64 0, .int .i64 25, .int .i64 200, .int .i64 100, .bool false]] (by rfl) rfl rfl (by (try simp only [List.map_toArray, List.map_cons, List.map_nil]); first | done | rfl) ?_
          with_reducible refine (tick2 _ (Lib.hid (hG.out.below hO.bel))).mono ?_
          rintro e w_ ⟨rfl, hb_⟩
          refine ⟨_, rfl, ?_⟩
          replace hO := Own.call hO hb_
          clear hb_
          refine hK.out _ _ (Own.sub hO (List.Sublist.cons _ (List.Sublist.refl _))) (fun hS => ?_)
          clear hK K
          refine norm_ (a' := ?_) ?_ ?_
          rotate_left
          · show Act.put _ (some 13) _ = _
            simp only [Act.put, List.setIfInBounds_toArray, List.set_cons_zero, List.set_cons_succ]
            rfl
          refine one_ (i := 4) (N := some 3) #[true, true, true, true, true, true, false, false] rfl rfl (by kernel_rfl) (by decide) (fun K hK => ?_)
          refine rAlloc (by rfl) rfl 23 rfl hO #[.int .i64 0, .int .i64 0, .int .i64 0] (by kernel_rfl) ?_
          clear hO
          intro ha w_ hO
          refine hK.out _ _ (Own.sub hO (List.Sublist.cons _ (List.Sublist.cons _ (List.Sublist.refl _)))) (fun hS => ?_)
          clear hK K
          refine norm_ (a' := ?_) ?_ ?_
          rotate_left
          · show Act.put _ (some 3) _ = _
            simp only [Act.put, List.setIfInBounds_toArray, List.set_cons_zero, List.set_cons_succ]
            rfl
          refine last_ (i := 6) (N := none) #[true, true, true, true, true, true, true, false] rfl rfl (by kernel_rfl) (by decide) (fun K hK => ?_)
          refine rStore (by rfl) rfl 23 _ _ rfl hO 0 _ _ ?_ rfl ?_ _ _ rfl ?_ ?_ ?_ ?_
          rotate_left
          · first | (go_simp; done) | (go_simp; with_reducible rfl) | rfl
          · kernel_rfl
          · kernel_rfl
          · kernel_rfl
          clear hO
          intro w_ hO
          simp only [List.set_cons_zero, List.set_cons_succ, putAllA, Value.cells, List.setIfInBounds_toArray] at hO
          refine hK.out _ _ ?_
          clear hK K
          refine norm_ (a' := ?_) ?_ ?_
          rotate_left
          · rfl
          refine last_ (i := 7) (N := none) #[true, true, true, true, true, true, true, true] rfl rfl (by kernel_rfl) (by decide) (fun K hK => ?_)
          refine rStore (by rfl) rfl 23 _ _ rfl hO 1 _ _ ?_ rfl ?_ _ _ rfl ?_ ?_ ?_ ?_
          rotate_left
          · first | (go_simp; done) | (go_simp; with_reducible rfl) | rfl
          · kernel_rfl
          · kernel_rfl
          · kernel_rfl
          clear hO
          intro w_ hO
          simp only [List.set_cons_zero, List.set_cons_succ, putAllA, Value.cells, List.setIfInBounds_toArray] at hO
          refine hK.out _ _ ?_
          clear hK K
          refine norm_ (a' := ?_) ?_ ?_
          rotate_left
          · rfl
          refine done_ (by kernel_rfl) ?_
          go_wp2_with fail
          go_meet
          first | exact ⟨_, _, rfl, rfl, hO⟩ | exact ⟨_, _, rfl, rfl, hO.swap⟩
        · -- number 4
          refine rAlloc (by rfl) rfl 23 rfl hO #[.int .i64 0, .int .i64 0, .int .i64 0] (by kernel_rfl) ?_
          clear hO
          intro ha w_ hO
          refine hK.out _ _ (Own.sub hO (List.Sublist.cons _ (List.Sublist.cons _ (List.Sublist.refl _)))) (fun hS => ?_)
          clear hK K
          refine norm_ (a' := ?_) ?_ ?_
          rotate_left
          · show Act.put _ (some 3) _ = _
            simp only [Act.put, List.setIfInBounds_toArray, List.set_cons_zero, List.set_cons_succ]
            rfl
          refine one_ (i := 3) (N := some 13) #[true, true, true, true, true, true, false, false] rfl rfl (by kernel_rfl) (by decide) (fun K hK => ?_)
          refine goes_ Tryd.func9 (by kernel_rfl) rfl #[.agg #[.int .i64 2000, .int .i64 3000, .int .i64 5, .string ⟨#[]⟩, .int .i64 9000, .int .i64 500, .int .i64 80, .int .i64 600, .int .i64 0, .int .i64 100, .int .i64 0, .int .i64 0, .int .i64 0, .int .i64 0, .int .i64 0, .int .i64 0, .int .i64 25, .int .i64 200, .int .i64 100, .bool false]] (by rfl) rfl rfl (by (try simp only [List.map_toArray, List.map_cons, List.map_nil]); first | done | rfl) ?_
          with_reducible refine (tick2 _ (Lib.hid (hG.out.below hO.bel))).mono ?_
          rintro e w_ ⟨rfl, hb_⟩
          refine ⟨_, rfl, ?_⟩
          replace hO := Own.call hO hb_
          clear hb_
          refine hK.out _ _ (Own.sub hO (List.Sublist.cons _ (List.Sublist.cons _ (List.Sublist.refl _)))) (fun hS => ?_)
          clear hK K
          refine norm_ (a' := ?_) ?_ ?_
          rotate_left
          · show Act.put _ (some 13) _ = _
            simp only [Act.put, List.setIfInBounds_toArray, List.set_cons_zero, List.set_cons_succ]
            rfl
          refine last_ (i := 6) (N := none) #[true, true, true, true, true, true, true, false] rfl rfl (by kernel_rfl) (by decide) (fun K hK => ?_)
          refine rStore (by rfl) rfl 23 _ _ rfl hO 0 _ _ ?_ rfl ?_ _ _ rfl ?_ ?_ ?_ ?_
          rotate_left
          · first | (go_simp; done) | (go_simp; with_reducible rfl) | rfl
          · kernel_rfl
          · kernel_rfl
          · kernel_rfl
          clear hO
          intro w_ hO
          simp only [List.set_cons_zero, List.set_cons_succ, putAllA, Value.cells, List.setIfInBounds_toArray] at hO
          refine hK.out _ _ ?_
          clear hK K
          refine norm_ (a' := ?_) ?_ ?_
          rotate_left
          · rfl
          refine last_ (i := 7) (N := none) #[true, true, true, true, true, true, true, true] rfl rfl (by kernel_rfl) (by decide) (fun K hK => ?_)
          refine rStore (by rfl) rfl 23 _ _ rfl hO 1 _ _ ?_ rfl ?_ _ _ rfl ?_ ?_ ?_ ?_
          rotate_left
          · first | (go_simp; done) | (go_simp; with_reducible rfl) | rfl
          · kernel_rfl
          · kernel_rfl
          · kernel_rfl
          clear hO
          intro w_ hO
          simp only [List.set_cons_zero, List.set_cons_succ, putAllA, Value.cells, List.setIfInBounds_toArray] at hO
          refine hK.out _ _ ?_
          clear hK K
          refine norm_ (a' := ?_) ?_ ?_
          rotate_left
          · rfl
          refine done_ (by kernel_rfl) ?_
          go_wp2_with fail
          go_meet
          first | exact ⟨_, _, rfl, rfl, hO⟩ | exact ⟨_, _, rfl, rfl, hO.swap⟩
      · -- number 4
        refine rAlloc (by rfl) rfl 23 rfl hO #[.int .i64 0, .int .i64 0, .int .i64 0] (by kernel_rfl) ?_
        clear hO
        intro ha w_ hO
        refine hK.out _ _ (Own.sub hO (List.Sublist.cons _ (List.Sublist.cons _ (List.Sublist.refl _)))) (fun hS => ?_)
        clear hK K
        refine norm_ (a' := ?_) ?_ ?_
        rotate_left
        · show Act.put _ (some 3) _ = _
          simp only [Act.put, List.setIfInBounds_toArray, List.set_cons_zero, List.set_cons_succ]
          rfl
        refine one_ (i := 1) (N := some 11) #[true, true, true, false, true, true, false, false] rfl rfl (by kernel_rfl) (by decide) (fun K hK => ?_)
        refine goes_ Tryd.func9 (by kernel_rfl) rfl #[.agg #[.int .i64 9000, .int .i64 9000, .int .i64 0, .string ⟨#[]⟩, .int .i64 9000, .int .i64 500, .int .i64 80, .int .i64 600, .int .i64 0, .int .i64 100, .int .i64 0, .int .i64 0, .int .i64 0, .int .i64 0, .int .i64 0, .int .i64 0, .int .i64 25, .int .i64 200, .int .i64 100, .bool true]] (by rfl) rfl rfl (by (try simp only [List.map_toArray, List.map_cons, List.map_nil]); first | done | rfl) ?_
        with_reducible refine (tick1 _ (Lib.hid (hG.out.below hO.bel))).mono ?_
        rintro e w_ ⟨rfl, hb_⟩
        refine ⟨_, rfl, ?_⟩
        replace hO := Own.call hO hb_
        clear hb_
        refine hK.out _ _ (Own.sub hO (List.Sublist.cons _ (List.Sublist.cons _ (List.Sublist.refl _)))) (fun hS => ?_)
        clear hK K
        refine norm_ (a' := ?_) ?_ ?_
        rotate_left
        · show Act.put _ (some 11) _ = _
          simp only [Act.put, List.setIfInBounds_toArray, List.set_cons_zero, List.set_cons_succ]
          rfl
        refine one_ (i := 3) (N := some 13) #[true, true, true, true, true, true, false, false] rfl rfl (by kernel_rfl) (by decide) (fun K hK => ?_)
        refine goes_ Tryd.func9 (by kernel_rfl) rfl #[.agg #[.int .i64 2000, .int .i64 3000, .int .i64 5, .string ⟨#[]⟩, .int .i64 9000, .int .i64 500, .int .i64 80, .int .i64 600, .int .i64 0, .int .i64 100, .int .i64 0, .int .i64 0, .int .i64 0, .int .i64 0, .int .i64 0, .int .i64 0, .int .i64 25, .int .i64 200, .int .i64 100, .bool false]] (by rfl) rfl rfl (by (try simp only [List.map_toArray, List.map_cons, List.map_nil]); first | done | rfl) ?_
        with_reducible refine (tick2 _ (Lib.hid (hG.out.below hO.bel))).mono ?_
        rintro e w_ ⟨rfl, hb_⟩
        refine ⟨_, rfl, ?_⟩
        replace hO := Own.call hO hb_
        clear hb_
        refine hK.out _ _ (Own.sub hO (List.Sublist.cons _ (List.Sublist.cons _ (List.Sublist.refl _)))) (fun hS => ?_)
        clear hK K
        refine norm_ (a' := ?_) ?_ ?_
        rotate_left
        · show Act.put _ (some 13) _ = _
          simp only [Act.put, List.setIfInBounds_toArray, List.set_cons_zero, List.set_cons_succ]
          rfl
        refine last_ (i := 6) (N := none) #[true, true, true, true, true, true, true, false] rfl rfl (by kernel_rfl) (by decide) (fun K hK => ?_)
        refine rStore (by rfl) rfl 23 _ _ rfl hO 0 _ _ ?_ rfl ?_ _ _ rfl ?_ ?_ ?_ ?_
        rotate_left
        · first | (go_simp; done) | (go_simp; with_reducible rfl) | rfl
        · kernel_rfl
        · kernel_rfl
        · kernel_rfl
        clear hO
        intro w_ hO
        simp only [List.set_cons_zero, List.set_cons_succ, putAllA, Value.cells, List.setIfInBounds_toArray] at hO
        refine hK.out _ _ ?_
        clear hK K
        refine norm_ (a' := ?_) ?_ ?_
        rotate_left
        · rfl
        refine last_ (i := 7) (N := none) #[true, true, true, true, true, true, true, true] rfl rfl (by kernel_rfl) (by decide) (fun K hK => ?_)
        refine rStore (by rfl) rfl 23 _ _ rfl hO 1 _ _ ?_ rfl ?_ _ _ rfl ?_ ?_ ?_ ?_
        rotate_left
        · first | (go_simp; done) | (go_simp; with_reducible rfl) | rfl
        · kernel_rfl
        · kernel_rfl
        · kernel_rfl
        clear hO
        intro w_ hO
        simp only [List.set_cons_zero, List.set_cons_succ, putAllA, Value.cells, List.setIfInBounds_toArray] at hO
        refine hK.out _ _ ?_
        clear hK K
        refine norm_ (a' := ?_) ?_ ?_
        rotate_left
        · rfl
        refine done_ (by kernel_rfl) ?_
        go_wp2_with fail
        go_meet
        first | exact ⟨_, _, rfl, rfl, hO⟩ | exact ⟨_, _, rfl, rfl, hO.swap⟩
  case rest =>
    obtain ⟨g3, g4, rfl, rfl, hO⟩ := hcut
    have q1 : ∀ w : World, (binOp .neq 23 (.agg #[.int .i64 8613, .int .i64 8997, .int .i64 0]) (.agg #[.int .i64 8613, .int .i64 8997, .int .i64 0])).run Tryd.prog w = .ok (.bool false) w := fun w => neq_cell 8613 8997 0 8613 8997 0 w
    have q2 : ∀ w : World, (binOp .neq 23 (.agg #[.int .i64 2000, .int .i64 2992, .int .i64 397]) (.agg #[.int .i64 2000, .int .i64 2992, .int .i64 397])).run Tryd.prog w = .ok (.bool false) w := fun w => neq_cell 2000 2992 397 2000 2992 397 w
    have q3 : ∀ w : World, (binOp .neq 23 (.agg #[.int .i64 9000, .int .i64 9000, .int .i64 0]) (.agg #[.int .i64 9000, .int .i64 9000, .int .i64 0])).run Tryd.prog w = .ok (.bool false) w := fun w => neq_cell 9000 9000 0 9000 9000 0 w
    go_upto_region 6 with fail
    refine start_ (n := 16) (S := fun w' => Own w [(g3, 23, #[.int .i64 8613, .int .i64 8997, .int .i64 0]), (g4, 23, #[.int .i64 2000, .int .i64 2992, .int .i64 397]), (g_, 29, #[.int .i64 2000, .int .i64 3000, .int .i64 5, .string ⟨#[]⟩, .int .i64 9000, .int .i64 500, .int .i64 80, .int .i64 600, .int .i64 0, .int .i64 100, .int .i64 0, .int .i64 0, .int .i64 0, .int .i64 0, .int .i64 0, .int .i64 0, .int .i64 25, .int .i64 200, .int .i64 100, .bool false]), (ga, 29, #[.int .i64 9000, .int .i64 9000, .int .i64 0, .string ⟨#[]⟩, .int .i64 9000, .int .i64 500, .int .i64 80, .int .i64 600, .int .i64 0, .int .i64 100, .int .i64 0, .int .i64 0, .int .i64 0, .int .i64 0, .int .i64 0, .int .i64 0, .int .i64 25, .int .i64 200, .int .i64 100, .bool true])] w') (ds := []) #[false, false, false, false, false, false, false, false, false, false, false, false, false, false, false, false] (by kernel_rfl) rfl rfl (Own.drew hO) (fun hS => ?_)
    clear hO
    have hO := hS
    first
      | (refine take_ (i := 0) (N := some 14) (a' := ?_) #[true, false, false, false, false, false, false, false, false, false, false, false, false, false, false, false] rfl rfl (by kernel_rfl) (fun _ _ _ h => h) (yRow hS ?_ 23 _ rfl 0 _ _ rfl _ _ rfl 3 ?_ ?_ ?_ _ Tryd.underlying23 rfl ?_) hS ?_ ?_; (focus rfl); rotate_left; (focus (simp only [Array.toList_extract, List.extract_toArray, List.extract_eq_take_drop, List.drop_zero, List.drop_succ_cons, List.take_succ_cons, List.take_zero, Nat.reduceAdd, Nat.reduceSub, Nat.zero_add, Nat.add_zero, Nat.add_sub_cancel_left, Nat.sub_zero, Nat.sub_self]; rfl)); (focus rfl); (focus kernel_rfl); rotate_left; (focus (simp only [Act.put, List.setIfInBounds_toArray, List.set_cons_zero, List.set_cons_succ]; rfl)))
      | (refine take_ (i := 0) (N := some 14) (a' := ?_) #[true, false, false, false, false, false, false, false, false, false, false, false, false, false, false, false] rfl rfl (by kernel_rfl) (fun _ _ _ h => h) (yRow hS ?_ 23 _ rfl 1 _ _ rfl _ _ rfl 3 ?_ ?_ ?_ _ Tryd.underlying23 rfl ?_) hS ?_ ?_; (focus rfl); rotate_left; (focus (simp only [Array.toList_extract, List.extract_toArray, List.extract_eq_take_drop, List.drop_zero, List.drop_succ_cons, List.take_succ_cons, List.take_zero, Nat.reduceAdd, Nat.reduceSub, Nat.zero_add, Nat.add_zero, Nat.add_sub_cancel_left, Nat.sub_zero, Nat.sub_self]; rfl)); (focus rfl); (focus kernel_rfl); rotate_left; (focus (simp only [Act.put, List.setIfInBounds_toArray, List.set_cons_zero, List.set_cons_succ]; rfl)))
      | (refine take_ (i := 0) (N := some 14) (a' := ?_) #[true, false, false, false, false, false, false, false, false, false, false, false, false, false, false, false] rfl rfl (by kernel_rfl) (fun _ _ _ h => h) (yRow hS ?_ 23 _ rfl 2 _ _ rfl _ _ rfl 3 ?_ ?_ ?_ _ Tryd.underlying23 rfl ?_) hS ?_ ?_; (focus rfl); rotate_left; (focus (simp only [Array.toList_extract, List.extract_toArray, List.extract_eq_take_drop, List.drop_zero, List.drop_succ_cons, List.take_succ_cons, List.take_zero, Nat.reduceAdd, Nat.reduceSub, Nat.zero_add, Nat.add_zero, Nat.add_sub_cancel_left, Nat.sub_zero, Nat.sub_self]; rfl)); (focus rfl); (focus kernel_rfl); rotate_left; (focus (simp only [Act.put, List.setIfInBounds_toArray, List.set_cons_zero, List.set_cons_succ]; rfl)))
      | (refine take_ (i := 0) (N := some 14) (a' := ?_) #[true, false, false, false, false, false, false, false, false, false, false, false, false, false, false, false] rfl rfl (by kernel_rfl) (fun _ _ _ h => h) (yRow hS ?_ 23 _ rfl 3 _ _ rfl _ _ rfl 3 ?_ ?_ ?_ _ Tryd.underlying23 rfl ?_) hS ?_ ?_; (focus rfl); rotate_left; (focus (simp only [Array.toList_extract, List.extract_toArray, List.extract_eq_take_drop, List.drop_zero, List.drop_succ_cons, List.take_succ_cons, List.take_zero, Nat.reduceAdd, Nat.reduceSub, Nat.zero_add, Nat.add_zero, Nat.add_sub_cancel_left, Nat.sub_zero, Nat.sub_self]; rfl)); (focus rfl); (focus kernel_rfl); rotate_left; (focus (simp only [Act.put, List.setIfInBounds_toArray, List.set_cons_zero, List.set_cons_succ]; rfl)))
    refine pure_ (i := 1) (N := some 15) (v := ?_) (a' := ?_) #[true, true, false, false, false, false, false, false, false, false, false, false, false, false, false, false] rfl rfl (by kernel_rfl) (fun _ _ _ h => h) (Or.inl ⟨by rfl, ?_⟩) ?_ ?_
    rotate_left
    · intro w'
      go_simp
      with_reducible rfl
    rotate_left
    · simp only [Act.put, List.setIfInBounds_toArray, List.set_cons_zero, List.set_cons_succ]
      rfl
    refine pure_ (i := 2) (N := some 16) (v := ?_) (a' := ?_) #[true, true, true, false, false, false, false, false, false, false, false, false, false, false, false, false] rfl rfl (by kernel_rfl) (fun _ _ _ h => h) (Or.inl ⟨by rfl, ?_⟩) ?_ ?_
    rotate_left
    · intro w'
      go_simp
      with_reducible rfl
    rotate_left
    · simp only [Act.put, List.setIfInBounds_toArray, List.set_cons_zero, List.set_cons_succ]
      rfl
    refine pure_ (i := 3) (N := some 17) (v := ?_) (a' := ?_) #[true, true, true, true, false, false, false, false, false, false, false, false, false, false, false, false] rfl rfl (by kernel_rfl) (fun _ _ _ h => h) (Or.inl ⟨by rfl, ?_⟩) ?_ ?_
    rotate_left
    · intro w'
      go_simp
      with_reducible rfl
    rotate_left
    · simp only [Act.put, List.setIfInBounds_toArray, List.set_cons_zero, List.set_cons_succ]
      rfl
    first
      | (refine take_ (i := 4) (N := some 18) (a' := ?_) #[true, true, true, true, true, false, false, false, false, false, false, false, false, false, false, false] rfl rfl (by kernel_rfl) (fun _ _ _ h => h) (yRow hS ?_ 23 _ rfl 0 _ _ rfl _ _ rfl 3 ?_ ?_ ?_ _ Tryd.underlying23 rfl ?_) hS ?_ ?_; (focus rfl); rotate_left; (focus (simp only [Array.toList_extract, List.extract_toArray, List.extract_eq_take_drop, List.drop_zero, List.drop_succ_cons, List.take_succ_cons, List.take_zero, Nat.reduceAdd, Nat.reduceSub, Nat.zero_add, Nat.add_zero, Nat.add_sub_cancel_left, Nat.sub_zero, Nat.sub_self]; rfl)); (focus rfl); (focus kernel_rfl); rotate_left; (focus (simp only [Act.put, List.setIfInBounds_toArray, List.set_cons_zero, List.set_cons_succ]; rfl)))
      | (refine take_ (i := 4) (N := some 18) (a' := ?_) #[true, true, true, true, true, false, false, false, false, false, false, false, false, false, false, false] rfl rfl (by kernel_rfl) (fun _ _ _ h => h) (yRow hS ?_ 23 _ rfl 1 _ _ rfl _ _ rfl 3 ?_ ?_ ?_ _ Tryd.underlying23 rfl ?_) hS ?_ ?_; (focus rfl); rotate_left; (focus (simp only [Array.toList_extract, List.extract_toArray, List.extract_eq_take_drop, List.drop_zero, List.drop_succ_cons, List.take_succ_cons, List.take_zero, Nat.reduceAdd, Nat.reduceSub, Nat.zero_add, Nat.add_zero, Nat.add_sub_cancel_left, Nat.sub_zero, Nat.sub_self]; rfl)); (focus rfl); (focus kernel_rfl); rotate_left; (focus (simp only [Act.put, List.setIfInBounds_toArray, List.set_cons_zero, List.set_cons_succ]; rfl)))
      | (refine take_ (i := 4) (N := some 18) (a' := ?_) #[true, true, true, true, true, false, false, false, false, false, false, false, false, false, false, false] rfl rfl (by kernel_rfl) (fun _ _ _ h => h) (yRow hS ?_ 23 _ rfl 2 _ _ rfl _ _ rfl 3 ?_ ?_ ?_ _ Tryd.underlying23 rfl ?_) hS ?_ ?_; (focus rfl); rotate_left; (focus (simp only [Array.toList_extract, List.extract_toArray, List.extract_eq_take_drop, List.drop_zero, List.drop_succ_cons, List.take_succ_cons, List.take_zero, Nat.reduceAdd, Nat.reduceSub, Nat.zero_add, Nat.add_zero, Nat.add_sub_cancel_left, Nat.sub_zero, Nat.sub_self]; rfl)); (focus rfl); (focus kernel_rfl); rotate_left; (focus (simp only [Act.put, List.setIfInBounds_toArray, List.set_cons_zero, List.set_cons_succ]; rfl)))
      | (refine take_ (i := 4) (N := some 18) (a' := ?_) #[true, true, true, true, true, false, false, false, false, false, false, false, false, false, false, false] rfl rfl (by kernel_rfl) (fun _ _ _ h => h) (yRow hS ?_ 23 _ rfl 3 _ _ rfl _ _ rfl 3 ?_ ?_ ?_ _ Tryd.underlying23 rfl ?_) hS ?_ ?_; (focus rfl); rotate_left; (focus (simp only [Array.toList_extract, List.extract_toArray, List.extract_eq_take_drop, List.drop_zero, List.drop_succ_cons, List.take_succ_cons, List.take_zero, Nat.reduceAdd, Nat.reduceSub, Nat.zero_add, Nat.add_zero, Nat.add_sub_cancel_left, Nat.sub_zero, Nat.sub_self]; rfl)); (focus rfl); (focus kernel_rfl); rotate_left; (focus (simp only [Act.put, List.setIfInBounds_toArray, List.set_cons_zero, List.set_cons_succ]; rfl)))
    refine pure_ (i := 5) (N := some 19) (v := ?_) (a' := ?_) #[true, true, true, true, true, true, false, false, false, false, false, false, false, false, false, false] rfl rfl (by kernel_rfl) (fun _ _ _ h => h) (Or.inl ⟨by rfl, ?_⟩) ?_ ?_
    rotate_left
    · intro w'
      go_simp
      with_reducible rfl
    rotate_left
    · simp only [Act.put, List.setIfInBounds_toArray, List.set_cons_zero, List.set_cons_succ]
      rfl
    refine pure_ (i := 6) (N := some 20) (v := ?_) (a' := ?_) #[true, true, true, true, true, true, true, false, false, false, false, false, false, false, false, false] rfl rfl (by kernel_rfl) (fun _ _ _ h => h) (Or.inl ⟨by rfl, ?_⟩) ?_ ?_
    rotate_left
    · intro w'
      go_simp
      with_reducible rfl
    rotate_left
    · simp only [Act.put, List.setIfInBounds_toArray, List.set_cons_zero, List.set_cons_succ]
      rfl
    refine pure_ (i := 7) (N := some 21) (v := ?_) (a' := ?_) #[true, true, true, true, true, true, true, true, false, false, false, false, false, false, false, false] rfl rfl (by kernel_rfl) (fun _ _ _ h => h) (Or.inl ⟨by rfl, ?_⟩) ?_ ?_
    rotate_left
    · intro w'
      go_simp
      with_reducible rfl
    rotate_left
    · simp only [Act.put, List.setIfInBounds_toArray, List.set_cons_zero, List.set_cons_succ]
      rfl
    refine pure_ (i := 8) (N := some 22) (v := ?_) (a' := ?_) #[true, true, true, true, true, true, true, true, true, false, false, false, false, false, false, false] rfl rfl (by kernel_rfl) (fun _ _ _ h => h) (Or.inl ⟨by rfl, ?_⟩) ?_ ?_
    rotate_left
    · intro w'
      go_simp
      with_reducible rfl
    rotate_left
    · simp only [Act.put, List.setIfInBounds_toArray, List.set_cons_zero, List.set_cons_succ]
      rfl
    refine pure_ (i := 9) (N := some 23) (v := ?_) (a' := ?_) #[true, true, true, true, true, true, true, true, true, true, false, false, false, false, false, false] rfl rfl (by kernel_rfl) (fun _ _ _ h => h) (Or.inl ⟨by rfl, ?_⟩) ?_ ?_
    rotate_left
    · intro w'
      go_simp
      with_reducible rfl
    rotate_left
    · simp only [Act.put, List.setIfInBounds_toArray, List.set_cons_zero, List.set_cons_succ]
      rfl
    first
      | (refine take_ (i := 10) (N := some 24) (a' := ?_) #[true, true, true, true, true, true, true, true, true, true, true, false, false, false, false, false] rfl rfl (by kernel_rfl) (fun _ _ _ h => h) (yRow hS ?_ 25 _ rfl 0 _ _ rfl _ _ rfl 13 ?_ ?_ ?_ _ Tryd.underlying25 rfl ?_) hS ?_ ?_; (focus rfl); rotate_left; (focus (simp only [Array.toList_extract, List.extract_toArray, List.extract_eq_take_drop, List.drop_zero, List.drop_succ_cons, List.take_succ_cons, List.take_zero, Nat.reduceAdd, Nat.reduceSub, Nat.zero_add, Nat.add_zero, Nat.add_sub_cancel_left, Nat.sub_zero, Nat.sub_self]; rfl)); (focus rfl); (focus kernel_rfl); rotate_left; (focus (simp only [Act.put, List.setIfInBounds_toArray, List.set_cons_zero, List.set_cons_succ]; rfl)))
      | (refine take_ (i := 10) (N := some 24) (a' := ?_) #[true, true, true, true, true, true, true, true, true, true, true, false, false, false, false, false] rfl rfl (by kernel_rfl) (fun _ _ _ h => h) (yRow hS ?_ 25 _ rfl 1 _ _ rfl _ _ rfl 13 ?_ ?_ ?_ _ Tryd.underlying25 rfl ?_) hS ?_ ?_; (focus rfl); rotate_left; (focus (simp only [Array.toList_extract, List.extract_toArray, List.extract_eq_take_drop, List.drop_zero, List.drop_succ_cons, List.take_succ_cons, List.take_zero, Nat.reduceAdd, Nat.reduceSub, Nat.zero_add, Nat.add_zero, Nat.add_sub_cancel_left, Nat.sub_zero, Nat.sub_self]; rfl)); (focus rfl); (focus kernel_rfl); rotate_left; (focus (simp only [Act.put, List.setIfInBounds_toArray, List.set_cons_zero, List.set_cons_succ]; rfl)))
      | (refine take_ (i := 10) (N := some 24) (a' := ?_) #[true, true, true, true, true, true, true, true, true, true, true, false, false, false, false, false] rfl rfl (by kernel_rfl) (fun _ _ _ h => h) (yRow hS ?_ 25 _ rfl 2 _ _ rfl _ _ rfl 13 ?_ ?_ ?_ _ Tryd.underlying25 rfl ?_) hS ?_ ?_; (focus rfl); rotate_left; (focus (simp only [Array.toList_extract, List.extract_toArray, List.extract_eq_take_drop, List.drop_zero, List.drop_succ_cons, List.take_succ_cons, List.take_zero, Nat.reduceAdd, Nat.reduceSub, Nat.zero_add, Nat.add_zero, Nat.add_sub_cancel_left, Nat.sub_zero, Nat.sub_self]; rfl)); (focus rfl); (focus kernel_rfl); rotate_left; (focus (simp only [Act.put, List.setIfInBounds_toArray, List.set_cons_zero, List.set_cons_succ]; rfl)))
      | (refine take_ (i := 10) (N := some 24) (a' := ?_) #[true, true, true, true, true, true, true, true, true, true, true, false, false, false, false, false] rfl rfl (by kernel_rfl) (fun _ _ _ h => h) (yRow hS ?_ 25 _ rfl 3 _ _ rfl _ _ rfl 13 ?_ ?_ ?_ _ Tryd.underlying25 rfl ?_) hS ?_ ?_; (focus rfl); rotate_left; (focus (simp only [Array.toList_extract, List.extract_toArray, List.extract_eq_take_drop, List.drop_zero, List.drop_succ_cons, List.take_succ_cons, List.take_zero, Nat.reduceAdd, Nat.reduceSub, Nat.zero_add, Nat.add_zero, Nat.add_sub_cancel_left, Nat.sub_zero, Nat.sub_self]; rfl)); (focus rfl); (focus kernel_rfl); rotate_left; (focus (simp only [Act.put, List.setIfInBounds_toArray, List.set_cons_zero, List.set_cons_succ]; rfl)))
    refine pure_ (i := 12) (N := some 26) (v := ?_) (a' := ?_) #[true, true, true, true, true, true, true, true, true, true, true, false, true, false, false, false] rfl rfl (by kernel_rfl) (fun _ _ _ h => h) (Or.inl ⟨by rfl, ?_⟩) ?_ ?_
    rotate_left
    · intro w'
      go_simp
      with_reducible rfl
    rotate_left
    · simp only [Act.put, List.setIfInBounds_toArray, List.set_cons_zero, List.set_cons_succ]
      rfl
    first
      | (refine take_ (i := 13) (N := some 27) (a' := ?_) #[true, true, true, true, true, true, true, true, true, true, true, false, true, true, false, false] rfl rfl (by kernel_rfl) (fun _ _ _ h => h) (yRow hS ?_ 23 _ rfl 0 _ _ rfl _ _ rfl 3 ?_ ?_ ?_ _ Tryd.underlying23 rfl ?_) hS ?_ ?_; (focus rfl); rotate_left; (focus (simp only [Array.toList_extract, List.extract_toArray, List.extract_eq_take_drop, List.drop_zero, List.drop_succ_cons, List.take_succ_cons, List.take_zero, Nat.reduceAdd, Nat.reduceSub, Nat.zero_add, Nat.add_zero, Nat.add_sub_cancel_left, Nat.sub_zero, Nat.sub_self]; rfl)); (focus rfl); (focus kernel_rfl); rotate_left; (focus (simp only [Act.put, List.setIfInBounds_toArray, List.set_cons_zero, List.set_cons_succ]; rfl)))
      | (refine take_ (i := 13) (N := some 27) (a' := ?_) #[true, true, true, true, true, true, true, true, true, true, true, false, true, true, false, false] rfl rfl (by kernel_rfl) (fun _ _ _ h => h) (yRow hS ?_ 23 _ rfl 1 _ _ rfl _ _ rfl 3 ?_ ?_ ?_ _ Tryd.underlying23 rfl ?_) hS ?_ ?_; (focus rfl); rotate_left; (focus (simp only [Array.toList_extract, List.extract_toArray, List.extract_eq_take_drop, List.drop_zero, List.drop_succ_cons, List.take_succ_cons, List.take_zero, Nat.reduceAdd, Nat.reduceSub, Nat.zero_add, Nat.add_zero, Nat.add_sub_cancel_left, Nat.sub_zero, Nat.sub_self]; rfl)); (focus rfl); (focus kernel_rfl); rotate_left; (focus (simp only [Act.put, List.setIfInBounds_toArray, List.set_cons_zero, List.set_cons_succ]; rfl)))
      | (refine take_ (i := 13) (N := some 27) (a' := ?_) #[true, true, true, true, true, true, true, true, true, true, true, false, true, true, false, false] rfl rfl (by kernel_rfl) (fun _ _ _ h => h) (yRow hS ?_ 23 _ rfl 2 _ _ rfl _ _ rfl 3 ?_ ?_ ?_ _ Tryd.underlying23 rfl ?_) hS ?_ ?_; (focus rfl); rotate_left; (focus (simp only [Array.toList_extract, List.extract_toArray, List.extract_eq_take_drop, List.drop_zero, List.drop_succ_cons, List.take_succ_cons, List.take_zero, Nat.reduceAdd, Nat.reduceSub, Nat.zero_add, Nat.add_zero, Nat.add_sub_cancel_left, Nat.sub_zero, Nat.sub_self]; rfl)); (focus rfl); (focus kernel_rfl); rotate_left; (focus (simp only [Act.put, List.setIfInBounds_toArray, List.set_cons_zero, List.set_cons_succ]; rfl)))
      | (refine take_ (i := 13) (N := some 27) (a' := ?_) #[true, true, true, true, true, true, true, true, true, true, true, false, true, true, false, false] rfl rfl (by kernel_rfl) (fun _ _ _ h => h) (yRow hS ?_ 23 _ rfl 3 _ _ rfl _ _ rfl 3 ?_ ?_ ?_ _ Tryd.underlying23 rfl ?_) hS ?_ ?_; (focus rfl); rotate_left; (focus (simp only [Array.toList_extract, List.extract_toArray, List.extract_eq_take_drop, List.drop_zero, List.drop_succ_cons, List.take_succ_cons, List.take_zero, Nat.reduceAdd, Nat.reduceSub, Nat.zero_add, Nat.add_zero, Nat.add_sub_cancel_left, Nat.sub_zero, Nat.sub_self]; rfl)); (focus rfl); (focus kernel_rfl); rotate_left; (focus (simp only [Act.put, List.setIfInBounds_toArray, List.set_cons_zero, List.set_cons_succ]; rfl)))
    refine one_ (i := 11) (N := some 25) #[true, true, true, true, true, true, true, true, true, true, true, true, true, true, false, false] rfl rfl (by kernel_rfl) (by decide) (fun K hK => ?_)
    refine goes_ Tryd.func14 (by kernel_rfl) rfl #[.agg #[.string ⟨#[]⟩, .int .i64 9000, .int .i64 500, .int .i64 80, .int .i64 600, .int .i64 0, .int .i64 100, .int .i64 0, .int .i64 0, .int .i64 0, .int .i64 0, .int .i64 0, .int .i64 0]] (by rfl) rfl rfl (by (try simp only [List.map_toArray, List.map_cons, List.map_nil]); first | done | rfl) ?_
    with_reducible refine (green1 _).mono ?_
    rintro e w_ ⟨rfl, hb_⟩
    refine ⟨_, rfl, ?_⟩
    replace hO := Own.call hO hb_
    clear hb_
    refine hK.out _ _ (hO) (fun hS => ?_)
    clear hK K
    refine norm_ (a' := ?_) ?_ ?_
    rotate_left
    · show Act.put _ (some 25) _ = _
      simp only [Act.put, List.setIfInBounds_toArray, List.set_cons_zero, List.set_cons_succ]
      rfl
    refine pure_ (i := 14) (N := some 28) (v := ?_) (a' := ?_) #[true, true, true, true, true, true, true, true, true, true, true, true, true, true, true, false] rfl rfl (by kernel_rfl) (fun _ _ _ h => h) (Or.inl ⟨by rfl, ?_⟩) ?_ ?_
    rotate_left
    · intro w'
      go_simp
      with_reducible rfl
    rotate_left
    · simp only [Act.put, List.setIfInBounds_toArray, List.set_cons_zero, List.set_cons_succ]
      rfl
    refine pure_ (i := 15) (N := some 29) (v := ?_) (a' := ?_) #[true, true, true, true, true, true, true, true, true, true, true, true, true, true, true, true] rfl rfl (by kernel_rfl) (fun _ _ _ h => h) (Or.inl ⟨by rfl, ?_⟩) ?_ ?_
    rotate_left
    · intro w'
      go_simp
      with_reducible rfl
    rotate_left
    · simp only [Act.put, List.setIfInBounds_toArray, List.set_cons_zero, List.set_cons_succ]
      rfl
    refine done_ (by kernel_rfl) ?_
    skip
    go_wp2_with (first
    | (refine own_alloc rfl 23 rfl hO _ rfl #[.int .i64 0, .int .i64 0, .int .i64 0] (by kernel_rfl) ?_; clear hO; (try clear w_); intro g_ w_ hO)
    | (refine own_box rfl 23 _ rfl hO _ rfl ?_ ?_ ?_; rotate_left; (focus (first | (go_simp; done) | (go_simp; with_reducible rfl) | rfl)); clear hO; (try clear w_); intro g_ w_ hO; simp only [Value.cells] at hO)
    | ((first | refine own_load_row rfl 23 _ rfl hO 0 _ _ rfl _ _ rfl _ rfl 3 ?_ ?_ ?_ _ Tryd.underlying23 rfl ?_ ?_ | refine own_load_row rfl 23 _ rfl hO 1 _ _ rfl _ _ rfl _ rfl 3 ?_ ?_ ?_ _ Tryd.underlying23 rfl ?_ ?_ | refine own_load_row rfl 23 _ rfl hO 2 _ _ rfl _ _ rfl _ rfl 3 ?_ ?_ ?_ _ Tryd.underlying23 rfl ?_ ?_ | refine own_load_row rfl 23 _ rfl hO 3 _ _ rfl _ _ rfl _ rfl 3 ?_ ?_ ?_ _ Tryd.underlying23 rfl ?_ ?_); rotate_left; (focus (simp only [Array.toList_extract, List.extract_toArray, List.extract_eq_take_drop, List.drop_zero, List.drop_succ_cons, List.take_succ_cons, List.take_zero, Nat.reduceAdd, Nat.reduceSub, Nat.zero_add, Nat.add_zero, Nat.add_sub_cancel_left, Nat.sub_zero, Nat.sub_self]; rfl)); (focus rfl); (focus kernel_rfl))
    | ((first | refine own_store rfl 23 _ _ rfl hO 0 _ _ ?_ rfl ?_ _ _ rfl _ rfl ?_ ?_ ?_ ?_ | refine own_store rfl 23 _ _ rfl hO 1 _ _ ?_ rfl ?_ _ _ rfl _ rfl ?_ ?_ ?_ ?_ | refine own_store rfl 23 _ _ rfl hO 2 _ _ ?_ rfl ?_ _ _ rfl _ rfl ?_ ?_ ?_ ?_ | refine own_store rfl 23 _ _ rfl hO 3 _ _ ?_ rfl ?_ _ _ rfl _ rfl ?_ ?_ ?_ ?_); rotate_left; (focus (first | (go_simp; done) | (go_simp; with_reducible rfl) | rfl)); (focus kernel_rfl); (focus kernel_rfl); (focus kernel_rfl); clear hO; (try clear w_); intro w_ hO; simp only [List.set_cons_zero, List.set_cons_succ, putAllA, Value.cells, List.setIfInBounds_toArray] at hO)
    | (refine own_alloc rfl 25 rfl hO _ rfl #[.string ⟨#[]⟩, .int .i64 0, .int .i64 0, .int .i64 0, .int .i64 0, .int .i64 0, .int .i64 0, .int .i64 0, .int .i64 0, .int .i64 0, .int .i64 0, .int .i64 0, .int .i64 0] (by kernel_rfl) ?_; clear hO; (try clear w_); intro g_ w_ hO)
    | (refine own_box rfl 25 _ rfl hO _ rfl ?_ ?_ ?_; rotate_left; (focus (first | (go_simp; done) | (go_simp; with_reducible rfl) | rfl)); clear hO; (try clear w_); intro g_ w_ hO; simp only [Value.cells] at hO)
    | ((first | refine own_load_row rfl 25 _ rfl hO 0 _ _ rfl _ _ rfl _ rfl 13 ?_ ?_ ?_ _ Tryd.underlying25 rfl ?_ ?_ | refine own_load_row rfl 25 _ rfl hO 1 _ _ rfl _ _ rfl _ rfl 13 ?_ ?_ ?_ _ Tryd.underlying25 rfl ?_ ?_ | refine own_load_row rfl 25 _ rfl hO 2 _ _ rfl _ _ rfl _ rfl 13 ?_ ?_ ?_ _ Tryd.underlying25 rfl ?_ ?_ | refine own_load_row rfl 25 _ rfl hO 3 _ _ rfl _ _ rfl _ rfl 13 ?_ ?_ ?_ _ Tryd.underlying25 rfl ?_ ?_); rotate_left; (focus (simp only [Array.toList_extract, List.extract_toArray, List.extract_eq_take_drop, List.drop_zero, List.drop_succ_cons, List.take_succ_cons, List.take_zero, Nat.reduceAdd, Nat.reduceSub, Nat.zero_add, Nat.add_zero, Nat.add_sub_cancel_left, Nat.sub_zero, Nat.sub_self]; rfl)); (focus rfl); (focus kernel_rfl))
    | ((first | refine own_store rfl 25 _ _ rfl hO 0 _ _ ?_ rfl ?_ _ _ rfl _ rfl ?_ ?_ ?_ ?_ | refine own_store rfl 25 _ _ rfl hO 1 _ _ ?_ rfl ?_ _ _ rfl _ rfl ?_ ?_ ?_ ?_ | refine own_store rfl 25 _ _ rfl hO 2 _ _ ?_ rfl ?_ _ _ rfl _ rfl ?_ ?_ ?_ ?_ | refine own_store rfl 25 _ _ rfl hO 3 _ _ ?_ rfl ?_ _ _ rfl _ rfl ?_ ?_ ?_ ?_); rotate_left; (focus (first | (go_simp; done) | (go_simp; with_reducible rfl) | rfl)); (focus kernel_rfl); (focus kernel_rfl); (focus kernel_rfl); clear hO; (try clear w_); intro w_ hO; simp only [List.set_cons_zero, List.set_cons_succ, putAllA, Value.cells, List.setIfInBounds_toArray] at hO)
    | (go_at_call 16; (with_reducible refine (mean1 _).mono ?_); rintro e w_ ⟨rfl, hb_⟩; replace hO := Own.call hO hb_; clear hb_)
    | (go_at_call 18; (with_reducible refine (grad1 _).mono ?_); rintro e w_ ⟨rfl, hb_⟩; replace hO := Own.call hO hb_; clear hb_)
    | (go_at_call 20; (with_reducible refine (checks1 _).mono ?_); rintro e w_ ⟨rfl, hb_⟩; replace hO := Own.call hO hb_; clear hb_)
    | (go_at_call 12; (first | (with_reducible refine (check1 _).mono ?_) | (with_reducible refine (check2 _).mono ?_)); rintro e w_ ⟨rfl, hb_⟩; replace hO := Own.call hO hb_; clear hb_)
    )
    go_ret
    exact ⟨rfl, hO.bel⟩

end Go.Proofs.YtfjlbpjjcehcnaaDoor
