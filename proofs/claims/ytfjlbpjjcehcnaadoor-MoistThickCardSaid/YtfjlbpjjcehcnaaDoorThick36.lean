/-
  MoistThick, walked.
-/
import Derived.Test.YtfjlbpjjcehcnaaDoorAwake36
import Derived.Test.YtfjlbpjjcehcnaaDoorPlain36
import Derived.Deep.DeepCutAuto
namespace Go.Proofs.YtfjlbpjjcehcnaaDoor
open Go.RowKit Go.Proofs.YtfjlbpjjcehcnaaDoorW.PrintLast
set_option linter.unusedSimpArgs false

set_option maxHeartbeats 4000000 in
set_option maxRecDepth 100000 in
theorem thick_no (a b s : Int) (n : ByteArray) (a0 a1 a2 a3 a4 a5 a6 a7 a8 a9 a10 a11 thick t d : Int) (fan : Bool) (m : Int) (w : World) (hG : Hid (Glob w))
    (h : thick < 1 ∨ m < 0 ∨ 600 < m ∨ 600 - m < thick) :
    Calls Tryd.prog 7 #[.agg #[.int .i64 a, .int .i64 b, .int .i64 s, .string n, .int .i64 a0, .int .i64 a1, .int .i64 a2, .int .i64 a3, .int .i64 a4, .int .i64 a5, .int .i64 a6, .int .i64 a7, .int .i64 a8, .int .i64 a9, .int .i64 a10, .int .i64 a11, .int .i64 thick, .int .i64 t, .int .i64 d, .bool fan], .int .i64 m] w fun e w' => e = .returned (.bool true) ∧ Below w.heap.size w w' := by
  have hO := Own.nil w
  have one : ∀ {p : Prop} [Decidable p], p → decide p = true := fun h => decide_eq_true h
  have non : ∀ {p : Prop} [Decidable p], ¬ p → decide p = false := fun h => decide_eq_false h
  rcases Decidable.em (thick < 1) with k1 | k1
  · replace k1 := one k1
    clear h one non
    go_enter Tryd.func7, Tryd.ntmps7
    go_wp2_with (first
    | (refine own_alloc rfl 29 rfl hO _ rfl #[.int .i64 0, .int .i64 0, .int .i64 0, .string ⟨#[]⟩, .int .i64 0, .int .i64 0, .int .i64 0, .int .i64 0, .int .i64 0, .int .i64 0, .int .i64 0, .int .i64 0, .int .i64 0, .int .i64 0, .int .i64 0, .int .i64 0, .int .i64 0, .int .i64 0, .int .i64 0, .bool false] (by kernel_rfl) ?_; clear hO; (try clear w_); intro g_ w_ hO)
    | (refine own_box rfl 29 _ rfl hO _ rfl ?_ ?_ ?_; rotate_left; (focus (first | (go_simp; done) | (go_simp; with_reducible rfl) | rfl)); clear hO; (try clear w_); intro g_ w_ hO; simp only [Value.cells] at hO)
    | ((first | refine own_load_row rfl 29 _ rfl hO 0 _ _ rfl _ _ rfl _ rfl 20 ?_ ?_ ?_ _ Tryd.underlying29 rfl ?_ ?_ | refine own_load_row rfl 29 _ rfl hO 1 _ _ rfl _ _ rfl _ rfl 20 ?_ ?_ ?_ _ Tryd.underlying29 rfl ?_ ?_); rotate_left; (focus (simp only [Array.toList_extract, List.extract_toArray, List.extract_eq_take_drop, List.drop_zero, List.drop_succ_cons, List.take_succ_cons, List.take_zero, Nat.reduceAdd, Nat.reduceSub, Nat.zero_add, Nat.add_zero, Nat.add_sub_cancel_left, Nat.sub_zero, Nat.sub_self]; rfl)); (focus rfl); (focus kernel_rfl))
    | ((first | refine own_store rfl 29 _ _ rfl hO 0 _ _ ?_ rfl ?_ _ _ rfl _ rfl ?_ ?_ ?_ ?_ | refine own_store rfl 29 _ _ rfl hO 1 _ _ ?_ rfl ?_ _ _ rfl _ rfl ?_ ?_ ?_ ?_); rotate_left; (focus (first | (go_simp; done) | (go_simp; with_reducible rfl) | rfl)); (focus kernel_rfl); (focus kernel_rfl); (focus kernel_rfl); clear hO; (try clear w_); intro w_ hO; simp only [List.set_cons_zero, List.set_cons_succ, putAllA, Value.cells, List.setIfInBounds_toArray] at hO)
    | (refine own_alloc rfl 23 rfl hO _ rfl #[.int .i64 0, .int .i64 0, .int .i64 0] (by kernel_rfl) ?_; clear hO; (try clear w_); intro g_ w_ hO)
    | (refine own_box rfl 23 _ rfl hO _ rfl ?_ ?_ ?_; rotate_left; (focus (first | (go_simp; done) | (go_simp; with_reducible rfl) | rfl)); clear hO; (try clear w_); intro g_ w_ hO; simp only [Value.cells] at hO)
    | ((first | refine own_load_row rfl 23 _ rfl hO 0 _ _ rfl _ _ rfl _ rfl 3 ?_ ?_ ?_ _ Tryd.underlying23 rfl ?_ ?_ | refine own_load_row rfl 23 _ rfl hO 1 _ _ rfl _ _ rfl _ rfl 3 ?_ ?_ ?_ _ Tryd.underlying23 rfl ?_ ?_); rotate_left; (focus (simp only [Array.toList_extract, List.extract_toArray, List.extract_eq_take_drop, List.drop_zero, List.drop_succ_cons, List.take_succ_cons, List.take_zero, Nat.reduceAdd, Nat.reduceSub, Nat.zero_add, Nat.add_zero, Nat.add_sub_cancel_left, Nat.sub_zero, Nat.sub_self]; rfl)); (focus rfl); (focus kernel_rfl))
    | ((first | refine own_store rfl 23 _ _ rfl hO 0 _ _ ?_ rfl ?_ _ _ rfl _ rfl ?_ ?_ ?_ ?_ | refine own_store rfl 23 _ _ rfl hO 1 _ _ ?_ rfl ?_ _ _ rfl _ rfl ?_ ?_ ?_ ?_); rotate_left; (focus (first | (go_simp; done) | (go_simp; with_reducible rfl) | rfl)); (focus kernel_rfl); (focus kernel_rfl); (focus kernel_rfl); clear hO; (try clear w_); intro w_ hO; simp only [List.set_cons_zero, List.set_cons_succ, putAllA, Value.cells, List.setIfInBounds_toArray] at hO)
    | (refine own_alloc rfl 3 rfl hO _ rfl #[.int .i64 0] (by kernel_rfl) ?_; clear hO; (try clear w_); intro g_ w_ hO)
    | (refine own_box rfl 3 _ rfl hO _ rfl ?_ ?_ ?_; rotate_left; (focus (first | (go_simp; done) | (go_simp; with_reducible rfl) | rfl)); clear hO; (try clear w_); intro g_ w_ hO; simp only [Value.cells] at hO)
    | ((first | refine own_load_one rfl 3 _ rfl hO 0 _ _ rfl _ _ rfl _ rfl ?_ ?_ _ Tryd.underlying3 rfl ?_ | refine own_load_one rfl 3 _ rfl hO 1 _ _ rfl _ _ rfl _ rfl ?_ ?_ _ Tryd.underlying3 rfl ?_); rotate_left; (focus (simp only [List.getElem?_toArray, List.getElem?_cons_zero, List.getElem?_cons_succ]; rfl)))
    | ((first | refine own_store rfl 3 _ _ rfl hO 0 _ _ ?_ rfl ?_ _ _ rfl _ rfl ?_ ?_ ?_ ?_ | refine own_store rfl 3 _ _ rfl hO 1 _ _ ?_ rfl ?_ _ _ rfl _ rfl ?_ ?_ ?_ ?_); rotate_left; (focus (first | (go_simp; done) | (go_simp; with_reducible rfl) | rfl)); (focus kernel_rfl); (focus kernel_rfl); (focus kernel_rfl); clear hO; (try clear w_); intro w_ hO; simp only [List.set_cons_zero, List.set_cons_succ, putAllA, Value.cells, List.setIfInBounds_toArray] at hO)
    | (refine own_alloc rfl 4 rfl hO _ rfl #[.bool false] (by kernel_rfl) ?_; clear hO; (try clear w_); intro g_ w_ hO)
    | (refine own_box rfl 4 _ rfl hO _ rfl ?_ ?_ ?_; rotate_left; (focus (first | (go_simp; done) | (go_simp; with_reducible rfl) | rfl)); clear hO; (try clear w_); intro g_ w_ hO; simp only [Value.cells] at hO)
    | ((first | refine own_load_one rfl 4 _ rfl hO 0 _ _ rfl _ _ rfl _ rfl ?_ ?_ _ Tryd.underlying4 rfl ?_ | refine own_load_one rfl 4 _ rfl hO 1 _ _ rfl _ _ rfl _ rfl ?_ ?_ _ Tryd.underlying4 rfl ?_); rotate_left; (focus (simp only [List.getElem?_toArray, List.getElem?_cons_zero, List.getElem?_cons_succ]; rfl)))
    | ((first | refine own_store rfl 4 _ _ rfl hO 0 _ _ ?_ rfl ?_ _ _ rfl _ rfl ?_ ?_ ?_ ?_ | refine own_store rfl 4 _ _ rfl hO 1 _ _ ?_ rfl ?_ _ _ rfl _ rfl ?_ ?_ ?_ ?_); rotate_left; (focus (first | (go_simp; done) | (go_simp; with_reducible rfl) | rfl)); (focus kernel_rfl); (focus kernel_rfl); (focus kernel_rfl); clear hO; (try clear w_); intro w_ hO; simp only [List.set_cons_zero, List.set_cons_succ, putAllA, Value.cells, List.setIfInBounds_toArray] at hO)
    | (go_at_call 11; (with_reducible refine (awake_any _ (Lib.hid (hG.out.below hO.bel))).mono ?_); rintro e w_ ⟨rfl, hb_⟩; replace hO := Own.call hO hb_; clear hb_)
    )
    go_ret
    exact ⟨rfl, hO.bel⟩
  · rcases Decidable.em (m < 0) with k2 | k2
    · replace k1 := non k1
      replace k2 := one k2
      clear h one non
      go_enter Tryd.func7, Tryd.ntmps7
      go_wp2_with (first
    | (refine own_alloc rfl 29 rfl hO _ rfl #[.int .i64 0, .int .i64 0, .int .i64 0, .string ⟨#[]⟩, .int .i64 0, .int .i64 0, .int .i64 0, .int .i64 0, .int .i64 0, .int .i64 0, .int .i64 0, .int .i64 0, .int .i64 0, .int .i64 0, .int .i64 0, .int .i64 0, .int .i64 0, .int .i64 0, .int .i64 0, .bool false] (by kernel_rfl) ?_; clear hO; (try clear w_); intro g_ w_ hO)
    | (refine own_box rfl 29 _ rfl hO _ rfl ?_ ?_ ?_; rotate_left; (focus (first | (go_simp; done) | (go_simp; with_reducible rfl) | rfl)); clear hO; (try clear w_); intro g_ w_ hO; simp only [Value.cells] at hO)
    | ((first | refine own_load_row rfl 29 _ rfl hO 0 _ _ rfl _ _ rfl _ rfl 20 ?_ ?_ ?_ _ Tryd.underlying29 rfl ?_ ?_ | refine own_load_row rfl 29 _ rfl hO 1 _ _ rfl _ _ rfl _ rfl 20 ?_ ?_ ?_ _ Tryd.underlying29 rfl ?_ ?_); rotate_left; (focus (simp only [Array.toList_extract, List.extract_toArray, List.extract_eq_take_drop, List.drop_zero, List.drop_succ_cons, List.take_succ_cons, List.take_zero, Nat.reduceAdd, Nat.reduceSub, Nat.zero_add, Nat.add_zero, Nat.add_sub_cancel_left, Nat.sub_zero, Nat.sub_self]; rfl)); (focus rfl); (focus kernel_rfl))
    | ((first | refine own_store rfl 29 _ _ rfl hO 0 _ _ ?_ rfl ?_ _ _ rfl _ rfl ?_ ?_ ?_ ?_ | refine own_store rfl 29 _ _ rfl hO 1 _ _ ?_ rfl ?_ _ _ rfl _ rfl ?_ ?_ ?_ ?_); rotate_left; (focus (first | (go_simp; done) | (go_simp; with_reducible rfl) | rfl)); (focus kernel_rfl); (focus kernel_rfl); (focus kernel_rfl); clear hO; (try clear w_); intro w_ hO; simp only [List.set_cons_zero, List.set_cons_succ, putAllA, Value.cells, List.setIfInBounds_toArray] at hO)
    | (refine own_alloc rfl 23 rfl hO _ rfl #[.int .i64 0, .int .i64 0, .int .i64 0] (by kernel_rfl) ?_; clear hO; (try clear w_); intro g_ w_ hO)
    | (refine own_box rfl 23 _ rfl hO _ rfl ?_ ?_ ?_; rotate_left; (focus (first | (go_simp; done) | (go_simp; with_reducible rfl) | rfl)); clear hO; (try clear w_); intro g_ w_ hO; simp only [Value.cells] at hO)
    | ((first | refine own_load_row rfl 23 _ rfl hO 0 _ _ rfl _ _ rfl _ rfl 3 ?_ ?_ ?_ _ Tryd.underlying23 rfl ?_ ?_ | refine own_load_row rfl 23 _ rfl hO 1 _ _ rfl _ _ rfl _ rfl 3 ?_ ?_ ?_ _ Tryd.underlying23 rfl ?_ ?_); rotate_left; (focus (simp only [Array.toList_extract, List.extract_toArray, List.extract_eq_take_drop, List.drop_zero, List.drop_succ_cons, List.take_succ_cons, List.take_zero, Nat.reduceAdd, Nat.reduceSub, Nat.zero_add, Nat.add_zero, Nat.add_sub_cancel_left, Nat.sub_zero, Nat.sub_self]; rfl)); (focus rfl); (focus kernel_rfl))
    | ((first | refine own_store rfl 23 _ _ rfl hO 0 _ _ ?_ rfl ?_ _ _ rfl _ rfl ?_ ?_ ?_ ?_ | refine own_store rfl 23 _ _ rfl hO 1 _ _ ?_ rfl ?_ _ _ rfl _ rfl ?_ ?_ ?_ ?_); rotate_left; (focus (first | (go_simp; done) | (go_simp; with_reducible rfl) | rfl)); (focus kernel_rfl); (focus kernel_rfl); (focus kernel_rfl); clear hO; (try clear w_); intro w_ hO; simp only [List.set_cons_zero, List.set_cons_succ, putAllA, Value.cells, List.setIfInBounds_toArray] at hO)
    | (refine own_alloc rfl 3 rfl hO _ rfl #[.int .i64 0] (by kernel_rfl) ?_; clear hO; (try clear w_); intro g_ w_ hO)
    | (refine own_box rfl 3 _ rfl hO _ rfl ?_ ?_ ?_; rotate_left; (focus (first | (go_simp; done) | (go_simp; with_reducible rfl) | rfl)); clear hO; (try clear w_); intro g_ w_ hO; simp only [Value.cells] at hO)
    | ((first | refine own_load_one rfl 3 _ rfl hO 0 _ _ rfl _ _ rfl _ rfl ?_ ?_ _ Tryd.underlying3 rfl ?_ | refine own_load_one rfl 3 _ rfl hO 1 _ _ rfl _ _ rfl _ rfl ?_ ?_ _ Tryd.underlying3 rfl ?_); rotate_left; (focus (simp only [List.getElem?_toArray, List.getElem?_cons_zero, List.getElem?_cons_succ]; rfl)))
    | ((first | refine own_store rfl 3 _ _ rfl hO 0 _ _ ?_ rfl ?_ _ _ rfl _ rfl ?_ ?_ ?_ ?_ | refine own_store rfl 3 _ _ rfl hO 1 _ _ ?_ rfl ?_ _ _ rfl _ rfl ?_ ?_ ?_ ?_); rotate_left; (focus (first | (go_simp; done) | (go_simp; with_reducible rfl) | rfl)); (focus kernel_rfl); (focus kernel_rfl); (focus kernel_rfl); clear hO; (try clear w_); intro w_ hO; simp only [List.set_cons_zero, List.set_cons_succ, putAllA, Value.cells, List.setIfInBounds_toArray] at hO)
    | (refine own_alloc rfl 4 rfl hO _ rfl #[.bool false] (by kernel_rfl) ?_; clear hO; (try clear w_); intro g_ w_ hO)
    | (refine own_box rfl 4 _ rfl hO _ rfl ?_ ?_ ?_; rotate_left; (focus (first | (go_simp; done) | (go_simp; with_reducible rfl) | rfl)); clear hO; (try clear w_); intro g_ w_ hO; simp only [Value.cells] at hO)
    | ((first | refine own_load_one rfl 4 _ rfl hO 0 _ _ rfl _ _ rfl _ rfl ?_ ?_ _ Tryd.underlying4 rfl ?_ | refine own_load_one rfl 4 _ rfl hO 1 _ _ rfl _ _ rfl _ rfl ?_ ?_ _ Tryd.underlying4 rfl ?_); rotate_left; (focus (simp only [List.getElem?_toArray, List.getElem?_cons_zero, List.getElem?_cons_succ]; rfl)))
    | ((first | refine own_store rfl 4 _ _ rfl hO 0 _ _ ?_ rfl ?_ _ _ rfl _ rfl ?_ ?_ ?_ ?_ | refine own_store rfl 4 _ _ rfl hO 1 _ _ ?_ rfl ?_ _ _ rfl _ rfl ?_ ?_ ?_ ?_); rotate_left; (focus (first | (go_simp; done) | (go_simp; with_reducible rfl) | rfl)); (focus kernel_rfl); (focus kernel_rfl); (focus kernel_rfl); clear hO; (try clear w_); intro w_ hO; simp only [List.set_cons_zero, List.set_cons_succ, putAllA, Value.cells, List.setIfInBounds_toArray] at hO)
    | (go_at_call 11; (with_reducible refine (awake_any _ (Lib.hid (hG.out.below hO.bel))).mono ?_); rintro e w_ ⟨rfl, hb_⟩; replace hO := Own.call hO hb_; clear hb_)
      )
      go_ret
      exact ⟨rfl, hO.bel⟩
    · rcases Decidable.em (600 < m) with k3 | k3
      · replace k1 := non k1
        replace k2 := non k2
        replace k3 := one k3
        clear h one non
        go_enter Tryd.func7, Tryd.ntmps7
        go_wp2_with (first
    | (refine own_alloc rfl 29 rfl hO _ rfl #[.int .i64 0, .int .i64 0, .int .i64 0, .string ⟨#[]⟩, .int .i64 0, .int .i64 0, .int .i64 0, .int .i64 0, .int .i64 0, .int .i64 0, .int .i64 0, .int .i64 0, .int .i64 0, .int .i64 0, .int .i64 0, .int .i64 0, .int .i64 0, .int .i64 0, .int .i64 0, .bool false] (by kernel_rfl) ?_; clear hO; (try clear w_); intro g_ w_ hO)
    | (refine own_box rfl 29 _ rfl hO _ rfl ?_ ?_ ?_; rotate_left; (focus (first | (go_simp; done) | (go_simp; with_reducible rfl) | rfl)); clear hO; (try clear w_); intro g_ w_ hO; simp only [Value.cells] at hO)
    | ((first | refine own_load_row rfl 29 _ rfl hO 0 _ _ rfl _ _ rfl _ rfl 20 ?_ ?_ ?_ _ Tryd.underlying29 rfl ?_ ?_ | refine own_load_row rfl 29 _ rfl hO 1 _ _ rfl _ _ rfl _ rfl 20 ?_ ?_ ?_ _ Tryd.underlying29 rfl ?_ ?_); rotate_left; (focus (simp only [Array.toList_extract, List.extract_toArray, List.extract_eq_take_drop, List.drop_zero, List.drop_succ_cons, List.take_succ_cons, List.take_zero, Nat.reduceAdd, Nat.reduceSub, Nat.zero_add, Nat.add_zero, Nat.add_sub_cancel_left, Nat.sub_zero, Nat.sub_self]; rfl)); (focus rfl); (focus kernel_rfl))
    | ((first | refine own_store rfl 29 _ _ rfl hO 0 _ _ ?_ rfl ?_ _ _ rfl _ rfl ?_ ?_ ?_ ?_ | refine own_store rfl 29 _ _ rfl hO 1 _ _ ?_ rfl ?_ _ _ rfl _ rfl ?_ ?_ ?_ ?_); rotate_left; (focus (first | (go_simp; done) | (go_simp; with_reducible rfl) | rfl)); (focus kernel_rfl); (focus kernel_rfl); (focus kernel_rfl); clear hO; (try clear w_); intro w_ hO; simp only [List.set_cons_zero, List.set_cons_succ, putAllA, Value.cells, List.setIfInBounds_toArray] at hO)
    | (refine own_alloc rfl 23 rfl hO _ rfl #[.int .i64 0, .int .i64 0, .int .i64 0] (by kernel_rfl) ?_; clear hO; (try clear w_); intro g_ w_ hO)
    | (refine own_box rfl 23 _ rfl hO _ rfl ?_ ?_ ?_; rotate_left; (focus (first | (go_simp; done) | (go_simp; with_reducible rfl) | rfl)); clear hO; (try clear w_); intro g_ w_ hO; simp only [Value.cells] at hO)
    | ((first | refine own_load_row rfl 23 _ rfl hO 0 _ _ rfl _ _ rfl _ rfl 3 ?_ ?_ ?_ _ Tryd.underlying23 rfl ?_ ?_ | refine own_load_row rfl 23 _ rfl hO 1 _ _ rfl _ _ rfl _ rfl 3 ?_ ?_ ?_ _ Tryd.underlying23 rfl ?_ ?_); rotate_left; (focus (simp only [Array.toList_extract, List.extract_toArray, List.extract_eq_take_drop, List.drop_zero, List.drop_succ_cons, List.take_succ_cons, List.take_zero, Nat.reduceAdd, Nat.reduceSub, Nat.zero_add, Nat.add_zero, Nat.add_sub_cancel_left, Nat.sub_zero, Nat.sub_self]; rfl)); (focus rfl); (focus kernel_rfl))
    | ((first | refine own_store rfl 23 _ _ rfl hO 0 _ _ ?_ rfl ?_ _ _ rfl _ rfl ?_ ?_ ?_ ?_ | refine own_store rfl 23 _ _ rfl hO 1 _ _ ?_ rfl ?_ _ _ rfl _ rfl ?_ ?_ ?_ ?_); rotate_left; (focus (first | (go_simp; done) | (go_simp; with_reducible rfl) | rfl)); (focus kernel_rfl); (focus kernel_rfl); (focus kernel_rfl); clear hO; (try clear w_); intro w_ hO; simp only [List.set_cons_zero, List.set_cons_succ, putAllA, Value.cells, List.setIfInBounds_toArray] at hO)
    | (refine own_alloc rfl 3 rfl hO _ rfl #[.int .i64 0] (by kernel_rfl) ?_; clear hO; (try clear w_); intro g_ w_ hO)
    | (refine own_box rfl 3 _ rfl hO _ rfl ?_ ?_ ?_; rotate_left; (focus (first | (go_simp; done) | (go_simp; with_reducible rfl) | rfl)); clear hO; (try clear w_); intro g_ w_ hO; simp only [Value.cells] at hO)
    | ((first | refine own_load_one rfl 3 _ rfl hO 0 _ _ rfl _ _ rfl _ rfl ?_ ?_ _ Tryd.underlying3 rfl ?_ | refine own_load_one rfl 3 _ rfl hO 1 _ _ rfl _ _ rfl _ rfl ?_ ?_ _ Tryd.underlying3 rfl ?_); rotate_left; (focus (simp only [List.getElem?_toArray, List.getElem?_cons_zero, List.getElem?_cons_succ]; rfl)))
    | ((first | refine own_store rfl 3 _ _ rfl hO 0 _ _ ?_ rfl ?_ _ _ rfl _ rfl ?_ ?_ ?_ ?_ | refine own_store rfl 3 _ _ rfl hO 1 _ _ ?_ rfl ?_ _ _ rfl _ rfl ?_ ?_ ?_ ?_); rotate_left; (focus (first | (go_simp; done) | (go_simp; with_reducible rfl) | rfl)); (focus kernel_rfl); (focus kernel_rfl); (focus kernel_rfl); clear hO; (try clear w_); intro w_ hO; simp only [List.set_cons_zero, List.set_cons_succ, putAllA, Value.cells, List.setIfInBounds_toArray] at hO)
    | (refine own_alloc rfl 4 rfl hO _ rfl #[.bool false] (by kernel_rfl) ?_; clear hO; (try clear w_); intro g_ w_ hO)
    | (refine own_box rfl 4 _ rfl hO _ rfl ?_ ?_ ?_; rotate_left; (focus (first | (go_simp; done) | (go_simp; with_reducible rfl) | rfl)); clear hO; (try clear w_); intro g_ w_ hO; simp only [Value.cells] at hO)
    | ((first | refine own_load_one rfl 4 _ rfl hO 0 _ _ rfl _ _ rfl _ rfl ?_ ?_ _ Tryd.underlying4 rfl ?_ | refine own_load_one rfl 4 _ rfl hO 1 _ _ rfl _ _ rfl _ rfl ?_ ?_ _ Tryd.underlying4 rfl ?_); rotate_left; (focus (simp only [List.getElem?_toArray, List.getElem?_cons_zero, List.getElem?_cons_succ]; rfl)))
    | ((first | refine own_store rfl 4 _ _ rfl hO 0 _ _ ?_ rfl ?_ _ _ rfl _ rfl ?_ ?_ ?_ ?_ | refine own_store rfl 4 _ _ rfl hO 1 _ _ ?_ rfl ?_ _ _ rfl _ rfl ?_ ?_ ?_ ?_); rotate_left; (focus (first | (go_simp; done) | (go_simp; with_reducible rfl) | rfl)); (focus kernel_rfl); (focus kernel_rfl); (focus kernel_rfl); clear hO; (try clear w_); intro w_ hO; simp only [List.set_cons_zero, List.set_cons_succ, putAllA, Value.cells, List.setIfInBounds_toArray] at hO)
    | (go_at_call 11; (with_reducible refine (awake_any _ (Lib.hid (hG.out.below hO.bel))).mono ?_); rintro e w_ ⟨rfl, hb_⟩; replace hO := Own.call hO hb_; clear hb_)
        )
        go_ret
        exact ⟨rfl, hO.bel⟩
      · have k4 : 600 - m < thick := by omega
        have s1 : IntKind.i64.wrap (600 - m) = 600 - m := IntWalk.i64_in _ (by omega)
        replace k1 := non k1
        replace k2 := non k2
        replace k3 := non k3
        replace k4 := one k4
        clear h one non
        go_enter Tryd.func7, Tryd.ntmps7
        go_wp2_with (first
    | (refine own_alloc rfl 29 rfl hO _ rfl #[.int .i64 0, .int .i64 0, .int .i64 0, .string ⟨#[]⟩, .int .i64 0, .int .i64 0, .int .i64 0, .int .i64 0, .int .i64 0, .int .i64 0, .int .i64 0, .int .i64 0, .int .i64 0, .int .i64 0, .int .i64 0, .int .i64 0, .int .i64 0, .int .i64 0, .int .i64 0, .bool false] (by kernel_rfl) ?_; clear hO; (try clear w_); intro g_ w_ hO)
    | (refine own_box rfl 29 _ rfl hO _ rfl ?_ ?_ ?_; rotate_left; (focus (first | (go_simp; done) | (go_simp; with_reducible rfl) | rfl)); clear hO; (try clear w_); intro g_ w_ hO; simp only [Value.cells] at hO)
    | ((first | refine own_load_row rfl 29 _ rfl hO 0 _ _ rfl _ _ rfl _ rfl 20 ?_ ?_ ?_ _ Tryd.underlying29 rfl ?_ ?_ | refine own_load_row rfl 29 _ rfl hO 1 _ _ rfl _ _ rfl _ rfl 20 ?_ ?_ ?_ _ Tryd.underlying29 rfl ?_ ?_); rotate_left; (focus (simp only [Array.toList_extract, List.extract_toArray, List.extract_eq_take_drop, List.drop_zero, List.drop_succ_cons, List.take_succ_cons, List.take_zero, Nat.reduceAdd, Nat.reduceSub, Nat.zero_add, Nat.add_zero, Nat.add_sub_cancel_left, Nat.sub_zero, Nat.sub_self]; rfl)); (focus rfl); (focus kernel_rfl))
    | ((first | refine own_store rfl 29 _ _ rfl hO 0 _ _ ?_ rfl ?_ _ _ rfl _ rfl ?_ ?_ ?_ ?_ | refine own_store rfl 29 _ _ rfl hO 1 _ _ ?_ rfl ?_ _ _ rfl _ rfl ?_ ?_ ?_ ?_); rotate_left; (focus (first | (go_simp; done) | (go_simp; with_reducible rfl) | rfl)); (focus kernel_rfl); (focus kernel_rfl); (focus kernel_rfl); clear hO; (try clear w_); intro w_ hO; simp only [List.set_cons_zero, List.set_cons_succ, putAllA, Value.cells, List.setIfInBounds_toArray] at hO)
    | (refine own_alloc rfl 23 rfl hO _ rfl #[.int .i64 0, .int .i64 0, .int .i64 0] (by kernel_rfl) ?_; clear hO; (try clear w_); intro g_ w_ hO)
    | (refine own_box rfl 23 _ rfl hO _ rfl ?_ ?_ ?_; rotate_left; (focus (first | (go_simp; done) | (go_simp; with_reducible rfl) | rfl)); clear hO; (try clear w_); intro g_ w_ hO; simp only [Value.cells] at hO)
    | ((first | refine own_load_row rfl 23 _ rfl hO 0 _ _ rfl _ _ rfl _ rfl 3 ?_ ?_ ?_ _ Tryd.underlying23 rfl ?_ ?_ | refine own_load_row rfl 23 _ rfl hO 1 _ _ rfl _ _ rfl _ rfl 3 ?_ ?_ ?_ _ Tryd.underlying23 rfl ?_ ?_); rotate_left; (focus (simp only [Array.toList_extract, List.extract_toArray, List.extract_eq_take_drop, List.drop_zero, List.drop_succ_cons, List.take_succ_cons, List.take_zero, Nat.reduceAdd, Nat.reduceSub, Nat.zero_add, Nat.add_zero, Nat.add_sub_cancel_left, Nat.sub_zero, Nat.sub_self]; rfl)); (focus rfl); (focus kernel_rfl))
    | ((first | refine own_store rfl 23 _ _ rfl hO 0 _ _ ?_ rfl ?_ _ _ rfl _ rfl ?_ ?_ ?_ ?_ | refine own_store rfl 23 _ _ rfl hO 1 _ _ ?_ rfl ?_ _ _ rfl _ rfl ?_ ?_ ?_ ?_); rotate_left; (focus (first | (go_simp; done) | (go_simp; with_reducible rfl) | rfl)); (focus kernel_rfl); (focus kernel_rfl); (focus kernel_rfl); clear hO; (try clear w_); intro w_ hO; simp only [List.set_cons_zero, List.set_cons_succ, putAllA, Value.cells, List.setIfInBounds_toArray] at hO)
    | (refine own_alloc rfl 3 rfl hO _ rfl #[.int .i64 0] (by kernel_rfl) ?_; clear hO; (try clear w_); intro g_ w_ hO)
    | (refine own_box rfl 3 _ rfl hO _ rfl ?_ ?_ ?_; rotate_left; (focus (first | (go_simp; done) | (go_simp; with_reducible rfl) | rfl)); clear hO; (try clear w_); intro g_ w_ hO; simp only [Value.cells] at hO)
    | ((first | refine own_load_one rfl 3 _ rfl hO 0 _ _ rfl _ _ rfl _ rfl ?_ ?_ _ Tryd.underlying3 rfl ?_ | refine own_load_one rfl 3 _ rfl hO 1 _ _ rfl _ _ rfl _ rfl ?_ ?_ _ Tryd.underlying3 rfl ?_); rotate_left; (focus (simp only [List.getElem?_toArray, List.getElem?_cons_zero, List.getElem?_cons_succ]; rfl)))
    | ((first | refine own_store rfl 3 _ _ rfl hO 0 _ _ ?_ rfl ?_ _ _ rfl _ rfl ?_ ?_ ?_ ?_ | refine own_store rfl 3 _ _ rfl hO 1 _ _ ?_ rfl ?_ _ _ rfl _ rfl ?_ ?_ ?_ ?_); rotate_left; (focus (first | (go_simp; done) | (go_simp; with_reducible rfl) | rfl)); (focus kernel_rfl); (focus kernel_rfl); (focus kernel_rfl); clear hO; (try clear w_); intro w_ hO; simp only [List.set_cons_zero, List.set_cons_succ, putAllA, Value.cells, List.setIfInBounds_toArray] at hO)
    | (refine own_alloc rfl 4 rfl hO _ rfl #[.bool false] (by kernel_rfl) ?_; clear hO; (try clear w_); intro g_ w_ hO)
    | (refine own_box rfl 4 _ rfl hO _ rfl ?_ ?_ ?_; rotate_left; (focus (first | (go_simp; done) | (go_simp; with_reducible rfl) | rfl)); clear hO; (try clear w_); intro g_ w_ hO; simp only [Value.cells] at hO)
    | ((first | refine own_load_one rfl 4 _ rfl hO 0 _ _ rfl _ _ rfl _ rfl ?_ ?_ _ Tryd.underlying4 rfl ?_ | refine own_load_one rfl 4 _ rfl hO 1 _ _ rfl _ _ rfl _ rfl ?_ ?_ _ Tryd.underlying4 rfl ?_); rotate_left; (focus (simp only [List.getElem?_toArray, List.getElem?_cons_zero, List.getElem?_cons_succ]; rfl)))
    | ((first | refine own_store rfl 4 _ _ rfl hO 0 _ _ ?_ rfl ?_ _ _ rfl _ rfl ?_ ?_ ?_ ?_ | refine own_store rfl 4 _ _ rfl hO 1 _ _ ?_ rfl ?_ _ _ rfl _ rfl ?_ ?_ ?_ ?_); rotate_left; (focus (first | (go_simp; done) | (go_simp; with_reducible rfl) | rfl)); (focus kernel_rfl); (focus kernel_rfl); (focus kernel_rfl); clear hO; (try clear w_); intro w_ hO; simp only [List.set_cons_zero, List.set_cons_succ, putAllA, Value.cells, List.setIfInBounds_toArray] at hO)
    | (go_at_call 11; (with_reducible refine (awake_any _ (Lib.hid (hG.out.below hO.bel))).mono ?_); rintro e w_ ⟨rfl, hb_⟩; replace hO := Own.call hO hb_; clear hb_)
        )
        go_ret
        exact ⟨rfl, hO.bel⟩

set_option maxHeartbeats 4000000 in
set_option maxRecDepth 100000 in
theorem thick_yes (a b s : Int) (n : ByteArray) (a0 a1 a2 a3 a4 a5 a6 a7 a8 a9 a10 a11 thick t d : Int) (fan : Bool) (m : Int) (w : World) (hG : Hid (Glob w))
    (h1 : 1 ≤ thick) (h2 : 0 ≤ m) (h3 : thick + m ≤ 600) :
    Calls Tryd.prog 7 #[.agg #[.int .i64 a, .int .i64 b, .int .i64 s, .string n, .int .i64 a0, .int .i64 a1, .int .i64 a2, .int .i64 a3, .int .i64 a4, .int .i64 a5, .int .i64 a6, .int .i64 a7, .int .i64 a8, .int .i64 a9, .int .i64 a10, .int .i64 a11, .int .i64 thick, .int .i64 t, .int .i64 d, .bool fan], .int .i64 m] w fun e w' => e = .returned (.bool true) ∧ Below w.heap.size w w' := by
  obtain ⟨c1, c2, c3, hT⟩ : ∃ c1 c2 c3, tickZ a b s a1 a2 a3 thick t d fan = (c1, c2, c3) := ⟨_, _, _, rfl⟩
  obtain ⟨d1, d2, d3, hT'⟩ : ∃ c1 c2 c3, tickZ a b s a1 a2 a3 (thick + m) t d fan = (c1, c2, c3) := ⟨_, _, _, rfl⟩
  obtain ⟨th, hth⟩ : ∃ th, thick + m = th := ⟨_, rfl⟩
  obtain ⟨e1, hle⟩ := thick_facts hT hT' h1 h2 h3
  subst e1
  rw [hth] at hT'
  have HT : Hid (∀ w, Hid (Glob w) → Calls Tryd.prog 9 #[.agg #[.int .i64 a, .int .i64 b, .int .i64 s, .string n, .int .i64 a0, .int .i64 a1, .int .i64 a2, .int .i64 a3, .int .i64 a4, .int .i64 a5, .int .i64 a6, .int .i64 a7, .int .i64 a8, .int .i64 a9, .int .i64 a10, .int .i64 a11, .int .i64 thick, .int .i64 t, .int .i64 d, .bool fan]] w fun e w' => e = .returned (.agg #[.int .i64 c1, .int .i64 c2, .int .i64 c3]) ∧ Below w.heap.size w w') := Lib.hid (by
    intro w hG
    have h := ltick_any a b s n a0 a1 a2 a3 a4 a5 a6 a7 a8 a9 a10 a11 thick t d fan w hG
    rw [hT] at h
    exact h)
  have HU : Hid (∀ w, Hid (Glob w) → Calls Tryd.prog 9 #[.agg #[.int .i64 a, .int .i64 b, .int .i64 s, .string n, .int .i64 a0, .int .i64 a1, .int .i64 a2, .int .i64 a3, .int .i64 a4, .int .i64 a5, .int .i64 a6, .int .i64 a7, .int .i64 a8, .int .i64 a9, .int .i64 a10, .int .i64 a11, .int .i64 th, .int .i64 t, .int .i64 d, .bool fan]] w fun e w' => e = .returned (.agg #[.int .i64 c1, .int .i64 d2, .int .i64 d3]) ∧ Below w.heap.size w w') := Lib.hid (by
    intro w hG
    have h := ltick_any a b s n a0 a1 a2 a3 a4 a5 a6 a7 a8 a9 a10 a11 th t d fan w hG
    rw [hT'] at h
    exact h)
  have b1 := gradZ_bd c1 c2 c3
  have b2 := gradZ_bd c1 d2 d3
  obtain ⟨x, hx⟩ : ∃ x, gradZ c1 c2 c3 = x := ⟨_, rfl⟩
  obtain ⟨y, hy⟩ : ∃ y, gradZ c1 d2 d3 = y := ⟨_, rfl⟩
  have HX : Hid (∀ w, Calls Tryd.prog 18 #[.agg #[.int .i64 c1, .int .i64 c2, .int .i64 c3]] w fun e w' => e = .returned (.int .i64 x) ∧ Below w.heap.size w w') := Lib.hid (by
    intro w
    have h := grad_any c1 c2 c3 w
    rw [hx] at h
    exact h)
  have HY : Hid (∀ w, Calls Tryd.prog 18 #[.agg #[.int .i64 c1, .int .i64 d2, .int .i64 d3]] w fun e w' => e = .returned (.int .i64 y) ∧ Below w.heap.size w w') := Lib.hid (by
    intro w
    have h := grad_any c1 d2 d3 w
    rw [hy] at h
    exact h)
  rw [hx] at hle b1
  rw [hy] at hle b2
  obtain ⟨sx, hsx⟩ : ∃ x', szZ x = x' := ⟨_, rfl⟩
  obtain ⟨sy, hsy⟩ : ∃ x', szZ y = x' := ⟨_, rfl⟩
  have HSX : Hid (∀ w, Calls Tryd.prog 24 #[.int .i64 x] w fun e w' => e = .returned (.int .i64 sx) ∧ w = w') := Lib.hid (by
    intro w
    have h := size_any x w (by omega) (by omega)
    rw [hsx] at h
    exact h)
  have HSY : Hid (∀ w, Calls Tryd.prog 24 #[.int .i64 y] w fun e w' => e = .returned (.int .i64 sy) ∧ w = w') := Lib.hid (by
    intro w
    have h := size_any y w (by omega) (by omega)
    rw [hsy] at h
    exact h)
  have hle' : decide (sx ≤ sy) = true := decide_eq_true (by omega)
  have k1 : decide (thick < 1) = false := decide_eq_false (by omega)
  have k2 : decide (m < 0) = false := decide_eq_false (by omega)
  have k3 : decide (600 < m) = false := decide_eq_false (by omega)
  have k4 : decide (600 - m < thick) = false := decide_eq_false (by omega)
  have s1 : IntKind.i64.wrap (600 - m) = 600 - m := IntWalk.i64_in _ (by omega)
  have s2 : IntKind.i64.wrap (thick + m) = th := (IntWalk.i64_in _ (by omega)).trans hth
  clear hle hsx hsy hx hy b1 b2 hT hT' hth h1 h2 h3
  have hO := Own.nil w
  go_enter Tryd.func7, Tryd.ntmps7
  go_upto_region 5 with (first
    | (refine own_alloc rfl 29 rfl hO _ rfl #[.int .i64 0, .int .i64 0, .int .i64 0, .string ⟨#[]⟩, .int .i64 0, .int .i64 0, .int .i64 0, .int .i64 0, .int .i64 0, .int .i64 0, .int .i64 0, .int .i64 0, .int .i64 0, .int .i64 0, .int .i64 0, .int .i64 0, .int .i64 0, .int .i64 0, .int .i64 0, .bool false] (by kernel_rfl) ?_; clear hO; (try clear w_); intro g_ w_ hO)
    | (refine own_box rfl 29 _ rfl hO _ rfl ?_ ?_ ?_; rotate_left; (focus (first | (go_simp; done) | (go_simp; with_reducible rfl) | rfl)); clear hO; (try clear w_); intro g_ w_ hO; simp only [Value.cells] at hO)
    | ((first | refine own_load_row rfl 29 _ rfl hO 0 _ _ rfl _ _ rfl _ rfl 20 ?_ ?_ ?_ _ Tryd.underlying29 rfl ?_ ?_ | refine own_load_row rfl 29 _ rfl hO 1 _ _ rfl _ _ rfl _ rfl 20 ?_ ?_ ?_ _ Tryd.underlying29 rfl ?_ ?_ | refine own_load_row rfl 29 _ rfl hO 2 _ _ rfl _ _ rfl _ rfl 20 ?_ ?_ ?_ _ Tryd.underlying29 rfl ?_ ?_); rotate_left; (focus (simp only [Array.toList_extract, List.extract_toArray, List.extract_eq_take_drop, List.drop_zero, List.drop_succ_cons, List.take_succ_cons, List.take_zero, Nat.reduceAdd, Nat.reduceSub, Nat.zero_add, Nat.add_zero, Nat.add_sub_cancel_left, Nat.sub_zero, Nat.sub_self]; rfl)); (focus rfl); (focus kernel_rfl))
    | ((first | refine own_store rfl 29 _ _ rfl hO 0 _ _ ?_ rfl ?_ _ _ rfl _ rfl ?_ ?_ ?_ ?_ | refine own_store rfl 29 _ _ rfl hO 1 _ _ ?_ rfl ?_ _ _ rfl _ rfl ?_ ?_ ?_ ?_ | refine own_store rfl 29 _ _ rfl hO 2 _ _ ?_ rfl ?_ _ _ rfl _ rfl ?_ ?_ ?_ ?_); rotate_left; (focus (first | (go_simp; done) | (go_simp; with_reducible rfl) | rfl)); (focus kernel_rfl); (focus kernel_rfl); (focus kernel_rfl); clear hO; (try clear w_); intro w_ hO; simp only [List.set_cons_zero, List.set_cons_succ, putAllA, Value.cells, List.setIfInBounds_toArray] at hO)
    | (refine own_alloc rfl 23 rfl hO _ rfl #[.int .i64 0, .int .i64 0, .int .i64 0] (by kernel_rfl) ?_; clear hO; (try clear w_); intro g_ w_ hO)
    | (refine own_box rfl 23 _ rfl hO _ rfl ?_ ?_ ?_; rotate_left; (focus (first | (go_simp; done) | (go_simp; with_reducible rfl) | rfl)); clear hO; (try clear w_); intro g_ w_ hO; simp only [Value.cells] at hO)
    | ((first | refine own_load_row rfl 23 _ rfl hO 0 _ _ rfl _ _ rfl _ rfl 3 ?_ ?_ ?_ _ Tryd.underlying23 rfl ?_ ?_ | refine own_load_row rfl 23 _ rfl hO 1 _ _ rfl _ _ rfl _ rfl 3 ?_ ?_ ?_ _ Tryd.underlying23 rfl ?_ ?_ | refine own_load_row rfl 23 _ rfl hO 2 _ _ rfl _ _ rfl _ rfl 3 ?_ ?_ ?_ _ Tryd.underlying23 rfl ?_ ?_); rotate_left; (focus (simp only [Array.toList_extract, List.extract_toArray, List.extract_eq_take_drop, List.drop_zero, List.drop_succ_cons, List.take_succ_cons, List.take_zero, Nat.reduceAdd, Nat.reduceSub, Nat.zero_add, Nat.add_zero, Nat.add_sub_cancel_left, Nat.sub_zero, Nat.sub_self]; rfl)); (focus rfl); (focus kernel_rfl))
    | ((first | refine own_store rfl 23 _ _ rfl hO 0 _ _ ?_ rfl ?_ _ _ rfl _ rfl ?_ ?_ ?_ ?_ | refine own_store rfl 23 _ _ rfl hO 1 _ _ ?_ rfl ?_ _ _ rfl _ rfl ?_ ?_ ?_ ?_ | refine own_store rfl 23 _ _ rfl hO 2 _ _ ?_ rfl ?_ _ _ rfl _ rfl ?_ ?_ ?_ ?_); rotate_left; (focus (first | (go_simp; done) | (go_simp; with_reducible rfl) | rfl)); (focus kernel_rfl); (focus kernel_rfl); (focus kernel_rfl); clear hO; (try clear w_); intro w_ hO; simp only [List.set_cons_zero, List.set_cons_succ, putAllA, Value.cells, List.setIfInBounds_toArray] at hO)
    | (refine own_alloc rfl 3 rfl hO _ rfl #[.int .i64 0] (by kernel_rfl) ?_; clear hO; (try clear w_); intro g_ w_ hO)
    | (refine own_box rfl 3 _ rfl hO _ rfl ?_ ?_ ?_; rotate_left; (focus (first | (go_simp; done) | (go_simp; with_reducible rfl) | rfl)); clear hO; (try clear w_); intro g_ w_ hO; simp only [Value.cells] at hO)
    | ((first | refine own_load_one rfl 3 _ rfl hO 0 _ _ rfl _ _ rfl _ rfl ?_ ?_ _ Tryd.underlying3 rfl ?_ | refine own_load_one rfl 3 _ rfl hO 1 _ _ rfl _ _ rfl _ rfl ?_ ?_ _ Tryd.underlying3 rfl ?_ | refine own_load_one rfl 3 _ rfl hO 2 _ _ rfl _ _ rfl _ rfl ?_ ?_ _ Tryd.underlying3 rfl ?_); rotate_left; (focus (simp only [List.getElem?_toArray, List.getElem?_cons_zero, List.getElem?_cons_succ]; rfl)))
    | ((first | refine own_store rfl 3 _ _ rfl hO 0 _ _ ?_ rfl ?_ _ _ rfl _ rfl ?_ ?_ ?_ ?_ | refine own_store rfl 3 _ _ rfl hO 1 _ _ ?_ rfl ?_ _ _ rfl _ rfl ?_ ?_ ?_ ?_ | refine own_store rfl 3 _ _ rfl hO 2 _ _ ?_ rfl ?_ _ _ rfl _ rfl ?_ ?_ ?_ ?_); rotate_left; (focus (first | (go_simp; done) | (go_simp; with_reducible rfl) | rfl)); (focus kernel_rfl); (focus kernel_rfl); (focus kernel_rfl); clear hO; (try clear w_); intro w_ hO; simp only [List.set_cons_zero, List.set_cons_succ, putAllA, Value.cells, List.setIfInBounds_toArray] at hO)
    | (refine own_alloc rfl 4 rfl hO _ rfl #[.bool false] (by kernel_rfl) ?_; clear hO; (try clear w_); intro g_ w_ hO)
    | (refine own_box rfl 4 _ rfl hO _ rfl ?_ ?_ ?_; rotate_left; (focus (first | (go_simp; done) | (go_simp; with_reducible rfl) | rfl)); clear hO; (try clear w_); intro g_ w_ hO; simp only [Value.cells] at hO)
    | ((first | refine own_load_one rfl 4 _ rfl hO 0 _ _ rfl _ _ rfl _ rfl ?_ ?_ _ Tryd.underlying4 rfl ?_ | refine own_load_one rfl 4 _ rfl hO 1 _ _ rfl _ _ rfl _ rfl ?_ ?_ _ Tryd.underlying4 rfl ?_ | refine own_load_one rfl 4 _ rfl hO 2 _ _ rfl _ _ rfl _ rfl ?_ ?_ _ Tryd.underlying4 rfl ?_); rotate_left; (focus (simp only [List.getElem?_toArray, List.getElem?_cons_zero, List.getElem?_cons_succ]; rfl)))
    | ((first | refine own_store rfl 4 _ _ rfl hO 0 _ _ ?_ rfl ?_ _ _ rfl _ rfl ?_ ?_ ?_ ?_ | refine own_store rfl 4 _ _ rfl hO 1 _ _ ?_ rfl ?_ _ _ rfl _ rfl ?_ ?_ ?_ ?_ | refine own_store rfl 4 _ _ rfl hO 2 _ _ ?_ rfl ?_ _ _ rfl _ rfl ?_ ?_ ?_ ?_); rotate_left; (focus (first | (go_simp; done) | (go_simp; with_reducible rfl) | rfl)); (focus kernel_rfl); (focus kernel_rfl); (focus kernel_rfl); clear hO; (try clear w_); intro w_ hO; simp only [List.set_cons_zero, List.set_cons_succ, putAllA, Value.cells, List.setIfInBounds_toArray] at hO)
    )
  (try simp only [Act.put, List.setIfInBounds_toArray, List.set_cons_zero, List.set_cons_succ])
  rename_i ga _ _
  go_cut [6, 7] (fun v3 v4 wc => ∃ g3 g4 : Nat, v3 = .pointer (some ⟨g3, 0, none⟩) ∧ v4 = .pointer (some ⟨g4, 0, none⟩) ∧ Own w [(g3, 23, #[.int .i64 c1, .int .i64 c2, .int .i64 c3]), (g4, 23, #[.int .i64 c1, .int .i64 d2, .int .i64 d3]), (g_, 29, #[.int .i64 a, .int .i64 b, .int .i64 s, .string n, .int .i64 a0, .int .i64 a1, .int .i64 a2, .int .i64 a3, .int .i64 a4, .int .i64 a5, .int .i64 a6, .int .i64 a7, .int .i64 a8, .int .i64 a9, .int .i64 a10, .int .i64 a11, .int .i64 th, .int .i64 t, .int .i64 d, .bool fan]), (ga, 29, #[.int .i64 a, .int .i64 b, .int .i64 s, .string n, .int .i64 a0, .int .i64 a1, .int .i64 a2, .int .i64 a3, .int .i64 a4, .int .i64 a5, .int .i64 a6, .int .i64 a7, .int .i64 a8, .int .i64 a9, .int .i64 a10, .int .i64 a11, .int .i64 thick, .int .i64 t, .int .i64 d, .bool fan])] wc)
  case first =>
    refine start_ (n := 8) (S := fun w' => Own w [(g_, 29, #[.int .i64 a, .int .i64 b, .int .i64 s, .string n, .int .i64 a0, .int .i64 a1, .int .i64 a2, .int .i64 a3, .int .i64 a4, .int .i64 a5, .int .i64 a6, .int .i64 a7, .int .i64 a8, .int .i64 a9, .int .i64 a10, .int .i64 a11, .int .i64 th, .int .i64 t, .int .i64 d, .bool fan]), (ga, 29, #[.int .i64 a, .int .i64 b, .int .i64 s, .string n, .int .i64 a0, .int .i64 a1, .int .i64 a2, .int .i64 a3, .int .i64 a4, .int .i64 a5, .int .i64 a6, .int .i64 a7, .int .i64 a8, .int .i64 a9, .int .i64 a10, .int .i64 a11, .int .i64 thick, .int .i64 t, .int .i64 d, .bool fan])] w') (ds := [6, 7]) #[false, false, false, false, false, false, false, false] (by kernel_rfl) rfl rfl (Own.drew hO) (fun hS => ?_)
    clear hO
    have hO := hS
    first
      | (refine take_ (i := 0) (N := some 33) (a' := ?_) #[true, false, false, false, false, false, false, false] rfl rfl (by kernel_rfl) (fun _ _ _ h => h) (yRow hS ?_ 29 _ rfl 0 _ _ rfl _ _ rfl 20 ?_ ?_ ?_ _ Tryd.underlying29 rfl ?_) hS ?_ ?_; (focus rfl); rotate_left; (focus (simp only [Array.toList_extract, List.extract_toArray, List.extract_eq_take_drop, List.drop_zero, List.drop_succ_cons, List.take_succ_cons, List.take_zero, Nat.reduceAdd, Nat.reduceSub, Nat.zero_add, Nat.add_zero, Nat.add_sub_cancel_left, Nat.sub_zero, Nat.sub_self]; rfl)); (focus rfl); (focus kernel_rfl); rotate_left; (focus (simp only [Act.put, List.setIfInBounds_toArray, List.set_cons_zero, List.set_cons_succ]; rfl)))
      | (refine take_ (i := 0) (N := some 33) (a' := ?_) #[true, false, false, false, false, false, false, false] rfl rfl (by kernel_rfl) (fun _ _ _ h => h) (yRow hS ?_ 29 _ rfl 1 _ _ rfl _ _ rfl 20 ?_ ?_ ?_ _ Tryd.underlying29 rfl ?_) hS ?_ ?_; (focus rfl); rotate_left; (focus (simp only [Array.toList_extract, List.extract_toArray, List.extract_eq_take_drop, List.drop_zero, List.drop_succ_cons, List.take_succ_cons, List.take_zero, Nat.reduceAdd, Nat.reduceSub, Nat.zero_add, Nat.add_zero, Nat.add_sub_cancel_left, Nat.sub_zero, Nat.sub_self]; rfl)); (focus rfl); (focus kernel_rfl); rotate_left; (focus (simp only [Act.put, List.setIfInBounds_toArray, List.set_cons_zero, List.set_cons_succ]; rfl)))
    first
      | (refine take_ (i := 2) (N := some 35) (a' := ?_) #[true, false, true, false, false, false, false, false] rfl rfl (by kernel_rfl) (fun _ _ _ h => h) (yRow hS ?_ 29 _ rfl 0 _ _ rfl _ _ rfl 20 ?_ ?_ ?_ _ Tryd.underlying29 rfl ?_) hS ?_ ?_; (focus rfl); rotate_left; (focus (simp only [Array.toList_extract, List.extract_toArray, List.extract_eq_take_drop, List.drop_zero, List.drop_succ_cons, List.take_succ_cons, List.take_zero, Nat.reduceAdd, Nat.reduceSub, Nat.zero_add, Nat.add_zero, Nat.add_sub_cancel_left, Nat.sub_zero, Nat.sub_self]; rfl)); (focus rfl); (focus kernel_rfl); rotate_left; (focus (simp only [Act.put, List.setIfInBounds_toArray, List.set_cons_zero, List.set_cons_succ]; rfl)))
      | (refine take_ (i := 2) (N := some 35) (a' := ?_) #[true, false, true, false, false, false, false, false] rfl rfl (by kernel_rfl) (fun _ _ _ h => h) (yRow hS ?_ 29 _ rfl 1 _ _ rfl _ _ rfl 20 ?_ ?_ ?_ _ Tryd.underlying29 rfl ?_) hS ?_ ?_; (focus rfl); rotate_left; (focus (simp only [Array.toList_extract, List.extract_toArray, List.extract_eq_take_drop, List.drop_zero, List.drop_succ_cons, List.take_succ_cons, List.take_zero, Nat.reduceAdd, Nat.reduceSub, Nat.zero_add, Nat.add_zero, Nat.add_sub_cancel_left, Nat.sub_zero, Nat.sub_self]; rfl)); (focus rfl); (focus kernel_rfl); rotate_left; (focus (simp only [Act.put, List.setIfInBounds_toArray, List.set_cons_zero, List.set_cons_succ]; rfl)))
    refine three_ (i := 1) (j := 4) (k := 5) (Ni := some 34) (Nj := some 6) (Nk := some 7) #[true, true, true, false, false, false, false, false] #[true, false, true, false, true, false, false, false] #[true, false, true, false, false, true, false, false] rfl rfl rfl rfl rfl rfl (by kernel_rfl) (by decide) (by decide) (by decide) (fun K hK => ?_) (fun K hK => ?_) (fun K hK => ?_)
    · -- number 1
      refine goes_ Tryd.func9 (by kernel_rfl) rfl #[.agg #[.int .i64 a, .int .i64 b, .int .i64 s, .string n, .int .i64 a0, .int .i64 a1, .int .i64 a2, .int .i64 a3, .int .i64 a4, .int .i64 a5, .int .i64 a6, .int .i64 a7, .int .i64 a8, .int .i64 a9, .int .i64 a10, .int .i64 a11, .int .i64 thick, .int .i64 t, .int .i64 d, .bool fan]] (by rfl) rfl rfl (by (try simp only [List.map_toArray, List.map_cons, List.map_nil]); first | done | rfl) ?_
      with_reducible refine (HT.out _ (Lib.hid (hG.out.below hO.bel))).mono ?_
      rintro e w_ ⟨rfl, hb_⟩
      refine ⟨_, rfl, ?_⟩
      replace hO := Own.call hO hb_
      clear hb_
      refine hK.out _ _ (hO) (fun hS => ?_)
      clear hK K
      refine norm_ (a' := ?_) ?_ ?_
      rotate_left
      · show Act.put _ (some 34) _ = _
        simp only [Act.put, List.setIfInBounds_toArray, List.set_cons_zero, List.set_cons_succ]
        rfl
      refine three_ (i := 3) (j := 4) (k := 5) (Ni := some 36) (Nj := some 6) (Nk := some 7) #[true, true, true, true, false, false, false, false] #[true, true, true, false, true, false, false, false] #[true, true, true, false, false, true, false, false] rfl rfl rfl rfl rfl rfl (by kernel_rfl) (by decide) (by decide) (by decide) (fun K hK => ?_) (fun K hK => ?_) (fun K hK => ?_)
      · -- number 3
        refine goes_ Tryd.func9 (by kernel_rfl) rfl #[.agg #[.int .i64 a, .int .i64 b, .int .i64 s, .string n, .int .i64 a0, .int .i64 a1, .int .i64 a2, .int .i64 a3, .int .i64 a4, .int .i64 a5, .int .i64 a6, .int .i64 a7, .int .i64 a8, .int .i64 a9, .int .i64 a10, .int .i64 a11, .int .i64 th, .int .i64 t, .int .i64 d, .bool fan]] (by rfl) rfl rfl (by (try simp only [List.map_toArray, List.map_cons, List.map_nil]); first | done | rfl) ?_
        with_reducible refine (HU.out _ (Lib.hid (hG.out.below hO.bel))).mono ?_
        rintro e w_ ⟨rfl, hb_⟩
        refine ⟨_, rfl, ?_⟩
        replace hO := Own.call hO hb_
        clear hb_
        refine hK.out _ _ (hO) (fun hS => ?_)
        clear hK K
        refine norm_ (a' := ?_) ?_ ?_
        rotate_left
        · show Act.put _ (some 36) _ = _
          simp only [Act.put, List.setIfInBounds_toArray, List.set_cons_zero, List.set_cons_succ]
          rfl
        refine two_ (i := 4) (j := 5) (Ni := some 6) (Nj := some 7) #[true, true, true, true, true, false, false, false] #[true, true, true, true, false, true, false, false] rfl rfl rfl rfl (by kernel_rfl) (by decide) (by decide) (fun K hK => ?_) (fun K hK => ?_)
        · -- number 4
          refine rAlloc (by rfl) rfl 23 rfl hO #[.int .i64 0, .int .i64 0, .int .i64 0] (by kernel_rfl) ?_
          clear hO
          intro ha w_ hO
          refine hK.out _ _ (Own.sub hO (List.Sublist.cons _ (List.Sublist.refl _))) (fun hS => ?_)
          clear hK K
          refine norm_ (a' := ?_) ?_ ?_
          rotate_left
          · show Act.put _ (some 6) _ = _
            simp only [Act.put, List.setIfInBounds_toArray, List.set_cons_zero, List.set_cons_succ]
            rfl
          refine one_ (i := 5) (N := some 7) #[true, true, true, true, true, true, false, false] rfl rfl (by kernel_rfl) (by decide) (fun K hK => ?_)
          refine rAlloc (by rfl) rfl 23 rfl hO #[.int .i64 0, .int .i64 0, .int .i64 0] (by kernel_rfl) ?_
          clear hO
          intro hb w_ hO
          refine hK.out _ _ (Own.sub hO (List.Sublist.cons _ (List.Sublist.cons _ (List.Sublist.refl _)))) (fun hS => ?_)
          clear hK K
          refine norm_ (a' := ?_) ?_ ?_
          rotate_left
          · show Act.put _ (some 7) _ = _
            simp only [Act.put, List.setIfInBounds_toArray, List.set_cons_zero, List.set_cons_succ]
            rfl
          refine last_ (i := 6) (N := none) #[true, true, true, true, true, true, true, false] rfl rfl (by kernel_rfl) (by decide) (fun K hK => ?_)
          refine rStore (by rfl) rfl 23 _ _ rfl hO 1 _ _ ?_ rfl ?_ _ _ rfl ?_ ?_ ?_ ?_
          rotate_left
          · first | (go_simp; done) | (go_simp; with_reducible rfl) | rfl
          · kernel_rfl
          · kernel_rfl
          · kernel_rfl
          clear hO
          intro w_ hO
          simp only [List.set_cons_zero, List.set_cons_succ, putAllA, Value.cells, List.setIfInBounds_toArray] at hO
          refine hK.out _ _ ?_
          clear hK K
          refine norm_ (a' := ?_) ?_ ?_
          rotate_left
          · rfl
          refine last_ (i := 7) (N := none) #[true, true, true, true, true, true, true, true] rfl rfl (by kernel_rfl) (by decide) (fun K hK => ?_)
          refine rStore (by rfl) rfl 23 _ _ rfl hO 0 _ _ ?_ rfl ?_ _ _ rfl ?_ ?_ ?_ ?_
          rotate_left
          · first | (go_simp; done) | (go_simp; with_reducible rfl) | rfl
          · kernel_rfl
          · kernel_rfl
          · kernel_rfl
          clear hO
          intro w_ hO
          simp only [List.set_cons_zero, List.set_cons_succ, putAllA, Value.cells, List.setIfInBounds_toArray] at hO
          refine hK.out _ _ ?_
          clear hK K
          refine norm_ (a' := ?_) ?_ ?_
          rotate_left
          · rfl
          refine done_ (by kernel_rfl) ?_
          go_wp2_with fail
          go_meet
          first | exact ⟨_, _, rfl, rfl, hO⟩ | exact ⟨_, _, rfl, rfl, hO.swap⟩
        · -- number 5
          refine rAlloc (by rfl) rfl 23 rfl hO #[.int .i64 0, .int .i64 0, .int .i64 0] (by kernel_rfl) ?_
          clear hO
          intro hb w_ hO
          refine hK.out _ _ (Own.sub hO (List.Sublist.cons _ (List.Sublist.refl _))) (fun hS => ?_)
          clear hK K
          refine norm_ (a' := ?_) ?_ ?_
          rotate_left
          · show Act.put _ (some 7) _ = _
            simp only [Act.put, List.setIfInBounds_toArray, List.set_cons_zero, List.set_cons_succ]
            rfl
          refine one_ (i := 4) (N := some 6) #[true, true, true, true, true, true, false, false] rfl rfl (by kernel_rfl) (by decide) (fun K hK => ?_)
          refine rAlloc (by rfl) rfl 23 rfl hO #[.int .i64 0, .int .i64 0, .int .i64 0] (by kernel_rfl) ?_
          clear hO
          intro ha w_ hO
          refine hK.out _ _ (Own.sub hO (List.Sublist.cons _ (List.Sublist.cons _ (List.Sublist.refl _)))) (fun hS => ?_)
          clear hK K
          refine norm_ (a' := ?_) ?_ ?_
          rotate_left
          · show Act.put _ (some 6) _ = _
            simp only [Act.put, List.setIfInBounds_toArray, List.set_cons_zero, List.set_cons_succ]
            rfl
          refine last_ (i := 6) (N := none) #[true, true, true, true, true, true, true, false] rfl rfl (by kernel_rfl) (by decide) (fun K hK => ?_)
          refine rStore (by rfl) rfl 23 _ _ rfl hO 0 _ _ ?_ rfl ?_ _ _ rfl ?_ ?_ ?_ ?_
          rotate_left
          · first | (go_simp; done) | (go_simp; with_reducible rfl) | rfl
          · kernel_rfl
          · kernel_rfl
          · kernel_rfl
          clear hO
          intro w_ hO
          simp only [List.set_cons_zero, List.set_cons_succ, putAllA, Value.cells, List.setIfInBounds_toArray] at hO
          refine hK.out _ _ ?_
          clear hK K
          refine norm_ (a' := ?_) ?_ ?_
          rotate_left
          · rfl
          refine last_ (i := 7) (N := none) #[true, true, true, true, true, true, true, true] rfl rfl (by kernel_rfl) (by decide) (fun K hK => ?_)
          refine rStore (by rfl) rfl 23 _ _ rfl hO 1 _ _ ?_ rfl ?_ _ _ rfl ?_ ?_ ?_ ?_
          rotate_left
          · first | (go_simp; done) | (go_simp; with_reducible rfl) | rfl
          · kernel_rfl
          · kernel_rfl
          · kernel_rfl
          clear hO
          intro w_ hO
          simp only [List.set_cons_zero, List.set_cons_succ, putAllA, Value.cells, List.setIfInBounds_toArray] at hO
          refine hK.out _ _ ?_
          clear hK K
          refine norm_ (a' := ?_) ?_ ?_
          rotate_left
          · rfl
          refine done_ (by kernel_rfl) ?_
          go_wp2_with fail
          go_meet
          first | exact ⟨_, _, rfl, rfl, hO⟩ | exact ⟨_, _, rfl, rfl, hO.swap⟩
      · -- number 4
        refine rAlloc (by rfl) rfl 23 rfl hO #[.int .i64 0, .int .i64 0, .int .i64 0] (by kernel_rfl) ?_
        clear hO
        intro ha w_ hO
        refine hK.out _ _ (Own.sub hO (List.Sublist.cons _ (List.Sublist.refl _))) (fun hS => ?_)
        clear hK K
        refine norm_ (a' := ?_) ?_ ?_
        rotate_left
        · show Act.put _ (some 6) _ = _
          simp only [Act.put, List.setIfInBounds_toArray, List.set_cons_zero, List.set_cons_succ]
          rfl
        refine two_ (i := 3) (j := 5) (Ni := some 36) (Nj := some 7) #[true, true, true, true, true, false, false, false] #[true, true, true, false, true, true, false, false] rfl rfl rfl rfl (by kernel_rfl) (by decide) (by decide) (fun K hK => ?_) (fun K hK => ?_)
        · -- number 3
          refine goes_ Tryd.func9 (by kernel_rfl) rfl #[.agg #[.int .i64 a, .int .i64 b, .int .i64 s, .string n, .int .i64 a0, .int .i64 a1, .int .i64 a2, .int .i64 a3, .int .i64 a4, .int .i64 a5, .int .i64 a6, .int .i64 a7, .int .i64 a8, .int .i64 a9, .int .i64 a10, .int .i64 a11, .int .i64 th, .int .i64 t, .int .i64 d, .bool fan]] (by rfl) rfl rfl (by (try simp only [List.map_toArray, List.map_cons, List.map_nil]); first | done | rfl) ?_
          with_reducible refine (HU.out _ (Lib.hid (hG.out.below hO.bel))).mono ?_
          rintro e w_ ⟨rfl, hb_⟩
          refine ⟨_, rfl, ?_⟩
          replace hO := Own.call hO hb_
          clear hb_
          refine hK.out _ _ (Own.sub hO (List.Sublist.cons _ (List.Sublist.refl _))) (fun hS => ?_)
          clear hK K
          refine norm_ (a' := ?_) ?_ ?_
          rotate_left
          · show Act.put _ (some 36) _ = _
            simp only [Act.put, List.setIfInBounds_toArray, List.set_cons_zero, List.set_cons_succ]
            rfl
          refine one_ (i := 5) (N := some 7) #[true, true, true, true, true, true, false, false] rfl rfl (by kernel_rfl) (by decide) (fun K hK => ?_)
          refine rAlloc (by rfl) rfl 23 rfl hO #[.int .i64 0, .int .i64 0, .int .i64 0] (by kernel_rfl) ?_
          clear hO
          intro hb w_ hO
          refine hK.out _ _ (Own.sub hO (List.Sublist.cons _ (List.Sublist.cons _ (List.Sublist.refl _)))) (fun hS => ?_)
          clear hK K
          refine norm_ (a' := ?_) ?_ ?_
          rotate_left
          · show Act.put _ (some 7) _ = _
            simp only [Act.put, List.setIfInBounds_toArray, List.set_cons_zero, List.set_cons_succ]
            rfl
          refine last_ (i := 6) (N := none) #[true, true, true, true, true, true, true, false] rfl rfl (by kernel_rfl) (by decide) (fun K hK => ?_)
          refine rStore (by rfl) rfl 23 _ _ rfl hO 1 _ _ ?_ rfl ?_ _ _ rfl ?_ ?_ ?_ ?_
          rotate_left
          · first | (go_simp; done) | (go_simp; with_reducible rfl) | rfl
          · kernel_rfl
          · kernel_rfl
          · kernel_rfl
          clear hO
          intro w_ hO
          simp only [List.set_cons_zero, List.set_cons_succ, putAllA, Value.cells, List.setIfInBounds_toArray] at hO
          refine hK.out _ _ ?_
          clear hK K
          refine norm_ (a' := ?_) ?_ ?_
          rotate_left
          · rfl
          refine last_ (i := 7) (N := none) #[true, true, true, true, true, true, true, true] rfl rfl (by kernel_rfl) (by decide) (fun K hK => ?_)
          refine rStore (by rfl) rfl 23 _ _ rfl hO 0 _ _ ?_ rfl ?_ _ _ rfl ?_ ?_ ?_ ?_
          rotate_left
          · first | (go_simp; done) | (go_simp; with_reducible rfl) | rfl
          · kernel_rfl
          · kernel_rfl
          · kernel_rfl
          clear hO
          intro w_ hO
          simp only [List.set_cons_zero, List.set_cons_succ, putAllA, Value.cells, List.setIfInBounds_toArray] at hO
          refine hK.out _ _ ?_
          clear hK K
          refine norm_ (a' := ?_) ?_ ?_
          rotate_left
          · rfl
          refine done_ (by kernel_rfl) ?_
          go_wp2_with fail
          go_meet
          first | exact ⟨_, _, rfl, rfl, hO⟩ | exact ⟨_, _, rfl, rfl, hO.swap⟩
        · -- number 5
          refine rAlloc (by rfl) rfl 23 rfl hO #[.int .i64 0, .int .i64 0, .int .i64 0] (by kernel_rfl) ?_
          clear hO
          intro hb w_ hO
          refine hK.out _ _ (Own.sub hO (List.Sublist.cons _ (List.Sublist.cons _ (List.Sublist.refl _)))) (fun hS => ?_)
          clear hK K
          refine norm_ (a' := ?_) ?_ ?_
          rotate_left
          · show Act.put _ (some 7) _ = _
            simp only [Act.put, List.setIfInBounds_toArray, List.set_cons_zero, List.set_cons_succ]
            rfl
          refine one_ (i := 3) (N := some 36) #[true, true, true, true, true, true, false, false] rfl rfl (by kernel_rfl) (by decide) (fun K hK => ?_)
          refine goes_ Tryd.func9 (by kernel_rfl) rfl #[.agg #[.int .i64 a, .int .i64 b, .int .i64 s, .string n, .int .i64 a0, .int .i64 a1, .int .i64 a2, .int .i64 a3, .int .i64 a4, .int .i64 a5, .int .i64 a6, .int .i64 a7, .int .i64 a8, .int .i64 a9, .int .i64 a10, .int .i64 a11, .int .i64 th, .int .i64 t, .int .i64 d, .bool fan]] (by rfl) rfl rfl (by (try simp only [List.map_toArray, List.map_cons, List.map_nil]); first | done | rfl) ?_
          with_reducible refine (HU.out _ (Lib.hid (hG.out.below hO.bel))).mono ?_
          rintro e w_ ⟨rfl, hb_⟩
          refine ⟨_, rfl, ?_⟩
          replace hO := Own.call hO hb_
          clear hb_
          refine hK.out _ _ (Own.sub hO (List.Sublist.cons _ (List.Sublist.cons _ (List.Sublist.refl _)))) (fun hS => ?_)
          clear hK K
          refine norm_ (a' := ?_) ?_ ?_
          rotate_left
          · show Act.put _ (some 36) _ = _
            simp only [Act.put, List.setIfInBounds_toArray, List.set_cons_zero, List.set_cons_succ]
            rfl
          refine last_ (i := 6) (N := none) #[true, true, true, true, true, true, true, false] rfl rfl (by kernel_rfl) (by decide) (fun K hK => ?_)
          refine rStore (by rfl) rfl 23 _ _ rfl hO 1 _ _ ?_ rfl ?_ _ _ rfl ?_ ?_ ?_ ?_
          rotate_left
          · first | (go_simp; done) | (go_simp; with_reducible rfl) | rfl
          · kernel_rfl
          · kernel_rfl
          · kernel_rfl
          clear hO
          intro w_ hO
          simp only [List.set_cons_zero, List.set_cons_succ, putAllA, Value.cells, List.setIfInBounds_toArray] at hO
          refine hK.out _ _ ?_
          clear hK K
          refine norm_ (a' := ?_) ?_ ?_
          rotate_left
          · rfl
          refine last_ (i := 7) (N := none) #[true, true, true, true, true, true, true, true] rfl rfl (by kernel_rfl) (by decide) (fun K hK => ?_)
          refine rStore (by rfl) rfl 23 _ _ rfl hO 0 _ _ ?_ rfl ?_ _ _ rfl ?_ ?_ ?_ ?_
          rotate_left
          · first | (go_simp; done) | (go_simp; with_reducible rfl) | rfl
          · kernel_rfl
          · kernel_rfl
          · kernel_rfl
          clear hO
          intro w_ hO
          simp only [List.set_cons_zero, List.set_cons_succ, putAllA, Value.cells, List.setIfInBounds_toArray] at hO
          refine hK.out _ _ ?_
          clear hK K
          refine norm_ (a' := ?_) ?_ ?_
          rotate_left
          · rfl
          refine done_ (by kernel_rfl) ?_
          go_wp2_with fail
          go_meet
          first | exact ⟨_, _, rfl, rfl, hO⟩ | exact ⟨_, _, rfl, rfl, hO.swap⟩
      · -- number 5
        refine rAlloc (by rfl) rfl 23 rfl hO #[.int .i64 0, .int .i64 0, .int .i64 0] (by kernel_rfl) ?_
        clear hO
        intro hb w_ hO
        refine hK.out _ _ (Own.sub hO (List.Sublist.cons _ (List.Sublist.refl _))) (fun hS => ?_)
        clear hK K
        refine norm_ (a' := ?_) ?_ ?_
        rotate_left
        · show Act.put _ (some 7) _ = _
          simp only [Act.put, List.setIfInBounds_toArray, List.set_cons_zero, List.set_cons_succ]
          rfl
        refine two_ (i := 3) (j := 4) (Ni := some 36) (Nj := some 6) #[true, true, true, true, false, true, false, false] #[true, true, true, false, true, true, false, false] rfl rfl rfl rfl (by kernel_rfl) (by decide) (by decide) (fun K hK => ?_) (fun K hK => ?_)
        · -- number 3
          refine goes_ Tryd.func9 (by kernel_rfl) rfl #[.agg #[.int .i64 a, .int .i64 b, .int .i64 s, .string n, .int .i64 a0, .int .i64 a1, .int .i64 a2, .int .i64 a3, .int .i64 a4, .int .i64 a5, .int .i64 a6, .int .i64 a7, .int .i64 a8, .int .i64 a9, .int .i64 a10, .int .i64 a11, .int .i64 th, .int .i64 t, .int .i64 d, .bool fan]] (by rfl) rfl rfl (by (try simp only [List.map_toArray, List.map_cons, List.map_nil]); first | done | rfl) ?_
          with_reducible refine (HU.out _ (Lib.hid (hG.out.below hO.bel))).mono ?_
          rintro e w_ ⟨rfl, hb_⟩
          refine ⟨_, rfl, ?_⟩
          replace hO := Own.call hO hb_
          clear hb_
          refine hK.out _ _ (Own.sub hO (List.Sublist.cons _ (List.Sublist.refl _))) (fun hS => ?_)
          clear hK K
          refine norm_ (a' := ?_) ?_ ?_
          rotate_left
          · show Act.put _ (some 36) _ = _
            simp only [Act.put, List.setIfInBounds_toArray, List.set_cons_zero, List.set_cons_succ]
            rfl
          refine one_ (i := 4) (N := some 6) #[true, true, true, true, true, true, false, false] rfl rfl (by kernel_rfl) (by decide) (fun K hK => ?_)
          refine rAlloc (by rfl) rfl 23 rfl hO #[.int .i64 0, .int .i64 0, .int .i64 0] (by kernel_rfl) ?_
          clear hO
          intro ha w_ hO
          refine hK.out _ _ (Own.sub hO (List.Sublist.cons _ (List.Sublist.cons _ (List.Sublist.refl _)))) (fun hS => ?_)
          clear hK K
          refine norm_ (a' := ?_) ?_ ?_
          rotate_left
          · show Act.put _ (some 6) _ = _
            simp only [Act.put, List.setIfInBounds_toArray, List.set_cons_zero, List.set_cons_succ]
            rfl
          refine last_ (i := 6) (N := none) #[true, true, true, true, true, true, true, false] rfl rfl (by kernel_rfl) (by decide) (fun K hK => ?_)
          refine rStore (by rfl) rfl 23 _ _ rfl hO 0 _ _ ?_ rfl ?_ _ _ rfl ?_ ?_ ?_ ?_
          rotate_left
          · first | (go_simp; done) | (go_simp; with_reducible rfl) | rfl
          · kernel_rfl
          · kernel_rfl
          · kernel_rfl
          clear hO
          intro w_ hO
          simp only [List.set_cons_zero, List.set_cons_succ, putAllA, Value.cells, List.setIfInBounds_toArray] at hO
          refine hK.out _ _ ?_
          clear hK K
          refine norm_ (a' := ?_) ?_ ?_
          rotate_left
          · rfl
          refine last_ (i := 7) (N := none) #[true, true, true, true, true, true, true, true] rfl rfl (by kernel_rfl) (by decide) (fun K hK => ?_)
          refine rStore (by rfl) rfl 23 _ _ rfl hO 1 _ _ ?_ rfl ?_ _ _ rfl ?_ ?_ ?_ ?_
          rotate_left
          · first | (go_simp; done) | (go_simp; with_reducible rfl) | rfl
          · kernel_rfl
          · kernel_rfl
          · kernel_rfl
          clear hO
          intro w_ hO
          simp only [List.set_cons_zero, List.set_cons_succ, putAllA, Value.cells, List.setIfInBounds_toArray] at hO
          refine hK.out _ _ ?_
          clear hK K
          refine norm_ (a' := ?_) ?_ ?_
          rotate_left
          · rfl
          refine done_ (by kernel_rfl) ?_
          go_wp2_with fail
          go_meet
          first | exact ⟨_, _, rfl, rfl, hO⟩ | exact ⟨_, _, rfl, rfl, hO.swap⟩
        · -- number 4
          refine rAlloc (by rfl) rfl 23 rfl hO #[.int .i64 0, .int .i64 0, .int .i64 0] (by kernel_rfl) ?_
          clear hO
          intro ha w_ hO
          refine hK.out _ _ (Own.sub hO (List.Sublist.cons _ (List.Sublist.cons _ (List.Sublist.refl _)))) (fun hS => ?_)
          clear hK K
          refine norm_ (a' := ?_) ?_ ?_
          rotate_left
          · show Act.put _ (some 6) _ = _
            simp only [Act.put, List.setIfInBounds_toArray, List.set_cons_zero, List.set_cons_succ]
            rfl
          refine one_ (i := 3) (N := some 36) #[true, true, true, true, true, true, false, false] rfl rfl (by kernel_rfl) (by decide) (fun K hK => ?_)
          refine goes_ Tryd.func9 (by kernel_rfl) rfl #[.agg #[.int .i64 a, .int .i64 b, .int .i64 s, .string n, .int .i64 a0, .int .i64 a1, .int .i64 a2, .int .i64 a3, .int .i64 a4, .int .i64 a5, .int .i64 a6, .int .i64 a7, .int .i64 a8, .int .i64 a9, .int .i64 a10, .int .i64 a11, .int .i64 th, .int .i64 t, .int .i64 d, .bool fan]] (by rfl) rfl rfl (by (try simp only [List.map_toArray, List.map_cons, List.map_nil]); first | done | rfl) ?_
          with_reducible refine (HU.out _ (Lib.hid (hG.out.below hO.bel))).mono ?_
          rintro e w_ ⟨rfl, hb_⟩
          refine ⟨_, rfl, ?_⟩
          replace hO := Own.call hO hb_
          clear hb_
          refine hK.out _ _ (Own.sub hO (List.Sublist.cons _ (List.Sublist.cons _ (List.Sublist.refl _)))) (fun hS => ?_)
          clear hK K
          refine norm_ (a' := ?_) ?_ ?_
          rotate_left
          · show Act.put _ (some 36) _ = _
            simp only [Act.put, List.setIfInBounds_toArray, List.set_cons_zero, List.set_cons_succ]
            rfl
          refine last_ (i := 6) (N := none) #[true, true, true, true, true, true, true, false] rfl rfl (by kernel_rfl) (by decide) (fun K hK => ?_)
          refine rStore (by rfl) rfl 23 _ _ rfl hO 0 _ _ ?_ rfl ?_ _ _ rfl ?_ ?_ ?_ ?_
          rotate_left
          · first | (go_simp; done) | (go_simp; with_reducible rfl) | rfl
          · kernel_rfl
          · kernel_rfl
          · kernel_rfl
          clear hO
          intro w_ hO
          simp only [List.set_cons_zero, List.set_cons_succ, putAllA, Value.cells, List.setIfInBounds_toArray] at hO
          refine hK.out _ _ ?_
          clear hK K
          refine norm_ (a' := ?_) ?_ ?_
          rotate_left
          · rfl
          refine last_ (i := 7) (N := none) #[true, true, true, true, true, true, true, true] rfl rfl (by kernel_rfl) (by decide) (fun K hK => ?_)
          refine rStore (by rfl) rfl 23 _ _ rfl hO 1 _ _ ?_ rfl ?_ _ _ rfl ?_ ?_ ?_ ?_
          rotate_left
          · first | (go_simp; done) | (go_simp; with_reducible rfl) | rfl
          · kernel_rfl
          · kernel_rfl
          · kernel_rfl
          clear hO
          intro w_ hO
          simp only [List.set_cons_zero, List.set_cons_succ, putAllA, Value.cells, List.setIfInBounds_toArray] at hO
          refine hK.out _ _ ?_
          clear hK K
          refine norm_ (a' := ?_) ?_ ?_
          rotate_left
          · rfl
          refine done_ (by kernel_rfl) ?_
          go_wp2_with fail
          go_meet
          first | exact ⟨_, _, rfl, rfl, hO⟩ | exact ⟨_, _, rfl, rfl, hO.swap⟩
    · -- number 4
      refine rAlloc (by rfl) rfl 23 rfl hO #[.int .i64 0, .int .i64 0, .int .i64 0] (by kernel_rfl) ?_
      clear hO
      intro ha w_ hO
      refine hK.out _ _ (Own.sub hO (List.Sublist.cons _ (List.Sublist.refl _))) (fun hS => ?_)
      clear hK K
      refine norm_ (a' := ?_) ?_ ?_
      rotate_left
      · show Act.put _ (some 6) _ = _
        simp only [Act.put, List.setIfInBounds_toArray, List.set_cons_zero, List.set_cons_succ]
        rfl
      refine two_ (i := 1) (j := 5) (Ni := some 34) (Nj := some 7) #[true, true, true, false, true, false, false, false] #[true, false, true, false, true, true, false, false] rfl rfl rfl rfl (by kernel_rfl) (by decide) (by decide) (fun K hK => ?_) (fun K hK => ?_)
      · -- number 1
        refine goes_ Tryd.func9 (by kernel_rfl) rfl #[.agg #[.int .i64 a, .int .i64 b, .int .i64 s, .string n, .int .i64 a0, .int .i64 a1, .int .i64 a2, .int .i64 a3, .int .i64 a4, .int .i64 a5, .int .i64 a6, .int .i64 a7, .int .i64 a8, .int .i64 a9, .int .i64 a10, .int .i64 a11, .int .i64 thick, .int .i64 t, .int .i64 d, .bool fan]] (by rfl) rfl rfl (by (try simp only [List.map_toArray, List.map_cons, List.map_nil]); first | done | rfl) ?_
        with_reducible refine (HT.out _ (Lib.hid (hG.out.below hO.bel))).mono ?_
        rintro e w_ ⟨rfl, hb_⟩
        refine ⟨_, rfl, ?_⟩
        replace hO := Own.call hO hb_
        clear hb_
        refine hK.out _ _ (Own.sub hO (List.Sublist.cons _ (List.Sublist.refl _))) (fun hS => ?_)
        clear hK K
        refine norm_ (a' := ?_) ?_ ?_
        rotate_left
        · show Act.put _ (some 34) _ = _
          simp only [Act.put, List.setIfInBounds_toArray, List.set_cons_zero, List.set_cons_succ]
          rfl
        refine two_ (i := 3) (j := 5) (Ni := some 36) (Nj := some 7) #[true, true, true, true, true, false, false, false] #[true, true, true, false, true, true, false, false] rfl rfl rfl rfl (by kernel_rfl) (by decide) (by decide) (fun K hK => ?_) (fun K hK => ?_)
        · -- number 3
          refine goes_ Tryd.func9 (by kernel_rfl) rfl #[.agg #[.int .i64 a, .int .i64 b, .int .i64 s, .string n, .int .i64 a0, .int .i64 a1, .int .i64 a2, .int .i64 a3, .int .i64 a4, .int .i64 a5, .int .i64 a6, .int .i64 a7, .int .i64 a8, .int .i64 a9, .int .i64 a10, .int .i64 a11, .int .i64 th, .int .i64 t, .int .i64 d, .bool fan]] (by rfl) rfl rfl (by (try simp only [List.map_toArray, List.map_cons, List.map_nil]); first | done | rfl) ?_
          with_reducible refine (HU.out _ (Lib.hid (hG.out.below hO.bel))).mono ?_
          rintro e w_ ⟨rfl, hb_⟩
          refine ⟨_, rfl, ?_⟩
          replace hO := Own.call hO hb_
          clear hb_
          refine hK.out _ _ (Own.sub hO (List.Sublist.cons _ (List.Sublist.refl _))) (fun hS => ?_)
          clear hK K
          refine norm_ (a' := ?_) ?_ ?_
          rotate_left
          · show Act.put _ (some 36) _ = _
            simp only [Act.put, List.setIfInBounds_toArray, List.set_cons_zero, List.set_cons_succ]
            rfl
          refine one_ (i := 5) (N := some 7) #[true, true, true, true, true, true, false, false] rfl rfl (by kernel_rfl) (by decide) (fun K hK => ?_)
          refine rAlloc (by rfl) rfl 23 rfl hO #[.int .i64 0, .int .i64 0, .int .i64 0] (by kernel_rfl) ?_
          clear hO
          intro hb w_ hO
          refine hK.out _ _ (Own.sub hO (List.Sublist.cons _ (List.Sublist.cons _ (List.Sublist.refl _)))) (fun hS => ?_)
          clear hK K
          refine norm_ (a' := ?_) ?_ ?_
          rotate_left
          · show Act.put _ (some 7) _ = _
            simp only [Act.put, List.setIfInBounds_toArray, List.set_cons_zero, List.set_cons_succ]
            rfl
          refine last_ (i := 6) (N := none) #[true, true, true, true, true, true, true, false] rfl rfl (by kernel_rfl) (by decide) (fun K hK => ?_)
          refine rStore (by rfl) rfl 23 _ _ rfl hO 1 _ _ ?_ rfl ?_ _ _ rfl ?_ ?_ ?_ ?_
          rotate_left
          · first | (go_simp; done) | (go_simp; with_reducible rfl) | rfl
          · kernel_rfl
          · kernel_rfl
          · kernel_rfl
          clear hO
          intro w_ hO
          simp only [List.set_cons_zero, List.set_cons_succ, putAllA, Value.cells, List.setIfInBounds_toArray] at hO
          refine hK.out _ _ ?_
          clear hK K
          refine norm_ (a' := ?_) ?_ ?_
          rotate_left
          · rfl
          refine last_ (i := 7) (N := none) #[true, true, true, true, true, true, true, true] rfl rfl (by kernel_rfl) (by decide) (fun K hK => ?_)
          refine rStore (by rfl) rfl 23 _ _ rfl hO 0 _ _ ?_ rfl ?_ _ _ rfl ?_ ?_ ?_ ?_
          rotate_left
          · first | (go_simp; done) | (go_simp; with_reducible rfl) | rfl
          · kernel_rfl
          · kernel_rfl
          · kernel_rfl
          clear hO
          intro w_ hO
          simp only [List.set_cons_zero, List.set_cons_succ, putAllA, Value.cells, List.setIfInBounds_toArray] at hO
          refine hK.out _ _ ?_
          clear hK K
          refine norm_ (a' := ?_) ?_ ?_
          rotate_left
          · rfl
          refine done_ (by kernel_rfl) ?_
          go_wp2_with fail
          go_meet
          first | exact ⟨_, _, rfl, rfl, hO⟩ | exact ⟨_, _, rfl, rfl, hO.swap⟩
        · -- number 5
          refine rAlloc (by rfl) rfl 23 rfl hO #[.int .i64 0, .int .i64 0, .int .i64 0] (by kernel_rfl) ?_
          clear hO
          intro hb w_ hO
          refine hK.out _ _ (Own.sub hO (List.Sublist.cons _ (List.Sublist.cons _ (List.Sublist.refl _)))) (fun hS => ?_)
          clear hK K
          refine norm_ (a' := ?_) ?_ ?_
          rotate_left
          · show Act.put _ (some 7) _ = _
            simp only [Act.put, List.setIfInBounds_toArray, List.set_cons_zero, List.set_cons_succ]
            rfl
          refine one_ (i := 3) (N := some 36) #[true, true, true, true, true, true, false, false] rfl rfl (by kernel_rfl) (by decide) (fun K hK => ?_)
          refine goes_ Tryd.func9 (by kernel_rfl) rfl #[.agg #[.int .i64 a, .int .i64 b, .int .i64 s, .string n, .int .i64 a0, .int .i64 a1, .int .i64 a2, .int .i64 a3, .int .i64 a4, .int .i64 a5, .int .i64 a6, .int .i64 a7, .int .i64 a8, .int .i64 a9, .int .i64 a10, .int .i64 a11, .int .i64 th, .int .i64 t, .int .i64 d, .bool fan]] (by rfl) rfl rfl (by (try simp only [List.map_toArray, List.map_cons, List.map_nil]); first | done | rfl) ?_
          with_reducible refine (HU.out _ (Lib.hid (hG.out.below hO.bel))).mono ?_
          rintro e w_ ⟨rfl, hb_⟩
          refine ⟨_, rfl, ?_⟩
          replace hO := Own.call hO hb_
          clear hb_
          refine hK.out _ _ (Own.sub hO (List.Sublist.cons _ (List.Sublist.cons _ (List.Sublist.refl _)))) (fun hS => ?_)
          clear hK K
          refine norm_ (a' := ?_) ?_ ?_
          rotate_left
          · show Act.put _ (some 36) _ = _
            simp only [Act.put, List.setIfInBounds_toArray, List.set_cons_zero, List.set_cons_succ]
            rfl
          refine last_ (i := 6) (N := none) #[true, true, true, true, true, true, true, false] rfl rfl (by kernel_rfl) (by decide) (fun K hK => ?_)
          refine rStore (by rfl) rfl 23 _ _ rfl hO 1 _ _ ?_ rfl ?_ _ _ rfl ?_ ?_ ?_ ?_
          rotate_left
          · first | (go_simp; done) | (go_simp; with_reducible rfl) | rfl
          · kernel_rfl
          · kernel_rfl
          · kernel_rfl
          clear hO
          intro w_ hO
          simp only [List.set_cons_zero, List.set_cons_succ, putAllA, Value.cells, List.setIfInBounds_toArray] at hO
          refine hK.out _ _ ?_
          clear hK K
          refine norm_ (a' := ?_) ?_ ?_
          rotate_left
          · rfl
          refine last_ (i := 7) (N := none) #[true, true, true, true, true, true, true, true] rfl rfl (by kernel_rfl) (by decide) (fun K hK => ?_)
          refine rStore (by rfl) rfl 23 _ _ rfl hO 0 _ _ ?_ rfl ?_ _ _ rfl ?_ ?_ ?_ ?_
          rotate_left
          · first | (go_simp; done) | (go_simp; with_reducible rfl) | rfl
          · kernel_rfl
          · kernel_rfl
          · kernel_rfl
          clear hO
          intro w_ hO
          simp only [List.set_cons_zero, List.set_cons_succ, putAllA, Value.cells, List.setIfInBounds_toArray] at hO
          refine hK.out _ _ ?_
          clear hK K
          refine norm_ (a' := ?_) ?_ ?_
          rotate_left
          · rfl
          refine done_ (by kernel_rfl) ?_
          go_wp2_with fail
          go_meet
          first | exact ⟨_, _, rfl, rfl, hO⟩ | exact ⟨_, _, rfl, rfl, hO.swap⟩
      · -- number 5
        refine rAlloc (by rfl) rfl 23 rfl hO #[.int .i64 0, .int .i64 0, .int .i64 0] (by kernel_rfl) ?_
        clear hO
        intro hb w_ hO
        refine hK.out _ _ (Own.sub hO (List.Sublist.cons _ (List.Sublist.cons _ (List.Sublist.refl _)))) (fun hS => ?_)
        clear hK K
        refine norm_ (a' := ?_) ?_ ?_
        rotate_left
        · show Act.put _ (some 7) _ = _
          simp only [Act.put, List.setIfInBounds_toArray, List.set_cons_zero, List.set_cons_succ]
          rfl
        refine one_ (i := 1) (N := some 34) #[true, true, true, false, true, true, false, false] rfl rfl (by kernel_rfl) (by decide) (fun K hK => ?_)
        refine goes_ Tryd.func9 (by kernel_rfl) rfl #[.agg #[.int .i64 a, .int .i64 b, .int .i64 s, .string n, .int .i64 a0, .int .i64 a1, .int .i64 a2, .int .i64 a3, .int .i64 a4, .int .i64 a5, .int .i64 a6, .int .i64 a7, .int .i64 a8, .int .i64 a9, .int .i64 a10, .int .i64 a11, .int .i64 thick, .int .i64 t, .int .i64 d, .bool fan]] (by rfl) rfl rfl (by (try simp only [List.map_toArray, List.map_cons, List.map_nil]); first | done | rfl) ?_
        with_reducible refine (HT.out _ (Lib.hid (hG.out.below hO.bel))).mono ?_
        rintro e w_ ⟨rfl, hb_⟩
        refine ⟨_, rfl, ?_⟩
        replace hO := Own.call hO hb_
        clear hb_
        refine hK.out _ _ (Own.sub hO (List.Sublist.cons _ (List.Sublist.cons _ (List.Sublist.refl _)))) (fun hS => ?_)
        clear hK K
        refine norm_ (a' := ?_) ?_ ?_
        rotate_left
        · show Act.put _ (some 34) _ = _
          simp only [Act.put, List.setIfInBounds_toArray, List.set_cons_zero, List.set_cons_succ]
          rfl
        refine one_ (i := 3) (N := some 36) #[true, true, true, true, true, true, false, false] rfl rfl (by kernel_rfl) (by decide) (fun K hK => ?_)
        refine goes_ Tryd.func9 (by kernel_rfl) rfl #[.agg #[.int .i64 a, .int .i64 b, .int .i64 s, .string n, .int .i64 a0, .int .i64 a1, .int .i64 a2, .int .i64 a3, .int .i64 a4, .int .i64 a5, .int .i64 a6, .int .i64 a7, .int .i64 a8, .int .i64 a9, .int .i64 a10, .int .i64 a11, .int .i64 th, .int .i64 t, .int .i64 d, .bool fan]] (by rfl) rfl rfl (by (try simp only [List.map_toArray, List.map_cons, List.map_nil]); first | done | rfl) ?_
        with_reducible refine (HU.out _ (Lib.hid (hG.out.below hO.bel))).mono ?_
        rintro e w_ ⟨rfl, hb_⟩
        refine ⟨_, rfl, ?_⟩
        replace hO := Own.call hO hb_
        clear hb_
        refine hK.out _ _ (Own.sub hO (List.Sublist.cons _ (List.Sublist.cons _ (List.Sublist.refl _)))) (fun hS => ?_)
        clear hK K
        refine norm_ (a' := ?_) ?_ ?_
        rotate_left
        · show Act.put _ (some 36) _ = _
          simp only [Act.put, List.setIfInBounds_toArray, List.set_cons_zero, List.set_cons_succ]
          rfl
        refine last_ (i := 6) (N := none) #[true, true, true, true, true, true, true, false] rfl rfl (by kernel_rfl) (by decide) (fun K hK => ?_)
        refine rStore (by rfl) rfl 23 _ _ rfl hO 1 _ _ ?_ rfl ?_ _ _ rfl ?_ ?_ ?_ ?_
        rotate_left
        · first | (go_simp; done) | (go_simp; with_reducible rfl) | rfl
        · kernel_rfl
        · kernel_rfl
        · kernel_rfl
        clear hO
        intro w_ hO
        simp only [List.set_cons_zero, List.set_cons_succ, putAllA, Value.cells, List.setIfInBounds_toArray] at hO
        refine hK.out _ _ ?_
        clear hK K
        refine norm_ (a' := ?_) ?_ ?_
        rotate_left
        · rfl
        refine last_ (i := 7) (N := none) #[true, true, true, true, true, true, true, true] rfl rfl (by kernel_rfl) (by decide) (fun K hK => ?_)
        refine rStore (by rfl) rfl 23 _ _ rfl hO 0 _ _ ?_ rfl ?_ _ _ rfl ?_ ?_ ?_ ?_
        rotate_left
        · first | (go_simp; done) | (go_simp; with_reducible rfl) | rfl
        · kernel_rfl
        · kernel_rfl
        · kernel_rfl
        clear hO
        intro w_ hO
        simp only [List.set_cons_zero, List.set_cons_succ, putAllA, Value.cells, List.setIfInBounds_toArray] at hO
        refine hK.out _ _ ?_
        clear hK K
        refine norm_ (a' := ?_) ?_ ?_
        rotate_left
        · rfl
        refine done_ (by kernel_rfl) ?_
        go_wp2_with fail
        go_meet
        first | exact ⟨_, _, rfl, rfl, hO⟩ | exact ⟨_, _, rfl, rfl, hO.swap⟩
    · -- number 5
      refine rAlloc (by rfl) rfl 23 rfl hO #[.int .i64 0, .int .i64 0, .int .i64 0] (by kernel_rfl) ?_
      clear hO
      intro hb w_ hO
      refine hK.out _ _ (Own.sub hO (List.Sublist.cons _ (List.Sublist.refl _))) (fun hS => ?_)
      clear hK K
      refine norm_ (a' := ?_) ?_ ?_
      rotate_left
      · show Act.put _ (some 7) _ = _
        simp only [Act.put, List.setIfInBounds_toArray, List.set_cons_zero, List.set_cons_succ]
        rfl
      refine two_ (i := 1) (j := 4) (Ni := some 34) (Nj := some 6) #[true, true, true, false, false, true, false, false] #[true, false, true, false, true, true, false, false] rfl rfl rfl rfl (by kernel_rfl) (by decide) (by decide) (fun K hK => ?_) (fun K hK => ?_)
      · -- number 1
        refine goes_ Tryd.func9 (by kernel_rfl) rfl #[.agg #[.int .i64 a, .int .i64 b, .int .i64 s, .string n, .int .i64 a0, .int .i64 a1, .int .i64 a2, .int .i64 a3, .int .i64 a4, .int .i64 a5, .int .i64 a6, .int .i64 a7, .int .i64 a8, .int .i64 a9, .int .i64 a10, .int .i64 a11, .int .i64 thick, .int .i64 t, .int .i64 d, .bool fan]] (by rfl) rfl rfl (by (try simp only [List.map_toArray, List.map_cons, List.map_nil]); first | done | rfl) ?_
        with_reducible refine (HT.out _ (Lib.hid (hG.out.below hO.bel))).mono ?_
        rintro e w_ ⟨rfl, hb_⟩
        refine ⟨_, rfl, ?_⟩
        replace hO := Own.call hO hb_
        clear hb_
        refine hK.out _ _ (Own.sub hO (List.Sublist.cons _ (List.Sublist.refl _))) (fun hS => ?_)
        clear hK K
        refine norm_ (a' := ?_) ?_ ?_
        rotate_left
        · show Act.put _ (some 34) _ = _
          simp only [Act.put, List.setIfInBounds_toArray, List.set_cons_zero, List.set_cons_succ]
          rfl
        refine two_ (i := 3) (j := 4) (Ni := some 36) (Nj := some 6) #[true, true, true, true, false, true, false, false] #[true, true, true, false, true, true, false, false] rfl rfl rfl rfl (by kernel_rfl) (by decide) (by decide) (fun K hK => ?_) (fun K hK => ?_)
        · -- number 3
          refine goes_ Tryd.func9 (by kernel_rfl) rfl #[.agg #[.int .i64 a, .int .i64 b, .int .i64 s, .string n, .int .i64 a0, .int .i64 a1, .int .i64 a2, .int .i64 a3, .int .i64 a4, .int .i64 a5, .int .i64 a6, .int .i64 a7, .int .i64 a8, .int .i64 a9, .int .i64 a10, .int .i64 a11, .int .i64 th, .int .i64 t, .int .i64 d, .bool fan]] (by rfl) rfl rfl (by (try simp only [List.map_toArray, List.map_cons, List.map_nil]); first | done | rfl) ?_
          with_reducible refine (HU.out _ (Lib.hid (hG.out.below hO.bel))).mono ?_
          rintro e w_ ⟨rfl, hb_⟩
          refine ⟨_, rfl, ?_⟩
          replace hO := Own.call hO hb_
          clear hb_
          refine hK.out _ _ (Own.sub hO (List.Sublist.cons _ (List.Sublist.refl _))) (fun hS => ?_)
          clear hK K
          refine norm_ (a' := ?_) ?_ ?_
          rotate_left
          · show Act.put _ (some 36) _ = _
            simp only [Act.put, List.setIfInBounds_toArray, List.set_cons_zero, List.set_cons_succ]
            rfl
          refine one_ (i := 4) (N := some 6) #[true, true, true, true, true, true, false, false] rfl rfl (by kernel_rfl) (by decide) (fun K hK => ?_)
          refine rAlloc (by rfl) rfl 23 rfl hO #[.int .i64 0, .int .i64 0, .int .i64 0] (by kernel_rfl) ?_
          clear hO
          intro ha w_ hO
          refine hK.out _ _ (Own.sub hO (List.Sublist.cons _ (List.Sublist.cons _ (List.Sublist.refl _)))) (fun hS => ?_)
          clear hK K
          refine norm_ (a' := ?_) ?_ ?_
          rotate_left
          · show Act.put _ (some 6) _ = _
            simp only [Act.put, List.setIfInBounds_toArray, List.set_cons_zero, List.set_cons_succ]
            rfl
          refine last_ (i := 6) (N := none) #[true, true, true, true, true, true, true, false] rfl rfl (by kernel_rfl) (by decide) (fun K hK => ?_)
          refine rStore (by rfl) rfl 23 _ _ rfl hO 0 _ _ ?_ rfl ?_ _ _ rfl ?_ ?_ ?_ ?_
          rotate_left
          · first | (go_simp; done) | (go_simp; with_reducible rfl) | rfl
          · kernel_rfl
          · kernel_rfl
          · kernel_rfl
          clear hO
          intro w_ hO
          simp only [List.set_cons_zero, List.set_cons_succ, putAllA, Value.cells, List.setIfInBounds_toArray] at hO
          refine hK.out _ _ ?_
          clear hK K
          refine norm_ (a' := ?_) ?_ ?_
          rotate_left
          · rfl
          refine last_ (i := 7) (N := none) #[true, true, true, true, true, true, true, true] rfl rfl (by kernel_rfl) (by decide) (fun K hK => ?_)
          refine rStore (by rfl) rfl 23 _ _ rfl hO 1 _ _ ?_ rfl ?_ _ _ rfl ?_ ?_ ?_ ?_
          rotate_left
          · first | (go_simp; done) | (go_simp; with_reducible rfl) | rfl
          · kernel_rfl
          · kernel_rfl
          · kernel_rfl
          clear hO
          intro w_ hO
          simp only [List.set_cons_zero, List.set_cons_succ, putAllA, Value.cells, List.setIfInBounds_toArray] at hO
          refine hK.out _ _ ?_
          clear hK K
          refine norm_ (a' := ?_) ?_ ?_
          rotate_left
          · rfl
          refine done_ (by kernel_rfl) ?_
          go_wp2_with fail
          go_meet
          first | exact ⟨_, _, rfl, rfl, hO⟩ | exact ⟨_, _, rfl, rfl, hO.swap⟩
        · -- number 4
          refine rAlloc (by rfl) rfl 23 rfl hO #[.int .i64 0, .int .i64 0, .int .i64 0] (by kernel_rfl) ?_
          clear hO
          intro ha w_ hO
          refine hK.out _ _ (Own.sub hO (List.Sublist.cons _ (List.Sublist.cons _ (List.Sublist.refl _)))) (fun hS => ?_)
          clear hK K
          refine norm_ (a' := ?_) ?_ ?_
          rotate_left
          · show Act.put _ (some 6) _ = _
            simp only [Act.put, List.setIfInBounds_toArray, List.set_cons_zero, List.set_cons_succ]
            rfl
          refine one_ (i := 3) (N := some 36) #[true, true, true, true, true, true, false, false] rfl rfl (by kernel_rfl) (by decide) (fun K hK => ?_)
          refine goes_ Tryd.func9 (by kernel_rfl) rfl #[.agg #[.int .i64 a, .int .i64 b, .int .i64 s, .string n, .int .i64 a0, .int .i64 a1, .int .i64 a2, .int .i64 a3, .int .i64 a4, .int .i64 a5, .int .i64 a6, .int .i64 a7, .int .i64 a8, .int .i64 a9, .int .i64 a10, .int .i64 a11, .int .i64 th, .int .i64 t, .int .i64 d, .bool fan]] (by rfl) rfl rfl (by (try simp only [List.map_toArray, List.map_cons, List.map_nil]); first | done | rfl) ?_
          with_reducible refine (HU.out _ (Lib.hid (hG.out.below hO.bel))).mono ?_
          rintro e w_ ⟨rfl, hb_⟩
          refine ⟨_, rfl, ?_⟩
          replace hO := Own.call hO hb_
          clear hb_
          refine hK.out _ _ (Own.sub hO (List.Sublist.cons _ (List.Sublist.cons _ (List.Sublist.refl _)))) (fun hS => ?_)
          clear hK K
          refine norm_ (a' := ?_) ?_ ?_
          rotate_left
          · show Act.put _ (some 36) _ = _
            simp only [Act.put, List.setIfInBounds_toArray, List.set_cons_zero, List.set_cons_succ]
            rfl
          refine last_ (i := 6) (N := none) #[true, true, true, true, true, true, true, false] rfl rfl (by kernel_rfl) (by decide) (fun K hK => ?_)
          refine rStore (by rfl) rfl 23 _ _ rfl hO 0 _ _ ?_ rfl ?_ _ _ rfl ?_ ?_ ?_ ?_
          rotate_left
          · first | (go_simp; done) | (go_simp; with_reducible rfl) | rfl
          · kernel_rfl
          · kernel_rfl
          · kernel_rfl
          clear hO
          intro w_ hO
          simp only [List.set_cons_zero, List.set_cons_succ, putAllA, Value.cells, List.setIfInBounds_toArray] at hO
          refine hK.out _ _ ?_
          clear hK K
          refine norm_ (a' := ?_) ?_ ?_
          rotate_left
          · rfl
          refine last_ (i := 7) (N := none) #[true, true, true, true, true, true, true, true] rfl rfl (by kernel_rfl) (by decide) (fun K hK => ?_)
          refine rStore (by rfl) rfl 23 _ _ rfl hO 1 _ _ ?_ rfl ?_ _ _ rfl ?_ ?_ ?_ ?_
          rotate_left
          · first | (go_simp; done) | (go_simp; with_reducible rfl) | rfl
          · kernel_rfl
          · kernel_rfl
          · kernel_rfl
          clear hO
          intro w_ hO
          simp only [List.set_cons_zero, List.set_cons_succ, putAllA, Value.cells, List.setIfInBounds_toArray] at hO
          refine hK.out _ _ ?_
          clear hK K
          refine norm_ (a' := ?_) ?_ ?_
          rotate_left
          · rfl
          refine done_ (by kernel_rfl) ?_
          go_wp2_with fail
          go_meet
          first | exact ⟨_, _, rfl, rfl, hO⟩ | exact ⟨_, _, rfl, rfl, hO.swap⟩
      · -- number 4
        refine rAlloc (by rfl) rfl 23 rfl hO #[.int .i64 0, .int .i64 0, .int .i64 0] (by kernel_rfl) ?_
        clear hO
        intro ha w_ hO
        refine hK.out _ _ (Own.sub hO (List.Sublist.cons _ (List.Sublist.cons _ (List.Sublist.refl _)))) (fun hS => ?_)
        clear hK K
        refine norm_ (a' := ?_) ?_ ?_
        rotate_left
        · show Act.put _ (some 6) _ = _
          simp only [Act.put, List.setIfInBounds_toArray, List.set_cons_zero, List.set_cons_succ]
          rfl
        refine one_ (i := 1) (N := some 34) #[true, true, true, false, true, true, false, false] rfl rfl (by kernel_rfl) (by decide) (fun K hK => ?_)
        refine goes_ Tryd.func9 (by kernel_rfl) rfl #[.agg #[.int .i64 a, .int .i64 b, .int .i64 s, .string n, .int .i64 a0, .int .i64 a1, .int .i64 a2, .int .i64 a3, .int .i64 a4, .int .i64 a5, .int .i64 a6, .int .i64 a7, .int .i64 a8, .int .i64 a9, .int .i64 a10, .int .i64 a11, .int .i64 thick, .int .i64 t, .int .i64 d, .bool fan]] (by rfl) rfl rfl (by (try simp only [List.map_toArray, List.map_cons, List.map_nil]); first | done | rfl) ?_
        with_reducible refine (HT.out _ (Lib.hid (hG.out.below hO.bel))).mono ?_
        rintro e w_ ⟨rfl, hb_⟩
        refine ⟨_, rfl, ?_⟩
        replace hO := Own.call hO hb_
        clear hb_
        refine hK.out _ _ (Own.sub hO (List.Sublist.cons _ (List.Sublist.cons _ (List.Sublist.refl _)))) (fun hS => ?_)
        clear hK K
        refine norm_ (a' := ?_) ?_ ?_
        rotate_left
        · show Act.put _ (some 34) _ = _
          simp only [Act.put, List.setIfInBounds_toArray, List.set_cons_zero, List.set_cons_succ]
          rfl
        refine one_ (i := 3) (N := some 36) #[true, true, true, true, true, true, false, false] rfl rfl (by kernel_rfl) (by decide) (fun K hK => ?_)
        refine goes_ Tryd.func9 (by kernel_rfl) rfl #[.agg #[.int .i64 a, .int .i64 b, .int .i64 s, .string n, .int .i64 a0, .int .i64 a1, .int .i64 a2, .int .i64 a3, .int .i64 a4, .int .i64 a5, .int .i64 a6, .int .i64 a7, .int .i64 a8, .int .i64 a9, .int .i64 a10, .int .i64 a11, .int .i64 th, .int .i64 t, .int .i64 d, .bool fan]] (by rfl) rfl rfl (by (try simp only [List.map_toArray, List.map_cons, List.map_nil]); first | done | rfl) ?_
        with_reducible refine (HU.out _ (Lib.hid (hG.out.below hO.bel))).mono ?_
        rintro e w_ ⟨rfl, hb_⟩
        refine ⟨_, rfl, ?_⟩
        replace hO := Own.call hO hb_
        clear hb_
        refine hK.out _ _ (Own.sub hO (List.Sublist.cons _ (List.Sublist.cons _ (List.Sublist.refl _)))) (fun hS => ?_)
        clear hK K
        refine norm_ (a' := ?_) ?_ ?_
        rotate_left
        · show Act.put _ (some 36) _ = _
          simp only [Act.put, List.setIfInBounds_toArray, List.set_cons_zero, List.set_cons_succ]
          rfl
        refine last_ (i := 6) (N := none) #[true, true, true, true, true, true, true, false] rfl rfl (by kernel_rfl) (by decide) (fun K hK => ?_)
        refine rStore (by rfl) rfl 23 _ _ rfl hO 0 _ _ ?_ rfl ?_ _ _ rfl ?_ ?_ ?_ ?_
        rotate_left
        · first | (go_simp; done) | (go_simp; with_reducible rfl) | rfl
        · kernel_rfl
        · kernel_rfl
        · kernel_rfl
        clear hO
        intro w_ hO
        simp only [List.set_cons_zero, List.set_cons_succ, putAllA, Value.cells, List.setIfInBounds_toArray] at hO
        refine hK.out _ _ ?_
        clear hK K
        refine norm_ (a' := ?_) ?_ ?_
        rotate_left
        · rfl
        refine last_ (i := 7) (N := none) #[true, true, true, true, true, true, true, true] rfl rfl (by kernel_rfl) (by decide) (fun K hK => ?_)
        refine rStore (by rfl) rfl 23 _ _ rfl hO 1 _ _ ?_ rfl ?_ _ _ rfl ?_ ?_ ?_ ?_
        rotate_left
        · first | (go_simp; done) | (go_simp; with_reducible rfl) | rfl
        · kernel_rfl
        · kernel_rfl
        · kernel_rfl
        clear hO
        intro w_ hO
        simp only [List.set_cons_zero, List.set_cons_succ, putAllA, Value.cells, List.setIfInBounds_toArray] at hO
        refine hK.out _ _ ?_
        clear hK K
        refine norm_ (a' := ?_) ?_ ?_
        rotate_left
        · rfl
        refine done_ (by kernel_rfl) ?_
        go_wp2_with fail
        go_meet
        first | exact ⟨_, _, rfl, rfl, hO⟩ | exact ⟨_, _, rfl, rfl, hO.swap⟩
  case rest =>
    obtain ⟨g3, g4, rfl, rfl, hO⟩ := hcut
    go_upto_region 6 with fail
    refine start_ (n := 18) (S := fun w' => Own w [(g3, 23, #[.int .i64 c1, .int .i64 c2, .int .i64 c3]), (g4, 23, #[.int .i64 c1, .int .i64 d2, .int .i64 d3]), (g_, 29, #[.int .i64 a, .int .i64 b, .int .i64 s, .string n, .int .i64 a0, .int .i64 a1, .int .i64 a2, .int .i64 a3, .int .i64 a4, .int .i64 a5, .int .i64 a6, .int .i64 a7, .int .i64 a8, .int .i64 a9, .int .i64 a10, .int .i64 a11, .int .i64 th, .int .i64 t, .int .i64 d, .bool fan]), (ga, 29, #[.int .i64 a, .int .i64 b, .int .i64 s, .string n, .int .i64 a0, .int .i64 a1, .int .i64 a2, .int .i64 a3, .int .i64 a4, .int .i64 a5, .int .i64 a6, .int .i64 a7, .int .i64 a8, .int .i64 a9, .int .i64 a10, .int .i64 a11, .int .i64 thick, .int .i64 t, .int .i64 d, .bool fan])] w') (ds := []) #[false, false, false, false, false, false, false, false, false, false, false, false, false, false, false, false, false, false] (by kernel_rfl) rfl rfl (Own.drew hO) (fun hS => ?_)
    clear hO
    have hO := hS
    refine pure_ (i := 0) (N := some 37) (v := ?_) (a' := ?_) #[true, false, false, false, false, false, false, false, false, false, false, false, false, false, false, false, false, false] rfl rfl (by kernel_rfl) (fun _ _ _ h => h) (Or.inl ⟨by rfl, ?_⟩) ?_ ?_
    rotate_left
    · intro w'
      go_simp
      with_reducible rfl
    rotate_left
    · simp only [Act.put, List.setIfInBounds_toArray, List.set_cons_zero, List.set_cons_succ]
      rfl
    first
      | (refine take_ (i := 1) (N := some 38) (a' := ?_) #[true, true, false, false, false, false, false, false, false, false, false, false, false, false, false, false, false, false] rfl rfl (by kernel_rfl) (fun _ _ _ h => h) (yOne hS ?_ 3 _ rfl 0 _ _ rfl _ _ rfl ?_ ?_ _ Tryd.underlying3 rfl) hS ?_ ?_; (focus rfl); rotate_left; (focus (simp only [List.getElem?_toArray, List.getElem?_cons_zero, List.getElem?_cons_succ]; rfl)); rotate_left; (focus (simp only [Act.put, List.setIfInBounds_toArray, List.set_cons_zero, List.set_cons_succ]; rfl)))
      | (refine take_ (i := 1) (N := some 38) (a' := ?_) #[true, true, false, false, false, false, false, false, false, false, false, false, false, false, false, false, false, false] rfl rfl (by kernel_rfl) (fun _ _ _ h => h) (yOne hS ?_ 3 _ rfl 1 _ _ rfl _ _ rfl ?_ ?_ _ Tryd.underlying3 rfl) hS ?_ ?_; (focus rfl); rotate_left; (focus (simp only [List.getElem?_toArray, List.getElem?_cons_zero, List.getElem?_cons_succ]; rfl)); rotate_left; (focus (simp only [Act.put, List.setIfInBounds_toArray, List.set_cons_zero, List.set_cons_succ]; rfl)))
      | (refine take_ (i := 1) (N := some 38) (a' := ?_) #[true, true, false, false, false, false, false, false, false, false, false, false, false, false, false, false, false, false] rfl rfl (by kernel_rfl) (fun _ _ _ h => h) (yOne hS ?_ 3 _ rfl 2 _ _ rfl _ _ rfl ?_ ?_ _ Tryd.underlying3 rfl) hS ?_ ?_; (focus rfl); rotate_left; (focus (simp only [List.getElem?_toArray, List.getElem?_cons_zero, List.getElem?_cons_succ]; rfl)); rotate_left; (focus (simp only [Act.put, List.setIfInBounds_toArray, List.set_cons_zero, List.set_cons_succ]; rfl)))
      | (refine take_ (i := 1) (N := some 38) (a' := ?_) #[true, true, false, false, false, false, false, false, false, false, false, false, false, false, false, false, false, false] rfl rfl (by kernel_rfl) (fun _ _ _ h => h) (yOne hS ?_ 3 _ rfl 3 _ _ rfl _ _ rfl ?_ ?_ _ Tryd.underlying3 rfl) hS ?_ ?_; (focus rfl); rotate_left; (focus (simp only [List.getElem?_toArray, List.getElem?_cons_zero, List.getElem?_cons_succ]; rfl)); rotate_left; (focus (simp only [Act.put, List.setIfInBounds_toArray, List.set_cons_zero, List.set_cons_succ]; rfl)))
    refine pure_ (i := 2) (N := some 39) (v := ?_) (a' := ?_) #[true, true, true, false, false, false, false, false, false, false, false, false, false, false, false, false, false, false] rfl rfl (by kernel_rfl) (fun _ _ _ h => h) (Or.inl ⟨by rfl, ?_⟩) ?_ ?_
    rotate_left
    · intro w'
      go_simp
      with_reducible rfl
    rotate_left
    · simp only [Act.put, List.setIfInBounds_toArray, List.set_cons_zero, List.set_cons_succ]
      rfl
    first
      | (refine take_ (i := 3) (N := some 40) (a' := ?_) #[true, true, true, true, false, false, false, false, false, false, false, false, false, false, false, false, false, false] rfl rfl (by kernel_rfl) (fun _ _ _ h => h) (yOne hS ?_ 3 _ rfl 0 _ _ rfl _ _ rfl ?_ ?_ _ Tryd.underlying3 rfl) hS ?_ ?_; (focus rfl); rotate_left; (focus (simp only [List.getElem?_toArray, List.getElem?_cons_zero, List.getElem?_cons_succ]; rfl)); rotate_left; (focus (simp only [Act.put, List.setIfInBounds_toArray, List.set_cons_zero, List.set_cons_succ]; rfl)))
      | (refine take_ (i := 3) (N := some 40) (a' := ?_) #[true, true, true, true, false, false, false, false, false, false, false, false, false, false, false, false, false, false] rfl rfl (by kernel_rfl) (fun _ _ _ h => h) (yOne hS ?_ 3 _ rfl 1 _ _ rfl _ _ rfl ?_ ?_ _ Tryd.underlying3 rfl) hS ?_ ?_; (focus rfl); rotate_left; (focus (simp only [List.getElem?_toArray, List.getElem?_cons_zero, List.getElem?_cons_succ]; rfl)); rotate_left; (focus (simp only [Act.put, List.setIfInBounds_toArray, List.set_cons_zero, List.set_cons_succ]; rfl)))
      | (refine take_ (i := 3) (N := some 40) (a' := ?_) #[true, true, true, true, false, false, false, false, false, false, false, false, false, false, false, false, false, false] rfl rfl (by kernel_rfl) (fun _ _ _ h => h) (yOne hS ?_ 3 _ rfl 2 _ _ rfl _ _ rfl ?_ ?_ _ Tryd.underlying3 rfl) hS ?_ ?_; (focus rfl); rotate_left; (focus (simp only [List.getElem?_toArray, List.getElem?_cons_zero, List.getElem?_cons_succ]; rfl)); rotate_left; (focus (simp only [Act.put, List.setIfInBounds_toArray, List.set_cons_zero, List.set_cons_succ]; rfl)))
      | (refine take_ (i := 3) (N := some 40) (a' := ?_) #[true, true, true, true, false, false, false, false, false, false, false, false, false, false, false, false, false, false] rfl rfl (by kernel_rfl) (fun _ _ _ h => h) (yOne hS ?_ 3 _ rfl 3 _ _ rfl _ _ rfl ?_ ?_ _ Tryd.underlying3 rfl) hS ?_ ?_; (focus rfl); rotate_left; (focus (simp only [List.getElem?_toArray, List.getElem?_cons_zero, List.getElem?_cons_succ]; rfl)); rotate_left; (focus (simp only [Act.put, List.setIfInBounds_toArray, List.set_cons_zero, List.set_cons_succ]; rfl)))
    refine pure_ (i := 4) (N := some 41) (v := ?_) (a' := ?_) #[true, true, true, true, true, false, false, false, false, false, false, false, false, false, false, false, false, false] rfl rfl (by kernel_rfl) (fun _ _ _ h => h) (Or.inl ⟨by rfl, ?_⟩) ?_ ?_
    rotate_left
    · intro w'
      go_simp
      with_reducible rfl
    rotate_left
    · simp only [Act.put, List.setIfInBounds_toArray, List.set_cons_zero, List.set_cons_succ]
      rfl
    refine pure_ (i := 5) (N := some 42) (v := ?_) (a' := ?_) #[true, true, true, true, true, true, false, false, false, false, false, false, false, false, false, false, false, false] rfl rfl (by kernel_rfl) (fun _ _ _ h => h) (Or.inl ⟨by rfl, ?_⟩) ?_ ?_
    rotate_left
    · intro w'
      go_simp
      with_reducible rfl
    rotate_left
    · simp only [Act.put, List.setIfInBounds_toArray, List.set_cons_zero, List.set_cons_succ]
      rfl
    first
      | (refine take_ (i := 6) (N := some 43) (a' := ?_) #[true, true, true, true, true, true, true, false, false, false, false, false, false, false, false, false, false, false] rfl rfl (by kernel_rfl) (fun _ _ _ h => h) (yRow hS ?_ 23 _ rfl 0 _ _ rfl _ _ rfl 3 ?_ ?_ ?_ _ Tryd.underlying23 rfl ?_) hS ?_ ?_; (focus rfl); rotate_left; (focus (simp only [Array.toList_extract, List.extract_toArray, List.extract_eq_take_drop, List.drop_zero, List.drop_succ_cons, List.take_succ_cons, List.take_zero, Nat.reduceAdd, Nat.reduceSub, Nat.zero_add, Nat.add_zero, Nat.add_sub_cancel_left, Nat.sub_zero, Nat.sub_self]; rfl)); (focus rfl); (focus kernel_rfl); rotate_left; (focus (simp only [Act.put, List.setIfInBounds_toArray, List.set_cons_zero, List.set_cons_succ]; rfl)))
      | (refine take_ (i := 6) (N := some 43) (a' := ?_) #[true, true, true, true, true, true, true, false, false, false, false, false, false, false, false, false, false, false] rfl rfl (by kernel_rfl) (fun _ _ _ h => h) (yRow hS ?_ 23 _ rfl 1 _ _ rfl _ _ rfl 3 ?_ ?_ ?_ _ Tryd.underlying23 rfl ?_) hS ?_ ?_; (focus rfl); rotate_left; (focus (simp only [Array.toList_extract, List.extract_toArray, List.extract_eq_take_drop, List.drop_zero, List.drop_succ_cons, List.take_succ_cons, List.take_zero, Nat.reduceAdd, Nat.reduceSub, Nat.zero_add, Nat.add_zero, Nat.add_sub_cancel_left, Nat.sub_zero, Nat.sub_self]; rfl)); (focus rfl); (focus kernel_rfl); rotate_left; (focus (simp only [Act.put, List.setIfInBounds_toArray, List.set_cons_zero, List.set_cons_succ]; rfl)))
      | (refine take_ (i := 6) (N := some 43) (a' := ?_) #[true, true, true, true, true, true, true, false, false, false, false, false, false, false, false, false, false, false] rfl rfl (by kernel_rfl) (fun _ _ _ h => h) (yRow hS ?_ 23 _ rfl 2 _ _ rfl _ _ rfl 3 ?_ ?_ ?_ _ Tryd.underlying23 rfl ?_) hS ?_ ?_; (focus rfl); rotate_left; (focus (simp only [Array.toList_extract, List.extract_toArray, List.extract_eq_take_drop, List.drop_zero, List.drop_succ_cons, List.take_succ_cons, List.take_zero, Nat.reduceAdd, Nat.reduceSub, Nat.zero_add, Nat.add_zero, Nat.add_sub_cancel_left, Nat.sub_zero, Nat.sub_self]; rfl)); (focus rfl); (focus kernel_rfl); rotate_left; (focus (simp only [Act.put, List.setIfInBounds_toArray, List.set_cons_zero, List.set_cons_succ]; rfl)))
      | (refine take_ (i := 6) (N := some 43) (a' := ?_) #[true, true, true, true, true, true, true, false, false, false, false, false, false, false, false, false, false, false] rfl rfl (by kernel_rfl) (fun _ _ _ h => h) (yRow hS ?_ 23 _ rfl 3 _ _ rfl _ _ rfl 3 ?_ ?_ ?_ _ Tryd.underlying23 rfl ?_) hS ?_ ?_; (focus rfl); rotate_left; (focus (simp only [Array.toList_extract, List.extract_toArray, List.extract_eq_take_drop, List.drop_zero, List.drop_succ_cons, List.take_succ_cons, List.take_zero, Nat.reduceAdd, Nat.reduceSub, Nat.zero_add, Nat.add_zero, Nat.add_sub_cancel_left, Nat.sub_zero, Nat.sub_self]; rfl)); (focus rfl); (focus kernel_rfl); rotate_left; (focus (simp only [Act.put, List.setIfInBounds_toArray, List.set_cons_zero, List.set_cons_succ]; rfl)))
    first
      | (refine take_ (i := 9) (N := some 46) (a' := ?_) #[true, true, true, true, true, true, true, false, false, true, false, false, false, false, false, false, false, false] rfl rfl (by kernel_rfl) (fun _ _ _ h => h) (yRow hS ?_ 23 _ rfl 0 _ _ rfl _ _ rfl 3 ?_ ?_ ?_ _ Tryd.underlying23 rfl ?_) hS ?_ ?_; (focus rfl); rotate_left; (focus (simp only [Array.toList_extract, List.extract_toArray, List.extract_eq_take_drop, List.drop_zero, List.drop_succ_cons, List.take_succ_cons, List.take_zero, Nat.reduceAdd, Nat.reduceSub, Nat.zero_add, Nat.add_zero, Nat.add_sub_cancel_left, Nat.sub_zero, Nat.sub_self]; rfl)); (focus rfl); (focus kernel_rfl); rotate_left; (focus (simp only [Act.put, List.setIfInBounds_toArray, List.set_cons_zero, List.set_cons_succ]; rfl)))
      | (refine take_ (i := 9) (N := some 46) (a' := ?_) #[true, true, true, true, true, true, true, false, false, true, false, false, false, false, false, false, false, false] rfl rfl (by kernel_rfl) (fun _ _ _ h => h) (yRow hS ?_ 23 _ rfl 1 _ _ rfl _ _ rfl 3 ?_ ?_ ?_ _ Tryd.underlying23 rfl ?_) hS ?_ ?_; (focus rfl); rotate_left; (focus (simp only [Array.toList_extract, List.extract_toArray, List.extract_eq_take_drop, List.drop_zero, List.drop_succ_cons, List.take_succ_cons, List.take_zero, Nat.reduceAdd, Nat.reduceSub, Nat.zero_add, Nat.add_zero, Nat.add_sub_cancel_left, Nat.sub_zero, Nat.sub_self]; rfl)); (focus rfl); (focus kernel_rfl); rotate_left; (focus (simp only [Act.put, List.setIfInBounds_toArray, List.set_cons_zero, List.set_cons_succ]; rfl)))
      | (refine take_ (i := 9) (N := some 46) (a' := ?_) #[true, true, true, true, true, true, true, false, false, true, false, false, false, false, false, false, false, false] rfl rfl (by kernel_rfl) (fun _ _ _ h => h) (yRow hS ?_ 23 _ rfl 2 _ _ rfl _ _ rfl 3 ?_ ?_ ?_ _ Tryd.underlying23 rfl ?_) hS ?_ ?_; (focus rfl); rotate_left; (focus (simp only [Array.toList_extract, List.extract_toArray, List.extract_eq_take_drop, List.drop_zero, List.drop_succ_cons, List.take_succ_cons, List.take_zero, Nat.reduceAdd, Nat.reduceSub, Nat.zero_add, Nat.add_zero, Nat.add_sub_cancel_left, Nat.sub_zero, Nat.sub_self]; rfl)); (focus rfl); (focus kernel_rfl); rotate_left; (focus (simp only [Act.put, List.setIfInBounds_toArray, List.set_cons_zero, List.set_cons_succ]; rfl)))
      | (refine take_ (i := 9) (N := some 46) (a' := ?_) #[true, true, true, true, true, true, true, false, false, true, false, false, false, false, false, false, false, false] rfl rfl (by kernel_rfl) (fun _ _ _ h => h) (yRow hS ?_ 23 _ rfl 3 _ _ rfl _ _ rfl 3 ?_ ?_ ?_ _ Tryd.underlying23 rfl ?_) hS ?_ ?_; (focus rfl); rotate_left; (focus (simp only [Array.toList_extract, List.extract_toArray, List.extract_eq_take_drop, List.drop_zero, List.drop_succ_cons, List.take_succ_cons, List.take_zero, Nat.reduceAdd, Nat.reduceSub, Nat.zero_add, Nat.add_zero, Nat.add_sub_cancel_left, Nat.sub_zero, Nat.sub_self]; rfl)); (focus rfl); (focus kernel_rfl); rotate_left; (focus (simp only [Act.put, List.setIfInBounds_toArray, List.set_cons_zero, List.set_cons_succ]; rfl)))
    refine one_ (i := 7) (N := some 44) #[true, true, true, true, true, true, true, true, false, true, false, false, false, false, false, false, false, false] rfl rfl (by kernel_rfl) (by decide) (fun K hK => ?_)
    refine goes_ Tryd.func18 (by kernel_rfl) rfl #[.agg #[.int .i64 c1, .int .i64 c2, .int .i64 c3]] (by rfl) rfl rfl (by (try simp only [List.map_toArray, List.map_cons, List.map_nil]); first | done | rfl) ?_
    with_reducible refine (HX.out _).mono ?_
    rintro e w_ ⟨rfl, hb_⟩
    refine ⟨_, rfl, ?_⟩
    replace hO := Own.call hO hb_
    clear hb_
    refine hK.out _ _ (hO) (fun hS => ?_)
    clear hK K
    refine norm_ (a' := ?_) ?_ ?_
    rotate_left
    · show Act.put _ (some 44) _ = _
      simp only [Act.put, List.setIfInBounds_toArray, List.set_cons_zero, List.set_cons_succ]
      rfl
    refine one_ (i := 8) (N := some 45) #[true, true, true, true, true, true, true, true, true, true, false, false, false, false, false, false, false, false] rfl rfl (by kernel_rfl) (by decide) (fun K hK => ?_)
    refine goes_ Tryd.func24 (by kernel_rfl) rfl #[.int .i64 x] (by rfl) rfl rfl (by (try simp only [List.map_toArray, List.map_cons, List.map_nil]); first | done | rfl) ?_
    with_reducible refine (HSX.out _).mono ?_
    rintro e w_ ⟨rfl, rfl⟩
    refine ⟨_, rfl, ?_⟩
    refine hK.out _ _ (hO) (fun hS => ?_)
    clear hK K
    refine norm_ (a' := ?_) ?_ ?_
    rotate_left
    · show Act.put _ (some 45) _ = _
      simp only [Act.put, List.setIfInBounds_toArray, List.set_cons_zero, List.set_cons_succ]
      rfl
    refine one_ (i := 10) (N := some 47) #[true, true, true, true, true, true, true, true, true, true, true, false, false, false, false, false, false, false] rfl rfl (by kernel_rfl) (by decide) (fun K hK => ?_)
    refine goes_ Tryd.func18 (by kernel_rfl) rfl #[.agg #[.int .i64 c1, .int .i64 d2, .int .i64 d3]] (by rfl) rfl rfl (by (try simp only [List.map_toArray, List.map_cons, List.map_nil]); first | done | rfl) ?_
    with_reducible refine (HY.out _).mono ?_
    rintro e w_ ⟨rfl, hb_⟩
    refine ⟨_, rfl, ?_⟩
    replace hO := Own.call hO hb_
    clear hb_
    refine hK.out _ _ (hO) (fun hS => ?_)
    clear hK K
    refine norm_ (a' := ?_) ?_ ?_
    rotate_left
    · show Act.put _ (some 47) _ = _
      simp only [Act.put, List.setIfInBounds_toArray, List.set_cons_zero, List.set_cons_succ]
      rfl
    refine one_ (i := 11) (N := some 48) #[true, true, true, true, true, true, true, true, true, true, true, true, false, false, false, false, false, false] rfl rfl (by kernel_rfl) (by decide) (fun K hK => ?_)
    refine goes_ Tryd.func24 (by kernel_rfl) rfl #[.int .i64 y] (by rfl) rfl rfl (by (try simp only [List.map_toArray, List.map_cons, List.map_nil]); first | done | rfl) ?_
    with_reducible refine (HSY.out _).mono ?_
    rintro e w_ ⟨rfl, rfl⟩
    refine ⟨_, rfl, ?_⟩
    refine hK.out _ _ (hO) (fun hS => ?_)
    clear hK K
    refine norm_ (a' := ?_) ?_ ?_
    rotate_left
    · show Act.put _ (some 48) _ = _
      simp only [Act.put, List.setIfInBounds_toArray, List.set_cons_zero, List.set_cons_succ]
      rfl
    refine pure_ (i := 12) (N := some 49) (v := ?_) (a' := ?_) #[true, true, true, true, true, true, true, true, true, true, true, true, true, false, false, false, false, false] rfl rfl (by kernel_rfl) (fun _ _ _ h => h) (Or.inl ⟨by rfl, ?_⟩) ?_ ?_
    rotate_left
    · intro w'
      go_simp
      with_reducible rfl
    rotate_left
    · simp only [Act.put, List.setIfInBounds_toArray, List.set_cons_zero, List.set_cons_succ]
      rfl
    refine pure_ (i := 13) (N := some 50) (v := ?_) (a' := ?_) #[true, true, true, true, true, true, true, true, true, true, true, true, true, true, false, false, false, false] rfl rfl (by kernel_rfl) (fun _ _ _ h => h) (Or.inl ⟨by rfl, ?_⟩) ?_ ?_
    rotate_left
    · intro w'
      go_simp
      with_reducible rfl
    rotate_left
    · simp only [Act.put, List.setIfInBounds_toArray, List.set_cons_zero, List.set_cons_succ]
      rfl
    refine pure_ (i := 14) (N := some 51) (v := ?_) (a' := ?_) #[true, true, true, true, true, true, true, true, true, true, true, true, true, true, true, false, false, false] rfl rfl (by kernel_rfl) (fun _ _ _ h => h) (Or.inl ⟨by rfl, ?_⟩) ?_ ?_
    rotate_left
    · intro w'
      go_simp
      with_reducible rfl
    rotate_left
    · simp only [Act.put, List.setIfInBounds_toArray, List.set_cons_zero, List.set_cons_succ]
      rfl
    refine one_ (i := 15) (N := some 52) #[true, true, true, true, true, true, true, true, true, true, true, true, true, true, true, true, false, false] rfl rfl (by kernel_rfl) (by decide) (fun K hK => ?_)
    refine goes_ Tryd.func11 (by kernel_rfl) rfl #[] (by rfl) rfl rfl (by (try simp only [List.map_toArray, List.map_cons, List.map_nil]); first | done | rfl) ?_
    with_reducible refine (awake_any _ (Lib.hid (hG.out.below hO.bel))).mono ?_
    rintro e w_ ⟨rfl, hb_⟩
    refine ⟨_, rfl, ?_⟩
    replace hO := Own.call hO hb_
    clear hb_
    refine hK.out _ _ (hO) (fun hS => ?_)
    clear hK K
    refine norm_ (a' := ?_) ?_ ?_
    rotate_left
    · show Act.put _ (some 52) _ = _
      simp only [Act.put, List.setIfInBounds_toArray, List.set_cons_zero, List.set_cons_succ]
      rfl
    refine pure_ (i := 16) (N := some 53) (v := ?_) (a' := ?_) #[true, true, true, true, true, true, true, true, true, true, true, true, true, true, true, true, true, false] rfl rfl (by kernel_rfl) (fun _ _ _ h => h) (Or.inl ⟨by rfl, ?_⟩) ?_ ?_
    rotate_left
    · intro w'
      go_simp
      with_reducible rfl
    rotate_left
    · simp only [Act.put, List.setIfInBounds_toArray, List.set_cons_zero, List.set_cons_succ]
      rfl
    refine pure_ (i := 17) (N := some 4) (v := ?_) (a' := ?_) #[true, true, true, true, true, true, true, true, true, true, true, true, true, true, true, true, true, true] rfl rfl (by kernel_rfl) (fun _ _ _ h => h) (Or.inl ⟨by rfl, ?_⟩) ?_ ?_
    rotate_left
    · intro w'
      go_simp
      with_reducible rfl
    rotate_left
    · simp only [Act.put, List.setIfInBounds_toArray, List.set_cons_zero, List.set_cons_succ]
      rfl
    refine done_ (by kernel_rfl) ?_
    go_wp2_with fail
    go_ret
    exact ⟨rfl, hO.bel⟩
theorem thick_any (a b s : Int) (n : ByteArray) (a0 a1 a2 a3 a4 a5 a6 a7 a8 a9 a10 a11 thick t d : Int) (fan : Bool) (m : Int) (w : World) (hG : Hid (Glob w)) :
    Calls Tryd.prog 7 #[.agg #[.int .i64 a, .int .i64 b, .int .i64 s, .string n, .int .i64 a0, .int .i64 a1, .int .i64 a2, .int .i64 a3, .int .i64 a4, .int .i64 a5, .int .i64 a6, .int .i64 a7, .int .i64 a8, .int .i64 a9, .int .i64 a10, .int .i64 a11, .int .i64 thick, .int .i64 t, .int .i64 d, .bool fan], .int .i64 m] w fun e w' => e = .returned (.bool true) ∧ Below w.heap.size w w' := by
  rcases Decidable.em (thick < 1 ∨ m < 0 ∨ 600 < m ∨ 600 - m < thick) with h | h
  · exact thick_no a b s n a0 a1 a2 a3 a4 a5 a6 a7 a8 a9 a10 a11 thick t d fan m w hG h
  · exact thick_yes a b s n a0 a1 a2 a3 a4 a5 a6 a7 a8 a9 a10 a11 thick t d fan m w hG (by omega) (by omega) (by omega)
end Go.Proofs.YtfjlbpjjcehcnaaDoor
