/-
  MoistTicks, walked.
-/
import Derived.Test.YtfjlbpjjcehcnaaDoorAwake36
import Derived.Test.YtfjlbpjjcehcnaaDoorRTickW
import Derived.Deep.DeepCutAuto
namespace Go.Proofs.YtfjlbpjjcehcnaaDoor
open Go.RowKit Go.Proofs.YtfjlbpjjcehcnaaDoorW.PrintLast
set_option linter.unusedSimpArgs false

set_option maxHeartbeats 4000000 in
set_option maxRecDepth 100000 in
theorem ticks_any (a b s : Int) (n : ByteArray) (a0 a1 a2 a3 a4 a5 a6 a7 a8 a9 a10 a11 thick t d : Int) (fan : Bool) (w : World) (hG : Hid (Glob w)) :
    Calls Tryd.prog 3 #[.agg #[.int .i64 a, .int .i64 b, .int .i64 s, .string n, .int .i64 a0, .int .i64 a1, .int .i64 a2, .int .i64 a3, .int .i64 a4, .int .i64 a5, .int .i64 a6, .int .i64 a7, .int .i64 a8, .int .i64 a9, .int .i64 a10, .int .i64 a11, .int .i64 thick, .int .i64 t, .int .i64 d, .bool fan]] w fun e w' => e = .returned (.bool true) ∧ Below w.heap.size w w' := by
  obtain ⟨c1, c2, c3, hT⟩ : ∃ c1 c2 c3, tickZ a b s a1 a2 a3 thick t d fan = (c1, c2, c3) := ⟨_, _, _, rfl⟩
  have HT : Hid (∀ w, Hid (Glob w) → Calls Tryd.prog 9 #[.agg #[.int .i64 a, .int .i64 b, .int .i64 s, .string n, .int .i64 a0, .int .i64 a1, .int .i64 a2, .int .i64 a3, .int .i64 a4, .int .i64 a5, .int .i64 a6, .int .i64 a7, .int .i64 a8, .int .i64 a9, .int .i64 a10, .int .i64 a11, .int .i64 thick, .int .i64 t, .int .i64 d, .bool fan]] w fun e w' => e = .returned (.agg #[.int .i64 c1, .int .i64 c2, .int .i64 c3]) ∧ Below w.heap.size w w') := Lib.hid (by
    intro w hG
    have h := ltick_any a b s n a0 a1 a2 a3 a4 a5 a6 a7 a8 a9 a10 a11 thick t d fan w hG
    rw [hT] at h
    exact h)
  have HR : Hid (∀ w, Calls Tryd.prog 10 #[.agg #[.int .i64 a, .int .i64 b, .int .i64 s], .agg #[.string n, .int .i64 a0, .int .i64 a1, .int .i64 a2, .int .i64 a3, .int .i64 a4, .int .i64 a5, .int .i64 a6, .int .i64 a7, .int .i64 a8, .int .i64 a9, .int .i64 a10, .int .i64 a11], .int .i64 thick, .agg #[.int .i64 t, .int .i64 d], .bool fan] w fun e w' => e = .returned (.agg #[.int .i64 c1, .int .i64 c2, .int .i64 c3]) ∧ Below w.heap.size w w') := Lib.hid (by
    intro w
    have h := rtick_any a b s n a0 a1 a2 a3 a4 a5 a6 a7 a8 a9 a10 a11 thick t d fan w
    rw [hT] at h
    exact h)
  have q1 : ∀ w : World, (binOp .eql 23 (.agg #[.int .i64 c1, .int .i64 c2, .int .i64 c3]) (.agg #[.int .i64 c1, .int .i64 c2, .int .i64 c3])).run Tryd.prog w = .ok (.bool true) w := fun w => (eql_cell c1 c2 c3 c1 c2 c3 w).trans (by simp)
  clear hT
  have hO := Own.nil w
  go_enter Tryd.func3, Tryd.ntmps3
  go_upto_region 1 with (first
    | (refine own_alloc rfl 29 rfl hO _ rfl #[.int .i64 0, .int .i64 0, .int .i64 0, .string ⟨#[]⟩, .int .i64 0, .int .i64 0, .int .i64 0, .int .i64 0, .int .i64 0, .int .i64 0, .int .i64 0, .int .i64 0, .int .i64 0, .int .i64 0, .int .i64 0, .int .i64 0, .int .i64 0, .int .i64 0, .int .i64 0, .bool false] (by kernel_rfl) ?_; clear hO; (try clear w_); intro g_ w_ hO)
    | (refine own_box rfl 29 _ rfl hO _ rfl ?_ ?_ ?_; rotate_left; (focus (first | (go_simp; done) | (go_simp; with_reducible rfl) | rfl)); clear hO; (try clear w_); intro g_ w_ hO; simp only [Value.cells] at hO)
    | ((first | refine own_load_row rfl 29 _ rfl hO 0 _ _ rfl _ _ rfl _ rfl 20 ?_ ?_ ?_ _ Tryd.underlying29 rfl ?_ ?_); rotate_left; (focus (simp only [Array.toList_extract, List.extract_toArray, List.extract_eq_take_drop, List.drop_zero, List.drop_succ_cons, List.take_succ_cons, List.take_zero, Nat.reduceAdd, Nat.reduceSub, Nat.zero_add, Nat.add_zero, Nat.add_sub_cancel_left, Nat.sub_zero, Nat.sub_self]; rfl)); (focus rfl); (focus kernel_rfl))
    | ((first | refine own_store rfl 29 _ _ rfl hO 0 _ _ ?_ rfl ?_ _ _ rfl _ rfl ?_ ?_ ?_ ?_); rotate_left; (focus (first | (go_simp; done) | (go_simp; with_reducible rfl) | rfl)); (focus kernel_rfl); (focus kernel_rfl); (focus kernel_rfl); clear hO; (try clear w_); intro w_ hO; simp only [List.set_cons_zero, List.set_cons_succ, putAllA, Value.cells, List.setIfInBounds_toArray] at hO)
    | (refine own_alloc rfl 23 rfl hO _ rfl #[.int .i64 0, .int .i64 0, .int .i64 0] (by kernel_rfl) ?_; clear hO; (try clear w_); intro g_ w_ hO)
    | (refine own_box rfl 23 _ rfl hO _ rfl ?_ ?_ ?_; rotate_left; (focus (first | (go_simp; done) | (go_simp; with_reducible rfl) | rfl)); clear hO; (try clear w_); intro g_ w_ hO; simp only [Value.cells] at hO)
    | ((first | refine own_load_row rfl 23 _ rfl hO 0 _ _ rfl _ _ rfl _ rfl 3 ?_ ?_ ?_ _ Tryd.underlying23 rfl ?_ ?_); rotate_left; (focus (simp only [Array.toList_extract, List.extract_toArray, List.extract_eq_take_drop, List.drop_zero, List.drop_succ_cons, List.take_succ_cons, List.take_zero, Nat.reduceAdd, Nat.reduceSub, Nat.zero_add, Nat.add_zero, Nat.add_sub_cancel_left, Nat.sub_zero, Nat.sub_self]; rfl)); (focus rfl); (focus kernel_rfl))
    | ((first | refine own_store rfl 23 _ _ rfl hO 0 _ _ ?_ rfl ?_ _ _ rfl _ rfl ?_ ?_ ?_ ?_); rotate_left; (focus (first | (go_simp; done) | (go_simp; with_reducible rfl) | rfl)); (focus kernel_rfl); (focus kernel_rfl); (focus kernel_rfl); clear hO; (try clear w_); intro w_ hO; simp only [List.set_cons_zero, List.set_cons_succ, putAllA, Value.cells, List.setIfInBounds_toArray] at hO)
    | (refine own_alloc rfl 3 rfl hO _ rfl #[.int .i64 0] (by kernel_rfl) ?_; clear hO; (try clear w_); intro g_ w_ hO)
    | (refine own_box rfl 3 _ rfl hO _ rfl ?_ ?_ ?_; rotate_left; (focus (first | (go_simp; done) | (go_simp; with_reducible rfl) | rfl)); clear hO; (try clear w_); intro g_ w_ hO; simp only [Value.cells] at hO)
    | ((first | refine own_load_one rfl 3 _ rfl hO 0 _ _ rfl _ _ rfl _ rfl ?_ ?_ _ Tryd.underlying3 rfl ?_); rotate_left; (focus (simp only [List.getElem?_toArray, List.getElem?_cons_zero, List.getElem?_cons_succ]; rfl)))
    | ((first | refine own_store rfl 3 _ _ rfl hO 0 _ _ ?_ rfl ?_ _ _ rfl _ rfl ?_ ?_ ?_ ?_); rotate_left; (focus (first | (go_simp; done) | (go_simp; with_reducible rfl) | rfl)); (focus kernel_rfl); (focus kernel_rfl); (focus kernel_rfl); clear hO; (try clear w_); intro w_ hO; simp only [List.set_cons_zero, List.set_cons_succ, putAllA, Value.cells, List.setIfInBounds_toArray] at hO)
    | (refine own_alloc rfl 4 rfl hO _ rfl #[.bool false] (by kernel_rfl) ?_; clear hO; (try clear w_); intro g_ w_ hO)
    | (refine own_box rfl 4 _ rfl hO _ rfl ?_ ?_ ?_; rotate_left; (focus (first | (go_simp; done) | (go_simp; with_reducible rfl) | rfl)); clear hO; (try clear w_); intro g_ w_ hO; simp only [Value.cells] at hO)
    | ((first | refine own_load_one rfl 4 _ rfl hO 0 _ _ rfl _ _ rfl _ rfl ?_ ?_ _ Tryd.underlying4 rfl ?_); rotate_left; (focus (simp only [List.getElem?_toArray, List.getElem?_cons_zero, List.getElem?_cons_succ]; rfl)))
    | ((first | refine own_store rfl 4 _ _ rfl hO 0 _ _ ?_ rfl ?_ _ _ rfl _ rfl ?_ ?_ ?_ ?_); rotate_left; (focus (first | (go_simp; done) | (go_simp; with_reducible rfl) | rfl)); (focus kernel_rfl); (focus kernel_rfl); (focus kernel_rfl); clear hO; (try clear w_); intro w_ hO; simp only [List.set_cons_zero, List.set_cons_succ, putAllA, Value.cells, List.setIfInBounds_toArray] at hO)
    )
  (try simp only [Act.put, List.setIfInBounds_toArray, List.set_cons_zero, List.set_cons_succ])
  refine start_ (n := 18) (S := fun w' => Own w [(g_, 29, #[.int .i64 a, .int .i64 b, .int .i64 s, .string n, .int .i64 a0, .int .i64 a1, .int .i64 a2, .int .i64 a3, .int .i64 a4, .int .i64 a5, .int .i64 a6, .int .i64 a7, .int .i64 a8, .int .i64 a9, .int .i64 a10, .int .i64 a11, .int .i64 thick, .int .i64 t, .int .i64 d, .bool fan])] w') (ds := []) #[false, false, false, false, false, false, false, false, false, false, false, false, false, false, false, false, false, false] (by kernel_rfl) rfl rfl (Own.drew hO) (fun hS => ?_)
  clear hO
  have hO := hS
  first
    | (refine take_ (i := 0) (N := some 3) (a' := ?_) #[true, false, false, false, false, false, false, false, false, false, false, false, false, false, false, false, false, false] rfl rfl (by kernel_rfl) (fun _ _ _ h => h) (yRow hS ?_ 29 _ rfl 0 _ _ rfl _ _ rfl 20 ?_ ?_ ?_ _ Tryd.underlying29 rfl ?_) hS ?_ ?_; (focus rfl); rotate_left; (focus (simp only [Array.toList_extract, List.extract_toArray, List.extract_eq_take_drop, List.drop_zero, List.drop_succ_cons, List.take_succ_cons, List.take_zero, Nat.reduceAdd, Nat.reduceSub, Nat.zero_add, Nat.add_zero, Nat.add_sub_cancel_left, Nat.sub_zero, Nat.sub_self]; rfl)); (focus rfl); (focus kernel_rfl); rotate_left; (focus (simp only [Act.put, List.setIfInBounds_toArray, List.set_cons_zero, List.set_cons_succ]; rfl)))
  refine pure_ (i := 2) (N := some 5) (v := ?_) (a' := ?_) #[true, false, true, false, false, false, false, false, false, false, false, false, false, false, false, false, false, false] rfl rfl (by kernel_rfl) (fun _ _ _ h => h) (Or.inl ⟨by rfl, ?_⟩) ?_ ?_
  rotate_left
  · intro w'
    go_simp
    with_reducible rfl
  rotate_left
  · simp only [Act.put, List.setIfInBounds_toArray, List.set_cons_zero, List.set_cons_succ]
    rfl
  first
    | (refine take_ (i := 3) (N := some 6) (a' := ?_) #[true, false, true, true, false, false, false, false, false, false, false, false, false, false, false, false, false, false] rfl rfl (by kernel_rfl) (fun _ _ _ h => h) (yRow hS ?_ 23 _ rfl 0 _ _ rfl _ _ rfl 3 ?_ ?_ ?_ _ Tryd.underlying23 rfl ?_) hS ?_ ?_; (focus rfl); rotate_left; (focus (simp only [Array.toList_extract, List.extract_toArray, List.extract_eq_take_drop, List.drop_zero, List.drop_succ_cons, List.take_succ_cons, List.take_zero, Nat.reduceAdd, Nat.reduceSub, Nat.zero_add, Nat.add_zero, Nat.add_sub_cancel_left, Nat.sub_zero, Nat.sub_self]; rfl)); (focus rfl); (focus kernel_rfl); rotate_left; (focus (simp only [Act.put, List.setIfInBounds_toArray, List.set_cons_zero, List.set_cons_succ]; rfl)))
  refine pure_ (i := 4) (N := some 7) (v := ?_) (a' := ?_) #[true, false, true, true, true, false, false, false, false, false, false, false, false, false, false, false, false, false] rfl rfl (by kernel_rfl) (fun _ _ _ h => h) (Or.inl ⟨by rfl, ?_⟩) ?_ ?_
  rotate_left
  · intro w'
    go_simp
    with_reducible rfl
  rotate_left
  · simp only [Act.put, List.setIfInBounds_toArray, List.set_cons_zero, List.set_cons_succ]
    rfl
  first
    | (refine take_ (i := 5) (N := some 8) (a' := ?_) #[true, false, true, true, true, true, false, false, false, false, false, false, false, false, false, false, false, false] rfl rfl (by kernel_rfl) (fun _ _ _ h => h) (yRow hS ?_ 25 _ rfl 0 _ _ rfl _ _ rfl 13 ?_ ?_ ?_ _ Tryd.underlying25 rfl ?_) hS ?_ ?_; (focus rfl); rotate_left; (focus (simp only [Array.toList_extract, List.extract_toArray, List.extract_eq_take_drop, List.drop_zero, List.drop_succ_cons, List.take_succ_cons, List.take_zero, Nat.reduceAdd, Nat.reduceSub, Nat.zero_add, Nat.add_zero, Nat.add_sub_cancel_left, Nat.sub_zero, Nat.sub_self]; rfl)); (focus rfl); (focus kernel_rfl); rotate_left; (focus (simp only [Act.put, List.setIfInBounds_toArray, List.set_cons_zero, List.set_cons_succ]; rfl)))
  refine pure_ (i := 6) (N := some 9) (v := ?_) (a' := ?_) #[true, false, true, true, true, true, true, false, false, false, false, false, false, false, false, false, false, false] rfl rfl (by kernel_rfl) (fun _ _ _ h => h) (Or.inl ⟨by rfl, ?_⟩) ?_ ?_
  rotate_left
  · intro w'
    go_simp
    with_reducible rfl
  rotate_left
  · simp only [Act.put, List.setIfInBounds_toArray, List.set_cons_zero, List.set_cons_succ]
    rfl
  first
    | (refine take_ (i := 7) (N := some 10) (a' := ?_) #[true, false, true, true, true, true, true, true, false, false, false, false, false, false, false, false, false, false] rfl rfl (by kernel_rfl) (fun _ _ _ h => h) (yOne hS ?_ 3 _ rfl 0 _ _ rfl _ _ rfl ?_ ?_ _ Tryd.underlying3 rfl) hS ?_ ?_; (focus rfl); rotate_left; (focus (simp only [List.getElem?_toArray, List.getElem?_cons_zero, List.getElem?_cons_succ]; rfl)); rotate_left; (focus (simp only [Act.put, List.setIfInBounds_toArray, List.set_cons_zero, List.set_cons_succ]; rfl)))
  refine pure_ (i := 8) (N := some 11) (v := ?_) (a' := ?_) #[true, false, true, true, true, true, true, true, true, false, false, false, false, false, false, false, false, false] rfl rfl (by kernel_rfl) (fun _ _ _ h => h) (Or.inl ⟨by rfl, ?_⟩) ?_ ?_
  rotate_left
  · intro w'
    go_simp
    with_reducible rfl
  rotate_left
  · simp only [Act.put, List.setIfInBounds_toArray, List.set_cons_zero, List.set_cons_succ]
    rfl
  first
    | (refine take_ (i := 9) (N := some 12) (a' := ?_) #[true, false, true, true, true, true, true, true, true, true, false, false, false, false, false, false, false, false] rfl rfl (by kernel_rfl) (fun _ _ _ h => h) (yRow hS ?_ 27 _ rfl 0 _ _ rfl _ _ rfl 2 ?_ ?_ ?_ _ Tryd.underlying27 rfl ?_) hS ?_ ?_; (focus rfl); rotate_left; (focus (simp only [Array.toList_extract, List.extract_toArray, List.extract_eq_take_drop, List.drop_zero, List.drop_succ_cons, List.take_succ_cons, List.take_zero, Nat.reduceAdd, Nat.reduceSub, Nat.zero_add, Nat.add_zero, Nat.add_sub_cancel_left, Nat.sub_zero, Nat.sub_self]; rfl)); (focus rfl); (focus kernel_rfl); rotate_left; (focus (simp only [Act.put, List.setIfInBounds_toArray, List.set_cons_zero, List.set_cons_succ]; rfl)))
  refine pure_ (i := 10) (N := some 13) (v := ?_) (a' := ?_) #[true, false, true, true, true, true, true, true, true, true, true, false, false, false, false, false, false, false] rfl rfl (by kernel_rfl) (fun _ _ _ h => h) (Or.inl ⟨by rfl, ?_⟩) ?_ ?_
  rotate_left
  · intro w'
    go_simp
    with_reducible rfl
  rotate_left
  · simp only [Act.put, List.setIfInBounds_toArray, List.set_cons_zero, List.set_cons_succ]
    rfl
  first
    | (refine take_ (i := 11) (N := some 14) (a' := ?_) #[true, false, true, true, true, true, true, true, true, true, true, true, false, false, false, false, false, false] rfl rfl (by kernel_rfl) (fun _ _ _ h => h) (yOne hS ?_ 4 _ rfl 0 _ _ rfl _ _ rfl ?_ ?_ _ Tryd.underlying4 rfl) hS ?_ ?_; (focus rfl); rotate_left; (focus (simp only [List.getElem?_toArray, List.getElem?_cons_zero, List.getElem?_cons_succ]; rfl)); rotate_left; (focus (simp only [Act.put, List.setIfInBounds_toArray, List.set_cons_zero, List.set_cons_succ]; rfl)))
  refine one_ (i := 1) (N := some 4) #[true, true, true, true, true, true, true, true, true, true, true, true, false, false, false, false, false, false] rfl rfl (by kernel_rfl) (by decide) (fun K hK => ?_)
  refine goes_ Tryd.func9 (by kernel_rfl) rfl #[.agg #[.int .i64 a, .int .i64 b, .int .i64 s, .string n, .int .i64 a0, .int .i64 a1, .int .i64 a2, .int .i64 a3, .int .i64 a4, .int .i64 a5, .int .i64 a6, .int .i64 a7, .int .i64 a8, .int .i64 a9, .int .i64 a10, .int .i64 a11, .int .i64 thick, .int .i64 t, .int .i64 d, .bool fan]] (by rfl) rfl rfl (by (try simp only [List.map_toArray, List.map_cons, List.map_nil]); first | done | rfl) ?_
  with_reducible refine (HT.out _ (Lib.hid (hG.out.below hO.bel))).mono ?_
  rintro e w_ ⟨rfl, hb_⟩
  refine ⟨_, rfl, ?_⟩
  replace hO := Own.call hO hb_
  clear hb_
  refine hK.out _ _ (hO) (fun hS => ?_)
  clear hK K
  refine norm_ (a' := ?_) ?_ ?_
  rotate_left
  · show Act.put _ (some 4) _ = _
    simp only [Act.put, List.setIfInBounds_toArray, List.set_cons_zero, List.set_cons_succ]
    rfl
  refine one_ (i := 12) (N := some 15) #[true, true, true, true, true, true, true, true, true, true, true, true, true, false, false, false, false, false] rfl rfl (by kernel_rfl) (by decide) (fun K hK => ?_)
  refine goes_ Tryd.func10 (by kernel_rfl) rfl #[.agg #[.int .i64 a, .int .i64 b, .int .i64 s], .agg #[.string n, .int .i64 a0, .int .i64 a1, .int .i64 a2, .int .i64 a3, .int .i64 a4, .int .i64 a5, .int .i64 a6, .int .i64 a7, .int .i64 a8, .int .i64 a9, .int .i64 a10, .int .i64 a11], .int .i64 thick, .agg #[.int .i64 t, .int .i64 d], .bool fan] (by rfl) rfl rfl (by (try simp only [List.map_toArray, List.map_cons, List.map_nil]); first | done | rfl) ?_
  with_reducible refine (HR.out _).mono ?_
  rintro e w_ ⟨rfl, hb_⟩
  refine ⟨_, rfl, ?_⟩
  replace hO := Own.call hO hb_
  clear hb_
  refine hK.out _ _ (hO) (fun hS => ?_)
  clear hK K
  refine norm_ (a' := ?_) ?_ ?_
  rotate_left
  · show Act.put _ (some 15) _ = _
    simp only [Act.put, List.setIfInBounds_toArray, List.set_cons_zero, List.set_cons_succ]
    rfl
  refine pure_ (i := 13) (N := some 16) (v := ?_) (a' := ?_) #[true, true, true, true, true, true, true, true, true, true, true, true, true, true, false, false, false, false] rfl rfl (by kernel_rfl) (fun _ _ _ h => h) (Or.inl ⟨by rfl, ?_⟩) ?_ ?_
  rotate_left
  · intro w'
    go_simp
    with_reducible rfl
  rotate_left
  · simp only [Act.put, List.setIfInBounds_toArray, List.set_cons_zero, List.set_cons_succ]
    rfl
  refine pure_ (i := 14) (N := some 17) (v := ?_) (a' := ?_) #[true, true, true, true, true, true, true, true, true, true, true, true, true, true, true, false, false, false] rfl rfl (by kernel_rfl) (fun _ _ _ h => h) (Or.inl ⟨by rfl, ?_⟩) ?_ ?_
  rotate_left
  · intro w'
    go_simp
    with_reducible rfl
  rotate_left
  · simp only [Act.put, List.setIfInBounds_toArray, List.set_cons_zero, List.set_cons_succ]
    rfl
  refine one_ (i := 15) (N := some 18) #[true, true, true, true, true, true, true, true, true, true, true, true, true, true, true, true, false, false] rfl rfl (by kernel_rfl) (by decide) (fun K hK => ?_)
  refine goes_ Tryd.func11 (by kernel_rfl) rfl #[] (by rfl) rfl rfl (by (try simp only [List.map_toArray, List.map_cons, List.map_nil]); first | done | rfl) ?_
  with_reducible refine (awake_any _ (Lib.hid (hG.out.below hO.bel))).mono ?_
  rintro e w_ ⟨rfl, hb_⟩
  refine ⟨_, rfl, ?_⟩
  replace hO := Own.call hO hb_
  clear hb_
  refine hK.out _ _ (hO) (fun hS => ?_)
  clear hK K
  refine norm_ (a' := ?_) ?_ ?_
  rotate_left
  · show Act.put _ (some 18) _ = _
    simp only [Act.put, List.setIfInBounds_toArray, List.set_cons_zero, List.set_cons_succ]
    rfl
  refine pure_ (i := 16) (N := some 19) (v := ?_) (a' := ?_) #[true, true, true, true, true, true, true, true, true, true, true, true, true, true, true, true, true, false] rfl rfl (by kernel_rfl) (fun _ _ _ h => h) (Or.inl ⟨by rfl, ?_⟩) ?_ ?_
  rotate_left
  · intro w'
    go_simp
    with_reducible rfl
  rotate_left
  · simp only [Act.put, List.setIfInBounds_toArray, List.set_cons_zero, List.set_cons_succ]
    rfl
  refine pure_ (i := 17) (N := some 2) (v := ?_) (a' := ?_) #[true, true, true, true, true, true, true, true, true, true, true, true, true, true, true, true, true, true] rfl rfl (by kernel_rfl) (fun _ _ _ h => h) (Or.inl ⟨by rfl, ?_⟩) ?_ ?_
  rotate_left
  · intro w'
    go_simp
    with_reducible rfl
  rotate_left
  · simp only [Act.put, List.setIfInBounds_toArray, List.set_cons_zero, List.set_cons_succ]
    rfl
  refine done_ (by kernel_rfl) ?_
  go_wp2_with fail
  go_ret
  exact ⟨rfl, hO.bel⟩
end Go.Proofs.YtfjlbpjjcehcnaaDoor
