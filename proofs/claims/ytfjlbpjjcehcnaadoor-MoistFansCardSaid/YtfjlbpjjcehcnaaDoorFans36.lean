/-
  MoistFans, walked.
-/
import Derived.Test.YtfjlbpjjcehcnaaDoorAwake36
import Derived.Test.YtfjlbpjjcehcnaaDoorPlain36
import Derived.Deep.DeepCutAuto
namespace Go.Proofs.YtfjlbpjjcehcnaaDoor
open Go.RowKit Go.Proofs.YtfjlbpjjcehcnaaDoorW.PrintLast
set_option linter.unusedSimpArgs false

set_option maxHeartbeats 4000000 in
set_option maxRecDepth 100000 in
theorem fans_any (a b s : Int) (n : ByteArray) (a0 a1 a2 a3 a4 a5 a6 a7 a8 a9 a10 a11 thick t d : Int) (fan : Bool) (w : World) (hG : Hid (Glob w)) :
    Calls Tryd.prog 6 #[.agg #[.int .i64 a, .int .i64 b, .int .i64 s, .string n, .int .i64 a0, .int .i64 a1, .int .i64 a2, .int .i64 a3, .int .i64 a4, .int .i64 a5, .int .i64 a6, .int .i64 a7, .int .i64 a8, .int .i64 a9, .int .i64 a10, .int .i64 a11, .int .i64 thick, .int .i64 t, .int .i64 d, .bool fan]] w fun e w' => e = .returned (.bool true) ∧ Below w.heap.size w w' := by
  obtain ⟨c1, c2, c3, hT⟩ : ∃ c1 c2 c3, tickZ a b s a1 a2 a3 thick t d false = (c1, c2, c3) := ⟨_, _, _, rfl⟩
  have HT : Hid (∀ w, Hid (Glob w) → Calls Tryd.prog 9 #[.agg #[.int .i64 a, .int .i64 b, .int .i64 s, .string n, .int .i64 a0, .int .i64 a1, .int .i64 a2, .int .i64 a3, .int .i64 a4, .int .i64 a5, .int .i64 a6, .int .i64 a7, .int .i64 a8, .int .i64 a9, .int .i64 a10, .int .i64 a11, .int .i64 thick, .int .i64 t, .int .i64 d, .bool false]] w fun e w' => e = .returned (.agg #[.int .i64 c1, .int .i64 c2, .int .i64 c3]) ∧ Below w.heap.size w w') := Lib.hid (by
    intro w hG
    have h := ltick_any a b s n a0 a1 a2 a3 a4 a5 a6 a7 a8 a9 a10 a11 thick t d false w hG
    rw [hT] at h
    exact h)
  obtain ⟨q, hq⟩ : ∃ q, Pl.emcZ t d = q := ⟨_, rfl⟩
  have HE : Hid (∀ w, Hid (Glob w) → Calls Tryd.prog 23 #[.agg #[.int .i64 t, .int .i64 d]] w fun e w' => e = .returned (.int .i64 q) ∧ Below w.heap.size w w') := Lib.hid (by
    intro w hG
    have h := emc_ok t d w hG
    rw [hq] at h
    exact h)
  have HR : Hid (∀ w, Hid (Glob w) → Calls Tryd.prog 9 #[.agg #[.int .i64 q, .int .i64 q, .int .i64 0, .string n, .int .i64 a0, .int .i64 a1, .int .i64 a2, .int .i64 a3, .int .i64 a4, .int .i64 a5, .int .i64 a6, .int .i64 a7, .int .i64 a8, .int .i64 a9, .int .i64 a10, .int .i64 a11, .int .i64 thick, .int .i64 t, .int .i64 d, .bool fan]] w fun e w' => e = .returned (.agg #[.int .i64 q, .int .i64 q, .int .i64 0]) ∧ Below w.heap.size w w') := Lib.hid (by
    intro w hG
    have h := ltick_any q q 0 n a0 a1 a2 a3 a4 a5 a6 a7 a8 a9 a10 a11 thick t d fan w hG
    have e := rest_fact a1 a2 a3 thick t d fan
    rw [hq] at e
    rw [e] at h
    exact h)
  have q1 : ∀ w : World, (binOp .eql 23 (.agg #[.int .i64 q, .int .i64 q, .int .i64 0]) (.agg #[.int .i64 q, .int .i64 q, .int .i64 0])).run Tryd.prog w = .ok (.bool true) w := fun w => (eql_cell q q 0 q q 0 w).trans (by simp)
  obtain ⟨e1, hle⟩ := fans_facts hT
  subst e1
  have b1 := gradZ_bd c1 c2 c3
  have b2 := gradZ_bd c1 b s
  obtain ⟨x, hx⟩ : ∃ x, gradZ c1 c2 c3 = x := ⟨_, rfl⟩
  obtain ⟨y, hy⟩ : ∃ y, gradZ c1 b s = y := ⟨_, rfl⟩
  have HX : Hid (∀ w, Calls Tryd.prog 18 #[.agg #[.int .i64 c1, .int .i64 c2, .int .i64 c3]] w fun e w' => e = .returned (.int .i64 x) ∧ Below w.heap.size w w') := Lib.hid (by
    intro w
    have h := grad_any c1 c2 c3 w
    rw [hx] at h
    exact h)
  have HY : Hid (∀ w, Calls Tryd.prog 18 #[.agg #[.int .i64 c1, .int .i64 b, .int .i64 s]] w fun e w' => e = .returned (.int .i64 y) ∧ Below w.heap.size w w') := Lib.hid (by
    intro w
    have h := grad_any c1 b s w
    rw [hy] at h
    exact h)
  rw [hx] at hle b1
  rw [hy] at hle b2
  obtain ⟨sx, hsx⟩ : ∃ x', szZ x = x' := ⟨_, rfl⟩
  obtain ⟨sy, hsy⟩ : ∃ x', szZ y = x' := ⟨_, rfl⟩
  have HSX : Hid (∀ w, Calls Tryd.prog 24 #[.int .i64 x] w fun e w' => e = .returned (.int .i64 sx) ∧ w = w') := Lib.hid (by
    intro w
    have h := size_any x w (by omega) (by omega)
    rw [hsx] at h
    exact h)
  have HSY : Hid (∀ w, Calls Tryd.prog 24 #[.int .i64 y] w fun e w' => e = .returned (.int .i64 sy) ∧ w = w') := Lib.hid (by
    intro w
    have h := size_any y w (by omega) (by omega)
    rw [hsy] at h
    exact h)
  have hle' : decide (sy < sx) = false := decide_eq_false (by omega)
  clear hle hsx hsy hx hy b1 b2 hq hT
  have hO := Own.nil w
  go_enter Tryd.func6, Tryd.ntmps6
  go_upto_region 4 with (first
    | (refine own_alloc rfl 29 rfl hO _ rfl #[.int .i64 0, .int .i64 0, .int .i64 0, .string ⟨#[]⟩, .int .i64 0, .int .i64 0, .int .i64 0, .int .i64 0, .int .i64 0, .int .i64 0, .int .i64 0, .int .i64 0, .int .i64 0, .int .i64 0, .int .i64 0, .int .i64 0, .int .i64 0, .int .i64 0, .int .i64 0, .bool false] (by kernel_rfl) ?_; clear hO; (try clear w_); intro g_ w_ hO)
    | (refine own_box rfl 29 _ rfl hO _ rfl ?_ ?_ ?_; rotate_left; (focus (first | (go_simp; done) | (go_simp; with_reducible rfl) | rfl)); clear hO; (try clear w_); intro g_ w_ hO; simp only [Value.cells] at hO)
    | ((first | refine own_load_row rfl 29 _ rfl hO 0 _ _ rfl _ _ rfl _ rfl 20 ?_ ?_ ?_ _ Tryd.underlying29 rfl ?_ ?_ | refine own_load_row rfl 29 _ rfl hO 1 _ _ rfl _ _ rfl _ rfl 20 ?_ ?_ ?_ _ Tryd.underlying29 rfl ?_ ?_ | refine own_load_row rfl 29 _ rfl hO 2 _ _ rfl _ _ rfl _ rfl 20 ?_ ?_ ?_ _ Tryd.underlying29 rfl ?_ ?_); rotate_left; (focus (simp only [Array.toList_extract, List.extract_toArray, List.extract_eq_take_drop, List.drop_zero, List.drop_succ_cons, List.take_succ_cons, List.take_zero, Nat.reduceAdd, Nat.reduceSub, Nat.zero_add, Nat.add_zero, Nat.add_sub_cancel_left, Nat.sub_zero, Nat.sub_self]; rfl)); (focus rfl); (focus kernel_rfl))
    | ((first | refine own_store rfl 29 _ _ rfl hO 0 _ _ ?_ rfl ?_ _ _ rfl _ rfl ?_ ?_ ?_ ?_ | refine own_store rfl 29 _ _ rfl hO 1 _ _ ?_ rfl ?_ _ _ rfl _ rfl ?_ ?_ ?_ ?_ | refine own_store rfl 29 _ _ rfl hO 2 _ _ ?_ rfl ?_ _ _ rfl _ rfl ?_ ?_ ?_ ?_); rotate_left; (focus (first | (go_simp; done) | (go_simp; with_reducible rfl) | rfl)); (focus kernel_rfl); (focus kernel_rfl); (focus kernel_rfl); clear hO; (try clear w_); intro w_ hO; simp only [List.set_cons_zero, List.set_cons_succ, putAllA, Value.cells, List.setIfInBounds_toArray] at hO)
    | (refine own_alloc rfl 23 rfl hO _ rfl #[.int .i64 0, .int .i64 0, .int .i64 0] (by kernel_rfl) ?_; clear hO; (try clear w_); intro g_ w_ hO)
    | (refine own_box rfl 23 _ rfl hO _ rfl ?_ ?_ ?_; rotate_left; (focus (first | (go_simp; done) | (go_simp; with_reducible rfl) | rfl)); clear hO; (try clear w_); intro g_ w_ hO; simp only [Value.cells] at hO)
    | ((first | refine own_load_row rfl 23 _ rfl hO 0 _ _ rfl _ _ rfl _ rfl 3 ?_ ?_ ?_ _ Tryd.underlying23 rfl ?_ ?_ | refine own_load_row rfl 23 _ rfl hO 1 _ _ rfl _ _ rfl _ rfl 3 ?_ ?_ ?_ _ Tryd.underlying23 rfl ?_ ?_ | refine own_load_row rfl 23 _ rfl hO 2 _ _ rfl _ _ rfl _ rfl 3 ?_ ?_ ?_ _ Tryd.underlying23 rfl ?_ ?_); rotate_left; (focus (simp only [Array.toList_extract, List.extract_toArray, List.extract_eq_take_drop, List.drop_zero, List.drop_succ_cons, List.take_succ_cons, List.take_zero, Nat.reduceAdd, Nat.reduceSub, Nat.zero_add, Nat.add_zero, Nat.add_sub_cancel_left, Nat.sub_zero, Nat.sub_self]; rfl)); (focus rfl); (focus kernel_rfl))
    | ((first | refine own_store rfl 23 _ _ rfl hO 0 _ _ ?_ rfl ?_ _ _ rfl _ rfl ?_ ?_ ?_ ?_ | refine own_store rfl 23 _ _ rfl hO 1 _ _ ?_ rfl ?_ _ _ rfl _ rfl ?_ ?_ ?_ ?_ | refine own_store rfl 23 _ _ rfl hO 2 _ _ ?_ rfl ?_ _ _ rfl _ rfl ?_ ?_ ?_ ?_); rotate_left; (focus (first | (go_simp; done) | (go_simp; with_reducible rfl) | rfl)); (focus kernel_rfl); (focus kernel_rfl); (focus kernel_rfl); clear hO; (try clear w_); intro w_ hO; simp only [List.set_cons_zero, List.set_cons_succ, putAllA, Value.cells, List.setIfInBounds_toArray] at hO)
    | (refine own_alloc rfl 3 rfl hO _ rfl #[.int .i64 0] (by kernel_rfl) ?_; clear hO; (try clear w_); intro g_ w_ hO)
    | (refine own_box rfl 3 _ rfl hO _ rfl ?_ ?_ ?_; rotate_left; (focus (first | (go_simp; done) | (go_simp; with_reducible rfl) | rfl)); clear hO; (try clear w_); intro g_ w_ hO; simp only [Value.cells] at hO)
    | ((first | refine own_load_one rfl 3 _ rfl hO 0 _ _ rfl _ _ rfl _ rfl ?_ ?_ _ Tryd.underlying3 rfl ?_ | refine own_load_one rfl 3 _ rfl hO 1 _ _ rfl _ _ rfl _ rfl ?_ ?_ _ Tryd.underlying3 rfl ?_ | refine own_load_one rfl 3 _ rfl hO 2 _ _ rfl _ _ rfl _ rfl ?_ ?_ _ Tryd.underlying3 rfl ?_); rotate_left; (focus (simp only [List.getElem?_toArray, List.getElem?_cons_zero, List.getElem?_cons_succ]; rfl)))
    | ((first | refine own_store rfl 3 _ _ rfl hO 0 _ _ ?_ rfl ?_ _ _ rfl _ rfl ?_ ?_ ?_ ?_ | refine own_store rfl 3 _ _ rfl hO 1 _ _ ?_ rfl ?_ _ _ rfl _ rfl ?_ ?_ ?_ ?_ | refine own_store rfl 3 _ _ rfl hO 2 _ _ ?_ rfl ?_ _ _ rfl _ rfl ?_ ?_ ?_ ?_); rotate_left; (focus (first | (go_simp; done) | (go_simp; with_reducible rfl) | rfl)); (focus kernel_rfl); (focus kernel_rfl); (focus kernel_rfl); clear hO; (try clear w_); intro w_ hO; simp only [List.set_cons_zero, List.set_cons_succ, putAllA, Value.cells, List.setIfInBounds_toArray] at hO)
    | (refine own_alloc rfl 4 rfl hO _ rfl #[.bool false] (by kernel_rfl) ?_; clear hO; (try clear w_); intro g_ w_ hO)
    | (refine own_box rfl 4 _ rfl hO _ rfl ?_ ?_ ?_; rotate_left; (focus (first | (go_simp; done) | (go_simp; with_reducible rfl) | rfl)); clear hO; (try clear w_); intro g_ w_ hO; simp only [Value.cells] at hO)
    | ((first | refine own_load_one rfl 4 _ rfl hO 0 _ _ rfl _ _ rfl _ rfl ?_ ?_ _ Tryd.underlying4 rfl ?_ | refine own_load_one rfl 4 _ rfl hO 1 _ _ rfl _ _ rfl _ rfl ?_ ?_ _ Tryd.underlying4 rfl ?_ | refine own_load_one rfl 4 _ rfl hO 2 _ _ rfl _ _ rfl _ rfl ?_ ?_ _ Tryd.underlying4 rfl ?_); rotate_left; (focus (simp only [List.getElem?_toArray, List.getElem?_cons_zero, List.getElem?_cons_succ]; rfl)))
    | ((first | refine own_store rfl 4 _ _ rfl hO 0 _ _ ?_ rfl ?_ _ _ rfl _ rfl ?_ ?_ ?_ ?_ | refine own_store rfl 4 _ _ rfl hO 1 _ _ ?_ rfl ?_ _ _ rfl _ rfl ?_ ?_ ?_ ?_ | refine own_store rfl 4 _ _ rfl hO 2 _ _ ?_ rfl ?_ _ _ rfl _ rfl ?_ ?_ ?_ ?_); rotate_left; (focus (first | (go_simp; done) | (go_simp; with_reducible rfl) | rfl)); (focus kernel_rfl); (focus kernel_rfl); (focus kernel_rfl); clear hO; (try clear w_); intro w_ hO; simp only [List.set_cons_zero, List.set_cons_succ, putAllA, Value.cells, List.setIfInBounds_toArray] at hO)
    | (go_at_call 9; (with_reducible refine (HT.out _ (Lib.hid (hG.out.below hO.bel))).mono ?_); rintro e w_ ⟨rfl, hb_⟩; replace hO := Own.call hO hb_; clear hb_)
    )
  (try simp only [Act.put, List.setIfInBounds_toArray, List.set_cons_zero, List.set_cons_succ])
  rename_i ga gb _ _ _ _ _
  go_cut [24] (fun v24 wc => v24 = .bool false ∧ Own w [(g_, 23, #[.int .i64 c1, .int .i64 c2, .int .i64 c3]), (gb, 29, #[.int .i64 c1, .int .i64 b, .int .i64 s, .string n, .int .i64 a0, .int .i64 a1, .int .i64 a2, .int .i64 a3, .int .i64 a4, .int .i64 a5, .int .i64 a6, .int .i64 a7, .int .i64 a8, .int .i64 a9, .int .i64 a10, .int .i64 a11, .int .i64 thick, .int .i64 t, .int .i64 d, .bool false]), (ga, 29, #[.int .i64 c1, .int .i64 b, .int .i64 s, .string n, .int .i64 a0, .int .i64 a1, .int .i64 a2, .int .i64 a3, .int .i64 a4, .int .i64 a5, .int .i64 a6, .int .i64 a7, .int .i64 a8, .int .i64 a9, .int .i64 a10, .int .i64 a11, .int .i64 thick, .int .i64 t, .int .i64 d, .bool fan])] wc)
  case first =>
    refine start_ (n := 16) (S := fun w' => Own w [(g_, 23, #[.int .i64 c1, .int .i64 c2, .int .i64 c3]), (gb, 29, #[.int .i64 c1, .int .i64 b, .int .i64 s, .string n, .int .i64 a0, .int .i64 a1, .int .i64 a2, .int .i64 a3, .int .i64 a4, .int .i64 a5, .int .i64 a6, .int .i64 a7, .int .i64 a8, .int .i64 a9, .int .i64 a10, .int .i64 a11, .int .i64 thick, .int .i64 t, .int .i64 d, .bool false]), (ga, 29, #[.int .i64 c1, .int .i64 b, .int .i64 s, .string n, .int .i64 a0, .int .i64 a1, .int .i64 a2, .int .i64 a3, .int .i64 a4, .int .i64 a5, .int .i64 a6, .int .i64 a7, .int .i64 a8, .int .i64 a9, .int .i64 a10, .int .i64 a11, .int .i64 thick, .int .i64 t, .int .i64 d, .bool fan])] w') (ds := []) #[false, false, false, false, false, false, false, false, false, false, false, false, false, false, false, false] (by kernel_rfl) rfl rfl (Own.drew hO) (fun hS => ?_)
    clear hO
    have hO := hS
    refine pure_ (i := 0) (N := some 9) (v := ?_) (a' := ?_) #[true, false, false, false, false, false, false, false, false, false, false, false, false, false, false, false] rfl rfl (by kernel_rfl) (fun _ _ _ h => h) (Or.inl ⟨by rfl, ?_⟩) ?_ ?_
    rotate_left
    · intro w'
      go_simp
      with_reducible rfl
    rotate_left
    · simp only [Act.put, List.setIfInBounds_toArray, List.set_cons_zero, List.set_cons_succ]
      rfl
    first
      | (refine take_ (i := 1) (N := some 10) (a' := ?_) #[true, true, false, false, false, false, false, false, false, false, false, false, false, false, false, false] rfl rfl (by kernel_rfl) (fun _ _ _ h => h) (yOne hS ?_ 3 _ rfl 0 _ _ rfl _ _ rfl ?_ ?_ _ Tryd.underlying3 rfl) hS ?_ ?_; (focus rfl); rotate_left; (focus (simp only [List.getElem?_toArray, List.getElem?_cons_zero, List.getElem?_cons_succ]; rfl)); rotate_left; (focus (simp only [Act.put, List.setIfInBounds_toArray, List.set_cons_zero, List.set_cons_succ]; rfl)))
      | (refine take_ (i := 1) (N := some 10) (a' := ?_) #[true, true, false, false, false, false, false, false, false, false, false, false, false, false, false, false] rfl rfl (by kernel_rfl) (fun _ _ _ h => h) (yOne hS ?_ 3 _ rfl 1 _ _ rfl _ _ rfl ?_ ?_ _ Tryd.underlying3 rfl) hS ?_ ?_; (focus rfl); rotate_left; (focus (simp only [List.getElem?_toArray, List.getElem?_cons_zero, List.getElem?_cons_succ]; rfl)); rotate_left; (focus (simp only [Act.put, List.setIfInBounds_toArray, List.set_cons_zero, List.set_cons_succ]; rfl)))
      | (refine take_ (i := 1) (N := some 10) (a' := ?_) #[true, true, false, false, false, false, false, false, false, false, false, false, false, false, false, false] rfl rfl (by kernel_rfl) (fun _ _ _ h => h) (yOne hS ?_ 3 _ rfl 2 _ _ rfl _ _ rfl ?_ ?_ _ Tryd.underlying3 rfl) hS ?_ ?_; (focus rfl); rotate_left; (focus (simp only [List.getElem?_toArray, List.getElem?_cons_zero, List.getElem?_cons_succ]; rfl)); rotate_left; (focus (simp only [Act.put, List.setIfInBounds_toArray, List.set_cons_zero, List.set_cons_succ]; rfl)))
    refine pure_ (i := 2) (N := some 11) (v := ?_) (a' := ?_) #[true, true, true, false, false, false, false, false, false, false, false, false, false, false, false, false] rfl rfl (by kernel_rfl) (fun _ _ _ h => h) (Or.inl ⟨by rfl, ?_⟩) ?_ ?_
    rotate_left
    · intro w'
      go_simp
      with_reducible rfl
    rotate_left
    · simp only [Act.put, List.setIfInBounds_toArray, List.set_cons_zero, List.set_cons_succ]
      rfl
    refine pure_ (i := 3) (N := some 12) (v := ?_) (a' := ?_) #[true, true, true, true, false, false, false, false, false, false, false, false, false, false, false, false] rfl rfl (by kernel_rfl) (fun _ _ _ h => h) (Or.inl ⟨by rfl, ?_⟩) ?_ ?_
    rotate_left
    · intro w'
      go_simp
      with_reducible rfl
    rotate_left
    · simp only [Act.put, List.setIfInBounds_toArray, List.set_cons_zero, List.set_cons_succ]
      rfl
    first
      | (refine take_ (i := 4) (N := some 13) (a' := ?_) #[true, true, true, true, true, false, false, false, false, false, false, false, false, false, false, false] rfl rfl (by kernel_rfl) (fun _ _ _ h => h) (yOne hS ?_ 3 _ rfl 0 _ _ rfl _ _ rfl ?_ ?_ _ Tryd.underlying3 rfl) hS ?_ ?_; (focus rfl); rotate_left; (focus (simp only [List.getElem?_toArray, List.getElem?_cons_zero, List.getElem?_cons_succ]; rfl)); rotate_left; (focus (simp only [Act.put, List.setIfInBounds_toArray, List.set_cons_zero, List.set_cons_succ]; rfl)))
      | (refine take_ (i := 4) (N := some 13) (a' := ?_) #[true, true, true, true, true, false, false, false, false, false, false, false, false, false, false, false] rfl rfl (by kernel_rfl) (fun _ _ _ h => h) (yOne hS ?_ 3 _ rfl 1 _ _ rfl _ _ rfl ?_ ?_ _ Tryd.underlying3 rfl) hS ?_ ?_; (focus rfl); rotate_left; (focus (simp only [List.getElem?_toArray, List.getElem?_cons_zero, List.getElem?_cons_succ]; rfl)); rotate_left; (focus (simp only [Act.put, List.setIfInBounds_toArray, List.set_cons_zero, List.set_cons_succ]; rfl)))
      | (refine take_ (i := 4) (N := some 13) (a' := ?_) #[true, true, true, true, true, false, false, false, false, false, false, false, false, false, false, false] rfl rfl (by kernel_rfl) (fun _ _ _ h => h) (yOne hS ?_ 3 _ rfl 2 _ _ rfl _ _ rfl ?_ ?_ _ Tryd.underlying3 rfl) hS ?_ ?_; (focus rfl); rotate_left; (focus (simp only [List.getElem?_toArray, List.getElem?_cons_zero, List.getElem?_cons_succ]; rfl)); rotate_left; (focus (simp only [Act.put, List.setIfInBounds_toArray, List.set_cons_zero, List.set_cons_succ]; rfl)))
    refine pure_ (i := 5) (N := some 14) (v := ?_) (a' := ?_) #[true, true, true, true, true, true, false, false, false, false, false, false, false, false, false, false] rfl rfl (by kernel_rfl) (fun _ _ _ h => h) (Or.inl ⟨by rfl, ?_⟩) ?_ ?_
    rotate_left
    · intro w'
      go_simp
      with_reducible rfl
    rotate_left
    · simp only [Act.put, List.setIfInBounds_toArray, List.set_cons_zero, List.set_cons_succ]
      rfl
    refine pure_ (i := 6) (N := some 15) (v := ?_) (a' := ?_) #[true, true, true, true, true, true, true, false, false, false, false, false, false, false, false, false] rfl rfl (by kernel_rfl) (fun _ _ _ h => h) (Or.inl ⟨by rfl, ?_⟩) ?_ ?_
    rotate_left
    · intro w'
      go_simp
      with_reducible rfl
    rotate_left
    · simp only [Act.put, List.setIfInBounds_toArray, List.set_cons_zero, List.set_cons_succ]
      rfl
    first
      | (refine take_ (i := 7) (N := some 16) (a' := ?_) #[true, true, true, true, true, true, true, true, false, false, false, false, false, false, false, false] rfl rfl (by kernel_rfl) (fun _ _ _ h => h) (yRow hS ?_ 23 _ rfl 0 _ _ rfl _ _ rfl 3 ?_ ?_ ?_ _ Tryd.underlying23 rfl ?_) hS ?_ ?_; (focus rfl); rotate_left; (focus (simp only [Array.toList_extract, List.extract_toArray, List.extract_eq_take_drop, List.drop_zero, List.drop_succ_cons, List.take_succ_cons, List.take_zero, Nat.reduceAdd, Nat.reduceSub, Nat.zero_add, Nat.add_zero, Nat.add_sub_cancel_left, Nat.sub_zero, Nat.sub_self]; rfl)); (focus rfl); (focus kernel_rfl); rotate_left; (focus (simp only [Act.put, List.setIfInBounds_toArray, List.set_cons_zero, List.set_cons_succ]; rfl)))
      | (refine take_ (i := 7) (N := some 16) (a' := ?_) #[true, true, true, true, true, true, true, true, false, false, false, false, false, false, false, false] rfl rfl (by kernel_rfl) (fun _ _ _ h => h) (yRow hS ?_ 23 _ rfl 1 _ _ rfl _ _ rfl 3 ?_ ?_ ?_ _ Tryd.underlying23 rfl ?_) hS ?_ ?_; (focus rfl); rotate_left; (focus (simp only [Array.toList_extract, List.extract_toArray, List.extract_eq_take_drop, List.drop_zero, List.drop_succ_cons, List.take_succ_cons, List.take_zero, Nat.reduceAdd, Nat.reduceSub, Nat.zero_add, Nat.add_zero, Nat.add_sub_cancel_left, Nat.sub_zero, Nat.sub_self]; rfl)); (focus rfl); (focus kernel_rfl); rotate_left; (focus (simp only [Act.put, List.setIfInBounds_toArray, List.set_cons_zero, List.set_cons_succ]; rfl)))
      | (refine take_ (i := 7) (N := some 16) (a' := ?_) #[true, true, true, true, true, true, true, true, false, false, false, false, false, false, false, false] rfl rfl (by kernel_rfl) (fun _ _ _ h => h) (yRow hS ?_ 23 _ rfl 2 _ _ rfl _ _ rfl 3 ?_ ?_ ?_ _ Tryd.underlying23 rfl ?_) hS ?_ ?_; (focus rfl); rotate_left; (focus (simp only [Array.toList_extract, List.extract_toArray, List.extract_eq_take_drop, List.drop_zero, List.drop_succ_cons, List.take_succ_cons, List.take_zero, Nat.reduceAdd, Nat.reduceSub, Nat.zero_add, Nat.add_zero, Nat.add_sub_cancel_left, Nat.sub_zero, Nat.sub_self]; rfl)); (focus rfl); (focus kernel_rfl); rotate_left; (focus (simp only [Act.put, List.setIfInBounds_toArray, List.set_cons_zero, List.set_cons_succ]; rfl)))
    refine pure_ (i := 10) (N := some 19) (v := ?_) (a' := ?_) #[true, true, true, true, true, true, true, true, false, false, true, false, false, false, false, false] rfl rfl (by kernel_rfl) (fun _ _ _ h => h) (Or.inl ⟨by rfl, ?_⟩) ?_ ?_
    rotate_left
    · intro w'
      go_simp
      with_reducible rfl
    rotate_left
    · simp only [Act.put, List.setIfInBounds_toArray, List.set_cons_zero, List.set_cons_succ]
      rfl
    first
      | (refine take_ (i := 11) (N := some 20) (a' := ?_) #[true, true, true, true, true, true, true, true, false, false, true, true, false, false, false, false] rfl rfl (by kernel_rfl) (fun _ _ _ h => h) (yRow hS ?_ 23 _ rfl 0 _ _ rfl _ _ rfl 3 ?_ ?_ ?_ _ Tryd.underlying23 rfl ?_) hS ?_ ?_; (focus rfl); rotate_left; (focus (simp only [Array.toList_extract, List.extract_toArray, List.extract_eq_take_drop, List.drop_zero, List.drop_succ_cons, List.take_succ_cons, List.take_zero, Nat.reduceAdd, Nat.reduceSub, Nat.zero_add, Nat.add_zero, Nat.add_sub_cancel_left, Nat.sub_zero, Nat.sub_self]; rfl)); (focus rfl); (focus kernel_rfl); rotate_left; (focus (simp only [Act.put, List.setIfInBounds_toArray, List.set_cons_zero, List.set_cons_succ]; rfl)))
      | (refine take_ (i := 11) (N := some 20) (a' := ?_) #[true, true, true, true, true, true, true, true, false, false, true, true, false, false, false, false] rfl rfl (by kernel_rfl) (fun _ _ _ h => h) (yRow hS ?_ 23 _ rfl 1 _ _ rfl _ _ rfl 3 ?_ ?_ ?_ _ Tryd.underlying23 rfl ?_) hS ?_ ?_; (focus rfl); rotate_left; (focus (simp only [Array.toList_extract, List.extract_toArray, List.extract_eq_take_drop, List.drop_zero, List.drop_succ_cons, List.take_succ_cons, List.take_zero, Nat.reduceAdd, Nat.reduceSub, Nat.zero_add, Nat.add_zero, Nat.add_sub_cancel_left, Nat.sub_zero, Nat.sub_self]; rfl)); (focus rfl); (focus kernel_rfl); rotate_left; (focus (simp only [Act.put, List.setIfInBounds_toArray, List.set_cons_zero, List.set_cons_succ]; rfl)))
      | (refine take_ (i := 11) (N := some 20) (a' := ?_) #[true, true, true, true, true, true, true, true, false, false, true, true, false, false, false, false] rfl rfl (by kernel_rfl) (fun _ _ _ h => h) (yRow hS ?_ 23 _ rfl 2 _ _ rfl _ _ rfl 3 ?_ ?_ ?_ _ Tryd.underlying23 rfl ?_) hS ?_ ?_; (focus rfl); rotate_left; (focus (simp only [Array.toList_extract, List.extract_toArray, List.extract_eq_take_drop, List.drop_zero, List.drop_succ_cons, List.take_succ_cons, List.take_zero, Nat.reduceAdd, Nat.reduceSub, Nat.zero_add, Nat.add_zero, Nat.add_sub_cancel_left, Nat.sub_zero, Nat.sub_self]; rfl)); (focus rfl); (focus kernel_rfl); rotate_left; (focus (simp only [Act.put, List.setIfInBounds_toArray, List.set_cons_zero, List.set_cons_succ]; rfl)))
    refine one_ (i := 8) (N := some 17) #[true, true, true, true, true, true, true, true, true, false, true, true, false, false, false, false] rfl rfl (by kernel_rfl) (by decide) (fun K hK => ?_)
    refine goes_ Tryd.func18 (by kernel_rfl) rfl #[.agg #[.int .i64 c1, .int .i64 c2, .int .i64 c3]] (by rfl) rfl rfl (by (try simp only [List.map_toArray, List.map_cons, List.map_nil]); first | done | rfl) ?_
    with_reducible refine (HX.out _).mono ?_
    rintro e w_ ⟨rfl, hb_⟩
    refine ⟨_, rfl, ?_⟩
    replace hO := Own.call hO hb_
    clear hb_
    refine hK.out _ _ (hO) (fun hS => ?_)
    clear hK K
    refine norm_ (a' := ?_) ?_ ?_
    rotate_left
    · show Act.put _ (some 17) _ = _
      simp only [Act.put, List.setIfInBounds_toArray, List.set_cons_zero, List.set_cons_succ]
      rfl
    refine one_ (i := 9) (N := some 18) #[true, true, true, true, true, true, true, true, true, true, true, true, false, false, false, false] rfl rfl (by kernel_rfl) (by decide) (fun K hK => ?_)
    refine goes_ Tryd.func24 (by kernel_rfl) rfl #[.int .i64 x] (by rfl) rfl rfl (by (try simp only [List.map_toArray, List.map_cons, List.map_nil]); first | done | rfl) ?_
    with_reducible refine (HSX.out _).mono ?_
    rintro e w_ ⟨rfl, rfl⟩
    refine ⟨_, rfl, ?_⟩
    refine hK.out _ _ (hO) (fun hS => ?_)
    clear hK K
    refine norm_ (a' := ?_) ?_ ?_
    rotate_left
    · show Act.put _ (some 18) _ = _
      simp only [Act.put, List.setIfInBounds_toArray, List.set_cons_zero, List.set_cons_succ]
      rfl
    refine one_ (i := 12) (N := some 21) #[true, true, true, true, true, true, true, true, true, true, true, true, true, false, false, false] rfl rfl (by kernel_rfl) (by decide) (fun K hK => ?_)
    refine goes_ Tryd.func18 (by kernel_rfl) rfl #[.agg #[.int .i64 c1, .int .i64 b, .int .i64 s]] (by rfl) rfl rfl (by (try simp only [List.map_toArray, List.map_cons, List.map_nil]); first | done | rfl) ?_
    with_reducible refine (HY.out _).mono ?_
    rintro e w_ ⟨rfl, hb_⟩
    refine ⟨_, rfl, ?_⟩
    replace hO := Own.call hO hb_
    clear hb_
    refine hK.out _ _ (hO) (fun hS => ?_)
    clear hK K
    refine norm_ (a' := ?_) ?_ ?_
    rotate_left
    · show Act.put _ (some 21) _ = _
      simp only [Act.put, List.setIfInBounds_toArray, List.set_cons_zero, List.set_cons_succ]
      rfl
    refine one_ (i := 13) (N := some 22) #[true, true, true, true, true, true, true, true, true, true, true, true, true, true, false, false] rfl rfl (by kernel_rfl) (by decide) (fun K hK => ?_)
    refine goes_ Tryd.func24 (by kernel_rfl) rfl #[.int .i64 y] (by rfl) rfl rfl (by (try simp only [List.map_toArray, List.map_cons, List.map_nil]); first | done | rfl) ?_
    with_reducible refine (HSY.out _).mono ?_
    rintro e w_ ⟨rfl, rfl⟩
    refine ⟨_, rfl, ?_⟩
    refine hK.out _ _ (hO) (fun hS => ?_)
    clear hK K
    refine norm_ (a' := ?_) ?_ ?_
    rotate_left
    · show Act.put _ (some 22) _ = _
      simp only [Act.put, List.setIfInBounds_toArray, List.set_cons_zero, List.set_cons_succ]
      rfl
    refine pure_ (i := 14) (N := some 23) (v := ?_) (a' := ?_) #[true, true, true, true, true, true, true, true, true, true, true, true, true, true, true, false] rfl rfl (by kernel_rfl) (fun _ _ _ h => h) (Or.inl ⟨by rfl, ?_⟩) ?_ ?_
    rotate_left
    · intro w'
      go_simp
      with_reducible rfl
    rotate_left
    · simp only [Act.put, List.setIfInBounds_toArray, List.set_cons_zero, List.set_cons_succ]
      rfl
    refine pure_ (i := 15) (N := some 24) (v := ?_) (a' := ?_) #[true, true, true, true, true, true, true, true, true, true, true, true, true, true, true, true] rfl rfl (by kernel_rfl) (fun _ _ _ h => h) (Or.inl ⟨by rfl, ?_⟩) ?_ ?_
    rotate_left
    · intro w'
      go_simp
      with_reducible rfl
    rotate_left
    · simp only [Act.put, List.setIfInBounds_toArray, List.set_cons_zero, List.set_cons_succ]
      rfl
    refine done_ (by kernel_rfl) ?_
    go_wp2_with fail
    go_meet
    exact ⟨rfl, hO⟩
  case rest =>
    obtain ⟨rfl, hO⟩ := hcut
    go_upto_region 7 with (first
    | (refine own_alloc rfl 29 rfl hO _ rfl #[.int .i64 0, .int .i64 0, .int .i64 0, .string ⟨#[]⟩, .int .i64 0, .int .i64 0, .int .i64 0, .int .i64 0, .int .i64 0, .int .i64 0, .int .i64 0, .int .i64 0, .int .i64 0, .int .i64 0, .int .i64 0, .int .i64 0, .int .i64 0, .int .i64 0, .int .i64 0, .bool false] (by kernel_rfl) ?_; clear hO; (try clear w_); intro g_ w_ hO)
    | (refine own_box rfl 29 _ rfl hO _ rfl ?_ ?_ ?_; rotate_left; (focus (first | (go_simp; done) | (go_simp; with_reducible rfl) | rfl)); clear hO; (try clear w_); intro g_ w_ hO; simp only [Value.cells] at hO)
    | ((first | refine own_load_row rfl 29 _ rfl hO 0 _ _ rfl _ _ rfl _ rfl 20 ?_ ?_ ?_ _ Tryd.underlying29 rfl ?_ ?_ | refine own_load_row rfl 29 _ rfl hO 1 _ _ rfl _ _ rfl _ rfl 20 ?_ ?_ ?_ _ Tryd.underlying29 rfl ?_ ?_ | refine own_load_row rfl 29 _ rfl hO 2 _ _ rfl _ _ rfl _ rfl 20 ?_ ?_ ?_ _ Tryd.underlying29 rfl ?_ ?_); rotate_left; (focus (simp only [Array.toList_extract, List.extract_toArray, List.extract_eq_take_drop, List.drop_zero, List.drop_succ_cons, List.take_succ_cons, List.take_zero, Nat.reduceAdd, Nat.reduceSub, Nat.zero_add, Nat.add_zero, Nat.add_sub_cancel_left, Nat.sub_zero, Nat.sub_self]; rfl)); (focus rfl); (focus kernel_rfl))
    | ((first | refine own_store rfl 29 _ _ rfl hO 0 _ _ ?_ rfl ?_ _ _ rfl _ rfl ?_ ?_ ?_ ?_ | refine own_store rfl 29 _ _ rfl hO 1 _ _ ?_ rfl ?_ _ _ rfl _ rfl ?_ ?_ ?_ ?_ | refine own_store rfl 29 _ _ rfl hO 2 _ _ ?_ rfl ?_ _ _ rfl _ rfl ?_ ?_ ?_ ?_); rotate_left; (focus (first | (go_simp; done) | (go_simp; with_reducible rfl) | rfl)); (focus kernel_rfl); (focus kernel_rfl); (focus kernel_rfl); clear hO; (try clear w_); intro w_ hO; simp only [List.set_cons_zero, List.set_cons_succ, putAllA, Value.cells, List.setIfInBounds_toArray] at hO)
    | (refine own_alloc rfl 23 rfl hO _ rfl #[.int .i64 0, .int .i64 0, .int .i64 0] (by kernel_rfl) ?_; clear hO; (try clear w_); intro g_ w_ hO)
    | (refine own_box rfl 23 _ rfl hO _ rfl ?_ ?_ ?_; rotate_left; (focus (first | (go_simp; done) | (go_simp; with_reducible rfl) | rfl)); clear hO; (try clear w_); intro g_ w_ hO; simp only [Value.cells] at hO)
    | ((first | refine own_load_row rfl 23 _ rfl hO 0 _ _ rfl _ _ rfl _ rfl 3 ?_ ?_ ?_ _ Tryd.underlying23 rfl ?_ ?_ | refine own_load_row rfl 23 _ rfl hO 1 _ _ rfl _ _ rfl _ rfl 3 ?_ ?_ ?_ _ Tryd.underlying23 rfl ?_ ?_ | refine own_load_row rfl 23 _ rfl hO 2 _ _ rfl _ _ rfl _ rfl 3 ?_ ?_ ?_ _ Tryd.underlying23 rfl ?_ ?_); rotate_left; (focus (simp only [Array.toList_extract, List.extract_toArray, List.extract_eq_take_drop, List.drop_zero, List.drop_succ_cons, List.take_succ_cons, List.take_zero, Nat.reduceAdd, Nat.reduceSub, Nat.zero_add, Nat.add_zero, Nat.add_sub_cancel_left, Nat.sub_zero, Nat.sub_self]; rfl)); (focus rfl); (focus kernel_rfl))
    | ((first | refine own_store rfl 23 _ _ rfl hO 0 _ _ ?_ rfl ?_ _ _ rfl _ rfl ?_ ?_ ?_ ?_ | refine own_store rfl 23 _ _ rfl hO 1 _ _ ?_ rfl ?_ _ _ rfl _ rfl ?_ ?_ ?_ ?_ | refine own_store rfl 23 _ _ rfl hO 2 _ _ ?_ rfl ?_ _ _ rfl _ rfl ?_ ?_ ?_ ?_); rotate_left; (focus (first | (go_simp; done) | (go_simp; with_reducible rfl) | rfl)); (focus kernel_rfl); (focus kernel_rfl); (focus kernel_rfl); clear hO; (try clear w_); intro w_ hO; simp only [List.set_cons_zero, List.set_cons_succ, putAllA, Value.cells, List.setIfInBounds_toArray] at hO)
    | (refine own_alloc rfl 3 rfl hO _ rfl #[.int .i64 0] (by kernel_rfl) ?_; clear hO; (try clear w_); intro g_ w_ hO)
    | (refine own_box rfl 3 _ rfl hO _ rfl ?_ ?_ ?_; rotate_left; (focus (first | (go_simp; done) | (go_simp; with_reducible rfl) | rfl)); clear hO; (try clear w_); intro g_ w_ hO; simp only [Value.cells] at hO)
    | ((first | refine own_load_one rfl 3 _ rfl hO 0 _ _ rfl _ _ rfl _ rfl ?_ ?_ _ Tryd.underlying3 rfl ?_ | refine own_load_one rfl 3 _ rfl hO 1 _ _ rfl _ _ rfl _ rfl ?_ ?_ _ Tryd.underlying3 rfl ?_ | refine own_load_one rfl 3 _ rfl hO 2 _ _ rfl _ _ rfl _ rfl ?_ ?_ _ Tryd.underlying3 rfl ?_); rotate_left; (focus (simp only [List.getElem?_toArray, List.getElem?_cons_zero, List.getElem?_cons_succ]; rfl)))
    | ((first | refine own_store rfl 3 _ _ rfl hO 0 _ _ ?_ rfl ?_ _ _ rfl _ rfl ?_ ?_ ?_ ?_ | refine own_store rfl 3 _ _ rfl hO 1 _ _ ?_ rfl ?_ _ _ rfl _ rfl ?_ ?_ ?_ ?_ | refine own_store rfl 3 _ _ rfl hO 2 _ _ ?_ rfl ?_ _ _ rfl _ rfl ?_ ?_ ?_ ?_); rotate_left; (focus (first | (go_simp; done) | (go_simp; with_reducible rfl) | rfl)); (focus kernel_rfl); (focus kernel_rfl); (focus kernel_rfl); clear hO; (try clear w_); intro w_ hO; simp only [List.set_cons_zero, List.set_cons_succ, putAllA, Value.cells, List.setIfInBounds_toArray] at hO)
    | (refine own_alloc rfl 4 rfl hO _ rfl #[.bool false] (by kernel_rfl) ?_; clear hO; (try clear w_); intro g_ w_ hO)
    | (refine own_box rfl 4 _ rfl hO _ rfl ?_ ?_ ?_; rotate_left; (focus (first | (go_simp; done) | (go_simp; with_reducible rfl) | rfl)); clear hO; (try clear w_); intro g_ w_ hO; simp only [Value.cells] at hO)
    | ((first | refine own_load_one rfl 4 _ rfl hO 0 _ _ rfl _ _ rfl _ rfl ?_ ?_ _ Tryd.underlying4 rfl ?_ | refine own_load_one rfl 4 _ rfl hO 1 _ _ rfl _ _ rfl _ rfl ?_ ?_ _ Tryd.underlying4 rfl ?_ | refine own_load_one rfl 4 _ rfl hO 2 _ _ rfl _ _ rfl _ rfl ?_ ?_ _ Tryd.underlying4 rfl ?_); rotate_left; (focus (simp only [List.getElem?_toArray, List.getElem?_cons_zero, List.getElem?_cons_succ]; rfl)))
    | ((first | refine own_store rfl 4 _ _ rfl hO 0 _ _ ?_ rfl ?_ _ _ rfl _ rfl ?_ ?_ ?_ ?_ | refine own_store rfl 4 _ _ rfl hO 1 _ _ ?_ rfl ?_ _ _ rfl _ rfl ?_ ?_ ?_ ?_ | refine own_store rfl 4 _ _ rfl hO 2 _ _ ?_ rfl ?_ _ _ rfl _ rfl ?_ ?_ ?_ ?_); rotate_left; (focus (first | (go_simp; done) | (go_simp; with_reducible rfl) | rfl)); (focus kernel_rfl); (focus kernel_rfl); (focus kernel_rfl); clear hO; (try clear w_); intro w_ hO; simp only [List.set_cons_zero, List.set_cons_succ, putAllA, Value.cells, List.setIfInBounds_toArray] at hO)
    )
    (try simp only [Act.put, List.setIfInBounds_toArray, List.set_cons_zero, List.set_cons_succ])
    refine start_ (n := 9) (S := fun w' => Own w [(g_, 23, #[.int .i64 c1, .int .i64 c2, .int .i64 c3]), (gb, 29, #[.int .i64 c1, .int .i64 b, .int .i64 s, .string n, .int .i64 a0, .int .i64 a1, .int .i64 a2, .int .i64 a3, .int .i64 a4, .int .i64 a5, .int .i64 a6, .int .i64 a7, .int .i64 a8, .int .i64 a9, .int .i64 a10, .int .i64 a11, .int .i64 thick, .int .i64 t, .int .i64 d, .bool fan]), (ga, 29, #[.int .i64 c1, .int .i64 b, .int .i64 s, .string n, .int .i64 a0, .int .i64 a1, .int .i64 a2, .int .i64 a3, .int .i64 a4, .int .i64 a5, .int .i64 a6, .int .i64 a7, .int .i64 a8, .int .i64 a9, .int .i64 a10, .int .i64 a11, .int .i64 thick, .int .i64 t, .int .i64 d, .bool fan])] w') (ds := [8]) #[false, false, false, false, false, false, false, false, false] (by kernel_rfl) rfl rfl (Own.drew hO) (fun hS => ?_)
    clear hO
    have hO := hS
    refine pure_ (i := 0) (N := some 28) (v := ?_) (a' := ?_) #[true, false, false, false, false, false, false, false, false] rfl rfl (by kernel_rfl) (fun _ _ _ h => h) (Or.inl ⟨by rfl, ?_⟩) ?_ ?_
    rotate_left
    · intro w'
      go_simp
      with_reducible rfl
    rotate_left
    · simp only [Act.put, List.setIfInBounds_toArray, List.set_cons_zero, List.set_cons_succ]
      rfl
    first
      | (refine take_ (i := 1) (N := some 29) (a' := ?_) #[true, true, false, false, false, false, false, false, false] rfl rfl (by kernel_rfl) (fun _ _ _ h => h) (yRow hS ?_ 27 _ rfl 0 _ _ rfl _ _ rfl 2 ?_ ?_ ?_ _ Tryd.underlying27 rfl ?_) hS ?_ ?_; (focus rfl); rotate_left; (focus (simp only [Array.toList_extract, List.extract_toArray, List.extract_eq_take_drop, List.drop_zero, List.drop_succ_cons, List.take_succ_cons, List.take_zero, Nat.reduceAdd, Nat.reduceSub, Nat.zero_add, Nat.add_zero, Nat.add_sub_cancel_left, Nat.sub_zero, Nat.sub_self]; rfl)); (focus rfl); (focus kernel_rfl); rotate_left; (focus (simp only [Act.put, List.setIfInBounds_toArray, List.set_cons_zero, List.set_cons_succ]; rfl)))
      | (refine take_ (i := 1) (N := some 29) (a' := ?_) #[true, true, false, false, false, false, false, false, false] rfl rfl (by kernel_rfl) (fun _ _ _ h => h) (yRow hS ?_ 27 _ rfl 1 _ _ rfl _ _ rfl 2 ?_ ?_ ?_ _ Tryd.underlying27 rfl ?_) hS ?_ ?_; (focus rfl); rotate_left; (focus (simp only [Array.toList_extract, List.extract_toArray, List.extract_eq_take_drop, List.drop_zero, List.drop_succ_cons, List.take_succ_cons, List.take_zero, Nat.reduceAdd, Nat.reduceSub, Nat.zero_add, Nat.add_zero, Nat.add_sub_cancel_left, Nat.sub_zero, Nat.sub_self]; rfl)); (focus rfl); (focus kernel_rfl); rotate_left; (focus (simp only [Act.put, List.setIfInBounds_toArray, List.set_cons_zero, List.set_cons_succ]; rfl)))
      | (refine take_ (i := 1) (N := some 29) (a' := ?_) #[true, true, false, false, false, false, false, false, false] rfl rfl (by kernel_rfl) (fun _ _ _ h => h) (yRow hS ?_ 27 _ rfl 2 _ _ rfl _ _ rfl 2 ?_ ?_ ?_ _ Tryd.underlying27 rfl ?_) hS ?_ ?_; (focus rfl); rotate_left; (focus (simp only [Array.toList_extract, List.extract_toArray, List.extract_eq_take_drop, List.drop_zero, List.drop_succ_cons, List.take_succ_cons, List.take_zero, Nat.reduceAdd, Nat.reduceSub, Nat.zero_add, Nat.add_zero, Nat.add_sub_cancel_left, Nat.sub_zero, Nat.sub_self]; rfl)); (focus rfl); (focus kernel_rfl); rotate_left; (focus (simp only [Act.put, List.setIfInBounds_toArray, List.set_cons_zero, List.set_cons_succ]; rfl)))
    refine pure_ (i := 3) (N := some 31) (v := ?_) (a' := ?_) #[true, true, false, true, false, false, false, false, false] rfl rfl (by kernel_rfl) (fun _ _ _ h => h) (Or.inl ⟨by rfl, ?_⟩) ?_ ?_
    rotate_left
    · intro w'
      go_simp
      with_reducible rfl
    rotate_left
    · simp only [Act.put, List.setIfInBounds_toArray, List.set_cons_zero, List.set_cons_succ]
      rfl
    first
      | (refine take_ (i := 4) (N := some 32) (a' := ?_) #[true, true, false, true, true, false, false, false, false] rfl rfl (by kernel_rfl) (fun _ _ _ h => h) (yRow hS ?_ 27 _ rfl 0 _ _ rfl _ _ rfl 2 ?_ ?_ ?_ _ Tryd.underlying27 rfl ?_) hS ?_ ?_; (focus rfl); rotate_left; (focus (simp only [Array.toList_extract, List.extract_toArray, List.extract_eq_take_drop, List.drop_zero, List.drop_succ_cons, List.take_succ_cons, List.take_zero, Nat.reduceAdd, Nat.reduceSub, Nat.zero_add, Nat.add_zero, Nat.add_sub_cancel_left, Nat.sub_zero, Nat.sub_self]; rfl)); (focus rfl); (focus kernel_rfl); rotate_left; (focus (simp only [Act.put, List.setIfInBounds_toArray, List.set_cons_zero, List.set_cons_succ]; rfl)))
      | (refine take_ (i := 4) (N := some 32) (a' := ?_) #[true, true, false, true, true, false, false, false, false] rfl rfl (by kernel_rfl) (fun _ _ _ h => h) (yRow hS ?_ 27 _ rfl 1 _ _ rfl _ _ rfl 2 ?_ ?_ ?_ _ Tryd.underlying27 rfl ?_) hS ?_ ?_; (focus rfl); rotate_left; (focus (simp only [Array.toList_extract, List.extract_toArray, List.extract_eq_take_drop, List.drop_zero, List.drop_succ_cons, List.take_succ_cons, List.take_zero, Nat.reduceAdd, Nat.reduceSub, Nat.zero_add, Nat.add_zero, Nat.add_sub_cancel_left, Nat.sub_zero, Nat.sub_self]; rfl)); (focus rfl); (focus kernel_rfl); rotate_left; (focus (simp only [Act.put, List.setIfInBounds_toArray, List.set_cons_zero, List.set_cons_succ]; rfl)))
      | (refine take_ (i := 4) (N := some 32) (a' := ?_) #[true, true, false, true, true, false, false, false, false] rfl rfl (by kernel_rfl) (fun _ _ _ h => h) (yRow hS ?_ 27 _ rfl 2 _ _ rfl _ _ rfl 2 ?_ ?_ ?_ _ Tryd.underlying27 rfl ?_) hS ?_ ?_; (focus rfl); rotate_left; (focus (simp only [Array.toList_extract, List.extract_toArray, List.extract_eq_take_drop, List.drop_zero, List.drop_succ_cons, List.take_succ_cons, List.take_zero, Nat.reduceAdd, Nat.reduceSub, Nat.zero_add, Nat.add_zero, Nat.add_sub_cancel_left, Nat.sub_zero, Nat.sub_self]; rfl)); (focus rfl); (focus kernel_rfl); rotate_left; (focus (simp only [Act.put, List.setIfInBounds_toArray, List.set_cons_zero, List.set_cons_succ]; rfl)))
    refine one_ (i := 2) (N := some 30) #[true, true, true, true, true, false, false, false, false] rfl rfl (by kernel_rfl) (by decide) (fun K hK => ?_)
    refine goes_ Tryd.func23 (by kernel_rfl) rfl #[.agg #[.int .i64 t, .int .i64 d]] (by rfl) rfl rfl (by (try simp only [List.map_toArray, List.map_cons, List.map_nil]); first | done | rfl) ?_
    with_reducible refine (HE.out _ (Lib.hid (hG.out.below hO.bel))).mono ?_
    rintro e w_ ⟨rfl, hb_⟩
    refine ⟨_, rfl, ?_⟩
    replace hO := Own.call hO hb_
    clear hb_
    refine hK.out _ _ (hO) (fun hS => ?_)
    clear hK K
    refine norm_ (a' := ?_) ?_ ?_
    rotate_left
    · show Act.put _ (some 30) _ = _
      simp only [Act.put, List.setIfInBounds_toArray, List.set_cons_zero, List.set_cons_succ]
      rfl
    refine one_ (i := 5) (N := some 33) #[true, true, true, true, true, true, false, false, false] rfl rfl (by kernel_rfl) (by decide) (fun K hK => ?_)
    refine goes_ Tryd.func23 (by kernel_rfl) rfl #[.agg #[.int .i64 t, .int .i64 d]] (by rfl) rfl rfl (by (try simp only [List.map_toArray, List.map_cons, List.map_nil]); first | done | rfl) ?_
    with_reducible refine (HE.out _ (Lib.hid (hG.out.below hO.bel))).mono ?_
    rintro e w_ ⟨rfl, hb_⟩
    refine ⟨_, rfl, ?_⟩
    replace hO := Own.call hO hb_
    clear hb_
    refine hK.out _ _ (hO) (fun hS => ?_)
    clear hK K
    refine norm_ (a' := ?_) ?_ ?_
    rotate_left
    · show Act.put _ (some 33) _ = _
      simp only [Act.put, List.setIfInBounds_toArray, List.set_cons_zero, List.set_cons_succ]
      rfl
    refine pure_ (i := 6) (N := some 34) (v := ?_) (a' := ?_) #[true, true, true, true, true, true, true, false, false] rfl rfl (by kernel_rfl) (fun _ _ _ h => h) (Or.inl ⟨by rfl, ?_⟩) ?_ ?_
    rotate_left
    · intro w'
      go_simp
      with_reducible rfl
    rotate_left
    · simp only [Act.put, List.setIfInBounds_toArray, List.set_cons_zero, List.set_cons_succ]
      rfl
    refine pure_ (i := 7) (N := some 35) (v := ?_) (a' := ?_) #[true, true, true, true, true, true, true, true, false] rfl rfl (by kernel_rfl) (fun _ _ _ h => h) (Or.inl ⟨by rfl, ?_⟩) ?_ ?_
    rotate_left
    · intro w'
      go_simp
      with_reducible rfl
    rotate_left
    · simp only [Act.put, List.setIfInBounds_toArray, List.set_cons_zero, List.set_cons_succ]
      rfl
    refine last_ (i := 8) (N := none) #[true, true, true, true, true, true, true, true, true] rfl rfl (by kernel_rfl) (by decide) (fun K hK => ?_)
    refine rStore (by rfl) rfl 23 _ _ rfl hO 1 _ _ ?_ rfl ?_ _ _ rfl ?_ ?_ ?_ ?_
    rotate_left
    · first | (go_simp; done) | (go_simp; with_reducible rfl) | rfl
    · kernel_rfl
    · kernel_rfl
    · kernel_rfl
    clear hO
    intro w_ hO
    simp only [List.set_cons_zero, List.set_cons_succ, putAllA, Value.cells, List.setIfInBounds_toArray] at hO
    refine hK.out _ _ ?_
    clear hK K
    refine norm_ (a' := ?_) ?_ ?_
    rotate_left
    · rfl
    refine done_ (by kernel_rfl) ?_
    go_upto_region 8 with fail
    (try simp only [Act.put, List.setIfInBounds_toArray, List.set_cons_zero, List.set_cons_succ])
    refine start_ (n := 9) (S := fun w' => Own w [(g_, 23, #[.int .i64 c1, .int .i64 c2, .int .i64 c3]), (gb, 29, #[.int .i64 q, .int .i64 q, .int .i64 0, .string n, .int .i64 a0, .int .i64 a1, .int .i64 a2, .int .i64 a3, .int .i64 a4, .int .i64 a5, .int .i64 a6, .int .i64 a7, .int .i64 a8, .int .i64 a9, .int .i64 a10, .int .i64 a11, .int .i64 thick, .int .i64 t, .int .i64 d, .bool fan]), (ga, 29, #[.int .i64 c1, .int .i64 b, .int .i64 s, .string n, .int .i64 a0, .int .i64 a1, .int .i64 a2, .int .i64 a3, .int .i64 a4, .int .i64 a5, .int .i64 a6, .int .i64 a7, .int .i64 a8, .int .i64 a9, .int .i64 a10, .int .i64 a11, .int .i64 thick, .int .i64 t, .int .i64 d, .bool fan])] w') (ds := []) #[false, false, false, false, false, false, false, false, false] (by kernel_rfl) rfl rfl (Own.drew hO) (fun hS => ?_)
    clear hO
    have hO := hS
    first
      | (refine take_ (i := 0) (N := some 36) (a' := ?_) #[true, false, false, false, false, false, false, false, false] rfl rfl (by kernel_rfl) (fun _ _ _ h => h) (yRow hS ?_ 29 _ rfl 0 _ _ rfl _ _ rfl 20 ?_ ?_ ?_ _ Tryd.underlying29 rfl ?_) hS ?_ ?_; (focus rfl); rotate_left; (focus (simp only [Array.toList_extract, List.extract_toArray, List.extract_eq_take_drop, List.drop_zero, List.drop_succ_cons, List.take_succ_cons, List.take_zero, Nat.reduceAdd, Nat.reduceSub, Nat.zero_add, Nat.add_zero, Nat.add_sub_cancel_left, Nat.sub_zero, Nat.sub_self]; rfl)); (focus rfl); (focus kernel_rfl); rotate_left; (focus (simp only [Act.put, List.setIfInBounds_toArray, List.set_cons_zero, List.set_cons_succ]; rfl)))
      | (refine take_ (i := 0) (N := some 36) (a' := ?_) #[true, false, false, false, false, false, false, false, false] rfl rfl (by kernel_rfl) (fun _ _ _ h => h) (yRow hS ?_ 29 _ rfl 1 _ _ rfl _ _ rfl 20 ?_ ?_ ?_ _ Tryd.underlying29 rfl ?_) hS ?_ ?_; (focus rfl); rotate_left; (focus (simp only [Array.toList_extract, List.extract_toArray, List.extract_eq_take_drop, List.drop_zero, List.drop_succ_cons, List.take_succ_cons, List.take_zero, Nat.reduceAdd, Nat.reduceSub, Nat.zero_add, Nat.add_zero, Nat.add_sub_cancel_left, Nat.sub_zero, Nat.sub_self]; rfl)); (focus rfl); (focus kernel_rfl); rotate_left; (focus (simp only [Act.put, List.setIfInBounds_toArray, List.set_cons_zero, List.set_cons_succ]; rfl)))
      | (refine take_ (i := 0) (N := some 36) (a' := ?_) #[true, false, false, false, false, false, false, false, false] rfl rfl (by kernel_rfl) (fun _ _ _ h => h) (yRow hS ?_ 29 _ rfl 2 _ _ rfl _ _ rfl 20 ?_ ?_ ?_ _ Tryd.underlying29 rfl ?_) hS ?_ ?_; (focus rfl); rotate_left; (focus (simp only [Array.toList_extract, List.extract_toArray, List.extract_eq_take_drop, List.drop_zero, List.drop_succ_cons, List.take_succ_cons, List.take_zero, Nat.reduceAdd, Nat.reduceSub, Nat.zero_add, Nat.add_zero, Nat.add_sub_cancel_left, Nat.sub_zero, Nat.sub_self]; rfl)); (focus rfl); (focus kernel_rfl); rotate_left; (focus (simp only [Act.put, List.setIfInBounds_toArray, List.set_cons_zero, List.set_cons_succ]; rfl)))
    refine pure_ (i := 2) (N := some 38) (v := ?_) (a' := ?_) #[true, false, true, false, false, false, false, false, false] rfl rfl (by kernel_rfl) (fun _ _ _ h => h) (Or.inl ⟨by rfl, ?_⟩) ?_ ?_
    rotate_left
    · intro w'
      go_simp
      with_reducible rfl
    rotate_left
    · simp only [Act.put, List.setIfInBounds_toArray, List.set_cons_zero, List.set_cons_succ]
      rfl
    first
      | (refine take_ (i := 3) (N := some 39) (a' := ?_) #[true, false, true, true, false, false, false, false, false] rfl rfl (by kernel_rfl) (fun _ _ _ h => h) (yRow hS ?_ 23 _ rfl 0 _ _ rfl _ _ rfl 3 ?_ ?_ ?_ _ Tryd.underlying23 rfl ?_) hS ?_ ?_; (focus rfl); rotate_left; (focus (simp only [Array.toList_extract, List.extract_toArray, List.extract_eq_take_drop, List.drop_zero, List.drop_succ_cons, List.take_succ_cons, List.take_zero, Nat.reduceAdd, Nat.reduceSub, Nat.zero_add, Nat.add_zero, Nat.add_sub_cancel_left, Nat.sub_zero, Nat.sub_self]; rfl)); (focus rfl); (focus kernel_rfl); rotate_left; (focus (simp only [Act.put, List.setIfInBounds_toArray, List.set_cons_zero, List.set_cons_succ]; rfl)))
      | (refine take_ (i := 3) (N := some 39) (a' := ?_) #[true, false, true, true, false, false, false, false, false] rfl rfl (by kernel_rfl) (fun _ _ _ h => h) (yRow hS ?_ 23 _ rfl 1 _ _ rfl _ _ rfl 3 ?_ ?_ ?_ _ Tryd.underlying23 rfl ?_) hS ?_ ?_; (focus rfl); rotate_left; (focus (simp only [Array.toList_extract, List.extract_toArray, List.extract_eq_take_drop, List.drop_zero, List.drop_succ_cons, List.take_succ_cons, List.take_zero, Nat.reduceAdd, Nat.reduceSub, Nat.zero_add, Nat.add_zero, Nat.add_sub_cancel_left, Nat.sub_zero, Nat.sub_self]; rfl)); (focus rfl); (focus kernel_rfl); rotate_left; (focus (simp only [Act.put, List.setIfInBounds_toArray, List.set_cons_zero, List.set_cons_succ]; rfl)))
      | (refine take_ (i := 3) (N := some 39) (a' := ?_) #[true, false, true, true, false, false, false, false, false] rfl rfl (by kernel_rfl) (fun _ _ _ h => h) (yRow hS ?_ 23 _ rfl 2 _ _ rfl _ _ rfl 3 ?_ ?_ ?_ _ Tryd.underlying23 rfl ?_) hS ?_ ?_; (focus rfl); rotate_left; (focus (simp only [Array.toList_extract, List.extract_toArray, List.extract_eq_take_drop, List.drop_zero, List.drop_succ_cons, List.take_succ_cons, List.take_zero, Nat.reduceAdd, Nat.reduceSub, Nat.zero_add, Nat.add_zero, Nat.add_sub_cancel_left, Nat.sub_zero, Nat.sub_self]; rfl)); (focus rfl); (focus kernel_rfl); rotate_left; (focus (simp only [Act.put, List.setIfInBounds_toArray, List.set_cons_zero, List.set_cons_succ]; rfl)))
    refine one_ (i := 1) (N := some 37) #[true, true, true, true, false, false, false, false, false] rfl rfl (by kernel_rfl) (by decide) (fun K hK => ?_)
    refine goes_ Tryd.func9 (by kernel_rfl) rfl #[.agg #[.int .i64 q, .int .i64 q, .int .i64 0, .string n, .int .i64 a0, .int .i64 a1, .int .i64 a2, .int .i64 a3, .int .i64 a4, .int .i64 a5, .int .i64 a6, .int .i64 a7, .int .i64 a8, .int .i64 a9, .int .i64 a10, .int .i64 a11, .int .i64 thick, .int .i64 t, .int .i64 d, .bool fan]] (by rfl) rfl rfl (by (try simp only [List.map_toArray, List.map_cons, List.map_nil]); first | done | rfl) ?_
    with_reducible refine (HR.out _ (Lib.hid (hG.out.below hO.bel))).mono ?_
    rintro e w_ ⟨rfl, hb_⟩
    refine ⟨_, rfl, ?_⟩
    replace hO := Own.call hO hb_
    clear hb_
    refine hK.out _ _ (hO) (fun hS => ?_)
    clear hK K
    refine norm_ (a' := ?_) ?_ ?_
    rotate_left
    · show Act.put _ (some 37) _ = _
      simp only [Act.put, List.setIfInBounds_toArray, List.set_cons_zero, List.set_cons_succ]
      rfl
    refine pure_ (i := 4) (N := some 40) (v := ?_) (a' := ?_) #[true, true, true, true, true, false, false, false, false] rfl rfl (by kernel_rfl) (fun _ _ _ h => h) (Or.inl ⟨by rfl, ?_⟩) ?_ ?_
    rotate_left
    · intro w'
      go_simp
      with_reducible rfl
    rotate_left
    · simp only [Act.put, List.setIfInBounds_toArray, List.set_cons_zero, List.set_cons_succ]
      rfl
    refine pure_ (i := 5) (N := some 41) (v := ?_) (a' := ?_) #[true, true, true, true, true, true, false, false, false] rfl rfl (by kernel_rfl) (fun _ _ _ h => h) (Or.inl ⟨by rfl, ?_⟩) ?_ ?_
    rotate_left
    · intro w'
      go_simp
      with_reducible rfl
    rotate_left
    · simp only [Act.put, List.setIfInBounds_toArray, List.set_cons_zero, List.set_cons_succ]
      rfl
    refine one_ (i := 6) (N := some 42) #[true, true, true, true, true, true, true, false, false] rfl rfl (by kernel_rfl) (by decide) (fun K hK => ?_)
    refine goes_ Tryd.func11 (by kernel_rfl) rfl #[] (by rfl) rfl rfl (by (try simp only [List.map_toArray, List.map_cons, List.map_nil]); first | done | rfl) ?_
    with_reducible refine (awake_any _ (Lib.hid (hG.out.below hO.bel))).mono ?_
    rintro e w_ ⟨rfl, hb_⟩
    refine ⟨_, rfl, ?_⟩
    replace hO := Own.call hO hb_
    clear hb_
    refine hK.out _ _ (hO) (fun hS => ?_)
    clear hK K
    refine norm_ (a' := ?_) ?_ ?_
    rotate_left
    · show Act.put _ (some 42) _ = _
      simp only [Act.put, List.setIfInBounds_toArray, List.set_cons_zero, List.set_cons_succ]
      rfl
    refine pure_ (i := 7) (N := some 43) (v := ?_) (a' := ?_) #[true, true, true, true, true, true, true, true, false] rfl rfl (by kernel_rfl) (fun _ _ _ h => h) (Or.inl ⟨by rfl, ?_⟩) ?_ ?_
    rotate_left
    · intro w'
      go_simp
      with_reducible rfl
    rotate_left
    · simp only [Act.put, List.setIfInBounds_toArray, List.set_cons_zero, List.set_cons_succ]
      rfl
    refine pure_ (i := 8) (N := some 2) (v := ?_) (a' := ?_) #[true, true, true, true, true, true, true, true, true] rfl rfl (by kernel_rfl) (fun _ _ _ h => h) (Or.inl ⟨by rfl, ?_⟩) ?_ ?_
    rotate_left
    · intro w'
      go_simp
      with_reducible rfl
    rotate_left
    · simp only [Act.put, List.setIfInBounds_toArray, List.set_cons_zero, List.set_cons_succ]
      rfl
    refine done_ (by kernel_rfl) ?_
    go_wp2_with fail
    go_ret
    exact ⟨rfl, hO.bel⟩
end Go.Proofs.YtfjlbpjjcehcnaaDoor
