/-
  The reference's Tick returns what the program's Tick returns.
-/
import Derived.Test.YtfjlbpjjcehcnaaDoorAwake36
import Derived.Test.YtfjlbpjjcehcnaaDoorRefVal
import Derived.Deep.DeepCutAuto
namespace Go.Proofs.YtfjlbpjjcehcnaaDoor
open Go.RowKit PTick Go.Proofs.YtfjlbpjjcehcnaaDoorW.PrintLast Go.Proofs.YtfjlbpjjcehcnaaDoorW.PrintWords
set_option linter.unusedSimpArgs false

theorem rchk_f (k : Nat) (a b s : Int) : sawmillref36_Check.f (k + 1) a b s = some (chkZ a b s) := by
  unfold sawmillref36_Check.f chkZ
  simp only [sawmillref36_Check.j0]
  repeat' split
  all_goals first | rfl | (exfalso; omega) | (exfalso; simp_all; done) | (exfalso; simp_all; omega)
theorem rair_f (t d : Int) : sawmillref35_Check.f t d = some (airZ t d) := by
  unfold sawmillref35_Check.f airZ
  repeat' split
  all_goals first | rfl | (exfalso; omega)
theorem rspeed_f (n : Int) : sawmillref36_speed.f n = some (decide (1 ≤ n ∧ n ≤ 10000)) := by
  unfold sawmillref36_speed.f
  split
  · rename_i h
    congr 1
    rw [Bool.eq_iff_iff, decide_eq_true_iff, decide_eq_true_iff]
    omega
  · rename_i h
    congr 1
    symm
    exact decide_eq_false (by omega)
theorem rticks_f (k : Nat) (a b s : Int) (n : ByteArray) (a0 a1 a2 a3 a4 a5 a6 a7 a8 a9 a10 a11 thick t d : Int) :
    sawmillref36_Ticks.f (k + 1) a b s n a0 a1 a2 a3 a4 a5 a6 a7 a8 a9 a10 a11 thick t d = some (compB a b s a1 a2 a3 thick t d) := by
  unfold sawmillref36_Ticks.f
  rw [rchk_f, rair_f, rspeed_f, rspeed_f]
  simp only [Option.bind_some, decide_eq_true_eq]
  have key : compB a b s a1 a2 a3 thick t d = true ↔ (chkZ a b s = 0 ∧ airZ t d = 0 ∧ (1 ≤ a1 ∧ a1 ≤ 10000 ∧ 1 ≤ a2 ∧ a2 ≤ 10000 ∧ 0 ≤ a3 ∧ a3 ≤ 20000 ∧ 1 ≤ thick ∧ thick ≤ 600)) := by
    unfold compB
    rw [decide_eq_true_iff]
    exact Iff.rfl
  generalize compB a b s a1 a2 a3 thick t d = v at key
  repeat' split
  all_goals (congr 1; rw [Bool.eq_iff_iff, key]; first | (rw [decide_eq_true_iff]; omega) | (simp only [Bool.false_eq_true, false_iff]; omega))
theorem rclamp_f (k : Nat) (n lo hi : Int) : sawmillref01_Clamp.f (k + 1) n lo hi = some (clampZ n lo hi) := by
  unfold sawmillref01_Clamp.f clampZ
  simp only [sawmillref01_Clamp.j0]
  repeat' split
  all_goals first | rfl | (exfalso; omega) | (exfalso; simp_all; done) | (exfalso; simp_all; omega) | (congr 1; omega)
theorem part_num {d k : Int} : d / 10000 * k + (d % 10000 * k) / 10000 = d * k / 10000 := by
  have h : d * k = d % 10000 * k + 10000 * (d / 10000 * k) := by
    have : d = d % 10000 + 10000 * (d / 10000) := by omega
    conv => lhs; rw [this]
    rw [Int.add_mul, Int.mul_assoc]
  rw [h, Int.add_mul_ediv_left _ _ (by omega)]
  omega
theorem rpart_f {d k : Int} (hd : 0 ≤ d) (hd' : d ≤ 1000000) (hk : 1 ≤ k) (hk' : k ≤ 10000) : sawmillref01_part.f d k = some (if d = 0 then 0 else stepZ d k) := by
  have e1 : Int.tdiv d 10000 = d / 10000 := Int.tdiv_eq_ediv_of_nonneg hd
  have e2 : Int.tmod d 10000 = d % 10000 := Int.tmod_eq_emod_of_nonneg hd
  have b1 : 0 ≤ d / 10000 * k := Int.mul_nonneg (by omega) (by omega)
  have b1' : d / 10000 * k ≤ 100 * 10000 := Int.mul_le_mul (by omega) (by omega) (by omega) (by omega)
  have b2 : 0 ≤ d % 10000 * k := Int.mul_nonneg (by omega) (by omega)
  have b2' : d % 10000 * k ≤ 10000 * 10000 := Int.mul_le_mul (by omega) (by omega) (by omega) (by omega)
  have e3 : Int.tdiv (d % 10000 * k) 10000 = d % 10000 * k / 10000 := Int.tdiv_eq_ediv_of_nonneg b2
  have hx := part_num (d := d) (k := k)
  unfold sawmillref01_part.f stepZ
  rw [e1, e2, IntWalk.u64_in (d / 10000) (by omega), IntWalk.u64_in (d / 10000 * k) (by omega), IntWalk.u64_in (d % 10000 * k) (by omega), e3, IntWalk.u64_in (d % 10000 * k / 10000) (by omega), hx, IntWalk.u64_in (d * k / 10000) (by omega), if_pos (by omega)]
  repeat' split
  all_goals first
    | rfl
    | (exfalso; omega)
    | (congr 1; omega)
    | (rename_i h0 _; have : d = 0 := by omega
       subst this
       simp)
theorem rtoward_f (k : Nat) {a b m : Int} (ha : 0 ≤ a) (ha' : a ≤ 1000000) (hb : 0 ≤ b) (hb' : b ≤ 1000000) (hm : 1 ≤ m) (hm' : m ≤ 10000) : sawmillref01_Toward.f (k + 1) a b m = some (towardZ a b m) := by
  unfold sawmillref01_Toward.f towardZ
  rw [rclamp_f, clampZ_mid (by omega) hm']
  simp only [Option.bind_some]
  rw [IntWalk.u64_in a (by omega), IntWalk.u64_in b (by omega), IntWalk.u64_in m (by omega)]
  by_cases h : b ≥ a
  · rw [if_pos h, IntWalk.u64_in (b - a) (by omega), rpart_f (by omega) (by omega) hm hm']
    simp only [Option.bind_some]
    by_cases h0 : a = b
    · subst h0
      rw [if_pos rfl, if_pos (by omega), Int.add_zero, IntWalk.u64_in a (by omega), wrap64_in (by omega) (by omega)]
    · have hs := stepZ_bd (d := b - a) (k := m) (by omega) hm'
      rw [if_neg h0, if_neg (by omega), if_pos (by omega), IntWalk.u64_in (a + stepZ (b - a) m) (by omega), wrap64_in (by omega) (by omega)]
  · have hs := stepZ_bd (d := a - b) (k := m) (by omega) hm'
    rw [if_neg h, IntWalk.u64_in (a - b) (by omega), rpart_f (by omega) (by omega) hm hm']
    simp only [Option.bind_some]
    rw [if_neg (show ¬ a - b = 0 by omega), if_neg (show ¬ a = b by omega), if_neg (show ¬ a < b by omega), IntWalk.u64_in (a - stepZ (a - b) m) (by omega), wrap64_in (by omega) (by omega)]

theorem rtoward_any (a b k : Int) (w : World) (ha : 0 ≤ a) (ha' : a ≤ 1000000) (hb : 0 ≤ b) (hb' : b ≤ 1000000) (hk : 1 ≤ k) (hk' : k ≤ 10000) :
    Calls Tryd.prog 27 #[.int .i64 a, .int .i64 b, .int .i64 k] w fun e w' => e = .returned (.int .i64 (towardZ a b k)) ∧ Below w.heap.size w w' :=
  (sawmillref01_Toward.calls 1 a b k _ w (rtoward_f 0 ha ha' hb hb' hk hk')).mono fun _ _ h => ⟨h.1, h.2.below⟩

theorem max2_intr (k k' : IntKind) (x y : Int) : Builtin.max2 (.int k x) (.int k' y) = pure (.int k (if x < y then y else x)) := by simp only [Builtin.max2, gt_iff_lt]
theorem min2_intr (k k' : IntKind) (x y : Int) : Builtin.min2 (.int k x) (.int k' y) = pure (.int k (if y < x then y else x)) := by simp only [Builtin.min2]
theorem max_pairr (ats : Array TypeId) (ty : TypeId) (a b : Value) : Builtin.max_ ats ty #[a, b] = (Builtin.max2 a b >>= fun s => pure s) := by simp only [Builtin.max_, List.foldlM_cons, List.foldlM_nil]
theorem min_pairr (ats : Array TypeId) (ty : TypeId) (a b : Value) : Builtin.min_ ats ty #[a, b] = (Builtin.min2 a b >>= fun s => pure s) := by simp only [Builtin.min_, List.foldlM_cons, List.foldlM_nil]
attribute [local go_sem] max2_intr min2_intr max_pairr min_pairr

set_option maxHeartbeats 4000000 in
set_option maxRecDepth 100000 in
theorem rtick_no (a b s : Int) (n : ByteArray) (a0 a1 a2 a3 a4 a5 a6 a7 a8 a9 a10 a11 thick t d : Int) (fan : Bool) (w : World) (hc : ¬ Comp a b s a1 a2 a3 thick t d) :
    Calls Tryd.prog 10 #[.agg #[.int .i64 a, .int .i64 b, .int .i64 s], .agg #[.string n, .int .i64 a0, .int .i64 a1, .int .i64 a2, .int .i64 a3, .int .i64 a4, .int .i64 a5, .int .i64 a6, .int .i64 a7, .int .i64 a8, .int .i64 a9, .int .i64 a10, .int .i64 a11], .int .i64 thick, .agg #[.int .i64 t, .int .i64 d], .bool fan] w fun e w' => e = .returned (.agg #[.int .i64 a, .int .i64 b, .int .i64 s]) ∧ Below w.heap.size w w' := by
  have hcb : compB a b s a1 a2 a3 thick t d = false := decide_eq_false hc
  have HV : Hid (∀ w, Calls Tryd.prog 26 #[.agg #[.int .i64 a, .int .i64 b, .int .i64 s], .agg #[.string n, .int .i64 a0, .int .i64 a1, .int .i64 a2, .int .i64 a3, .int .i64 a4, .int .i64 a5, .int .i64 a6, .int .i64 a7, .int .i64 a8, .int .i64 a9, .int .i64 a10, .int .i64 a11], .int .i64 thick, .agg #[.int .i64 t, .int .i64 d]] w fun e w' => e = .returned (.bool false) ∧ Below w.heap.size w w') := Lib.hid (by
    intro w
    have h := rticks_f 1 a b s n a0 a1 a2 a3 a4 a5 a6 a7 a8 a9 a10 a11 thick t d
    rw [hcb] at h
    exact sawmillref36_Ticks.calls 2 a b s n a0 a1 a2 a3 a4 a5 a6 a7 a8 a9 a10 a11 thick t d false w h)
  clear hcb hc
  have hO := Own.nil w
  go_enter Tryd.func10, Tryd.ntmps10
  go_wp2_with (first
    | (refine own_alloc rfl 23 rfl hO _ rfl #[.int .i64 0, .int .i64 0, .int .i64 0] (by kernel_rfl) ?_; clear hO; (try clear w_); intro g_ w_ hO)
    | (refine own_box rfl 23 _ rfl hO _ rfl ?_ ?_ ?_; rotate_left; (focus (first | (go_simp; done) | (go_simp; with_reducible rfl) | rfl)); clear hO; (try clear w_); intro g_ w_ hO; simp only [Value.cells] at hO)
    | ((first | refine own_load_row rfl 23 _ rfl hO 0 _ _ rfl _ _ rfl _ rfl 3 ?_ ?_ ?_ _ Tryd.underlying23 rfl ?_ ?_ | refine own_load_row rfl 23 _ rfl hO 1 _ _ rfl _ _ rfl _ rfl 3 ?_ ?_ ?_ _ Tryd.underlying23 rfl ?_ ?_ | refine own_load_row rfl 23 _ rfl hO 2 _ _ rfl _ _ rfl _ rfl 3 ?_ ?_ ?_ _ Tryd.underlying23 rfl ?_ ?_ | refine own_load_row rfl 23 _ rfl hO 3 _ _ rfl _ _ rfl _ rfl 3 ?_ ?_ ?_ _ Tryd.underlying23 rfl ?_ ?_); rotate_left; (focus (simp only [Array.toList_extract, List.extract_toArray, List.extract_eq_take_drop, List.drop_zero, List.drop_succ_cons, List.take_succ_cons, List.take_zero, Nat.reduceAdd, Nat.reduceSub, Nat.zero_add, Nat.add_zero, Nat.add_sub_cancel_left, Nat.sub_zero, Nat.sub_self]; rfl)); (focus rfl); (focus kernel_rfl))
    | ((first | refine own_store rfl 23 _ _ rfl hO 0 _ _ ?_ rfl ?_ _ _ rfl _ rfl ?_ ?_ ?_ ?_ | refine own_store rfl 23 _ _ rfl hO 1 _ _ ?_ rfl ?_ _ _ rfl _ rfl ?_ ?_ ?_ ?_ | refine own_store rfl 23 _ _ rfl hO 2 _ _ ?_ rfl ?_ _ _ rfl _ rfl ?_ ?_ ?_ ?_ | refine own_store rfl 23 _ _ rfl hO 3 _ _ ?_ rfl ?_ _ _ rfl _ rfl ?_ ?_ ?_ ?_); rotate_left; (focus (first | (go_simp; done) | (go_simp; with_reducible rfl) | rfl)); (focus kernel_rfl); (focus kernel_rfl); (focus kernel_rfl); clear hO; (try clear w_); intro w_ hO; simp only [List.set_cons_zero, List.set_cons_succ, putAllA, Value.cells, List.setIfInBounds_toArray] at hO)
    | (refine own_alloc rfl 25 rfl hO _ rfl #[.string ⟨#[]⟩, .int .i64 0, .int .i64 0, .int .i64 0, .int .i64 0, .int .i64 0, .int .i64 0, .int .i64 0, .int .i64 0, .int .i64 0, .int .i64 0, .int .i64 0, .int .i64 0] (by kernel_rfl) ?_; clear hO; (try clear w_); intro g_ w_ hO)
    | (refine own_box rfl 25 _ rfl hO _ rfl ?_ ?_ ?_; rotate_left; (focus (first | (go_simp; done) | (go_simp; with_reducible rfl) | rfl)); clear hO; (try clear w_); intro g_ w_ hO; simp only [Value.cells] at hO)
    | ((first | refine own_load_row rfl 25 _ rfl hO 0 _ _ rfl _ _ rfl _ rfl 13 ?_ ?_ ?_ _ Tryd.underlying25 rfl ?_ ?_ | refine own_load_row rfl 25 _ rfl hO 1 _ _ rfl _ _ rfl _ rfl 13 ?_ ?_ ?_ _ Tryd.underlying25 rfl ?_ ?_ | refine own_load_row rfl 25 _ rfl hO 2 _ _ rfl _ _ rfl _ rfl 13 ?_ ?_ ?_ _ Tryd.underlying25 rfl ?_ ?_ | refine own_load_row rfl 25 _ rfl hO 3 _ _ rfl _ _ rfl _ rfl 13 ?_ ?_ ?_ _ Tryd.underlying25 rfl ?_ ?_); rotate_left; (focus (simp only [Array.toList_extract, List.extract_toArray, List.extract_eq_take_drop, List.drop_zero, List.drop_succ_cons, List.take_succ_cons, List.take_zero, Nat.reduceAdd, Nat.reduceSub, Nat.zero_add, Nat.add_zero, Nat.add_sub_cancel_left, Nat.sub_zero, Nat.sub_self]; rfl)); (focus rfl); (focus kernel_rfl))
    | ((first | refine own_store rfl 25 _ _ rfl hO 0 _ _ ?_ rfl ?_ _ _ rfl _ rfl ?_ ?_ ?_ ?_ | refine own_store rfl 25 _ _ rfl hO 1 _ _ ?_ rfl ?_ _ _ rfl _ rfl ?_ ?_ ?_ ?_ | refine own_store rfl 25 _ _ rfl hO 2 _ _ ?_ rfl ?_ _ _ rfl _ rfl ?_ ?_ ?_ ?_ | refine own_store rfl 25 _ _ rfl hO 3 _ _ ?_ rfl ?_ _ _ rfl _ rfl ?_ ?_ ?_ ?_); rotate_left; (focus (first | (go_simp; done) | (go_simp; with_reducible rfl) | rfl)); (focus kernel_rfl); (focus kernel_rfl); (focus kernel_rfl); clear hO; (try clear w_); intro w_ hO; simp only [List.set_cons_zero, List.set_cons_succ, putAllA, Value.cells, List.setIfInBounds_toArray] at hO)
    | (refine own_alloc rfl 27 rfl hO _ rfl #[.int .i64 0, .int .i64 0] (by kernel_rfl) ?_; clear hO; (try clear w_); intro g_ w_ hO)
    | (refine own_box rfl 27 _ rfl hO _ rfl ?_ ?_ ?_; rotate_left; (focus (first | (go_simp; done) | (go_simp; with_reducible rfl) | rfl)); clear hO; (try clear w_); intro g_ w_ hO; simp only [Value.cells] at hO)
    | ((first | refine own_load_row rfl 27 _ rfl hO 0 _ _ rfl _ _ rfl _ rfl 2 ?_ ?_ ?_ _ Tryd.underlying27 rfl ?_ ?_ | refine own_load_row rfl 27 _ rfl hO 1 _ _ rfl _ _ rfl _ rfl 2 ?_ ?_ ?_ _ Tryd.underlying27 rfl ?_ ?_ | refine own_load_row rfl 27 _ rfl hO 2 _ _ rfl _ _ rfl _ rfl 2 ?_ ?_ ?_ _ Tryd.underlying27 rfl ?_ ?_ | refine own_load_row rfl 27 _ rfl hO 3 _ _ rfl _ _ rfl _ rfl 2 ?_ ?_ ?_ _ Tryd.underlying27 rfl ?_ ?_); rotate_left; (focus (simp only [Array.toList_extract, List.extract_toArray, List.extract_eq_take_drop, List.drop_zero, List.drop_succ_cons, List.take_succ_cons, List.take_zero, Nat.reduceAdd, Nat.reduceSub, Nat.zero_add, Nat.add_zero, Nat.add_sub_cancel_left, Nat.sub_zero, Nat.sub_self]; rfl)); (focus rfl); (focus kernel_rfl))
    | ((first | refine own_store rfl 27 _ _ rfl hO 0 _ _ ?_ rfl ?_ _ _ rfl _ rfl ?_ ?_ ?_ ?_ | refine own_store rfl 27 _ _ rfl hO 1 _ _ ?_ rfl ?_ _ _ rfl _ rfl ?_ ?_ ?_ ?_ | refine own_store rfl 27 _ _ rfl hO 2 _ _ ?_ rfl ?_ _ _ rfl _ rfl ?_ ?_ ?_ ?_ | refine own_store rfl 27 _ _ rfl hO 3 _ _ ?_ rfl ?_ _ _ rfl _ rfl ?_ ?_ ?_ ?_); rotate_left; (focus (first | (go_simp; done) | (go_simp; with_reducible rfl) | rfl)); (focus kernel_rfl); (focus kernel_rfl); (focus kernel_rfl); clear hO; (try clear w_); intro w_ hO; simp only [List.set_cons_zero, List.set_cons_succ, putAllA, Value.cells, List.setIfInBounds_toArray] at hO)
    | (refine own_alloc rfl 3 rfl hO _ rfl #[.int .i64 0] (by kernel_rfl) ?_; clear hO; (try clear w_); intro g_ w_ hO)
    | (refine own_box rfl 3 _ rfl hO _ rfl ?_ ?_ ?_; rotate_left; (focus (first | (go_simp; done) | (go_simp; with_reducible rfl) | rfl)); clear hO; (try clear w_); intro g_ w_ hO; simp only [Value.cells] at hO)
    | ((first | refine own_load_one rfl 3 _ rfl hO 0 _ _ rfl _ _ rfl _ rfl ?_ ?_ _ Tryd.underlying3 rfl ?_ | refine own_load_one rfl 3 _ rfl hO 1 _ _ rfl _ _ rfl _ rfl ?_ ?_ _ Tryd.underlying3 rfl ?_ | refine own_load_one rfl 3 _ rfl hO 2 _ _ rfl _ _ rfl _ rfl ?_ ?_ _ Tryd.underlying3 rfl ?_ | refine own_load_one rfl 3 _ rfl hO 3 _ _ rfl _ _ rfl _ rfl ?_ ?_ _ Tryd.underlying3 rfl ?_); rotate_left; (focus (simp only [List.getElem?_toArray, List.getElem?_cons_zero, List.getElem?_cons_succ]; rfl)))
    | ((first | refine own_store rfl 3 _ _ rfl hO 0 _ _ ?_ rfl ?_ _ _ rfl _ rfl ?_ ?_ ?_ ?_ | refine own_store rfl 3 _ _ rfl hO 1 _ _ ?_ rfl ?_ _ _ rfl _ rfl ?_ ?_ ?_ ?_ | refine own_store rfl 3 _ _ rfl hO 2 _ _ ?_ rfl ?_ _ _ rfl _ rfl ?_ ?_ ?_ ?_ | refine own_store rfl 3 _ _ rfl hO 3 _ _ ?_ rfl ?_ _ _ rfl _ rfl ?_ ?_ ?_ ?_); rotate_left; (focus (first | (go_simp; done) | (go_simp; with_reducible rfl) | rfl)); (focus kernel_rfl); (focus kernel_rfl); (focus kernel_rfl); clear hO; (try clear w_); intro w_ hO; simp only [List.set_cons_zero, List.set_cons_succ, putAllA, Value.cells, List.setIfInBounds_toArray] at hO)
    | (go_at_call 26; (with_reducible refine (HV.out _).mono ?_); rintro e w_ ⟨rfl, hb_⟩; replace hO := Own.call hO hb_; clear hb_)
    )
  exact bodyPost_ret (results_cell_row Tryd.results10 _ _ g_ 23 _ (0, 0) _ rfl (hO.at 0 rfl) Tryd.underlying23 rfl (by kernel_rfl)) rfl ⟨rfl, hO.bel⟩

theorem rclamp_any (n lo hi : Int) (w : World) : Calls Tryd.prog 29 #[.int .i64 n, .int .i64 lo, .int .i64 hi] w fun e w' => e = .returned (.int .i64 (clampZ n lo hi)) ∧ Below w.heap.size w w' :=
  (sawmillref01_Clamp.calls 1 n lo hi _ w (rclamp_f 0 n lo hi)).mono fun _ _ h => ⟨h.1, h.2.below⟩

set_option maxHeartbeats 4000000 in
set_option maxRecDepth 100000 in
theorem rtick_still (a b s : Int) (n : ByteArray) (a0 a1 a2 a3 a4 a5 a6 a7 a8 a9 a10 a11 thick t d : Int) (w : World) (hc : Comp a b s a1 a2 a3 thick t d) :
    Calls Tryd.prog 10 #[.agg #[.int .i64 a, .int .i64 b, .int .i64 s], .agg #[.string n, .int .i64 a0, .int .i64 a1, .int .i64 a2, .int .i64 a3, .int .i64 a4, .int .i64 a5, .int .i64 a6, .int .i64 a7, .int .i64 a8, .int .i64 a9, .int .i64 a10, .int .i64 a11], .int .i64 thick, .agg #[.int .i64 t, .int .i64 d], .bool false] w fun e w' => e = .returned (.agg #[.int .i64 (surfZ a a1 t d false), .int .i64 (coreZ b (surfZ a a1 t d false) a2 t thick), .int .i64 (strZ s (surfZ a a1 t d false) (coreZ b (surfZ a a1 t d false) a2 t thick) a3)]) ∧ Below w.heap.size w w' := by
  have hcb : compB a b s a1 a2 a3 thick t d = true := decide_eq_true hc
  have HV : Hid (∀ w, Calls Tryd.prog 26 #[.agg #[.int .i64 a, .int .i64 b, .int .i64 s], .agg #[.string n, .int .i64 a0, .int .i64 a1, .int .i64 a2, .int .i64 a3, .int .i64 a4, .int .i64 a5, .int .i64 a6, .int .i64 a7, .int .i64 a8, .int .i64 a9, .int .i64 a10, .int .i64 a11], .int .i64 thick, .agg #[.int .i64 t, .int .i64 d]] w fun e w' => e = .returned (.bool true) ∧ Below w.heap.size w w') := Lib.hid (by
    intro w
    have h := rticks_f 1 a b s n a0 a1 a2 a3 a4 a5 a6 a7 a8 a9 a10 a11 thick t d
    rw [hcb] at h
    exact sawmillref36_Ticks.calls 2 a b s n a0 a1 a2 a3 a4 a5 a6 a7 a8 a9 a10 a11 thick t d true w h)
  obtain ⟨hn1, hn2, hn3⟩ := hc.nums
  clear hcb hc
  have ES : Hid (surfZ a a1 t d false = a) := Lib.hid (by simp [surfZ])
  have AB : 0 ≤ a ∧ a ≤ 20000 := by omega
  obtain ⟨u, hu⟩ : ∃ u, a2 * t = u := ⟨_, rfl⟩
  have u0 : 0 ≤ u := hu ▸ Int.mul_nonneg (by omega) (by omega)
  have u1 : u ≤ 10000 * 1200 := hu ▸ Int.mul_le_mul (by omega) (by omega) (by omega) (by omega)
  have s2 : IntKind.i64.wrap (a2 * t) = u := by rw [hu]; exact IntWalk.i64_in _ (by omega)
  obtain ⟨u', hu'⟩ : ∃ u', u * 25 = u' := ⟨_, rfl⟩
  have s3 : IntKind.i64.wrap (u * 25) = u' := by rw [hu']; exact IntWalk.i64_in _ (by omega)
  obtain ⟨h2, hh⟩ : ∃ h2, 200 * thick = h2 := ⟨_, rfl⟩
  have s4 : IntKind.i64.wrap (200 * thick) = h2 := by rw [hh]; exact IntWalk.i64_in _ (by omega)
  have h20 : 200 ≤ h2 := by omega
  have h21 : h2 ≤ 120000 := by omega
  have h2n : h2 ≠ 0 := by omega
  have v0 : 0 ≤ u' := by omega
  have v1 : u' ≤ 300000000 := by omega
  have s8 : IntKind.i64.wrap (Int.tdiv u' h2) = u' / h2 := by
    rw [Int.tdiv_eq_ediv_of_nonneg v0]
    have d0 : 0 ≤ u' / h2 := Int.ediv_nonneg v0 (by omega)
    have d1 : u' / h2 ≤ u' := Int.ediv_le_self _ v0
    exact IntWalk.i64_in _ (by omega)
  obtain ⟨j, hj⟩ : ∃ j, clampZ (u' / h2) 1 10000 = j := ⟨_, rfl⟩
  have jb := clampZ_bd (n := u' / h2) (lo := 1) (hi := 10000) (by omega)
  rw [hj] at jb
  have HJ : Hid (∀ w, Calls Tryd.prog 29 #[.int .i64 (u' / h2), .int .i64 1, .int .i64 10000] w fun r w' => r = .returned (.int .i64 j) ∧ Below w.heap.size w w') := Lib.hid (fun w => hj ▸ rclamp_any (u' / h2) 1 10000 w)
  obtain ⟨B, hB⟩ : ∃ B, towardZ b a j = B := ⟨_, rfl⟩
  have Bb := towardZ_bd b a j jb.2
  rw [hB] at Bb
  have HB : Hid (∀ w, Calls Tryd.prog 27 #[.int .i64 b, .int .i64 a, .int .i64 j] w fun r w' => r = .returned (.int .i64 B) ∧ Below w.heap.size w w') := Lib.hid (fun w => hB ▸ rtoward_any b a j w (by omega) (by omega) (by omega) (by omega) (by omega) (by omega))
  have EC : Hid (coreZ b a a2 t thick = B) := Lib.hid (by
    unfold coreZ
    rw [hu, hu', hh, hj, hB])
  have BB : 0 ≤ B ∧ B ≤ 20000 := by omega
  obtain ⟨x, hx⟩ : ∃ x, B - a = x := ⟨_, rfl⟩
  have s5 : IntKind.i64.wrap (B - a) = x := by rw [hx]; exact IntWalk.i64_in _ (by omega)
  obtain ⟨y, hy⟩ : ∃ y, x - a3 = y := ⟨_, rfl⟩
  have s6 : IntKind.i64.wrap (x - a3) = y := by rw [hy]; exact IntWalk.i64_in _ (by omega)
  obtain ⟨v, hv⟩ : ∃ v, (if 0 < y then y else 0) = v := ⟨_, rfl⟩
  have hv' : 0 ≤ v ∧ v ≤ 40000 := by rw [← hv]; split <;> omega
  obtain ⟨m, hm⟩ : ∃ m, s + v = m := ⟨_, rfl⟩
  have s7 : IntKind.i64.wrap (s + v) = m := by rw [hm]; exact IntWalk.i64_in _ (by omega)
  obtain ⟨z, hz⟩ : ∃ z, (if 1099511627776 < m then 1099511627776 else m) = z := ⟨_, rfl⟩
  have EZ : Hid (strZ s a B a3 = z) := Lib.hid (by
    unfold strZ
    rw [hx, hy]
    have : (if 0 ≤ y then y else 0) = v := by rw [← hv]; split <;> split <;> omega
    rw [this, hm, ← hz]
    split <;> split <;> omega)
  clear hm hv' hx hy hB hj hh hu hu' Bb jb hn1 hn2 hn3
  have hO := Own.nil w
  go_enter Tryd.func10, Tryd.ntmps10
  go_upto_region 5 with (first
    | (refine own_alloc rfl 23 rfl hO _ rfl #[.int .i64 0, .int .i64 0, .int .i64 0] (by kernel_rfl) ?_; clear hO; (try clear w_); intro g_ w_ hO)
    | (refine own_box rfl 23 _ rfl hO _ rfl ?_ ?_ ?_; rotate_left; (focus (first | (go_simp; done) | (go_simp; with_reducible rfl) | rfl)); clear hO; (try clear w_); intro g_ w_ hO; simp only [Value.cells] at hO)
    | ((first | refine own_load_row rfl 23 _ rfl hO 0 _ _ rfl _ _ rfl _ rfl 3 ?_ ?_ ?_ _ Tryd.underlying23 rfl ?_ ?_ | refine own_load_row rfl 23 _ rfl hO 1 _ _ rfl _ _ rfl _ rfl 3 ?_ ?_ ?_ _ Tryd.underlying23 rfl ?_ ?_ | refine own_load_row rfl 23 _ rfl hO 2 _ _ rfl _ _ rfl _ rfl 3 ?_ ?_ ?_ _ Tryd.underlying23 rfl ?_ ?_ | refine own_load_row rfl 23 _ rfl hO 3 _ _ rfl _ _ rfl _ rfl 3 ?_ ?_ ?_ _ Tryd.underlying23 rfl ?_ ?_); rotate_left; (focus (simp only [Array.toList_extract, List.extract_toArray, List.extract_eq_take_drop, List.drop_zero, List.drop_succ_cons, List.take_succ_cons, List.take_zero, Nat.reduceAdd, Nat.reduceSub, Nat.zero_add, Nat.add_zero, Nat.add_sub_cancel_left, Nat.sub_zero, Nat.sub_self]; rfl)); (focus rfl); (focus kernel_rfl))
    | ((first | refine own_store rfl 23 _ _ rfl hO 0 _ _ ?_ rfl ?_ _ _ rfl _ rfl ?_ ?_ ?_ ?_ | refine own_store rfl 23 _ _ rfl hO 1 _ _ ?_ rfl ?_ _ _ rfl _ rfl ?_ ?_ ?_ ?_ | refine own_store rfl 23 _ _ rfl hO 2 _ _ ?_ rfl ?_ _ _ rfl _ rfl ?_ ?_ ?_ ?_ | refine own_store rfl 23 _ _ rfl hO 3 _ _ ?_ rfl ?_ _ _ rfl _ rfl ?_ ?_ ?_ ?_); rotate_left; (focus (first | (go_simp; done) | (go_simp; with_reducible rfl) | rfl)); (focus kernel_rfl); (focus kernel_rfl); (focus kernel_rfl); clear hO; (try clear w_); intro w_ hO; simp only [List.set_cons_zero, List.set_cons_succ, putAllA, Value.cells, List.setIfInBounds_toArray] at hO)
    | (refine own_alloc rfl 25 rfl hO _ rfl #[.string ⟨#[]⟩, .int .i64 0, .int .i64 0, .int .i64 0, .int .i64 0, .int .i64 0, .int .i64 0, .int .i64 0, .int .i64 0, .int .i64 0, .int .i64 0, .int .i64 0, .int .i64 0] (by kernel_rfl) ?_; clear hO; (try clear w_); intro g_ w_ hO)
    | (refine own_box rfl 25 _ rfl hO _ rfl ?_ ?_ ?_; rotate_left; (focus (first | (go_simp; done) | (go_simp; with_reducible rfl) | rfl)); clear hO; (try clear w_); intro g_ w_ hO; simp only [Value.cells] at hO)
    | ((first | refine own_load_row rfl 25 _ rfl hO 0 _ _ rfl _ _ rfl _ rfl 13 ?_ ?_ ?_ _ Tryd.underlying25 rfl ?_ ?_ | refine own_load_row rfl 25 _ rfl hO 1 _ _ rfl _ _ rfl _ rfl 13 ?_ ?_ ?_ _ Tryd.underlying25 rfl ?_ ?_ | refine own_load_row rfl 25 _ rfl hO 2 _ _ rfl _ _ rfl _ rfl 13 ?_ ?_ ?_ _ Tryd.underlying25 rfl ?_ ?_ | refine own_load_row rfl 25 _ rfl hO 3 _ _ rfl _ _ rfl _ rfl 13 ?_ ?_ ?_ _ Tryd.underlying25 rfl ?_ ?_); rotate_left; (focus (simp only [Array.toList_extract, List.extract_toArray, List.extract_eq_take_drop, List.drop_zero, List.drop_succ_cons, List.take_succ_cons, List.take_zero, Nat.reduceAdd, Nat.reduceSub, Nat.zero_add, Nat.add_zero, Nat.add_sub_cancel_left, Nat.sub_zero, Nat.sub_self]; rfl)); (focus rfl); (focus kernel_rfl))
    | ((first | refine own_store rfl 25 _ _ rfl hO 0 _ _ ?_ rfl ?_ _ _ rfl _ rfl ?_ ?_ ?_ ?_ | refine own_store rfl 25 _ _ rfl hO 1 _ _ ?_ rfl ?_ _ _ rfl _ rfl ?_ ?_ ?_ ?_ | refine own_store rfl 25 _ _ rfl hO 2 _ _ ?_ rfl ?_ _ _ rfl _ rfl ?_ ?_ ?_ ?_ | refine own_store rfl 25 _ _ rfl hO 3 _ _ ?_ rfl ?_ _ _ rfl _ rfl ?_ ?_ ?_ ?_); rotate_left; (focus (first | (go_simp; done) | (go_simp; with_reducible rfl) | rfl)); (focus kernel_rfl); (focus kernel_rfl); (focus kernel_rfl); clear hO; (try clear w_); intro w_ hO; simp only [List.set_cons_zero, List.set_cons_succ, putAllA, Value.cells, List.setIfInBounds_toArray] at hO)
    | (refine own_alloc rfl 27 rfl hO _ rfl #[.int .i64 0, .int .i64 0] (by kernel_rfl) ?_; clear hO; (try clear w_); intro g_ w_ hO)
    | (refine own_box rfl 27 _ rfl hO _ rfl ?_ ?_ ?_; rotate_left; (focus (first | (go_simp; done) | (go_simp; with_reducible rfl) | rfl)); clear hO; (try clear w_); intro g_ w_ hO; simp only [Value.cells] at hO)
    | ((first | refine own_load_row rfl 27 _ rfl hO 0 _ _ rfl _ _ rfl _ rfl 2 ?_ ?_ ?_ _ Tryd.underlying27 rfl ?_ ?_ | refine own_load_row rfl 27 _ rfl hO 1 _ _ rfl _ _ rfl _ rfl 2 ?_ ?_ ?_ _ Tryd.underlying27 rfl ?_ ?_ | refine own_load_row rfl 27 _ rfl hO 2 _ _ rfl _ _ rfl _ rfl 2 ?_ ?_ ?_ _ Tryd.underlying27 rfl ?_ ?_ | refine own_load_row rfl 27 _ rfl hO 3 _ _ rfl _ _ rfl _ rfl 2 ?_ ?_ ?_ _ Tryd.underlying27 rfl ?_ ?_); rotate_left; (focus (simp only [Array.toList_extract, List.extract_toArray, List.extract_eq_take_drop, List.drop_zero, List.drop_succ_cons, List.take_succ_cons, List.take_zero, Nat.reduceAdd, Nat.reduceSub, Nat.zero_add, Nat.add_zero, Nat.add_sub_cancel_left, Nat.sub_zero, Nat.sub_self]; rfl)); (focus rfl); (focus kernel_rfl))
    | ((first | refine own_store rfl 27 _ _ rfl hO 0 _ _ ?_ rfl ?_ _ _ rfl _ rfl ?_ ?_ ?_ ?_ | refine own_store rfl 27 _ _ rfl hO 1 _ _ ?_ rfl ?_ _ _ rfl _ rfl ?_ ?_ ?_ ?_ | refine own_store rfl 27 _ _ rfl hO 2 _ _ ?_ rfl ?_ _ _ rfl _ rfl ?_ ?_ ?_ ?_ | refine own_store rfl 27 _ _ rfl hO 3 _ _ ?_ rfl ?_ _ _ rfl _ rfl ?_ ?_ ?_ ?_); rotate_left; (focus (first | (go_simp; done) | (go_simp; with_reducible rfl) | rfl)); (focus kernel_rfl); (focus kernel_rfl); (focus kernel_rfl); clear hO; (try clear w_); intro w_ hO; simp only [List.set_cons_zero, List.set_cons_succ, putAllA, Value.cells, List.setIfInBounds_toArray] at hO)
    | (refine own_alloc rfl 3 rfl hO _ rfl #[.int .i64 0] (by kernel_rfl) ?_; clear hO; (try clear w_); intro g_ w_ hO)
    | (refine own_box rfl 3 _ rfl hO _ rfl ?_ ?_ ?_; rotate_left; (focus (first | (go_simp; done) | (go_simp; with_reducible rfl) | rfl)); clear hO; (try clear w_); intro g_ w_ hO; simp only [Value.cells] at hO)
    | ((first | refine own_load_one rfl 3 _ rfl hO 0 _ _ rfl _ _ rfl _ rfl ?_ ?_ _ Tryd.underlying3 rfl ?_ | refine own_load_one rfl 3 _ rfl hO 1 _ _ rfl _ _ rfl _ rfl ?_ ?_ _ Tryd.underlying3 rfl ?_ | refine own_load_one rfl 3 _ rfl hO 2 _ _ rfl _ _ rfl _ rfl ?_ ?_ _ Tryd.underlying3 rfl ?_ | refine own_load_one rfl 3 _ rfl hO 3 _ _ rfl _ _ rfl _ rfl ?_ ?_ _ Tryd.underlying3 rfl ?_); rotate_left; (focus (simp only [List.getElem?_toArray, List.getElem?_cons_zero, List.getElem?_cons_succ]; rfl)))
    | ((first | refine own_store rfl 3 _ _ rfl hO 0 _ _ ?_ rfl ?_ _ _ rfl _ rfl ?_ ?_ ?_ ?_ | refine own_store rfl 3 _ _ rfl hO 1 _ _ ?_ rfl ?_ _ _ rfl _ rfl ?_ ?_ ?_ ?_ | refine own_store rfl 3 _ _ rfl hO 2 _ _ ?_ rfl ?_ _ _ rfl _ rfl ?_ ?_ ?_ ?_ | refine own_store rfl 3 _ _ rfl hO 3 _ _ ?_ rfl ?_ _ _ rfl _ rfl ?_ ?_ ?_ ?_); rotate_left; (focus (first | (go_simp; done) | (go_simp; with_reducible rfl) | rfl)); (focus kernel_rfl); (focus kernel_rfl); (focus kernel_rfl); clear hO; (try clear w_); intro w_ hO; simp only [List.set_cons_zero, List.set_cons_succ, putAllA, Value.cells, List.setIfInBounds_toArray] at hO)
    | (go_at_call 26; (with_reducible refine (HV.out _).mono ?_); rintro e w_ ⟨rfl, hb_⟩; replace hO := Own.call hO hb_; clear hb_)
    )
  (try simp only [Act.put, List.setIfInBounds_toArray, List.set_cons_zero, List.set_cons_succ])
  rename_i gc gs gl _ _ _
  refine start_ (n := 17) (S := fun w' => Own w [(g_, 23, #[.int .i64 0, .int .i64 0, .int .i64 0]), (gl, 27, #[.int .i64 t, .int .i64 d]), (gs, 25, #[.string n, .int .i64 a0, .int .i64 a1, .int .i64 a2, .int .i64 a3, .int .i64 a4, .int .i64 a5, .int .i64 a6, .int .i64 a7, .int .i64 a8, .int .i64 a9, .int .i64 a10, .int .i64 a11]), (gc, 23, #[.int .i64 a, .int .i64 b, .int .i64 s])] w') (ds := [16]) #[false, false, false, false, false, false, false, false, false, false, false, false, false, false, false, false, false] (by kernel_rfl) rfl rfl (Own.drew hO) (fun hS => ?_)
  clear hO
  have hO := hS
  refine pure_ (i := 0) (N := some 32) (v := ?_) (a' := ?_) #[true, false, false, false, false, false, false, false, false, false, false, false, false, false, false, false, false] rfl rfl (by kernel_rfl) (fun _ _ _ h => h) (Or.inl ⟨by rfl, ?_⟩) ?_ ?_
  rotate_left
  · intro w'
    go_simp
    with_reducible rfl
  rotate_left
  · simp only [Act.put, List.setIfInBounds_toArray, List.set_cons_zero, List.set_cons_succ]
    rfl
  first
    | (refine take_ (i := 1) (N := some 33) (a' := ?_) #[true, true, false, false, false, false, false, false, false, false, false, false, false, false, false, false, false] rfl rfl (by kernel_rfl) (fun _ _ _ h => h) (yOne hS ?_ 3 _ rfl 0 _ _ rfl _ _ rfl ?_ ?_ _ Tryd.underlying3 rfl) hS ?_ ?_; (focus rfl); rotate_left; (focus (simp only [List.getElem?_toArray, List.getElem?_cons_zero, List.getElem?_cons_succ]; rfl)); rotate_left; (focus (simp only [Act.put, List.setIfInBounds_toArray, List.set_cons_zero, List.set_cons_succ]; rfl)))
    | (refine take_ (i := 1) (N := some 33) (a' := ?_) #[true, true, false, false, false, false, false, false, false, false, false, false, false, false, false, false, false] rfl rfl (by kernel_rfl) (fun _ _ _ h => h) (yOne hS ?_ 3 _ rfl 1 _ _ rfl _ _ rfl ?_ ?_ _ Tryd.underlying3 rfl) hS ?_ ?_; (focus rfl); rotate_left; (focus (simp only [List.getElem?_toArray, List.getElem?_cons_zero, List.getElem?_cons_succ]; rfl)); rotate_left; (focus (simp only [Act.put, List.setIfInBounds_toArray, List.set_cons_zero, List.set_cons_succ]; rfl)))
    | (refine take_ (i := 1) (N := some 33) (a' := ?_) #[true, true, false, false, false, false, false, false, false, false, false, false, false, false, false, false, false] rfl rfl (by kernel_rfl) (fun _ _ _ h => h) (yOne hS ?_ 3 _ rfl 2 _ _ rfl _ _ rfl ?_ ?_ _ Tryd.underlying3 rfl) hS ?_ ?_; (focus rfl); rotate_left; (focus (simp only [List.getElem?_toArray, List.getElem?_cons_zero, List.getElem?_cons_succ]; rfl)); rotate_left; (focus (simp only [Act.put, List.setIfInBounds_toArray, List.set_cons_zero, List.set_cons_succ]; rfl)))
    | (refine take_ (i := 1) (N := some 33) (a' := ?_) #[true, true, false, false, false, false, false, false, false, false, false, false, false, false, false, false, false] rfl rfl (by kernel_rfl) (fun _ _ _ h => h) (yOne hS ?_ 3 _ rfl 3 _ _ rfl _ _ rfl ?_ ?_ _ Tryd.underlying3 rfl) hS ?_ ?_; (focus rfl); rotate_left; (focus (simp only [List.getElem?_toArray, List.getElem?_cons_zero, List.getElem?_cons_succ]; rfl)); rotate_left; (focus (simp only [Act.put, List.setIfInBounds_toArray, List.set_cons_zero, List.set_cons_succ]; rfl)))
  refine pure_ (i := 2) (N := some 34) (v := ?_) (a' := ?_) #[true, true, true, false, false, false, false, false, false, false, false, false, false, false, false, false, false] rfl rfl (by kernel_rfl) (fun _ _ _ h => h) (Or.inl ⟨by rfl, ?_⟩) ?_ ?_
  rotate_left
  · intro w'
    go_simp
    with_reducible rfl
  rotate_left
  · simp only [Act.put, List.setIfInBounds_toArray, List.set_cons_zero, List.set_cons_succ]
    rfl
  first
    | (refine take_ (i := 3) (N := some 35) (a' := ?_) #[true, true, true, true, false, false, false, false, false, false, false, false, false, false, false, false, false] rfl rfl (by kernel_rfl) (fun _ _ _ h => h) (yOne hS ?_ 3 _ rfl 0 _ _ rfl _ _ rfl ?_ ?_ _ Tryd.underlying3 rfl) hS ?_ ?_; (focus rfl); rotate_left; (focus (simp only [List.getElem?_toArray, List.getElem?_cons_zero, List.getElem?_cons_succ]; rfl)); rotate_left; (focus (simp only [Act.put, List.setIfInBounds_toArray, List.set_cons_zero, List.set_cons_succ]; rfl)))
    | (refine take_ (i := 3) (N := some 35) (a' := ?_) #[true, true, true, true, false, false, false, false, false, false, false, false, false, false, false, false, false] rfl rfl (by kernel_rfl) (fun _ _ _ h => h) (yOne hS ?_ 3 _ rfl 1 _ _ rfl _ _ rfl ?_ ?_ _ Tryd.underlying3 rfl) hS ?_ ?_; (focus rfl); rotate_left; (focus (simp only [List.getElem?_toArray, List.getElem?_cons_zero, List.getElem?_cons_succ]; rfl)); rotate_left; (focus (simp only [Act.put, List.setIfInBounds_toArray, List.set_cons_zero, List.set_cons_succ]; rfl)))
    | (refine take_ (i := 3) (N := some 35) (a' := ?_) #[true, true, true, true, false, false, false, false, false, false, false, false, false, false, false, false, false] rfl rfl (by kernel_rfl) (fun _ _ _ h => h) (yOne hS ?_ 3 _ rfl 2 _ _ rfl _ _ rfl ?_ ?_ _ Tryd.underlying3 rfl) hS ?_ ?_; (focus rfl); rotate_left; (focus (simp only [List.getElem?_toArray, List.getElem?_cons_zero, List.getElem?_cons_succ]; rfl)); rotate_left; (focus (simp only [Act.put, List.setIfInBounds_toArray, List.set_cons_zero, List.set_cons_succ]; rfl)))
    | (refine take_ (i := 3) (N := some 35) (a' := ?_) #[true, true, true, true, false, false, false, false, false, false, false, false, false, false, false, false, false] rfl rfl (by kernel_rfl) (fun _ _ _ h => h) (yOne hS ?_ 3 _ rfl 3 _ _ rfl _ _ rfl ?_ ?_ _ Tryd.underlying3 rfl) hS ?_ ?_; (focus rfl); rotate_left; (focus (simp only [List.getElem?_toArray, List.getElem?_cons_zero, List.getElem?_cons_succ]; rfl)); rotate_left; (focus (simp only [Act.put, List.setIfInBounds_toArray, List.set_cons_zero, List.set_cons_succ]; rfl)))
  refine pure_ (i := 4) (N := some 36) (v := ?_) (a' := ?_) #[true, true, true, true, true, false, false, false, false, false, false, false, false, false, false, false, false] rfl rfl (by kernel_rfl) (fun _ _ _ h => h) (Or.inl ⟨by rfl, ?_⟩) ?_ ?_
  rotate_left
  · intro w'
    go_simp
    with_reducible rfl
  rotate_left
  · simp only [Act.put, List.setIfInBounds_toArray, List.set_cons_zero, List.set_cons_succ]
    rfl
  first
    | (refine take_ (i := 5) (N := some 37) (a' := ?_) #[true, true, true, true, true, true, false, false, false, false, false, false, false, false, false, false, false] rfl rfl (by kernel_rfl) (fun _ _ _ h => h) (yOne hS ?_ 3 _ rfl 0 _ _ rfl _ _ rfl ?_ ?_ _ Tryd.underlying3 rfl) hS ?_ ?_; (focus rfl); rotate_left; (focus (simp only [List.getElem?_toArray, List.getElem?_cons_zero, List.getElem?_cons_succ]; rfl)); rotate_left; (focus (simp only [Act.put, List.setIfInBounds_toArray, List.set_cons_zero, List.set_cons_succ]; rfl)))
    | (refine take_ (i := 5) (N := some 37) (a' := ?_) #[true, true, true, true, true, true, false, false, false, false, false, false, false, false, false, false, false] rfl rfl (by kernel_rfl) (fun _ _ _ h => h) (yOne hS ?_ 3 _ rfl 1 _ _ rfl _ _ rfl ?_ ?_ _ Tryd.underlying3 rfl) hS ?_ ?_; (focus rfl); rotate_left; (focus (simp only [List.getElem?_toArray, List.getElem?_cons_zero, List.getElem?_cons_succ]; rfl)); rotate_left; (focus (simp only [Act.put, List.setIfInBounds_toArray, List.set_cons_zero, List.set_cons_succ]; rfl)))
    | (refine take_ (i := 5) (N := some 37) (a' := ?_) #[true, true, true, true, true, true, false, false, false, false, false, false, false, false, false, false, false] rfl rfl (by kernel_rfl) (fun _ _ _ h => h) (yOne hS ?_ 3 _ rfl 2 _ _ rfl _ _ rfl ?_ ?_ _ Tryd.underlying3 rfl) hS ?_ ?_; (focus rfl); rotate_left; (focus (simp only [List.getElem?_toArray, List.getElem?_cons_zero, List.getElem?_cons_succ]; rfl)); rotate_left; (focus (simp only [Act.put, List.setIfInBounds_toArray, List.set_cons_zero, List.set_cons_succ]; rfl)))
    | (refine take_ (i := 5) (N := some 37) (a' := ?_) #[true, true, true, true, true, true, false, false, false, false, false, false, false, false, false, false, false] rfl rfl (by kernel_rfl) (fun _ _ _ h => h) (yOne hS ?_ 3 _ rfl 3 _ _ rfl _ _ rfl ?_ ?_ _ Tryd.underlying3 rfl) hS ?_ ?_; (focus rfl); rotate_left; (focus (simp only [List.getElem?_toArray, List.getElem?_cons_zero, List.getElem?_cons_succ]; rfl)); rotate_left; (focus (simp only [Act.put, List.setIfInBounds_toArray, List.set_cons_zero, List.set_cons_succ]; rfl)))
  refine pure_ (i := 6) (N := some 38) (v := ?_) (a' := ?_) #[true, true, true, true, true, true, true, false, false, false, false, false, false, false, false, false, false] rfl rfl (by kernel_rfl) (fun _ _ _ h => h) (Or.inl ⟨by rfl, ?_⟩) ?_ ?_
  rotate_left
  · intro w'
    go_simp
    with_reducible rfl
  rotate_left
  · simp only [Act.put, List.setIfInBounds_toArray, List.set_cons_zero, List.set_cons_succ]
    rfl
  first
    | (refine take_ (i := 7) (N := some 39) (a' := ?_) #[true, true, true, true, true, true, true, true, false, false, false, false, false, false, false, false, false] rfl rfl (by kernel_rfl) (fun _ _ _ h => h) (yOne hS ?_ 3 _ rfl 0 _ _ rfl _ _ rfl ?_ ?_ _ Tryd.underlying3 rfl) hS ?_ ?_; (focus rfl); rotate_left; (focus (simp only [List.getElem?_toArray, List.getElem?_cons_zero, List.getElem?_cons_succ]; rfl)); rotate_left; (focus (simp only [Act.put, List.setIfInBounds_toArray, List.set_cons_zero, List.set_cons_succ]; rfl)))
    | (refine take_ (i := 7) (N := some 39) (a' := ?_) #[true, true, true, true, true, true, true, true, false, false, false, false, false, false, false, false, false] rfl rfl (by kernel_rfl) (fun _ _ _ h => h) (yOne hS ?_ 3 _ rfl 1 _ _ rfl _ _ rfl ?_ ?_ _ Tryd.underlying3 rfl) hS ?_ ?_; (focus rfl); rotate_left; (focus (simp only [List.getElem?_toArray, List.getElem?_cons_zero, List.getElem?_cons_succ]; rfl)); rotate_left; (focus (simp only [Act.put, List.setIfInBounds_toArray, List.set_cons_zero, List.set_cons_succ]; rfl)))
    | (refine take_ (i := 7) (N := some 39) (a' := ?_) #[true, true, true, true, true, true, true, true, false, false, false, false, false, false, false, false, false] rfl rfl (by kernel_rfl) (fun _ _ _ h => h) (yOne hS ?_ 3 _ rfl 2 _ _ rfl _ _ rfl ?_ ?_ _ Tryd.underlying3 rfl) hS ?_ ?_; (focus rfl); rotate_left; (focus (simp only [List.getElem?_toArray, List.getElem?_cons_zero, List.getElem?_cons_succ]; rfl)); rotate_left; (focus (simp only [Act.put, List.setIfInBounds_toArray, List.set_cons_zero, List.set_cons_succ]; rfl)))
    | (refine take_ (i := 7) (N := some 39) (a' := ?_) #[true, true, true, true, true, true, true, true, false, false, false, false, false, false, false, false, false] rfl rfl (by kernel_rfl) (fun _ _ _ h => h) (yOne hS ?_ 3 _ rfl 3 _ _ rfl _ _ rfl ?_ ?_ _ Tryd.underlying3 rfl) hS ?_ ?_; (focus rfl); rotate_left; (focus (simp only [List.getElem?_toArray, List.getElem?_cons_zero, List.getElem?_cons_succ]; rfl)); rotate_left; (focus (simp only [Act.put, List.setIfInBounds_toArray, List.set_cons_zero, List.set_cons_succ]; rfl)))
  refine pure_ (i := 8) (N := some 40) (v := ?_) (a' := ?_) #[true, true, true, true, true, true, true, true, true, false, false, false, false, false, false, false, false] rfl rfl (by kernel_rfl) (fun _ _ _ h => h) (Or.inl ⟨by rfl, ?_⟩) ?_ ?_
  rotate_left
  · intro w'
    go_simp
    with_reducible rfl
  rotate_left
  · simp only [Act.put, List.setIfInBounds_toArray, List.set_cons_zero, List.set_cons_succ]
    rfl
  refine pure_ (i := 9) (N := some 41) (v := ?_) (a' := ?_) #[true, true, true, true, true, true, true, true, true, true, false, false, false, false, false, false, false] rfl rfl (by kernel_rfl) (fun _ _ _ h => h) (Or.inl ⟨by rfl, ?_⟩) ?_ ?_
  rotate_left
  · intro w'
    go_simp
    with_reducible rfl
  rotate_left
  · simp only [Act.put, List.setIfInBounds_toArray, List.set_cons_zero, List.set_cons_succ]
    rfl
  refine pure_ (i := 10) (N := some 42) (v := ?_) (a' := ?_) #[true, true, true, true, true, true, true, true, true, true, true, false, false, false, false, false, false] rfl rfl (by kernel_rfl) (fun _ _ _ h => h) (Or.inl ⟨by rfl, ?_⟩) ?_ ?_
  rotate_left
  · intro w'
    go_simp
    with_reducible rfl
  rotate_left
  · simp only [Act.put, List.setIfInBounds_toArray, List.set_cons_zero, List.set_cons_succ]
    rfl
  refine pure_ (i := 11) (N := some 43) (v := ?_) (a' := ?_) #[true, true, true, true, true, true, true, true, true, true, true, true, false, false, false, false, false] rfl rfl (by kernel_rfl) (fun _ _ _ h => h) (Or.inl ⟨by rfl, ?_⟩) ?_ ?_
  rotate_left
  · intro w'
    go_simp
    with_reducible rfl
  rotate_left
  · simp only [Act.put, List.setIfInBounds_toArray, List.set_cons_zero, List.set_cons_succ]
    rfl
  refine pure_ (i := 12) (N := some 44) (v := ?_) (a' := ?_) #[true, true, true, true, true, true, true, true, true, true, true, true, true, false, false, false, false] rfl rfl (by kernel_rfl) (fun _ _ _ h => h) (Or.inl ⟨by rfl, ?_⟩) ?_ ?_
  rotate_left
  · intro w'
    go_simp
    with_reducible rfl
  rotate_left
  · simp only [Act.put, List.setIfInBounds_toArray, List.set_cons_zero, List.set_cons_succ]
    rfl
  refine one_ (i := 13) (N := some 45) #[true, true, true, true, true, true, true, true, true, true, true, true, true, true, false, false, false] rfl rfl (by kernel_rfl) (by decide) (fun K hK => ?_)
  refine goes_ Tryd.func29 (by kernel_rfl) rfl #[.int .i64 (u' / h2), .int .i64 1, .int .i64 10000] (by rfl) rfl rfl (by (try simp only [List.map_toArray, List.map_cons, List.map_nil]); first | done | rfl) ?_
  with_reducible refine (HJ.out _).mono ?_
  rintro e w_ ⟨rfl, hb_⟩
  refine ⟨_, rfl, ?_⟩
  replace hO := Own.call hO hb_
  clear hb_
  refine hK.out _ _ (hO) (fun hS => ?_)
  clear hK K
  refine norm_ (a' := ?_) ?_ ?_
  rotate_left
  · show Act.put _ (some 45) _ = _
    simp only [Act.put, List.setIfInBounds_toArray, List.set_cons_zero, List.set_cons_succ]
    rfl
  refine one_ (i := 14) (N := some 46) #[true, true, true, true, true, true, true, true, true, true, true, true, true, true, true, false, false] rfl rfl (by kernel_rfl) (by decide) (fun K hK => ?_)
  refine goes_ Tryd.func27 (by kernel_rfl) rfl #[.int .i64 b, .int .i64 a, .int .i64 j] (by rfl) rfl rfl (by (try simp only [List.map_toArray, List.map_cons, List.map_nil]); first | done | rfl) ?_
  with_reducible refine (HB.out _).mono ?_
  rintro e w_ ⟨rfl, hb_⟩
  refine ⟨_, rfl, ?_⟩
  replace hO := Own.call hO hb_
  clear hb_
  refine hK.out _ _ (hO) (fun hS => ?_)
  clear hK K
  refine norm_ (a' := ?_) ?_ ?_
  rotate_left
  · show Act.put _ (some 46) _ = _
    simp only [Act.put, List.setIfInBounds_toArray, List.set_cons_zero, List.set_cons_succ]
    rfl
  refine pure_ (i := 15) (N := some 47) (v := ?_) (a' := ?_) #[true, true, true, true, true, true, true, true, true, true, true, true, true, true, true, true, false] rfl rfl (by kernel_rfl) (fun _ _ _ h => h) (Or.inl ⟨by rfl, ?_⟩) ?_ ?_
  rotate_left
  · intro w'
    go_simp
    with_reducible rfl
  rotate_left
  · simp only [Act.put, List.setIfInBounds_toArray, List.set_cons_zero, List.set_cons_succ]
    rfl
  refine last_ (i := 16) (N := none) #[true, true, true, true, true, true, true, true, true, true, true, true, true, true, true, true, true] rfl rfl (by kernel_rfl) (by decide) (fun K hK => ?_)
  refine rStore (by rfl) rfl 3 _ _ rfl hO 3 _ _ ?_ rfl ?_ _ _ rfl ?_ ?_ ?_ ?_
  rotate_left
  · first | (go_simp; done) | (go_simp; with_reducible rfl) | rfl
  · kernel_rfl
  · kernel_rfl
  · kernel_rfl
  clear hO
  intro w_ hO
  simp only [List.set_cons_zero, List.set_cons_succ, putAllA, Value.cells, List.setIfInBounds_toArray] at hO
  refine hK.out _ _ ?_
  clear hK K
  refine norm_ (a' := ?_) ?_ ?_
  rotate_left
  · rfl
  refine done_ (by kernel_rfl) ?_
  go_wp2_with (first
  | (refine own_alloc rfl 23 rfl hO _ rfl #[.int .i64 0, .int .i64 0, .int .i64 0] (by kernel_rfl) ?_; clear hO; (try clear w_); intro g_ w_ hO)
  | (refine own_box rfl 23 _ rfl hO _ rfl ?_ ?_ ?_; rotate_left; (focus (first | (go_simp; done) | (go_simp; with_reducible rfl) | rfl)); clear hO; (try clear w_); intro g_ w_ hO; simp only [Value.cells] at hO)
  | ((first | refine own_load_row rfl 23 _ rfl hO 0 _ _ rfl _ _ rfl _ rfl 3 ?_ ?_ ?_ _ Tryd.underlying23 rfl ?_ ?_ | refine own_load_row rfl 23 _ rfl hO 1 _ _ rfl _ _ rfl _ rfl 3 ?_ ?_ ?_ _ Tryd.underlying23 rfl ?_ ?_ | refine own_load_row rfl 23 _ rfl hO 2 _ _ rfl _ _ rfl _ rfl 3 ?_ ?_ ?_ _ Tryd.underlying23 rfl ?_ ?_ | refine own_load_row rfl 23 _ rfl hO 3 _ _ rfl _ _ rfl _ rfl 3 ?_ ?_ ?_ _ Tryd.underlying23 rfl ?_ ?_); rotate_left; (focus (simp only [Array.toList_extract, List.extract_toArray, List.extract_eq_take_drop, List.drop_zero, List.drop_succ_cons, List.take_succ_cons, List.take_zero, Nat.reduceAdd, Nat.reduceSub, Nat.zero_add, Nat.add_zero, Nat.add_sub_cancel_left, Nat.sub_zero, Nat.sub_self]; rfl)); (focus rfl); (focus kernel_rfl))
  | ((first | refine own_store rfl 23 _ _ rfl hO 0 _ _ ?_ rfl ?_ _ _ rfl _ rfl ?_ ?_ ?_ ?_ | refine own_store rfl 23 _ _ rfl hO 1 _ _ ?_ rfl ?_ _ _ rfl _ rfl ?_ ?_ ?_ ?_ | refine own_store rfl 23 _ _ rfl hO 2 _ _ ?_ rfl ?_ _ _ rfl _ rfl ?_ ?_ ?_ ?_ | refine own_store rfl 23 _ _ rfl hO 3 _ _ ?_ rfl ?_ _ _ rfl _ rfl ?_ ?_ ?_ ?_); rotate_left; (focus (first | (go_simp; done) | (go_simp; with_reducible rfl) | rfl)); (focus kernel_rfl); (focus kernel_rfl); (focus kernel_rfl); clear hO; (try clear w_); intro w_ hO; simp only [List.set_cons_zero, List.set_cons_succ, putAllA, Value.cells, List.setIfInBounds_toArray] at hO)
  | (refine own_alloc rfl 25 rfl hO _ rfl #[.string ⟨#[]⟩, .int .i64 0, .int .i64 0, .int .i64 0, .int .i64 0, .int .i64 0, .int .i64 0, .int .i64 0, .int .i64 0, .int .i64 0, .int .i64 0, .int .i64 0, .int .i64 0] (by kernel_rfl) ?_; clear hO; (try clear w_); intro g_ w_ hO)
  | (refine own_box rfl 25 _ rfl hO _ rfl ?_ ?_ ?_; rotate_left; (focus (first | (go_simp; done) | (go_simp; with_reducible rfl) | rfl)); clear hO; (try clear w_); intro g_ w_ hO; simp only [Value.cells] at hO)
  | ((first | refine own_load_row rfl 25 _ rfl hO 0 _ _ rfl _ _ rfl _ rfl 13 ?_ ?_ ?_ _ Tryd.underlying25 rfl ?_ ?_ | refine own_load_row rfl 25 _ rfl hO 1 _ _ rfl _ _ rfl _ rfl 13 ?_ ?_ ?_ _ Tryd.underlying25 rfl ?_ ?_ | refine own_load_row rfl 25 _ rfl hO 2 _ _ rfl _ _ rfl _ rfl 13 ?_ ?_ ?_ _ Tryd.underlying25 rfl ?_ ?_ | refine own_load_row rfl 25 _ rfl hO 3 _ _ rfl _ _ rfl _ rfl 13 ?_ ?_ ?_ _ Tryd.underlying25 rfl ?_ ?_); rotate_left; (focus (simp only [Array.toList_extract, List.extract_toArray, List.extract_eq_take_drop, List.drop_zero, List.drop_succ_cons, List.take_succ_cons, List.take_zero, Nat.reduceAdd, Nat.reduceSub, Nat.zero_add, Nat.add_zero, Nat.add_sub_cancel_left, Nat.sub_zero, Nat.sub_self]; rfl)); (focus rfl); (focus kernel_rfl))
  | ((first | refine own_store rfl 25 _ _ rfl hO 0 _ _ ?_ rfl ?_ _ _ rfl _ rfl ?_ ?_ ?_ ?_ | refine own_store rfl 25 _ _ rfl hO 1 _ _ ?_ rfl ?_ _ _ rfl _ rfl ?_ ?_ ?_ ?_ | refine own_store rfl 25 _ _ rfl hO 2 _ _ ?_ rfl ?_ _ _ rfl _ rfl ?_ ?_ ?_ ?_ | refine own_store rfl 25 _ _ rfl hO 3 _ _ ?_ rfl ?_ _ _ rfl _ rfl ?_ ?_ ?_ ?_); rotate_left; (focus (first | (go_simp; done) | (go_simp; with_reducible rfl) | rfl)); (focus kernel_rfl); (focus kernel_rfl); (focus kernel_rfl); clear hO; (try clear w_); intro w_ hO; simp only [List.set_cons_zero, List.set_cons_succ, putAllA, Value.cells, List.setIfInBounds_toArray] at hO)
  | (refine own_alloc rfl 27 rfl hO _ rfl #[.int .i64 0, .int .i64 0] (by kernel_rfl) ?_; clear hO; (try clear w_); intro g_ w_ hO)
  | (refine own_box rfl 27 _ rfl hO _ rfl ?_ ?_ ?_; rotate_left; (focus (first | (go_simp; done) | (go_simp; with_reducible rfl) | rfl)); clear hO; (try clear w_); intro g_ w_ hO; simp only [Value.cells] at hO)
  | ((first | refine own_load_row rfl 27 _ rfl hO 0 _ _ rfl _ _ rfl _ rfl 2 ?_ ?_ ?_ _ Tryd.underlying27 rfl ?_ ?_ | refine own_load_row rfl 27 _ rfl hO 1 _ _ rfl _ _ rfl _ rfl 2 ?_ ?_ ?_ _ Tryd.underlying27 rfl ?_ ?_ | refine own_load_row rfl 27 _ rfl hO 2 _ _ rfl _ _ rfl _ rfl 2 ?_ ?_ ?_ _ Tryd.underlying27 rfl ?_ ?_ | refine own_load_row rfl 27 _ rfl hO 3 _ _ rfl _ _ rfl _ rfl 2 ?_ ?_ ?_ _ Tryd.underlying27 rfl ?_ ?_); rotate_left; (focus (simp only [Array.toList_extract, List.extract_toArray, List.extract_eq_take_drop, List.drop_zero, List.drop_succ_cons, List.take_succ_cons, List.take_zero, Nat.reduceAdd, Nat.reduceSub, Nat.zero_add, Nat.add_zero, Nat.add_sub_cancel_left, Nat.sub_zero, Nat.sub_self]; rfl)); (focus rfl); (focus kernel_rfl))
  | ((first | refine own_store rfl 27 _ _ rfl hO 0 _ _ ?_ rfl ?_ _ _ rfl _ rfl ?_ ?_ ?_ ?_ | refine own_store rfl 27 _ _ rfl hO 1 _ _ ?_ rfl ?_ _ _ rfl _ rfl ?_ ?_ ?_ ?_ | refine own_store rfl 27 _ _ rfl hO 2 _ _ ?_ rfl ?_ _ _ rfl _ rfl ?_ ?_ ?_ ?_ | refine own_store rfl 27 _ _ rfl hO 3 _ _ ?_ rfl ?_ _ _ rfl _ rfl ?_ ?_ ?_ ?_); rotate_left; (focus (first | (go_simp; done) | (go_simp; with_reducible rfl) | rfl)); (focus kernel_rfl); (focus kernel_rfl); (focus kernel_rfl); clear hO; (try clear w_); intro w_ hO; simp only [List.set_cons_zero, List.set_cons_succ, putAllA, Value.cells, List.setIfInBounds_toArray] at hO)
  | (refine own_alloc rfl 3 rfl hO _ rfl #[.int .i64 0] (by kernel_rfl) ?_; clear hO; (try clear w_); intro g_ w_ hO)
  | (refine own_box rfl 3 _ rfl hO _ rfl ?_ ?_ ?_; rotate_left; (focus (first | (go_simp; done) | (go_simp; with_reducible rfl) | rfl)); clear hO; (try clear w_); intro g_ w_ hO; simp only [Value.cells] at hO)
  | ((first | refine own_load_one rfl 3 _ rfl hO 0 _ _ rfl _ _ rfl _ rfl ?_ ?_ _ Tryd.underlying3 rfl ?_ | refine own_load_one rfl 3 _ rfl hO 1 _ _ rfl _ _ rfl _ rfl ?_ ?_ _ Tryd.underlying3 rfl ?_ | refine own_load_one rfl 3 _ rfl hO 2 _ _ rfl _ _ rfl _ rfl ?_ ?_ _ Tryd.underlying3 rfl ?_ | refine own_load_one rfl 3 _ rfl hO 3 _ _ rfl _ _ rfl _ rfl ?_ ?_ _ Tryd.underlying3 rfl ?_); rotate_left; (focus (simp only [List.getElem?_toArray, List.getElem?_cons_zero, List.getElem?_cons_succ]; rfl)))
  | ((first | refine own_store rfl 3 _ _ rfl hO 0 _ _ ?_ rfl ?_ _ _ rfl _ rfl ?_ ?_ ?_ ?_ | refine own_store rfl 3 _ _ rfl hO 1 _ _ ?_ rfl ?_ _ _ rfl _ rfl ?_ ?_ ?_ ?_ | refine own_store rfl 3 _ _ rfl hO 2 _ _ ?_ rfl ?_ _ _ rfl _ rfl ?_ ?_ ?_ ?_ | refine own_store rfl 3 _ _ rfl hO 3 _ _ ?_ rfl ?_ _ _ rfl _ rfl ?_ ?_ ?_ ?_); rotate_left; (focus (first | (go_simp; done) | (go_simp; with_reducible rfl) | rfl)); (focus kernel_rfl); (focus kernel_rfl); (focus kernel_rfl); clear hO; (try clear w_); intro w_ hO; simp only [List.set_cons_zero, List.set_cons_succ, putAllA, Value.cells, List.setIfInBounds_toArray] at hO)
  )
  exact bodyPost_ret (results_cell_row Tryd.results10 _ _ g_ 23 _ (0, 0) _ rfl (hO.at 0 rfl) Tryd.underlying23 rfl (by kernel_rfl)) rfl ⟨by rw [ES.out, EC.out, EZ.out], hO.bel⟩

set_option maxHeartbeats 4000000 in
set_option maxRecDepth 100000 in
theorem rtick_fan (a b s : Int) (n : ByteArray) (a0 a1 a2 a3 a4 a5 a6 a7 a8 a9 a10 a11 thick t d : Int) (w : World) (hc : Comp a b s a1 a2 a3 thick t d) :
    Calls Tryd.prog 10 #[.agg #[.int .i64 a, .int .i64 b, .int .i64 s], .agg #[.string n, .int .i64 a0, .int .i64 a1, .int .i64 a2, .int .i64 a3, .int .i64 a4, .int .i64 a5, .int .i64 a6, .int .i64 a7, .int .i64 a8, .int .i64 a9, .int .i64 a10, .int .i64 a11], .int .i64 thick, .agg #[.int .i64 t, .int .i64 d], .bool true] w fun e w' => e = .returned (.agg #[.int .i64 (surfZ a a1 t d true), .int .i64 (coreZ b (surfZ a a1 t d true) a2 t thick), .int .i64 (strZ s (surfZ a a1 t d true) (coreZ b (surfZ a a1 t d true) a2 t thick) a3)]) ∧ Below w.heap.size w w' := by
  have hcb : compB a b s a1 a2 a3 thick t d = true := decide_eq_true hc
  have HV : Hid (∀ w, Calls Tryd.prog 26 #[.agg #[.int .i64 a, .int .i64 b, .int .i64 s], .agg #[.string n, .int .i64 a0, .int .i64 a1, .int .i64 a2, .int .i64 a3, .int .i64 a4, .int .i64 a5, .int .i64 a6, .int .i64 a7, .int .i64 a8, .int .i64 a9, .int .i64 a10, .int .i64 a11], .int .i64 thick, .agg #[.int .i64 t, .int .i64 d]] w fun e w' => e = .returned (.bool true) ∧ Below w.heap.size w w') := Lib.hid (by
    intro w
    have h := rticks_f 1 a b s n a0 a1 a2 a3 a4 a5 a6 a7 a8 a9 a10 a11 thick t d
    rw [hcb] at h
    exact sawmillref36_Ticks.calls 2 a b s n a0 a1 a2 a3 a4 a5 a6 a7 a8 a9 a10 a11 thick t d true w h)
  obtain ⟨hn1, hn2, hn3⟩ := hc.nums
  clear hcb hc
  obtain ⟨e, he⟩ : ∃ e, Pl.emcZ t d = e := ⟨_, rfl⟩
  have eb := Pl.emcZ_bd t d
  rw [he] at eb
  have HE : Hid (∀ w, Calls Tryd.prog 28 #[.agg #[.int .i64 t, .int .i64 d]] w fun r w' => r = .returned (.int .i64 e) ∧ Below w.heap.size w w') := Lib.hid (he ▸ remc_any t d)
  obtain ⟨p, hp⟩ : ∃ p, a1 * t = p := ⟨_, rfl⟩
  have p0 : 0 ≤ p := hp ▸ Int.mul_nonneg (by omega) (by omega)
  have p1 : p ≤ 10000 * 1200 := hp ▸ Int.mul_le_mul (by omega) (by omega) (by omega) (by omega)
  have s1 : IntKind.i64.wrap (a1 * t) = p := by rw [hp]; exact IntWalk.i64_in _ (by omega)
  have s9 : IntKind.i64.wrap (Int.tdiv p 200) = p / 200 := by
    rw [Int.tdiv_eq_ediv_of_nonneg p0]
    exact IntWalk.i64_in _ (by omega)
  obtain ⟨k, hk⟩ : ∃ k, clampZ (p / 200) 1 10000 = k := ⟨_, rfl⟩
  have kb := clampZ_bd (n := p / 200) (lo := 1) (hi := 10000) (by omega)
  rw [hk] at kb
  have HK : Hid (∀ w, Calls Tryd.prog 29 #[.int .i64 (p / 200), .int .i64 1, .int .i64 10000] w fun r w' => r = .returned (.int .i64 k) ∧ Below w.heap.size w w') := Lib.hid (fun w => hk ▸ rclamp_any (p / 200) 1 10000 w)
  obtain ⟨A, hA⟩ : ∃ A, towardZ a e k = A := ⟨_, rfl⟩
  have Ab := towardZ_bd a e k kb.2
  rw [hA] at Ab
  have HA : Hid (∀ w, Calls Tryd.prog 27 #[.int .i64 a, .int .i64 e, .int .i64 k] w fun r w' => r = .returned (.int .i64 A) ∧ Below w.heap.size w w') := Lib.hid (fun w => hA ▸ rtoward_any a e k w (by omega) (by omega) (by omega) (by omega) (by omega) (by omega))
  have ES : Hid (surfZ a a1 t d true = A) := Lib.hid (by
    unfold surfZ
    rw [if_pos rfl, he, hp, hk, hA])
  have AB : 0 ≤ A ∧ A ≤ 20000 := by omega
  clear Ab hA kb hk eb he hp
  obtain ⟨u, hu⟩ : ∃ u, a2 * t = u := ⟨_, rfl⟩
  have u0 : 0 ≤ u := hu ▸ Int.mul_nonneg (by omega) (by omega)
  have u1 : u ≤ 10000 * 1200 := hu ▸ Int.mul_le_mul (by omega) (by omega) (by omega) (by omega)
  have s2 : IntKind.i64.wrap (a2 * t) = u := by rw [hu]; exact IntWalk.i64_in _ (by omega)
  obtain ⟨u', hu'⟩ : ∃ u', u * 25 = u' := ⟨_, rfl⟩
  have s3 : IntKind.i64.wrap (u * 25) = u' := by rw [hu']; exact IntWalk.i64_in _ (by omega)
  obtain ⟨h2, hh⟩ : ∃ h2, 200 * thick = h2 := ⟨_, rfl⟩
  have s4 : IntKind.i64.wrap (200 * thick) = h2 := by rw [hh]; exact IntWalk.i64_in _ (by omega)
  have h20 : 200 ≤ h2 := by omega
  have h21 : h2 ≤ 120000 := by omega
  have h2n : h2 ≠ 0 := by omega
  have v0 : 0 ≤ u' := by omega
  have v1 : u' ≤ 300000000 := by omega
  have s8 : IntKind.i64.wrap (Int.tdiv u' h2) = u' / h2 := by
    rw [Int.tdiv_eq_ediv_of_nonneg v0]
    have d0 : 0 ≤ u' / h2 := Int.ediv_nonneg v0 (by omega)
    have d1 : u' / h2 ≤ u' := Int.ediv_le_self _ v0
    exact IntWalk.i64_in _ (by omega)
  obtain ⟨j, hj⟩ : ∃ j, clampZ (u' / h2) 1 10000 = j := ⟨_, rfl⟩
  have jb := clampZ_bd (n := u' / h2) (lo := 1) (hi := 10000) (by omega)
  rw [hj] at jb
  have HJ : Hid (∀ w, Calls Tryd.prog 29 #[.int .i64 (u' / h2), .int .i64 1, .int .i64 10000] w fun r w' => r = .returned (.int .i64 j) ∧ Below w.heap.size w w') := Lib.hid (fun w => hj ▸ rclamp_any (u' / h2) 1 10000 w)
  obtain ⟨B, hB⟩ : ∃ B, towardZ b A j = B := ⟨_, rfl⟩
  have Bb := towardZ_bd b A j jb.2
  rw [hB] at Bb
  have HB : Hid (∀ w, Calls Tryd.prog 27 #[.int .i64 b, .int .i64 A, .int .i64 j] w fun r w' => r = .returned (.int .i64 B) ∧ Below w.heap.size w w') := Lib.hid (fun w => hB ▸ rtoward_any b A j w (by omega) (by omega) (by omega) (by omega) (by omega) (by omega))
  have EC : Hid (coreZ b A a2 t thick = B) := Lib.hid (by
    unfold coreZ
    rw [hu, hu', hh, hj, hB])
  have BB : 0 ≤ B ∧ B ≤ 20000 := by omega
  obtain ⟨x, hx⟩ : ∃ x, B - A = x := ⟨_, rfl⟩
  have s5 : IntKind.i64.wrap (B - A) = x := by rw [hx]; exact IntWalk.i64_in _ (by omega)
  obtain ⟨y, hy⟩ : ∃ y, x - a3 = y := ⟨_, rfl⟩
  have s6 : IntKind.i64.wrap (x - a3) = y := by rw [hy]; exact IntWalk.i64_in _ (by omega)
  obtain ⟨v, hv⟩ : ∃ v, (if 0 < y then y else 0) = v := ⟨_, rfl⟩
  have hv' : 0 ≤ v ∧ v ≤ 40000 := by rw [← hv]; split <;> omega
  obtain ⟨m, hm⟩ : ∃ m, s + v = m := ⟨_, rfl⟩
  have s7 : IntKind.i64.wrap (s + v) = m := by rw [hm]; exact IntWalk.i64_in _ (by omega)
  obtain ⟨z, hz⟩ : ∃ z, (if 1099511627776 < m then 1099511627776 else m) = z := ⟨_, rfl⟩
  have EZ : Hid (strZ s A B a3 = z) := Lib.hid (by
    unfold strZ
    rw [hx, hy]
    have : (if 0 ≤ y then y else 0) = v := by rw [← hv]; split <;> split <;> omega
    rw [this, hm, ← hz]
    split <;> split <;> omega)
  clear hm hv' hx hy hB hj hh hu hu' Bb jb hn1 hn2 hn3
  have hO := Own.nil w
  go_enter Tryd.func10, Tryd.ntmps10
  go_upto_region 4 with (first
    | (refine own_alloc rfl 23 rfl hO _ rfl #[.int .i64 0, .int .i64 0, .int .i64 0] (by kernel_rfl) ?_; clear hO; (try clear w_); intro g_ w_ hO)
    | (refine own_box rfl 23 _ rfl hO _ rfl ?_ ?_ ?_; rotate_left; (focus (first | (go_simp; done) | (go_simp; with_reducible rfl) | rfl)); clear hO; (try clear w_); intro g_ w_ hO; simp only [Value.cells] at hO)
    | ((first | refine own_load_row rfl 23 _ rfl hO 0 _ _ rfl _ _ rfl _ rfl 3 ?_ ?_ ?_ _ Tryd.underlying23 rfl ?_ ?_ | refine own_load_row rfl 23 _ rfl hO 1 _ _ rfl _ _ rfl _ rfl 3 ?_ ?_ ?_ _ Tryd.underlying23 rfl ?_ ?_ | refine own_load_row rfl 23 _ rfl hO 2 _ _ rfl _ _ rfl _ rfl 3 ?_ ?_ ?_ _ Tryd.underlying23 rfl ?_ ?_ | refine own_load_row rfl 23 _ rfl hO 3 _ _ rfl _ _ rfl _ rfl 3 ?_ ?_ ?_ _ Tryd.underlying23 rfl ?_ ?_); rotate_left; (focus (simp only [Array.toList_extract, List.extract_toArray, List.extract_eq_take_drop, List.drop_zero, List.drop_succ_cons, List.take_succ_cons, List.take_zero, Nat.reduceAdd, Nat.reduceSub, Nat.zero_add, Nat.add_zero, Nat.add_sub_cancel_left, Nat.sub_zero, Nat.sub_self]; rfl)); (focus rfl); (focus kernel_rfl))
    | ((first | refine own_store rfl 23 _ _ rfl hO 0 _ _ ?_ rfl ?_ _ _ rfl _ rfl ?_ ?_ ?_ ?_ | refine own_store rfl 23 _ _ rfl hO 1 _ _ ?_ rfl ?_ _ _ rfl _ rfl ?_ ?_ ?_ ?_ | refine own_store rfl 23 _ _ rfl hO 2 _ _ ?_ rfl ?_ _ _ rfl _ rfl ?_ ?_ ?_ ?_ | refine own_store rfl 23 _ _ rfl hO 3 _ _ ?_ rfl ?_ _ _ rfl _ rfl ?_ ?_ ?_ ?_); rotate_left; (focus (first | (go_simp; done) | (go_simp; with_reducible rfl) | rfl)); (focus kernel_rfl); (focus kernel_rfl); (focus kernel_rfl); clear hO; (try clear w_); intro w_ hO; simp only [List.set_cons_zero, List.set_cons_succ, putAllA, Value.cells, List.setIfInBounds_toArray] at hO)
    | (refine own_alloc rfl 25 rfl hO _ rfl #[.string ⟨#[]⟩, .int .i64 0, .int .i64 0, .int .i64 0, .int .i64 0, .int .i64 0, .int .i64 0, .int .i64 0, .int .i64 0, .int .i64 0, .int .i64 0, .int .i64 0, .int .i64 0] (by kernel_rfl) ?_; clear hO; (try clear w_); intro g_ w_ hO)
    | (refine own_box rfl 25 _ rfl hO _ rfl ?_ ?_ ?_; rotate_left; (focus (first | (go_simp; done) | (go_simp; with_reducible rfl) | rfl)); clear hO; (try clear w_); intro g_ w_ hO; simp only [Value.cells] at hO)
    | ((first | refine own_load_row rfl 25 _ rfl hO 0 _ _ rfl _ _ rfl _ rfl 13 ?_ ?_ ?_ _ Tryd.underlying25 rfl ?_ ?_ | refine own_load_row rfl 25 _ rfl hO 1 _ _ rfl _ _ rfl _ rfl 13 ?_ ?_ ?_ _ Tryd.underlying25 rfl ?_ ?_ | refine own_load_row rfl 25 _ rfl hO 2 _ _ rfl _ _ rfl _ rfl 13 ?_ ?_ ?_ _ Tryd.underlying25 rfl ?_ ?_ | refine own_load_row rfl 25 _ rfl hO 3 _ _ rfl _ _ rfl _ rfl 13 ?_ ?_ ?_ _ Tryd.underlying25 rfl ?_ ?_); rotate_left; (focus (simp only [Array.toList_extract, List.extract_toArray, List.extract_eq_take_drop, List.drop_zero, List.drop_succ_cons, List.take_succ_cons, List.take_zero, Nat.reduceAdd, Nat.reduceSub, Nat.zero_add, Nat.add_zero, Nat.add_sub_cancel_left, Nat.sub_zero, Nat.sub_self]; rfl)); (focus rfl); (focus kernel_rfl))
    | ((first | refine own_store rfl 25 _ _ rfl hO 0 _ _ ?_ rfl ?_ _ _ rfl _ rfl ?_ ?_ ?_ ?_ | refine own_store rfl 25 _ _ rfl hO 1 _ _ ?_ rfl ?_ _ _ rfl _ rfl ?_ ?_ ?_ ?_ | refine own_store rfl 25 _ _ rfl hO 2 _ _ ?_ rfl ?_ _ _ rfl _ rfl ?_ ?_ ?_ ?_ | refine own_store rfl 25 _ _ rfl hO 3 _ _ ?_ rfl ?_ _ _ rfl _ rfl ?_ ?_ ?_ ?_); rotate_left; (focus (first | (go_simp; done) | (go_simp; with_reducible rfl) | rfl)); (focus kernel_rfl); (focus kernel_rfl); (focus kernel_rfl); clear hO; (try clear w_); intro w_ hO; simp only [List.set_cons_zero, List.set_cons_succ, putAllA, Value.cells, List.setIfInBounds_toArray] at hO)
    | (refine own_alloc rfl 27 rfl hO _ rfl #[.int .i64 0, .int .i64 0] (by kernel_rfl) ?_; clear hO; (try clear w_); intro g_ w_ hO)
    | (refine own_box rfl 27 _ rfl hO _ rfl ?_ ?_ ?_; rotate_left; (focus (first | (go_simp; done) | (go_simp; with_reducible rfl) | rfl)); clear hO; (try clear w_); intro g_ w_ hO; simp only [Value.cells] at hO)
    | ((first | refine own_load_row rfl 27 _ rfl hO 0 _ _ rfl _ _ rfl _ rfl 2 ?_ ?_ ?_ _ Tryd.underlying27 rfl ?_ ?_ | refine own_load_row rfl 27 _ rfl hO 1 _ _ rfl _ _ rfl _ rfl 2 ?_ ?_ ?_ _ Tryd.underlying27 rfl ?_ ?_ | refine own_load_row rfl 27 _ rfl hO 2 _ _ rfl _ _ rfl _ rfl 2 ?_ ?_ ?_ _ Tryd.underlying27 rfl ?_ ?_ | refine own_load_row rfl 27 _ rfl hO 3 _ _ rfl _ _ rfl _ rfl 2 ?_ ?_ ?_ _ Tryd.underlying27 rfl ?_ ?_); rotate_left; (focus (simp only [Array.toList_extract, List.extract_toArray, List.extract_eq_take_drop, List.drop_zero, List.drop_succ_cons, List.take_succ_cons, List.take_zero, Nat.reduceAdd, Nat.reduceSub, Nat.zero_add, Nat.add_zero, Nat.add_sub_cancel_left, Nat.sub_zero, Nat.sub_self]; rfl)); (focus rfl); (focus kernel_rfl))
    | ((first | refine own_store rfl 27 _ _ rfl hO 0 _ _ ?_ rfl ?_ _ _ rfl _ rfl ?_ ?_ ?_ ?_ | refine own_store rfl 27 _ _ rfl hO 1 _ _ ?_ rfl ?_ _ _ rfl _ rfl ?_ ?_ ?_ ?_ | refine own_store rfl 27 _ _ rfl hO 2 _ _ ?_ rfl ?_ _ _ rfl _ rfl ?_ ?_ ?_ ?_ | refine own_store rfl 27 _ _ rfl hO 3 _ _ ?_ rfl ?_ _ _ rfl _ rfl ?_ ?_ ?_ ?_); rotate_left; (focus (first | (go_simp; done) | (go_simp; with_reducible rfl) | rfl)); (focus kernel_rfl); (focus kernel_rfl); (focus kernel_rfl); clear hO; (try clear w_); intro w_ hO; simp only [List.set_cons_zero, List.set_cons_succ, putAllA, Value.cells, List.setIfInBounds_toArray] at hO)
    | (refine own_alloc rfl 3 rfl hO _ rfl #[.int .i64 0] (by kernel_rfl) ?_; clear hO; (try clear w_); intro g_ w_ hO)
    | (refine own_box rfl 3 _ rfl hO _ rfl ?_ ?_ ?_; rotate_left; (focus (first | (go_simp; done) | (go_simp; with_reducible rfl) | rfl)); clear hO; (try clear w_); intro g_ w_ hO; simp only [Value.cells] at hO)
    | ((first | refine own_load_one rfl 3 _ rfl hO 0 _ _ rfl _ _ rfl _ rfl ?_ ?_ _ Tryd.underlying3 rfl ?_ | refine own_load_one rfl 3 _ rfl hO 1 _ _ rfl _ _ rfl _ rfl ?_ ?_ _ Tryd.underlying3 rfl ?_ | refine own_load_one rfl 3 _ rfl hO 2 _ _ rfl _ _ rfl _ rfl ?_ ?_ _ Tryd.underlying3 rfl ?_ | refine own_load_one rfl 3 _ rfl hO 3 _ _ rfl _ _ rfl _ rfl ?_ ?_ _ Tryd.underlying3 rfl ?_); rotate_left; (focus (simp only [List.getElem?_toArray, List.getElem?_cons_zero, List.getElem?_cons_succ]; rfl)))
    | ((first | refine own_store rfl 3 _ _ rfl hO 0 _ _ ?_ rfl ?_ _ _ rfl _ rfl ?_ ?_ ?_ ?_ | refine own_store rfl 3 _ _ rfl hO 1 _ _ ?_ rfl ?_ _ _ rfl _ rfl ?_ ?_ ?_ ?_ | refine own_store rfl 3 _ _ rfl hO 2 _ _ ?_ rfl ?_ _ _ rfl _ rfl ?_ ?_ ?_ ?_ | refine own_store rfl 3 _ _ rfl hO 3 _ _ ?_ rfl ?_ _ _ rfl _ rfl ?_ ?_ ?_ ?_); rotate_left; (focus (first | (go_simp; done) | (go_simp; with_reducible rfl) | rfl)); (focus kernel_rfl); (focus kernel_rfl); (focus kernel_rfl); clear hO; (try clear w_); intro w_ hO; simp only [List.set_cons_zero, List.set_cons_succ, putAllA, Value.cells, List.setIfInBounds_toArray] at hO)
    | (go_at_call 26; (with_reducible refine (HV.out _).mono ?_); rintro e w_ ⟨rfl, hb_⟩; replace hO := Own.call hO hb_; clear hb_)
    )
  (try simp only [Act.put, List.setIfInBounds_toArray, List.set_cons_zero, List.set_cons_succ])
  rename_i gc gs gl _ _ _
  refine start_ (n := 14) (S := fun w' => Own w [(g_, 23, #[.int .i64 0, .int .i64 0, .int .i64 0]), (gl, 27, #[.int .i64 t, .int .i64 d]), (gs, 25, #[.string n, .int .i64 a0, .int .i64 a1, .int .i64 a2, .int .i64 a3, .int .i64 a4, .int .i64 a5, .int .i64 a6, .int .i64 a7, .int .i64 a8, .int .i64 a9, .int .i64 a10, .int .i64 a11]), (gc, 23, #[.int .i64 a, .int .i64 b, .int .i64 s])] w') (ds := [13]) #[false, false, false, false, false, false, false, false, false, false, false, false, false, false] (by kernel_rfl) rfl rfl (Own.drew hO) (fun hS => ?_)
  clear hO
  have hO := hS
  refine pure_ (i := 0) (N := some 19) (v := ?_) (a' := ?_) #[true, false, false, false, false, false, false, false, false, false, false, false, false, false] rfl rfl (by kernel_rfl) (fun _ _ _ h => h) (Or.inl ⟨by rfl, ?_⟩) ?_ ?_
  rotate_left
  · intro w'
    go_simp
    with_reducible rfl
  rotate_left
  · simp only [Act.put, List.setIfInBounds_toArray, List.set_cons_zero, List.set_cons_succ]
    rfl
  first
    | (refine take_ (i := 1) (N := some 20) (a' := ?_) #[true, true, false, false, false, false, false, false, false, false, false, false, false, false] rfl rfl (by kernel_rfl) (fun _ _ _ h => h) (yOne hS ?_ 3 _ rfl 0 _ _ rfl _ _ rfl ?_ ?_ _ Tryd.underlying3 rfl) hS ?_ ?_; (focus rfl); rotate_left; (focus (simp only [List.getElem?_toArray, List.getElem?_cons_zero, List.getElem?_cons_succ]; rfl)); rotate_left; (focus (simp only [Act.put, List.setIfInBounds_toArray, List.set_cons_zero, List.set_cons_succ]; rfl)))
    | (refine take_ (i := 1) (N := some 20) (a' := ?_) #[true, true, false, false, false, false, false, false, false, false, false, false, false, false] rfl rfl (by kernel_rfl) (fun _ _ _ h => h) (yOne hS ?_ 3 _ rfl 1 _ _ rfl _ _ rfl ?_ ?_ _ Tryd.underlying3 rfl) hS ?_ ?_; (focus rfl); rotate_left; (focus (simp only [List.getElem?_toArray, List.getElem?_cons_zero, List.getElem?_cons_succ]; rfl)); rotate_left; (focus (simp only [Act.put, List.setIfInBounds_toArray, List.set_cons_zero, List.set_cons_succ]; rfl)))
    | (refine take_ (i := 1) (N := some 20) (a' := ?_) #[true, true, false, false, false, false, false, false, false, false, false, false, false, false] rfl rfl (by kernel_rfl) (fun _ _ _ h => h) (yOne hS ?_ 3 _ rfl 2 _ _ rfl _ _ rfl ?_ ?_ _ Tryd.underlying3 rfl) hS ?_ ?_; (focus rfl); rotate_left; (focus (simp only [List.getElem?_toArray, List.getElem?_cons_zero, List.getElem?_cons_succ]; rfl)); rotate_left; (focus (simp only [Act.put, List.setIfInBounds_toArray, List.set_cons_zero, List.set_cons_succ]; rfl)))
    | (refine take_ (i := 1) (N := some 20) (a' := ?_) #[true, true, false, false, false, false, false, false, false, false, false, false, false, false] rfl rfl (by kernel_rfl) (fun _ _ _ h => h) (yOne hS ?_ 3 _ rfl 3 _ _ rfl _ _ rfl ?_ ?_ _ Tryd.underlying3 rfl) hS ?_ ?_; (focus rfl); rotate_left; (focus (simp only [List.getElem?_toArray, List.getElem?_cons_zero, List.getElem?_cons_succ]; rfl)); rotate_left; (focus (simp only [Act.put, List.setIfInBounds_toArray, List.set_cons_zero, List.set_cons_succ]; rfl)))
  first
    | (refine take_ (i := 2) (N := some 21) (a' := ?_) #[true, true, true, false, false, false, false, false, false, false, false, false, false, false] rfl rfl (by kernel_rfl) (fun _ _ _ h => h) (yRow hS ?_ 27 _ rfl 0 _ _ rfl _ _ rfl 2 ?_ ?_ ?_ _ Tryd.underlying27 rfl ?_) hS ?_ ?_; (focus rfl); rotate_left; (focus (simp only [Array.toList_extract, List.extract_toArray, List.extract_eq_take_drop, List.drop_zero, List.drop_succ_cons, List.take_succ_cons, List.take_zero, Nat.reduceAdd, Nat.reduceSub, Nat.zero_add, Nat.add_zero, Nat.add_sub_cancel_left, Nat.sub_zero, Nat.sub_self]; rfl)); (focus rfl); (focus kernel_rfl); rotate_left; (focus (simp only [Act.put, List.setIfInBounds_toArray, List.set_cons_zero, List.set_cons_succ]; rfl)))
    | (refine take_ (i := 2) (N := some 21) (a' := ?_) #[true, true, true, false, false, false, false, false, false, false, false, false, false, false] rfl rfl (by kernel_rfl) (fun _ _ _ h => h) (yRow hS ?_ 27 _ rfl 1 _ _ rfl _ _ rfl 2 ?_ ?_ ?_ _ Tryd.underlying27 rfl ?_) hS ?_ ?_; (focus rfl); rotate_left; (focus (simp only [Array.toList_extract, List.extract_toArray, List.extract_eq_take_drop, List.drop_zero, List.drop_succ_cons, List.take_succ_cons, List.take_zero, Nat.reduceAdd, Nat.reduceSub, Nat.zero_add, Nat.add_zero, Nat.add_sub_cancel_left, Nat.sub_zero, Nat.sub_self]; rfl)); (focus rfl); (focus kernel_rfl); rotate_left; (focus (simp only [Act.put, List.setIfInBounds_toArray, List.set_cons_zero, List.set_cons_succ]; rfl)))
    | (refine take_ (i := 2) (N := some 21) (a' := ?_) #[true, true, true, false, false, false, false, false, false, false, false, false, false, false] rfl rfl (by kernel_rfl) (fun _ _ _ h => h) (yRow hS ?_ 27 _ rfl 2 _ _ rfl _ _ rfl 2 ?_ ?_ ?_ _ Tryd.underlying27 rfl ?_) hS ?_ ?_; (focus rfl); rotate_left; (focus (simp only [Array.toList_extract, List.extract_toArray, List.extract_eq_take_drop, List.drop_zero, List.drop_succ_cons, List.take_succ_cons, List.take_zero, Nat.reduceAdd, Nat.reduceSub, Nat.zero_add, Nat.add_zero, Nat.add_sub_cancel_left, Nat.sub_zero, Nat.sub_self]; rfl)); (focus rfl); (focus kernel_rfl); rotate_left; (focus (simp only [Act.put, List.setIfInBounds_toArray, List.set_cons_zero, List.set_cons_succ]; rfl)))
    | (refine take_ (i := 2) (N := some 21) (a' := ?_) #[true, true, true, false, false, false, false, false, false, false, false, false, false, false] rfl rfl (by kernel_rfl) (fun _ _ _ h => h) (yRow hS ?_ 27 _ rfl 3 _ _ rfl _ _ rfl 2 ?_ ?_ ?_ _ Tryd.underlying27 rfl ?_) hS ?_ ?_; (focus rfl); rotate_left; (focus (simp only [Array.toList_extract, List.extract_toArray, List.extract_eq_take_drop, List.drop_zero, List.drop_succ_cons, List.take_succ_cons, List.take_zero, Nat.reduceAdd, Nat.reduceSub, Nat.zero_add, Nat.add_zero, Nat.add_sub_cancel_left, Nat.sub_zero, Nat.sub_self]; rfl)); (focus rfl); (focus kernel_rfl); rotate_left; (focus (simp only [Act.put, List.setIfInBounds_toArray, List.set_cons_zero, List.set_cons_succ]; rfl)))
  refine pure_ (i := 4) (N := some 23) (v := ?_) (a' := ?_) #[true, true, true, false, true, false, false, false, false, false, false, false, false, false] rfl rfl (by kernel_rfl) (fun _ _ _ h => h) (Or.inl ⟨by rfl, ?_⟩) ?_ ?_
  rotate_left
  · intro w'
    go_simp
    with_reducible rfl
  rotate_left
  · simp only [Act.put, List.setIfInBounds_toArray, List.set_cons_zero, List.set_cons_succ]
    rfl
  first
    | (refine take_ (i := 5) (N := some 24) (a' := ?_) #[true, true, true, false, true, true, false, false, false, false, false, false, false, false] rfl rfl (by kernel_rfl) (fun _ _ _ h => h) (yOne hS ?_ 3 _ rfl 0 _ _ rfl _ _ rfl ?_ ?_ _ Tryd.underlying3 rfl) hS ?_ ?_; (focus rfl); rotate_left; (focus (simp only [List.getElem?_toArray, List.getElem?_cons_zero, List.getElem?_cons_succ]; rfl)); rotate_left; (focus (simp only [Act.put, List.setIfInBounds_toArray, List.set_cons_zero, List.set_cons_succ]; rfl)))
    | (refine take_ (i := 5) (N := some 24) (a' := ?_) #[true, true, true, false, true, true, false, false, false, false, false, false, false, false] rfl rfl (by kernel_rfl) (fun _ _ _ h => h) (yOne hS ?_ 3 _ rfl 1 _ _ rfl _ _ rfl ?_ ?_ _ Tryd.underlying3 rfl) hS ?_ ?_; (focus rfl); rotate_left; (focus (simp only [List.getElem?_toArray, List.getElem?_cons_zero, List.getElem?_cons_succ]; rfl)); rotate_left; (focus (simp only [Act.put, List.setIfInBounds_toArray, List.set_cons_zero, List.set_cons_succ]; rfl)))
    | (refine take_ (i := 5) (N := some 24) (a' := ?_) #[true, true, true, false, true, true, false, false, false, false, false, false, false, false] rfl rfl (by kernel_rfl) (fun _ _ _ h => h) (yOne hS ?_ 3 _ rfl 2 _ _ rfl _ _ rfl ?_ ?_ _ Tryd.underlying3 rfl) hS ?_ ?_; (focus rfl); rotate_left; (focus (simp only [List.getElem?_toArray, List.getElem?_cons_zero, List.getElem?_cons_succ]; rfl)); rotate_left; (focus (simp only [Act.put, List.setIfInBounds_toArray, List.set_cons_zero, List.set_cons_succ]; rfl)))
    | (refine take_ (i := 5) (N := some 24) (a' := ?_) #[true, true, true, false, true, true, false, false, false, false, false, false, false, false] rfl rfl (by kernel_rfl) (fun _ _ _ h => h) (yOne hS ?_ 3 _ rfl 3 _ _ rfl _ _ rfl ?_ ?_ _ Tryd.underlying3 rfl) hS ?_ ?_; (focus rfl); rotate_left; (focus (simp only [List.getElem?_toArray, List.getElem?_cons_zero, List.getElem?_cons_succ]; rfl)); rotate_left; (focus (simp only [Act.put, List.setIfInBounds_toArray, List.set_cons_zero, List.set_cons_succ]; rfl)))
  refine pure_ (i := 6) (N := some 25) (v := ?_) (a' := ?_) #[true, true, true, false, true, true, true, false, false, false, false, false, false, false] rfl rfl (by kernel_rfl) (fun _ _ _ h => h) (Or.inl ⟨by rfl, ?_⟩) ?_ ?_
  rotate_left
  · intro w'
    go_simp
    with_reducible rfl
  rotate_left
  · simp only [Act.put, List.setIfInBounds_toArray, List.set_cons_zero, List.set_cons_succ]
    rfl
  first
    | (refine take_ (i := 7) (N := some 26) (a' := ?_) #[true, true, true, false, true, true, true, true, false, false, false, false, false, false] rfl rfl (by kernel_rfl) (fun _ _ _ h => h) (yOne hS ?_ 3 _ rfl 0 _ _ rfl _ _ rfl ?_ ?_ _ Tryd.underlying3 rfl) hS ?_ ?_; (focus rfl); rotate_left; (focus (simp only [List.getElem?_toArray, List.getElem?_cons_zero, List.getElem?_cons_succ]; rfl)); rotate_left; (focus (simp only [Act.put, List.setIfInBounds_toArray, List.set_cons_zero, List.set_cons_succ]; rfl)))
    | (refine take_ (i := 7) (N := some 26) (a' := ?_) #[true, true, true, false, true, true, true, true, false, false, false, false, false, false] rfl rfl (by kernel_rfl) (fun _ _ _ h => h) (yOne hS ?_ 3 _ rfl 1 _ _ rfl _ _ rfl ?_ ?_ _ Tryd.underlying3 rfl) hS ?_ ?_; (focus rfl); rotate_left; (focus (simp only [List.getElem?_toArray, List.getElem?_cons_zero, List.getElem?_cons_succ]; rfl)); rotate_left; (focus (simp only [Act.put, List.setIfInBounds_toArray, List.set_cons_zero, List.set_cons_succ]; rfl)))
    | (refine take_ (i := 7) (N := some 26) (a' := ?_) #[true, true, true, false, true, true, true, true, false, false, false, false, false, false] rfl rfl (by kernel_rfl) (fun _ _ _ h => h) (yOne hS ?_ 3 _ rfl 2 _ _ rfl _ _ rfl ?_ ?_ _ Tryd.underlying3 rfl) hS ?_ ?_; (focus rfl); rotate_left; (focus (simp only [List.getElem?_toArray, List.getElem?_cons_zero, List.getElem?_cons_succ]; rfl)); rotate_left; (focus (simp only [Act.put, List.setIfInBounds_toArray, List.set_cons_zero, List.set_cons_succ]; rfl)))
    | (refine take_ (i := 7) (N := some 26) (a' := ?_) #[true, true, true, false, true, true, true, true, false, false, false, false, false, false] rfl rfl (by kernel_rfl) (fun _ _ _ h => h) (yOne hS ?_ 3 _ rfl 3 _ _ rfl _ _ rfl ?_ ?_ _ Tryd.underlying3 rfl) hS ?_ ?_; (focus rfl); rotate_left; (focus (simp only [List.getElem?_toArray, List.getElem?_cons_zero, List.getElem?_cons_succ]; rfl)); rotate_left; (focus (simp only [Act.put, List.setIfInBounds_toArray, List.set_cons_zero, List.set_cons_succ]; rfl)))
  refine pure_ (i := 8) (N := some 27) (v := ?_) (a' := ?_) #[true, true, true, false, true, true, true, true, true, false, false, false, false, false] rfl rfl (by kernel_rfl) (fun _ _ _ h => h) (Or.inl ⟨by rfl, ?_⟩) ?_ ?_
  rotate_left
  · intro w'
    go_simp
    with_reducible rfl
  rotate_left
  · simp only [Act.put, List.setIfInBounds_toArray, List.set_cons_zero, List.set_cons_succ]
    rfl
  refine pure_ (i := 9) (N := some 28) (v := ?_) (a' := ?_) #[true, true, true, false, true, true, true, true, true, true, false, false, false, false] rfl rfl (by kernel_rfl) (fun _ _ _ h => h) (Or.inl ⟨by rfl, ?_⟩) ?_ ?_
  rotate_left
  · intro w'
    go_simp
    with_reducible rfl
  rotate_left
  · simp only [Act.put, List.setIfInBounds_toArray, List.set_cons_zero, List.set_cons_succ]
    rfl
  refine one_ (i := 3) (N := some 22) #[true, true, true, true, true, true, true, true, true, true, false, false, false, false] rfl rfl (by kernel_rfl) (by decide) (fun K hK => ?_)
  refine goes_ Tryd.func28 (by kernel_rfl) rfl #[.agg #[.int .i64 t, .int .i64 d]] (by rfl) rfl rfl (by (try simp only [List.map_toArray, List.map_cons, List.map_nil]); first | done | rfl) ?_
  with_reducible refine (HE.out _).mono ?_
  rintro e w_ ⟨rfl, hb_⟩
  refine ⟨_, rfl, ?_⟩
  replace hO := Own.call hO hb_
  clear hb_
  refine hK.out _ _ (hO) (fun hS => ?_)
  clear hK K
  refine norm_ (a' := ?_) ?_ ?_
  rotate_left
  · show Act.put _ (some 22) _ = _
    simp only [Act.put, List.setIfInBounds_toArray, List.set_cons_zero, List.set_cons_succ]
    rfl
  refine one_ (i := 10) (N := some 29) #[true, true, true, true, true, true, true, true, true, true, true, false, false, false] rfl rfl (by kernel_rfl) (by decide) (fun K hK => ?_)
  refine goes_ Tryd.func29 (by kernel_rfl) rfl #[.int .i64 (p / 200), .int .i64 1, .int .i64 10000] (by rfl) rfl rfl (by (try simp only [List.map_toArray, List.map_cons, List.map_nil]); first | done | rfl) ?_
  with_reducible refine (HK.out _).mono ?_
  rintro e w_ ⟨rfl, hb_⟩
  refine ⟨_, rfl, ?_⟩
  replace hO := Own.call hO hb_
  clear hb_
  refine hK.out _ _ (hO) (fun hS => ?_)
  clear hK K
  refine norm_ (a' := ?_) ?_ ?_
  rotate_left
  · show Act.put _ (some 29) _ = _
    simp only [Act.put, List.setIfInBounds_toArray, List.set_cons_zero, List.set_cons_succ]
    rfl
  refine one_ (i := 11) (N := some 30) #[true, true, true, true, true, true, true, true, true, true, true, true, false, false] rfl rfl (by kernel_rfl) (by decide) (fun K hK => ?_)
  refine goes_ Tryd.func27 (by kernel_rfl) rfl #[.int .i64 a, .int .i64 e, .int .i64 k] (by rfl) rfl rfl (by (try simp only [List.map_toArray, List.map_cons, List.map_nil]); first | done | rfl) ?_
  with_reducible refine (HA.out _).mono ?_
  rintro e w_ ⟨rfl, hb_⟩
  refine ⟨_, rfl, ?_⟩
  replace hO := Own.call hO hb_
  clear hb_
  refine hK.out _ _ (hO) (fun hS => ?_)
  clear hK K
  refine norm_ (a' := ?_) ?_ ?_
  rotate_left
  · show Act.put _ (some 30) _ = _
    simp only [Act.put, List.setIfInBounds_toArray, List.set_cons_zero, List.set_cons_succ]
    rfl
  refine pure_ (i := 12) (N := some 31) (v := ?_) (a' := ?_) #[true, true, true, true, true, true, true, true, true, true, true, true, true, false] rfl rfl (by kernel_rfl) (fun _ _ _ h => h) (Or.inl ⟨by rfl, ?_⟩) ?_ ?_
  rotate_left
  · intro w'
    go_simp
    with_reducible rfl
  rotate_left
  · simp only [Act.put, List.setIfInBounds_toArray, List.set_cons_zero, List.set_cons_succ]
    rfl
  refine last_ (i := 13) (N := none) #[true, true, true, true, true, true, true, true, true, true, true, true, true, true] rfl rfl (by kernel_rfl) (by decide) (fun K hK => ?_)
  refine rStore (by rfl) rfl 3 _ _ rfl hO 3 _ _ ?_ rfl ?_ _ _ rfl ?_ ?_ ?_ ?_
  rotate_left
  · first | (go_simp; done) | (go_simp; with_reducible rfl) | rfl
  · kernel_rfl
  · kernel_rfl
  · kernel_rfl
  clear hO
  intro w_ hO
  simp only [List.set_cons_zero, List.set_cons_succ, putAllA, Value.cells, List.setIfInBounds_toArray] at hO
  refine hK.out _ _ ?_
  clear hK K
  refine norm_ (a' := ?_) ?_ ?_
  rotate_left
  · rfl
  refine done_ (by kernel_rfl) ?_
  clear HE HK HA s1 p0 p1
  go_upto_region 5 with fail
  (try simp only [Act.put, List.setIfInBounds_toArray, List.set_cons_zero, List.set_cons_succ])
  refine start_ (n := 17) (S := fun w' => Own w [(g_, 23, #[.int .i64 0, .int .i64 0, .int .i64 0]), (gl, 27, #[.int .i64 t, .int .i64 d]), (gs, 25, #[.string n, .int .i64 a0, .int .i64 a1, .int .i64 a2, .int .i64 a3, .int .i64 a4, .int .i64 a5, .int .i64 a6, .int .i64 a7, .int .i64 a8, .int .i64 a9, .int .i64 a10, .int .i64 a11]), (gc, 23, #[.int .i64 A, .int .i64 b, .int .i64 s])] w') (ds := [16]) #[false, false, false, false, false, false, false, false, false, false, false, false, false, false, false, false, false] (by kernel_rfl) rfl rfl (Own.drew hO) (fun hS => ?_)
  clear hO
  have hO := hS
  refine pure_ (i := 0) (N := some 32) (v := ?_) (a' := ?_) #[true, false, false, false, false, false, false, false, false, false, false, false, false, false, false, false, false] rfl rfl (by kernel_rfl) (fun _ _ _ h => h) (Or.inl ⟨by rfl, ?_⟩) ?_ ?_
  rotate_left
  · intro w'
    go_simp
    with_reducible rfl
  rotate_left
  · simp only [Act.put, List.setIfInBounds_toArray, List.set_cons_zero, List.set_cons_succ]
    rfl
  first
    | (refine take_ (i := 1) (N := some 33) (a' := ?_) #[true, true, false, false, false, false, false, false, false, false, false, false, false, false, false, false, false] rfl rfl (by kernel_rfl) (fun _ _ _ h => h) (yOne hS ?_ 3 _ rfl 0 _ _ rfl _ _ rfl ?_ ?_ _ Tryd.underlying3 rfl) hS ?_ ?_; (focus rfl); rotate_left; (focus (simp only [List.getElem?_toArray, List.getElem?_cons_zero, List.getElem?_cons_succ]; rfl)); rotate_left; (focus (simp only [Act.put, List.setIfInBounds_toArray, List.set_cons_zero, List.set_cons_succ]; rfl)))
    | (refine take_ (i := 1) (N := some 33) (a' := ?_) #[true, true, false, false, false, false, false, false, false, false, false, false, false, false, false, false, false] rfl rfl (by kernel_rfl) (fun _ _ _ h => h) (yOne hS ?_ 3 _ rfl 1 _ _ rfl _ _ rfl ?_ ?_ _ Tryd.underlying3 rfl) hS ?_ ?_; (focus rfl); rotate_left; (focus (simp only [List.getElem?_toArray, List.getElem?_cons_zero, List.getElem?_cons_succ]; rfl)); rotate_left; (focus (simp only [Act.put, List.setIfInBounds_toArray, List.set_cons_zero, List.set_cons_succ]; rfl)))
    | (refine take_ (i := 1) (N := some 33) (a' := ?_) #[true, true, false, false, false, false, false, false, false, false, false, false, false, false, false, false, false] rfl rfl (by kernel_rfl) (fun _ _ _ h => h) (yOne hS ?_ 3 _ rfl 2 _ _ rfl _ _ rfl ?_ ?_ _ Tryd.underlying3 rfl) hS ?_ ?_; (focus rfl); rotate_left; (focus (simp only [List.getElem?_toArray, List.getElem?_cons_zero, List.getElem?_cons_succ]; rfl)); rotate_left; (focus (simp only [Act.put, List.setIfInBounds_toArray, List.set_cons_zero, List.set_cons_succ]; rfl)))
    | (refine take_ (i := 1) (N := some 33) (a' := ?_) #[true, true, false, false, false, false, false, false, false, false, false, false, false, false, false, false, false] rfl rfl (by kernel_rfl) (fun _ _ _ h => h) (yOne hS ?_ 3 _ rfl 3 _ _ rfl _ _ rfl ?_ ?_ _ Tryd.underlying3 rfl) hS ?_ ?_; (focus rfl); rotate_left; (focus (simp only [List.getElem?_toArray, List.getElem?_cons_zero, List.getElem?_cons_succ]; rfl)); rotate_left; (focus (simp only [Act.put, List.setIfInBounds_toArray, List.set_cons_zero, List.set_cons_succ]; rfl)))
  refine pure_ (i := 2) (N := some 34) (v := ?_) (a' := ?_) #[true, true, true, false, false, false, false, false, false, false, false, false, false, false, false, false, false] rfl rfl (by kernel_rfl) (fun _ _ _ h => h) (Or.inl ⟨by rfl, ?_⟩) ?_ ?_
  rotate_left
  · intro w'
    go_simp
    with_reducible rfl
  rotate_left
  · simp only [Act.put, List.setIfInBounds_toArray, List.set_cons_zero, List.set_cons_succ]
    rfl
  first
    | (refine take_ (i := 3) (N := some 35) (a' := ?_) #[true, true, true, true, false, false, false, false, false, false, false, false, false, false, false, false, false] rfl rfl (by kernel_rfl) (fun _ _ _ h => h) (yOne hS ?_ 3 _ rfl 0 _ _ rfl _ _ rfl ?_ ?_ _ Tryd.underlying3 rfl) hS ?_ ?_; (focus rfl); rotate_left; (focus (simp only [List.getElem?_toArray, List.getElem?_cons_zero, List.getElem?_cons_succ]; rfl)); rotate_left; (focus (simp only [Act.put, List.setIfInBounds_toArray, List.set_cons_zero, List.set_cons_succ]; rfl)))
    | (refine take_ (i := 3) (N := some 35) (a' := ?_) #[true, true, true, true, false, false, false, false, false, false, false, false, false, false, false, false, false] rfl rfl (by kernel_rfl) (fun _ _ _ h => h) (yOne hS ?_ 3 _ rfl 1 _ _ rfl _ _ rfl ?_ ?_ _ Tryd.underlying3 rfl) hS ?_ ?_; (focus rfl); rotate_left; (focus (simp only [List.getElem?_toArray, List.getElem?_cons_zero, List.getElem?_cons_succ]; rfl)); rotate_left; (focus (simp only [Act.put, List.setIfInBounds_toArray, List.set_cons_zero, List.set_cons_succ]; rfl)))
    | (refine take_ (i := 3) (N := some 35) (a' := ?_) #[true, true, true, true, false, false, false, false, false, false, false, false, false, false, false, false, false] rfl rfl (by kernel_rfl) (fun _ _ _ h => h) (yOne hS ?_ 3 _ rfl 2 _ _ rfl _ _ rfl ?_ ?_ _ Tryd.underlying3 rfl) hS ?_ ?_; (focus rfl); rotate_left; (focus (simp only [List.getElem?_toArray, List.getElem?_cons_zero, List.getElem?_cons_succ]; rfl)); rotate_left; (focus (simp only [Act.put, List.setIfInBounds_toArray, List.set_cons_zero, List.set_cons_succ]; rfl)))
    | (refine take_ (i := 3) (N := some 35) (a' := ?_) #[true, true, true, true, false, false, false, false, false, false, false, false, false, false, false, false, false] rfl rfl (by kernel_rfl) (fun _ _ _ h => h) (yOne hS ?_ 3 _ rfl 3 _ _ rfl _ _ rfl ?_ ?_ _ Tryd.underlying3 rfl) hS ?_ ?_; (focus rfl); rotate_left; (focus (simp only [List.getElem?_toArray, List.getElem?_cons_zero, List.getElem?_cons_succ]; rfl)); rotate_left; (focus (simp only [Act.put, List.setIfInBounds_toArray, List.set_cons_zero, List.set_cons_succ]; rfl)))
  refine pure_ (i := 4) (N := some 36) (v := ?_) (a' := ?_) #[true, true, true, true, true, false, false, false, false, false, false, false, false, false, false, false, false] rfl rfl (by kernel_rfl) (fun _ _ _ h => h) (Or.inl ⟨by rfl, ?_⟩) ?_ ?_
  rotate_left
  · intro w'
    go_simp
    with_reducible rfl
  rotate_left
  · simp only [Act.put, List.setIfInBounds_toArray, List.set_cons_zero, List.set_cons_succ]
    rfl
  first
    | (refine take_ (i := 5) (N := some 37) (a' := ?_) #[true, true, true, true, true, true, false, false, false, false, false, false, false, false, false, false, false] rfl rfl (by kernel_rfl) (fun _ _ _ h => h) (yOne hS ?_ 3 _ rfl 0 _ _ rfl _ _ rfl ?_ ?_ _ Tryd.underlying3 rfl) hS ?_ ?_; (focus rfl); rotate_left; (focus (simp only [List.getElem?_toArray, List.getElem?_cons_zero, List.getElem?_cons_succ]; rfl)); rotate_left; (focus (simp only [Act.put, List.setIfInBounds_toArray, List.set_cons_zero, List.set_cons_succ]; rfl)))
    | (refine take_ (i := 5) (N := some 37) (a' := ?_) #[true, true, true, true, true, true, false, false, false, false, false, false, false, false, false, false, false] rfl rfl (by kernel_rfl) (fun _ _ _ h => h) (yOne hS ?_ 3 _ rfl 1 _ _ rfl _ _ rfl ?_ ?_ _ Tryd.underlying3 rfl) hS ?_ ?_; (focus rfl); rotate_left; (focus (simp only [List.getElem?_toArray, List.getElem?_cons_zero, List.getElem?_cons_succ]; rfl)); rotate_left; (focus (simp only [Act.put, List.setIfInBounds_toArray, List.set_cons_zero, List.set_cons_succ]; rfl)))
    | (refine take_ (i := 5) (N := some 37) (a' := ?_) #[true, true, true, true, true, true, false, false, false, false, false, false, false, false, false, false, false] rfl rfl (by kernel_rfl) (fun _ _ _ h => h) (yOne hS ?_ 3 _ rfl 2 _ _ rfl _ _ rfl ?_ ?_ _ Tryd.underlying3 rfl) hS ?_ ?_; (focus rfl); rotate_left; (focus (simp only [List.getElem?_toArray, List.getElem?_cons_zero, List.getElem?_cons_succ]; rfl)); rotate_left; (focus (simp only [Act.put, List.setIfInBounds_toArray, List.set_cons_zero, List.set_cons_succ]; rfl)))
    | (refine take_ (i := 5) (N := some 37) (a' := ?_) #[true, true, true, true, true, true, false, false, false, false, false, false, false, false, false, false, false] rfl rfl (by kernel_rfl) (fun _ _ _ h => h) (yOne hS ?_ 3 _ rfl 3 _ _ rfl _ _ rfl ?_ ?_ _ Tryd.underlying3 rfl) hS ?_ ?_; (focus rfl); rotate_left; (focus (simp only [List.getElem?_toArray, List.getElem?_cons_zero, List.getElem?_cons_succ]; rfl)); rotate_left; (focus (simp only [Act.put, List.setIfInBounds_toArray, List.set_cons_zero, List.set_cons_succ]; rfl)))
  refine pure_ (i := 6) (N := some 38) (v := ?_) (a' := ?_) #[true, true, true, true, true, true, true, false, false, false, false, false, false, false, false, false, false] rfl rfl (by kernel_rfl) (fun _ _ _ h => h) (Or.inl ⟨by rfl, ?_⟩) ?_ ?_
  rotate_left
  · intro w'
    go_simp
    with_reducible rfl
  rotate_left
  · simp only [Act.put, List.setIfInBounds_toArray, List.set_cons_zero, List.set_cons_succ]
    rfl
  first
    | (refine take_ (i := 7) (N := some 39) (a' := ?_) #[true, true, true, true, true, true, true, true, false, false, false, false, false, false, false, false, false] rfl rfl (by kernel_rfl) (fun _ _ _ h => h) (yOne hS ?_ 3 _ rfl 0 _ _ rfl _ _ rfl ?_ ?_ _ Tryd.underlying3 rfl) hS ?_ ?_; (focus rfl); rotate_left; (focus (simp only [List.getElem?_toArray, List.getElem?_cons_zero, List.getElem?_cons_succ]; rfl)); rotate_left; (focus (simp only [Act.put, List.setIfInBounds_toArray, List.set_cons_zero, List.set_cons_succ]; rfl)))
    | (refine take_ (i := 7) (N := some 39) (a' := ?_) #[true, true, true, true, true, true, true, true, false, false, false, false, false, false, false, false, false] rfl rfl (by kernel_rfl) (fun _ _ _ h => h) (yOne hS ?_ 3 _ rfl 1 _ _ rfl _ _ rfl ?_ ?_ _ Tryd.underlying3 rfl) hS ?_ ?_; (focus rfl); rotate_left; (focus (simp only [List.getElem?_toArray, List.getElem?_cons_zero, List.getElem?_cons_succ]; rfl)); rotate_left; (focus (simp only [Act.put, List.setIfInBounds_toArray, List.set_cons_zero, List.set_cons_succ]; rfl)))
    | (refine take_ (i := 7) (N := some 39) (a' := ?_) #[true, true, true, true, true, true, true, true, false, false, false, false, false, false, false, false, false] rfl rfl (by kernel_rfl) (fun _ _ _ h => h) (yOne hS ?_ 3 _ rfl 2 _ _ rfl _ _ rfl ?_ ?_ _ Tryd.underlying3 rfl) hS ?_ ?_; (focus rfl); rotate_left; (focus (simp only [List.getElem?_toArray, List.getElem?_cons_zero, List.getElem?_cons_succ]; rfl)); rotate_left; (focus (simp only [Act.put, List.setIfInBounds_toArray, List.set_cons_zero, List.set_cons_succ]; rfl)))
    | (refine take_ (i := 7) (N := some 39) (a' := ?_) #[true, true, true, true, true, true, true, true, false, false, false, false, false, false, false, false, false] rfl rfl (by kernel_rfl) (fun _ _ _ h => h) (yOne hS ?_ 3 _ rfl 3 _ _ rfl _ _ rfl ?_ ?_ _ Tryd.underlying3 rfl) hS ?_ ?_; (focus rfl); rotate_left; (focus (simp only [List.getElem?_toArray, List.getElem?_cons_zero, List.getElem?_cons_succ]; rfl)); rotate_left; (focus (simp only [Act.put, List.setIfInBounds_toArray, List.set_cons_zero, List.set_cons_succ]; rfl)))
  refine pure_ (i := 8) (N := some 40) (v := ?_) (a' := ?_) #[true, true, true, true, true, true, true, true, true, false, false, false, false, false, false, false, false] rfl rfl (by kernel_rfl) (fun _ _ _ h => h) (Or.inl ⟨by rfl, ?_⟩) ?_ ?_
  rotate_left
  · intro w'
    go_simp
    with_reducible rfl
  rotate_left
  · simp only [Act.put, List.setIfInBounds_toArray, List.set_cons_zero, List.set_cons_succ]
    rfl
  refine pure_ (i := 9) (N := some 41) (v := ?_) (a' := ?_) #[true, true, true, true, true, true, true, true, true, true, false, false, false, false, false, false, false] rfl rfl (by kernel_rfl) (fun _ _ _ h => h) (Or.inl ⟨by rfl, ?_⟩) ?_ ?_
  rotate_left
  · intro w'
    go_simp
    with_reducible rfl
  rotate_left
  · simp only [Act.put, List.setIfInBounds_toArray, List.set_cons_zero, List.set_cons_succ]
    rfl
  refine pure_ (i := 10) (N := some 42) (v := ?_) (a' := ?_) #[true, true, true, true, true, true, true, true, true, true, true, false, false, false, false, false, false] rfl rfl (by kernel_rfl) (fun _ _ _ h => h) (Or.inl ⟨by rfl, ?_⟩) ?_ ?_
  rotate_left
  · intro w'
    go_simp
    with_reducible rfl
  rotate_left
  · simp only [Act.put, List.setIfInBounds_toArray, List.set_cons_zero, List.set_cons_succ]
    rfl
  refine pure_ (i := 11) (N := some 43) (v := ?_) (a' := ?_) #[true, true, true, true, true, true, true, true, true, true, true, true, false, false, false, false, false] rfl rfl (by kernel_rfl) (fun _ _ _ h => h) (Or.inl ⟨by rfl, ?_⟩) ?_ ?_
  rotate_left
  · intro w'
    go_simp
    with_reducible rfl
  rotate_left
  · simp only [Act.put, List.setIfInBounds_toArray, List.set_cons_zero, List.set_cons_succ]
    rfl
  refine pure_ (i := 12) (N := some 44) (v := ?_) (a' := ?_) #[true, true, true, true, true, true, true, true, true, true, true, true, true, false, false, false, false] rfl rfl (by kernel_rfl) (fun _ _ _ h => h) (Or.inl ⟨by rfl, ?_⟩) ?_ ?_
  rotate_left
  · intro w'
    go_simp
    with_reducible rfl
  rotate_left
  · simp only [Act.put, List.setIfInBounds_toArray, List.set_cons_zero, List.set_cons_succ]
    rfl
  refine one_ (i := 13) (N := some 45) #[true, true, true, true, true, true, true, true, true, true, true, true, true, true, false, false, false] rfl rfl (by kernel_rfl) (by decide) (fun K hK => ?_)
  refine goes_ Tryd.func29 (by kernel_rfl) rfl #[.int .i64 (u' / h2), .int .i64 1, .int .i64 10000] (by rfl) rfl rfl (by (try simp only [List.map_toArray, List.map_cons, List.map_nil]); first | done | rfl) ?_
  with_reducible refine (HJ.out _).mono ?_
  rintro e w_ ⟨rfl, hb_⟩
  refine ⟨_, rfl, ?_⟩
  replace hO := Own.call hO hb_
  clear hb_
  refine hK.out _ _ (hO) (fun hS => ?_)
  clear hK K
  refine norm_ (a' := ?_) ?_ ?_
  rotate_left
  · show Act.put _ (some 45) _ = _
    simp only [Act.put, List.setIfInBounds_toArray, List.set_cons_zero, List.set_cons_succ]
    rfl
  refine one_ (i := 14) (N := some 46) #[true, true, true, true, true, true, true, true, true, true, true, true, true, true, true, false, false] rfl rfl (by kernel_rfl) (by decide) (fun K hK => ?_)
  refine goes_ Tryd.func27 (by kernel_rfl) rfl #[.int .i64 b, .int .i64 A, .int .i64 j] (by rfl) rfl rfl (by (try simp only [List.map_toArray, List.map_cons, List.map_nil]); first | done | rfl) ?_
  with_reducible refine (HB.out _).mono ?_
  rintro e w_ ⟨rfl, hb_⟩
  refine ⟨_, rfl, ?_⟩
  replace hO := Own.call hO hb_
  clear hb_
  refine hK.out _ _ (hO) (fun hS => ?_)
  clear hK K
  refine norm_ (a' := ?_) ?_ ?_
  rotate_left
  · show Act.put _ (some 46) _ = _
    simp only [Act.put, List.setIfInBounds_toArray, List.set_cons_zero, List.set_cons_succ]
    rfl
  refine pure_ (i := 15) (N := some 47) (v := ?_) (a' := ?_) #[true, true, true, true, true, true, true, true, true, true, true, true, true, true, true, true, false] rfl rfl (by kernel_rfl) (fun _ _ _ h => h) (Or.inl ⟨by rfl, ?_⟩) ?_ ?_
  rotate_left
  · intro w'
    go_simp
    with_reducible rfl
  rotate_left
  · simp only [Act.put, List.setIfInBounds_toArray, List.set_cons_zero, List.set_cons_succ]
    rfl
  refine last_ (i := 16) (N := none) #[true, true, true, true, true, true, true, true, true, true, true, true, true, true, true, true, true] rfl rfl (by kernel_rfl) (by decide) (fun K hK => ?_)
  refine rStore (by rfl) rfl 3 _ _ rfl hO 3 _ _ ?_ rfl ?_ _ _ rfl ?_ ?_ ?_ ?_
  rotate_left
  · first | (go_simp; done) | (go_simp; with_reducible rfl) | rfl
  · kernel_rfl
  · kernel_rfl
  · kernel_rfl
  clear hO
  intro w_ hO
  simp only [List.set_cons_zero, List.set_cons_succ, putAllA, Value.cells, List.setIfInBounds_toArray] at hO
  refine hK.out _ _ ?_
  clear hK K
  refine norm_ (a' := ?_) ?_ ?_
  rotate_left
  · rfl
  refine done_ (by kernel_rfl) ?_
  go_wp2_with (first
  | (refine own_alloc rfl 23 rfl hO _ rfl #[.int .i64 0, .int .i64 0, .int .i64 0] (by kernel_rfl) ?_; clear hO; (try clear w_); intro g_ w_ hO)
  | (refine own_box rfl 23 _ rfl hO _ rfl ?_ ?_ ?_; rotate_left; (focus (first | (go_simp; done) | (go_simp; with_reducible rfl) | rfl)); clear hO; (try clear w_); intro g_ w_ hO; simp only [Value.cells] at hO)
  | ((first | refine own_load_row rfl 23 _ rfl hO 0 _ _ rfl _ _ rfl _ rfl 3 ?_ ?_ ?_ _ Tryd.underlying23 rfl ?_ ?_ | refine own_load_row rfl 23 _ rfl hO 1 _ _ rfl _ _ rfl _ rfl 3 ?_ ?_ ?_ _ Tryd.underlying23 rfl ?_ ?_ | refine own_load_row rfl 23 _ rfl hO 2 _ _ rfl _ _ rfl _ rfl 3 ?_ ?_ ?_ _ Tryd.underlying23 rfl ?_ ?_ | refine own_load_row rfl 23 _ rfl hO 3 _ _ rfl _ _ rfl _ rfl 3 ?_ ?_ ?_ _ Tryd.underlying23 rfl ?_ ?_); rotate_left; (focus (simp only [Array.toList_extract, List.extract_toArray, List.extract_eq_take_drop, List.drop_zero, List.drop_succ_cons, List.take_succ_cons, List.take_zero, Nat.reduceAdd, Nat.reduceSub, Nat.zero_add, Nat.add_zero, Nat.add_sub_cancel_left, Nat.sub_zero, Nat.sub_self]; rfl)); (focus rfl); (focus kernel_rfl))
  | ((first | refine own_store rfl 23 _ _ rfl hO 0 _ _ ?_ rfl ?_ _ _ rfl _ rfl ?_ ?_ ?_ ?_ | refine own_store rfl 23 _ _ rfl hO 1 _ _ ?_ rfl ?_ _ _ rfl _ rfl ?_ ?_ ?_ ?_ | refine own_store rfl 23 _ _ rfl hO 2 _ _ ?_ rfl ?_ _ _ rfl _ rfl ?_ ?_ ?_ ?_ | refine own_store rfl 23 _ _ rfl hO 3 _ _ ?_ rfl ?_ _ _ rfl _ rfl ?_ ?_ ?_ ?_); rotate_left; (focus (first | (go_simp; done) | (go_simp; with_reducible rfl) | rfl)); (focus kernel_rfl); (focus kernel_rfl); (focus kernel_rfl); clear hO; (try clear w_); intro w_ hO; simp only [List.set_cons_zero, List.set_cons_succ, putAllA, Value.cells, List.setIfInBounds_toArray] at hO)
  | (refine own_alloc rfl 25 rfl hO _ rfl #[.string ⟨#[]⟩, .int .i64 0, .int .i64 0, .int .i64 0, .int .i64 0, .int .i64 0, .int .i64 0, .int .i64 0, .int .i64 0, .int .i64 0, .int .i64 0, .int .i64 0, .int .i64 0] (by kernel_rfl) ?_; clear hO; (try clear w_); intro g_ w_ hO)
  | (refine own_box rfl 25 _ rfl hO _ rfl ?_ ?_ ?_; rotate_left; (focus (first | (go_simp; done) | (go_simp; with_reducible rfl) | rfl)); clear hO; (try clear w_); intro g_ w_ hO; simp only [Value.cells] at hO)
  | ((first | refine own_load_row rfl 25 _ rfl hO 0 _ _ rfl _ _ rfl _ rfl 13 ?_ ?_ ?_ _ Tryd.underlying25 rfl ?_ ?_ | refine own_load_row rfl 25 _ rfl hO 1 _ _ rfl _ _ rfl _ rfl 13 ?_ ?_ ?_ _ Tryd.underlying25 rfl ?_ ?_ | refine own_load_row rfl 25 _ rfl hO 2 _ _ rfl _ _ rfl _ rfl 13 ?_ ?_ ?_ _ Tryd.underlying25 rfl ?_ ?_ | refine own_load_row rfl 25 _ rfl hO 3 _ _ rfl _ _ rfl _ rfl 13 ?_ ?_ ?_ _ Tryd.underlying25 rfl ?_ ?_); rotate_left; (focus (simp only [Array.toList_extract, List.extract_toArray, List.extract_eq_take_drop, List.drop_zero, List.drop_succ_cons, List.take_succ_cons, List.take_zero, Nat.reduceAdd, Nat.reduceSub, Nat.zero_add, Nat.add_zero, Nat.add_sub_cancel_left, Nat.sub_zero, Nat.sub_self]; rfl)); (focus rfl); (focus kernel_rfl))
  | ((first | refine own_store rfl 25 _ _ rfl hO 0 _ _ ?_ rfl ?_ _ _ rfl _ rfl ?_ ?_ ?_ ?_ | refine own_store rfl 25 _ _ rfl hO 1 _ _ ?_ rfl ?_ _ _ rfl _ rfl ?_ ?_ ?_ ?_ | refine own_store rfl 25 _ _ rfl hO 2 _ _ ?_ rfl ?_ _ _ rfl _ rfl ?_ ?_ ?_ ?_ | refine own_store rfl 25 _ _ rfl hO 3 _ _ ?_ rfl ?_ _ _ rfl _ rfl ?_ ?_ ?_ ?_); rotate_left; (focus (first | (go_simp; done) | (go_simp; with_reducible rfl) | rfl)); (focus kernel_rfl); (focus kernel_rfl); (focus kernel_rfl); clear hO; (try clear w_); intro w_ hO; simp only [List.set_cons_zero, List.set_cons_succ, putAllA, Value.cells, List.setIfInBounds_toArray] at hO)
  | (refine own_alloc rfl 27 rfl hO _ rfl #[.int .i64 0, .int .i64 0] (by kernel_rfl) ?_; clear hO; (try clear w_); intro g_ w_ hO)
  | (refine own_box rfl 27 _ rfl hO _ rfl ?_ ?_ ?_; rotate_left; (focus (first | (go_simp; done) | (go_simp; with_reducible rfl) | rfl)); clear hO; (try clear w_); intro g_ w_ hO; simp only [Value.cells] at hO)
  | ((first | refine own_load_row rfl 27 _ rfl hO 0 _ _ rfl _ _ rfl _ rfl 2 ?_ ?_ ?_ _ Tryd.underlying27 rfl ?_ ?_ | refine own_load_row rfl 27 _ rfl hO 1 _ _ rfl _ _ rfl _ rfl 2 ?_ ?_ ?_ _ Tryd.underlying27 rfl ?_ ?_ | refine own_load_row rfl 27 _ rfl hO 2 _ _ rfl _ _ rfl _ rfl 2 ?_ ?_ ?_ _ Tryd.underlying27 rfl ?_ ?_ | refine own_load_row rfl 27 _ rfl hO 3 _ _ rfl _ _ rfl _ rfl 2 ?_ ?_ ?_ _ Tryd.underlying27 rfl ?_ ?_); rotate_left; (focus (simp only [Array.toList_extract, List.extract_toArray, List.extract_eq_take_drop, List.drop_zero, List.drop_succ_cons, List.take_succ_cons, List.take_zero, Nat.reduceAdd, Nat.reduceSub, Nat.zero_add, Nat.add_zero, Nat.add_sub_cancel_left, Nat.sub_zero, Nat.sub_self]; rfl)); (focus rfl); (focus kernel_rfl))
  | ((first | refine own_store rfl 27 _ _ rfl hO 0 _ _ ?_ rfl ?_ _ _ rfl _ rfl ?_ ?_ ?_ ?_ | refine own_store rfl 27 _ _ rfl hO 1 _ _ ?_ rfl ?_ _ _ rfl _ rfl ?_ ?_ ?_ ?_ | refine own_store rfl 27 _ _ rfl hO 2 _ _ ?_ rfl ?_ _ _ rfl _ rfl ?_ ?_ ?_ ?_ | refine own_store rfl 27 _ _ rfl hO 3 _ _ ?_ rfl ?_ _ _ rfl _ rfl ?_ ?_ ?_ ?_); rotate_left; (focus (first | (go_simp; done) | (go_simp; with_reducible rfl) | rfl)); (focus kernel_rfl); (focus kernel_rfl); (focus kernel_rfl); clear hO; (try clear w_); intro w_ hO; simp only [List.set_cons_zero, List.set_cons_succ, putAllA, Value.cells, List.setIfInBounds_toArray] at hO)
  | (refine own_alloc rfl 3 rfl hO _ rfl #[.int .i64 0] (by kernel_rfl) ?_; clear hO; (try clear w_); intro g_ w_ hO)
  | (refine own_box rfl 3 _ rfl hO _ rfl ?_ ?_ ?_; rotate_left; (focus (first | (go_simp; done) | (go_simp; with_reducible rfl) | rfl)); clear hO; (try clear w_); intro g_ w_ hO; simp only [Value.cells] at hO)
  | ((first | refine own_load_one rfl 3 _ rfl hO 0 _ _ rfl _ _ rfl _ rfl ?_ ?_ _ Tryd.underlying3 rfl ?_ | refine own_load_one rfl 3 _ rfl hO 1 _ _ rfl _ _ rfl _ rfl ?_ ?_ _ Tryd.underlying3 rfl ?_ | refine own_load_one rfl 3 _ rfl hO 2 _ _ rfl _ _ rfl _ rfl ?_ ?_ _ Tryd.underlying3 rfl ?_ | refine own_load_one rfl 3 _ rfl hO 3 _ _ rfl _ _ rfl _ rfl ?_ ?_ _ Tryd.underlying3 rfl ?_); rotate_left; (focus (simp only [List.getElem?_toArray, List.getElem?_cons_zero, List.getElem?_cons_succ]; rfl)))
  | ((first | refine own_store rfl 3 _ _ rfl hO 0 _ _ ?_ rfl ?_ _ _ rfl _ rfl ?_ ?_ ?_ ?_ | refine own_store rfl 3 _ _ rfl hO 1 _ _ ?_ rfl ?_ _ _ rfl _ rfl ?_ ?_ ?_ ?_ | refine own_store rfl 3 _ _ rfl hO 2 _ _ ?_ rfl ?_ _ _ rfl _ rfl ?_ ?_ ?_ ?_ | refine own_store rfl 3 _ _ rfl hO 3 _ _ ?_ rfl ?_ _ _ rfl _ rfl ?_ ?_ ?_ ?_); rotate_left; (focus (first | (go_simp; done) | (go_simp; with_reducible rfl) | rfl)); (focus kernel_rfl); (focus kernel_rfl); (focus kernel_rfl); clear hO; (try clear w_); intro w_ hO; simp only [List.set_cons_zero, List.set_cons_succ, putAllA, Value.cells, List.setIfInBounds_toArray] at hO)
  )
  exact bodyPost_ret (results_cell_row Tryd.results10 _ _ g_ 23 _ (0, 0) _ rfl (hO.at 0 rfl) Tryd.underlying23 rfl (by kernel_rfl)) rfl ⟨by rw [ES.out, EC.out, EZ.out], hO.bel⟩

theorem rtick_any (a b s : Int) (n : ByteArray) (a0 a1 a2 a3 a4 a5 a6 a7 a8 a9 a10 a11 thick t d : Int) (fan : Bool) (w : World) :
    Calls Tryd.prog 10 #[.agg #[.int .i64 a, .int .i64 b, .int .i64 s], .agg #[.string n, .int .i64 a0, .int .i64 a1, .int .i64 a2, .int .i64 a3, .int .i64 a4, .int .i64 a5, .int .i64 a6, .int .i64 a7, .int .i64 a8, .int .i64 a9, .int .i64 a10, .int .i64 a11], .int .i64 thick, .agg #[.int .i64 t, .int .i64 d], .bool fan] w fun e w' => e = .returned (vCell (tickZ a b s a1 a2 a3 thick t d fan)) ∧ Below w.heap.size w w' := by
  by_cases hc : Comp a b s a1 a2 a3 thick t d
  · cases fan
    · refine (rtick_still a b s n a0 a1 a2 a3 a4 a5 a6 a7 a8 a9 a10 a11 thick t d w hc).mono fun e w' h => ⟨?_, h.2⟩
      rw [h.1, tickZ, if_pos hc]
    · refine (rtick_fan a b s n a0 a1 a2 a3 a4 a5 a6 a7 a8 a9 a10 a11 thick t d w hc).mono fun e w' h => ⟨?_, h.2⟩
      rw [h.1, tickZ, if_pos hc]
  · refine (rtick_no a b s n a0 a1 a2 a3 a4 a5 a6 a7 a8 a9 a10 a11 thick t d fan w hc).mono fun e w' h => ⟨?_, h.2⟩
    rw [h.1, tickZ, if_neg hc]
end Go.Proofs.YtfjlbpjjcehcnaaDoor
