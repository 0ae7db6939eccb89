/-
  The reference's names and ranges: R02.IsName, R37.from, R34.from, R35.Outside.
  The reference's check of a schedule: R37.Check.
  The reference's check of a species: R34.valid, R34.Check over one species.
-/
import Derived.Test.YtkedpokbbogkmaaDoorKname
import Derived.Test.YtkedpokbbogkmaaDoorKtickD
import Derived.Test.YtkedpokbbogkmaaDoorKscheck
import Derived.Test.YtkedpokbbogkmaaDoorKwood
import Derived.Deep.DeepCutAuto
namespace Go.Proofs.YtkedpokbbogkmaaDoor
section
open Go.RowKit
set_option linter.unusedSimpArgs false
set_option linter.unusedVariables false

def rngB' (v lo hi : Int) : Bool := decide (lo ≤ v) && decide (v ≤ hi)
set_option maxHeartbeats 1000000 in
set_option maxRecDepth 100000 in
theorem rdigit_any (c : Int) (w : World) : Calls Tryd.prog 54 #[.int .u8 c] w fun e w' => e = .returned (.bool (digB c)) ∧ w = w' := by
  unfold digB
  rcases Bool.eq_false_or_eq_true (decide (48 ≤ c)) with h1 | h1 <;> rcases Bool.eq_false_or_eq_true (decide (c ≤ 57)) with h2 | h2
  all_goals
    rw [h1, h2]
    go_enter Tryd.func54, Tryd.ntmps54
    go_wp2
    go_ret
    exact ⟨rfl, rfl⟩
set_option maxHeartbeats 1000000 in
set_option maxRecDepth 100000 in
theorem rfrom37_any (v lo hi : Int) (w : World) : Calls Tryd.prog 45 #[.int .i64 v, .int .i64 lo, .int .i64 hi] w fun e w' => e = .returned (.bool (rngB' v lo hi)) ∧ w = w' := by
  unfold rngB'
  rcases Bool.eq_false_or_eq_true (decide (lo ≤ v)) with h1 | h1 <;> rcases Bool.eq_false_or_eq_true (decide (v ≤ hi)) with h2 | h2
  all_goals
    rw [h1, h2]
    go_enter Tryd.func45, Tryd.ntmps45
    go_wp2
    go_ret
    exact ⟨rfl, rfl⟩
set_option maxHeartbeats 1000000 in
set_option maxRecDepth 100000 in
theorem rfrom34_any (v lo hi : Int) (w : World) : Calls Tryd.prog 55 #[.int .i64 v, .int .i64 lo, .int .i64 hi] w fun e w' => e = .returned (.bool (rngB' v lo hi)) ∧ w = w' := by
  unfold rngB'
  rcases Bool.eq_false_or_eq_true (decide (lo ≤ v)) with h1 | h1 <;> rcases Bool.eq_false_or_eq_true (decide (v ≤ hi)) with h2 | h2
  all_goals
    rw [h1, h2]
    go_enter Tryd.func55, Tryd.ntmps55
    go_wp2
    go_ret
    exact ⟨rfl, rfl⟩
set_option maxRecDepth 100000 in
theorem routside_any (w : World) : Calls Tryd.prog 29 #[] w fun e w' => e = .returned (.agg #[.int .i64 200, .int .i64 100]) ∧ Below w.heap.size w w' := by
  have hO := Own.nil w
  go_enter Tryd.func29, Tryd.ntmps29
  go_wp2_with (first
    | ((with_reducible refine gate_alloc 37 rfl ?_); refine own_alloc rfl 37 rfl hO _ rfl #[.int .i64 0, .int .i64 0] (by kernel_rfl) ?_; clear hO; (try clear w_); intro g_ w_ hO)
    | ((with_reducible refine gate_box 37 rfl ?_); refine own_box rfl 37 _ rfl hO _ rfl ?_ ?_ ?_; rotate_left; (focus (first | (go_simp; done) | (go_simp; with_reducible rfl) | rfl)); clear hO; (try clear w_); intro g_ w_ hO; simp only [Value.cells] at hO)
    | ((with_reducible refine gate_load 37 rfl ?_); (first | refine own_load_row rfl 37 _ rfl hO 0 _ _ rfl _ _ rfl _ rfl 2 ?_ ?_ ?_ _ Tryd.underlying37 rfl ?_ ?_); rotate_left; (focus (first | (with_reducible exact hrow_) | (with_reducible exact hrow2_) | (simp only [Array.toList_extract, List.extract_toArray, List.extract_eq_take_drop, List.drop_zero, List.drop_succ_cons, List.take_succ_cons, List.take_zero, Nat.reduceAdd, Nat.reduceSub, Nat.zero_add, Nat.add_zero, Nat.add_sub_cancel_left, Nat.sub_zero, Nat.sub_self]; rfl))); (focus rfl); (focus kernel_rfl))
    | ((with_reducible refine gate_store 37 rfl ?_); (first | refine own_store rfl 37 _ _ rfl hO 0 _ _ ?_ rfl ?_ _ _ rfl _ rfl ?_ ?_ ?_ ?_); rotate_left; (focus (first | (go_simp; done) | (go_simp; with_reducible rfl) | rfl)); (focus (first | (exact hble_) | kernel_rfl)); (focus kernel_rfl); (focus kernel_rfl); clear hO; (try clear w_); intro w_ hO; (first | (simp only [Value.cells] at hO; rw [hput_] at hO) | simp only [List.set_cons_zero, List.set_cons_succ, putAllA, Value.cells, List.setIfInBounds_toArray] at hO))
    )
  exact bodyPost_ret (results_cell_row Tryd.results29 _ _ g_ 37 _ (0, 0) _ rfl (hO.at 0 rfl) Tryd.underlying37 rfl (by kernel_rfl)) rfl ⟨rfl, hO.bel⟩
set_option maxHeartbeats 4000000 in
set_option maxRecDepth 100000 in
theorem risName_any (s : ByteArray) (w : World) : Calls Tryd.prog 44 #[.string s] w fun e w' => e = .returned (.bool (nameB s)) ∧ w = w' := by
  rcases Decidable.em (s.size = 0) with h0 | h0
  · have q0 : decide ((s.size : Int) < 1) = true := decide_eq_true (by omega)
    have HN : Hid (nameB s = false) := Lib.hid (by
      unfold nameB
      rw [decide_eq_false (by omega : ¬ (1 ≤ s.size ∧ s.size ≤ 16))]
      rfl)
    clear h0
    go_enter Tryd.func44, Tryd.ntmps44
    go_wp2
    go_ret
    exact ⟨by rw [HN.out]; rfl, rfl⟩
  · have q0 : decide ((s.size : Int) < 1) = false := decide_eq_false (by omega)
    rcases Decidable.em (16 < s.size) with h1 | h1
    · have q1 : decide ((16 : Int) < (s.size : Int)) = true := decide_eq_true (by omega)
      have HN : Hid (nameB s = false) := Lib.hid (by
        unfold nameB
        rw [decide_eq_false (by omega : ¬ (1 ≤ s.size ∧ s.size ≤ 16))]
        rfl)
      clear h0 h1
      go_enter Tryd.func44, Tryd.ntmps44
      go_wp2
      go_ret
      exact ⟨by rw [HN.out]; rfl, rfl⟩
    · have q1 : decide ((16 : Int) < (s.size : Int)) = false := decide_eq_false (by omega)
      have hp : 0 < s.size := by omega
      have h16 : s.size ≤ 16 := by omega
      have HS : Hid (nameB s = (!digB (bz s 0) && !(bz s 0 == 95) && (List.range s.size).all fun k => okB (bz s k))) := Lib.hid (by
        unfold nameB
        rw [decide_eq_true (by omega : 1 ≤ s.size ∧ s.size ≤ 16)]
        rfl)
      clear h0 h1
      go_enter Tryd.func44, Tryd.ntmps44
      go_wp2
      go_loopw [3] (fun i wr => ∃ k : Nat, k ≤ s.size ∧ i = .int .i64 k ∧ Aside ((∀ j, j < k → okB (bz s j) = true) ∧ (0 < k → digB (bz s 0) = false ∧ (bz s 0 == 95) = false)) ∧ wr = w) (fun i _ => s.size - (intOf i).toNat)
      case atStart => exact ⟨0, Nat.zero_le _, rfl, ⟨(fun j hj => absurd hj (Nat.not_lt_zero _) : ∀ j, j < 0 → okB (bz s j) = true), fun h => absurd h (Nat.not_lt_zero _)⟩, rfl⟩
      case round =>
        obtain ⟨k, hk, rfl, HA, rfl⟩ := hrel
        by_cases hlt : k < s.size
        · have hx := bz_at s k
          have hkz : okB (bz s k) = false → nameB s = false := fun h => by
            rw [HS.out, Bool.and_eq_false_iff]
            refine .inr (List.all_eq_false.2 ⟨k, List.mem_range.2 hlt, by rw [h]; decide⟩)
          have hkd : k = 0 → (digB (bz s k) = true ∨ (bz s k == 95) = true) → nameB s = false := fun h0 h => by
            subst h0
            rw [HS.out]
            rcases h with h | h <;> rw [h] <;> simp
          have hkn : okB (bz s k) = true → (k = 0 → digB (bz s k) = false ∧ (bz s k == 95) = false) → (∀ j, j < k + 1 → okB (bz s j) = true) ∧ (0 < k + 1 → digB (bz s 0) = false ∧ (bz s 0 == 95) = false) := fun h h' =>
            ⟨fun j hj => by
              by_cases e : j = k
              · rw [e]; exact h
              · exact HA.1 j (by omega), fun _ => by
              by_cases e : k = 0
              · have := h' e
                rw [e] at this
                exact this
              · exact HA.2 (by omega)⟩
          generalize bz s k = z at hx hkz hkn hkd
          have KZ := Lib.hid hkz
          have KN := Lib.hid hkn
          have KD := Lib.hid hkd
          have HD : Hid (∀ w, Calls Tryd.prog 54 #[.int .u8 z] w fun e w' => e = .returned (.bool (digB z)) ∧ w = w') := Lib.hid (rdigit_any z)
          clear hkz hkn hkd HA hp
          have eo : okB z = (digB z || (z == 95) || (decide (97 ≤ z) && decide (z ≤ 122))) := rfl
          rw [eo] at KZ KN
          clear eo
          have eln : (decide (97 ≤ z) && decide (z ≤ 122)) = true → digB z = false ∧ (z == 95) = false := fun h => by
            simp only [Bool.and_eq_true, decide_eq_true_eq] at h
            refine ⟨?_, by rw [beq_eq_false_iff_ne]; omega⟩
            unfold digB
            rw [Bool.and_eq_false_iff]
            exact .inr (decide_eq_false (by omega))
          have HLN := Lib.hid eln
          clear eln
          obtain ⟨kb, hkb⟩ : ∃ b, ((k : Int) == 0) = b := ⟨_, rfl⟩
          have HK0 : Hid (kb = true → k = 0) := Lib.hid (fun h => by
            rw [h] at hkb
            have := eq_of_beq hkb
            omega)
          have HK1 : Hid (kb = false → k ≠ 0) := Lib.hid (fun h e => by
            rw [h, e] at hkb
            exact absurd hkb (by decide))
          have e5 : (z != 95) = !(z == 95) := rfl
          rcases Bool.eq_false_or_eq_true (digB z) with d1 | d1 <;> rcases Bool.eq_false_or_eq_true (z == 95) with d2 | d2 <;> rcases Bool.eq_false_or_eq_true (decide (97 ≤ z)) with d3 | d3 <;> rcases Bool.eq_false_or_eq_true (decide (z ≤ 122)) with d4 | d4 <;> cases kb
          all_goals
            rw [d1, d2, d3, d4] at KZ KN
            rw [d1] at HD
            rw [d1, d2] at KD
            rw [d1, d2, d3, d4] at HLN
            rw [d2] at e5
            clear d1
            first
            | (exfalso; have := HLN.out rfl; revert this; decide)
            | (go_wp2_with (go_at_call 54; (with_reducible refine (HD.out _).mono ?_); rintro e w_ ⟨rfl, rfl⟩)
               first
               | (go_roundw
                  (case rel => exact ⟨k + 1, by omega, by go_num, KN.out (by trivial) (fun h => by first | exact ⟨rfl, rfl⟩ | exact absurd h (HK1.out (by trivial)) | simp), by first | rfl | trivial⟩)
                  (case measure => simp [intOf]; omega))
               | (go_ret
                  exact ⟨by first | (rw [KZ.out (by trivial)]; rfl) | (rw [KD.out (HK0.out (by trivial)) (by simp)]; rfl), rfl⟩))
        · obtain rfl : k = s.size := by omega
          have HT : Hid (nameB s = true) := Lib.hid (by
            have h0 := HA.2 hp
            rw [HS.out, h0.1, h0.2]
            simp only [Bool.not_false, Bool.and_self, Bool.true_and]
            rw [List.all_eq_true]
            exact fun j hj => HA.1 j (List.mem_range.1 hj))
          clear HA hp
          go_wp2
          go_ret
          exact ⟨by rw [HT.out]; rfl, rfl⟩
end
section
open Go.RowKit Go.Proofs.YtkedpokbbogkmaaDoorW.PrintLast
set_option linter.unusedSimpArgs false
set_option linter.unusedVariables false

theorem stageB_rng (x : Q4) : stageB x = (rngB' x.1 0 20000 && (rngB' x.2.1 0 10000 && (!((x.1 == 0) && (x.2.1 == 0)) && (rngB' x.2.2.1 200 1200 && rngB' x.2.2.2 0 400)))) := by
  rw [Bool.eq_iff_iff]
  unfold stageB stL rngB'
  simp only [List.all_cons, List.all_nil, id, Bool.and_eq_true, Bool.not_eq_true', Bool.and_true, decide_eq_true_eq, decide_eq_false_iff_not, beq_eq_false_iff_ne, Bool.and_eq_false_iff, ne_eq]
  omega
set_option maxHeartbeats 16000000 in
set_option maxRecDepth 100000 in
theorem rscheck_any (pn : ByteArray) (ramp : Int) (v : Value) (st : List Q4) (w : World) (hr : Hid (RepQ w v st)) (hl : st.length ≤ 1000000) :
    Calls Tryd.prog 26 #[.agg #[.string pn, .int .i64 ramp, v]] w fun e w' => e = .returned (.int .i64 (schedZ pn ramp st)) ∧ Below w.heap.size w w' := by
  obtain ⟨vA, vc, hv⟩ : ∃ A c, v = .slice A st.length c := by
    rcases hr.out with ⟨A, c, rfl, rfl⟩ | ⟨b, o, c, rfl, _⟩
    · exact ⟨_, _, rfl⟩
    · exact ⟨_, _, rfl⟩
  subst hv
  have hO := Own.nil w
  have HN : Hid (∀ w, Calls Tryd.prog 44 #[.string pn] w fun e w' => e = .returned (.bool (nameB pn)) ∧ w = w') := Lib.hid (risName_any pn)
  have HF0 : Hid (∀ w, Calls Tryd.prog 45 #[.int .i64 ramp, .int .i64 1, .int .i64 1200] w fun e w' => e = .returned (.bool (rngB' ramp 1 1200)) ∧ w = w') := Lib.hid (rfrom37_any ramp 1 1200)
  obtain ⟨Z, hZ⟩ : ∃ Z, schedZ pn ramp st = Z := ⟨_, rfl⟩
  rw [hZ]
  have hrr : rngB' ramp 1 1200 = !decide (ramp < 1 ∨ 1200 < ramp) := by
    rw [Bool.eq_iff_iff]
    unfold rngB'
    simp only [Bool.and_eq_true, Bool.not_eq_true', decide_eq_true_eq, decide_eq_false_iff_not]
    omega
  unfold schedZ at hZ
  cases hn : nameB pn with
  | false =>
    rw [hn] at HN
    rw [if_pos hn] at hZ
    clear hn hrr
    subst hZ
    go_enter Tryd.func26, Tryd.ntmps26
    go_wp2_with (first
    | ((with_reducible refine gate_alloc 24 rfl ?_); refine own_alloc rfl 24 rfl hO _ rfl #[.string ⟨#[]⟩, .int .i64 0, .slice none 0 0] (by kernel_rfl) ?_; clear hO; (try clear w_); intro g_ w_ hO)
    | ((with_reducible refine gate_box 24 rfl ?_); refine own_box rfl 24 _ rfl hO _ rfl ?_ ?_ ?_; rotate_left; (focus (first | (go_simp; done) | (go_simp; with_reducible rfl) | rfl)); clear hO; (try clear w_); intro g_ w_ hO; simp only [Value.cells] at hO)
    | ((with_reducible refine gate_load 24 rfl ?_); (first | refine own_load_row rfl 24 _ rfl hO 0 _ _ rfl _ _ rfl _ rfl 3 ?_ ?_ ?_ _ Tryd.underlying24 rfl ?_ ?_ | refine own_load_row rfl 24 _ rfl hO 1 _ _ rfl _ _ rfl _ rfl 3 ?_ ?_ ?_ _ Tryd.underlying24 rfl ?_ ?_); rotate_left; (focus (first | (with_reducible exact hrow_) | (with_reducible exact hrow2_) | (simp only [Array.toList_extract, List.extract_toArray, List.extract_eq_take_drop, List.drop_zero, List.drop_succ_cons, List.take_succ_cons, List.take_zero, Nat.reduceAdd, Nat.reduceSub, Nat.zero_add, Nat.add_zero, Nat.add_sub_cancel_left, Nat.sub_zero, Nat.sub_self]; rfl))); (focus rfl); (focus kernel_rfl))
    | ((with_reducible refine gate_store 24 rfl ?_); (first | refine own_store rfl 24 _ _ rfl hO 0 _ _ ?_ rfl ?_ _ _ rfl _ rfl ?_ ?_ ?_ ?_ | refine own_store rfl 24 _ _ rfl hO 1 _ _ ?_ rfl ?_ _ _ rfl _ rfl ?_ ?_ ?_ ?_); rotate_left; (focus (first | (go_simp; done) | (go_simp; with_reducible rfl) | rfl)); (focus (first | (exact hble_) | kernel_rfl)); (focus kernel_rfl); (focus kernel_rfl); clear hO; (try clear w_); intro w_ hO; (first | (simp only [Value.cells] at hO; rw [hput_] at hO) | simp only [List.set_cons_zero, List.set_cons_succ, putAllA, Value.cells, List.setIfInBounds_toArray] at hO))
    | ((with_reducible refine gate_alloc 65 rfl ?_); refine own_alloc rfl 65 rfl hO _ rfl #[.int .i64 0, .int .i64 0, .int .i64 0, .int .i64 0] (by kernel_rfl) ?_; clear hO; (try clear w_); intro g_ w_ hO)
    | ((with_reducible refine gate_box 65 rfl ?_); refine own_box rfl 65 _ rfl hO _ rfl ?_ ?_ ?_; rotate_left; (focus (first | (go_simp; done) | (go_simp; with_reducible rfl) | rfl)); clear hO; (try clear w_); intro g_ w_ hO; simp only [Value.cells] at hO)
    | ((with_reducible refine gate_load 65 rfl ?_); (first | refine own_load_row rfl 65 _ rfl hO 0 _ _ rfl _ _ rfl _ rfl 4 ?_ ?_ ?_ _ Tryd.underlying65 rfl ?_ ?_ | refine own_load_row rfl 65 _ rfl hO 1 _ _ rfl _ _ rfl _ rfl 4 ?_ ?_ ?_ _ Tryd.underlying65 rfl ?_ ?_); rotate_left; (focus (first | (with_reducible exact hrow_) | (with_reducible exact hrow2_) | (simp only [Array.toList_extract, List.extract_toArray, List.extract_eq_take_drop, List.drop_zero, List.drop_succ_cons, List.take_succ_cons, List.take_zero, Nat.reduceAdd, Nat.reduceSub, Nat.zero_add, Nat.add_zero, Nat.add_sub_cancel_left, Nat.sub_zero, Nat.sub_self]; rfl))); (focus rfl); (focus kernel_rfl))
    | ((with_reducible refine gate_store 65 rfl ?_); (first | refine own_store rfl 65 _ _ rfl hO 0 _ _ ?_ rfl ?_ _ _ rfl _ rfl ?_ ?_ ?_ ?_ | refine own_store rfl 65 _ _ rfl hO 1 _ _ ?_ rfl ?_ _ _ rfl _ rfl ?_ ?_ ?_ ?_); rotate_left; (focus (first | (go_simp; done) | (go_simp; with_reducible rfl) | rfl)); (focus (first | (exact hble_) | kernel_rfl)); (focus kernel_rfl); (focus kernel_rfl); clear hO; (try clear w_); intro w_ hO; (first | (simp only [Value.cells] at hO; rw [hput_] at hO) | simp only [List.set_cons_zero, List.set_cons_succ, putAllA, Value.cells, List.setIfInBounds_toArray] at hO))
    | ((with_reducible refine gate_alloc 22 rfl ?_); refine own_alloc rfl 22 rfl hO _ rfl #[.slice none 0 0] (by kernel_rfl) ?_; clear hO; (try clear w_); intro g_ w_ hO)
    | ((with_reducible refine gate_box 22 rfl ?_); refine own_box rfl 22 _ rfl hO _ rfl ?_ ?_ ?_; rotate_left; (focus (first | (go_simp; done) | (go_simp; with_reducible rfl) | rfl)); clear hO; (try clear w_); intro g_ w_ hO; simp only [Value.cells] at hO)
    | ((with_reducible refine gate_load 22 rfl ?_); (first | refine own_load_one rfl 22 _ rfl hO 0 _ _ rfl _ _ rfl _ rfl ?_ ?_ _ Tryd.underlying22 rfl ?_ | refine own_load_one rfl 22 _ rfl hO 1 _ _ rfl _ _ rfl _ rfl ?_ ?_ _ Tryd.underlying22 rfl ?_); rotate_left; (focus (first | (with_reducible exact hcell_) | (simp only [List.getElem?_toArray, List.getElem?_cons_zero, List.getElem?_cons_succ]; rfl))))
    | ((with_reducible refine gate_store 22 rfl ?_); (first | refine own_store rfl 22 _ _ rfl hO 0 _ _ ?_ rfl ?_ _ _ rfl _ rfl ?_ ?_ ?_ ?_ | refine own_store rfl 22 _ _ rfl hO 1 _ _ ?_ rfl ?_ _ _ rfl _ rfl ?_ ?_ ?_ ?_); rotate_left; (focus (first | (go_simp; done) | (go_simp; with_reducible rfl) | rfl)); (focus (first | (exact hble_) | kernel_rfl)); (focus kernel_rfl); (focus kernel_rfl); clear hO; (try clear w_); intro w_ hO; (first | (simp only [Value.cells] at hO; rw [hput_] at hO) | simp only [List.set_cons_zero, List.set_cons_succ, putAllA, Value.cells, List.setIfInBounds_toArray] at hO))
    | ((with_reducible refine gate_alloc 9 rfl ?_); refine own_alloc rfl 9 rfl hO _ rfl #[.string ⟨#[]⟩] (by kernel_rfl) ?_; clear hO; (try clear w_); intro g_ w_ hO)
    | ((with_reducible refine gate_box 9 rfl ?_); refine own_box rfl 9 _ rfl hO _ rfl ?_ ?_ ?_; rotate_left; (focus (first | (go_simp; done) | (go_simp; with_reducible rfl) | rfl)); clear hO; (try clear w_); intro g_ w_ hO; simp only [Value.cells] at hO)
    | ((with_reducible refine gate_load 9 rfl ?_); (first | refine own_load_one rfl 9 _ rfl hO 0 _ _ rfl _ _ rfl _ rfl ?_ ?_ _ Tryd.underlying9 rfl ?_ | refine own_load_one rfl 9 _ rfl hO 1 _ _ rfl _ _ rfl _ rfl ?_ ?_ _ Tryd.underlying9 rfl ?_); rotate_left; (focus (first | (with_reducible exact hcell_) | (simp only [List.getElem?_toArray, List.getElem?_cons_zero, List.getElem?_cons_succ]; rfl))))
    | ((with_reducible refine gate_store 9 rfl ?_); (first | refine own_store rfl 9 _ _ rfl hO 0 _ _ ?_ rfl ?_ _ _ rfl _ rfl ?_ ?_ ?_ ?_ | refine own_store rfl 9 _ _ rfl hO 1 _ _ ?_ rfl ?_ _ _ rfl _ rfl ?_ ?_ ?_ ?_); rotate_left; (focus (first | (go_simp; done) | (go_simp; with_reducible rfl) | rfl)); (focus (first | (exact hble_) | kernel_rfl)); (focus kernel_rfl); (focus kernel_rfl); clear hO; (try clear w_); intro w_ hO; (first | (simp only [Value.cells] at hO; rw [hput_] at hO) | simp only [List.set_cons_zero, List.set_cons_succ, putAllA, Value.cells, List.setIfInBounds_toArray] at hO))
    | ((with_reducible refine gate_alloc 3 rfl ?_); refine own_alloc rfl 3 rfl hO _ rfl #[.int .i64 0] (by kernel_rfl) ?_; clear hO; (try clear w_); intro g_ w_ hO)
    | ((with_reducible refine gate_box 3 rfl ?_); refine own_box rfl 3 _ rfl hO _ rfl ?_ ?_ ?_; rotate_left; (focus (first | (go_simp; done) | (go_simp; with_reducible rfl) | rfl)); clear hO; (try clear w_); intro g_ w_ hO; simp only [Value.cells] at hO)
    | ((with_reducible refine gate_load 3 rfl ?_); (first | refine own_load_one rfl 3 _ rfl hO 0 _ _ rfl _ _ rfl _ rfl ?_ ?_ _ Tryd.underlying3 rfl ?_ | refine own_load_one rfl 3 _ rfl hO 1 _ _ rfl _ _ rfl _ rfl ?_ ?_ _ Tryd.underlying3 rfl ?_); rotate_left; (focus (first | (with_reducible exact hcell_) | (simp only [List.getElem?_toArray, List.getElem?_cons_zero, List.getElem?_cons_succ]; rfl))))
    | ((with_reducible refine gate_store 3 rfl ?_); (first | refine own_store rfl 3 _ _ rfl hO 0 _ _ ?_ rfl ?_ _ _ rfl _ rfl ?_ ?_ ?_ ?_ | refine own_store rfl 3 _ _ rfl hO 1 _ _ ?_ rfl ?_ _ _ rfl _ rfl ?_ ?_ ?_ ?_); rotate_left; (focus (first | (go_simp; done) | (go_simp; with_reducible rfl) | rfl)); (focus (first | (exact hble_) | kernel_rfl)); (focus kernel_rfl); (focus kernel_rfl); clear hO; (try clear w_); intro w_ hO; (first | (simp only [Value.cells] at hO; rw [hput_] at hO) | simp only [List.set_cons_zero, List.set_cons_succ, putAllA, Value.cells, List.setIfInBounds_toArray] at hO))
    | (go_at_call 44; (with_reducible refine (HN.out _).mono ?_); rintro e w_ ⟨rfl, rfl⟩)
    )
    go_ret
    exact ⟨rfl, hO.bel⟩
  | true =>
    rw [hn] at HN
    rw [if_neg (by rw [hn]; decide)] at hZ
    clear hn
    by_cases hq : ramp < 1 ∨ 1200 < ramp
    · rw [if_pos hq] at hZ
      rw [hrr, decide_eq_true hq] at HF0
      clear hrr hq
      subst hZ
      go_enter Tryd.func26, Tryd.ntmps26
      go_wp2_with (first
    | ((with_reducible refine gate_alloc 24 rfl ?_); refine own_alloc rfl 24 rfl hO _ rfl #[.string ⟨#[]⟩, .int .i64 0, .slice none 0 0] (by kernel_rfl) ?_; clear hO; (try clear w_); intro g_ w_ hO)
    | ((with_reducible refine gate_box 24 rfl ?_); refine own_box rfl 24 _ rfl hO _ rfl ?_ ?_ ?_; rotate_left; (focus (first | (go_simp; done) | (go_simp; with_reducible rfl) | rfl)); clear hO; (try clear w_); intro g_ w_ hO; simp only [Value.cells] at hO)
    | ((with_reducible refine gate_load 24 rfl ?_); (first | refine own_load_row rfl 24 _ rfl hO 0 _ _ rfl _ _ rfl _ rfl 3 ?_ ?_ ?_ _ Tryd.underlying24 rfl ?_ ?_ | refine own_load_row rfl 24 _ rfl hO 1 _ _ rfl _ _ rfl _ rfl 3 ?_ ?_ ?_ _ Tryd.underlying24 rfl ?_ ?_); rotate_left; (focus (first | (with_reducible exact hrow_) | (with_reducible exact hrow2_) | (simp only [Array.toList_extract, List.extract_toArray, List.extract_eq_take_drop, List.drop_zero, List.drop_succ_cons, List.take_succ_cons, List.take_zero, Nat.reduceAdd, Nat.reduceSub, Nat.zero_add, Nat.add_zero, Nat.add_sub_cancel_left, Nat.sub_zero, Nat.sub_self]; rfl))); (focus rfl); (focus kernel_rfl))
    | ((with_reducible refine gate_store 24 rfl ?_); (first | refine own_store rfl 24 _ _ rfl hO 0 _ _ ?_ rfl ?_ _ _ rfl _ rfl ?_ ?_ ?_ ?_ | refine own_store rfl 24 _ _ rfl hO 1 _ _ ?_ rfl ?_ _ _ rfl _ rfl ?_ ?_ ?_ ?_); rotate_left; (focus (first | (go_simp; done) | (go_simp; with_reducible rfl) | rfl)); (focus (first | (exact hble_) | kernel_rfl)); (focus kernel_rfl); (focus kernel_rfl); clear hO; (try clear w_); intro w_ hO; (first | (simp only [Value.cells] at hO; rw [hput_] at hO) | simp only [List.set_cons_zero, List.set_cons_succ, putAllA, Value.cells, List.setIfInBounds_toArray] at hO))
    | ((with_reducible refine gate_alloc 65 rfl ?_); refine own_alloc rfl 65 rfl hO _ rfl #[.int .i64 0, .int .i64 0, .int .i64 0, .int .i64 0] (by kernel_rfl) ?_; clear hO; (try clear w_); intro g_ w_ hO)
    | ((with_reducible refine gate_box 65 rfl ?_); refine own_box rfl 65 _ rfl hO _ rfl ?_ ?_ ?_; rotate_left; (focus (first | (go_simp; done) | (go_simp; with_reducible rfl) | rfl)); clear hO; (try clear w_); intro g_ w_ hO; simp only [Value.cells] at hO)
    | ((with_reducible refine gate_load 65 rfl ?_); (first | refine own_load_row rfl 65 _ rfl hO 0 _ _ rfl _ _ rfl _ rfl 4 ?_ ?_ ?_ _ Tryd.underlying65 rfl ?_ ?_ | refine own_load_row rfl 65 _ rfl hO 1 _ _ rfl _ _ rfl _ rfl 4 ?_ ?_ ?_ _ Tryd.underlying65 rfl ?_ ?_); rotate_left; (focus (first | (with_reducible exact hrow_) | (with_reducible exact hrow2_) | (simp only [Array.toList_extract, List.extract_toArray, List.extract_eq_take_drop, List.drop_zero, List.drop_succ_cons, List.take_succ_cons, List.take_zero, Nat.reduceAdd, Nat.reduceSub, Nat.zero_add, Nat.add_zero, Nat.add_sub_cancel_left, Nat.sub_zero, Nat.sub_self]; rfl))); (focus rfl); (focus kernel_rfl))
    | ((with_reducible refine gate_store 65 rfl ?_); (first | refine own_store rfl 65 _ _ rfl hO 0 _ _ ?_ rfl ?_ _ _ rfl _ rfl ?_ ?_ ?_ ?_ | refine own_store rfl 65 _ _ rfl hO 1 _ _ ?_ rfl ?_ _ _ rfl _ rfl ?_ ?_ ?_ ?_); rotate_left; (focus (first | (go_simp; done) | (go_simp; with_reducible rfl) | rfl)); (focus (first | (exact hble_) | kernel_rfl)); (focus kernel_rfl); (focus kernel_rfl); clear hO; (try clear w_); intro w_ hO; (first | (simp only [Value.cells] at hO; rw [hput_] at hO) | simp only [List.set_cons_zero, List.set_cons_succ, putAllA, Value.cells, List.setIfInBounds_toArray] at hO))
    | ((with_reducible refine gate_alloc 22 rfl ?_); refine own_alloc rfl 22 rfl hO _ rfl #[.slice none 0 0] (by kernel_rfl) ?_; clear hO; (try clear w_); intro g_ w_ hO)
    | ((with_reducible refine gate_box 22 rfl ?_); refine own_box rfl 22 _ rfl hO _ rfl ?_ ?_ ?_; rotate_left; (focus (first | (go_simp; done) | (go_simp; with_reducible rfl) | rfl)); clear hO; (try clear w_); intro g_ w_ hO; simp only [Value.cells] at hO)
    | ((with_reducible refine gate_load 22 rfl ?_); (first | refine own_load_one rfl 22 _ rfl hO 0 _ _ rfl _ _ rfl _ rfl ?_ ?_ _ Tryd.underlying22 rfl ?_ | refine own_load_one rfl 22 _ rfl hO 1 _ _ rfl _ _ rfl _ rfl ?_ ?_ _ Tryd.underlying22 rfl ?_); rotate_left; (focus (first | (with_reducible exact hcell_) | (simp only [List.getElem?_toArray, List.getElem?_cons_zero, List.getElem?_cons_succ]; rfl))))
    | ((with_reducible refine gate_store 22 rfl ?_); (first | refine own_store rfl 22 _ _ rfl hO 0 _ _ ?_ rfl ?_ _ _ rfl _ rfl ?_ ?_ ?_ ?_ | refine own_store rfl 22 _ _ rfl hO 1 _ _ ?_ rfl ?_ _ _ rfl _ rfl ?_ ?_ ?_ ?_); rotate_left; (focus (first | (go_simp; done) | (go_simp; with_reducible rfl) | rfl)); (focus (first | (exact hble_) | kernel_rfl)); (focus kernel_rfl); (focus kernel_rfl); clear hO; (try clear w_); intro w_ hO; (first | (simp only [Value.cells] at hO; rw [hput_] at hO) | simp only [List.set_cons_zero, List.set_cons_succ, putAllA, Value.cells, List.setIfInBounds_toArray] at hO))
    | ((with_reducible refine gate_alloc 9 rfl ?_); refine own_alloc rfl 9 rfl hO _ rfl #[.string ⟨#[]⟩] (by kernel_rfl) ?_; clear hO; (try clear w_); intro g_ w_ hO)
    | ((with_reducible refine gate_box 9 rfl ?_); refine own_box rfl 9 _ rfl hO _ rfl ?_ ?_ ?_; rotate_left; (focus (first | (go_simp; done) | (go_simp; with_reducible rfl) | rfl)); clear hO; (try clear w_); intro g_ w_ hO; simp only [Value.cells] at hO)
    | ((with_reducible refine gate_load 9 rfl ?_); (first | refine own_load_one rfl 9 _ rfl hO 0 _ _ rfl _ _ rfl _ rfl ?_ ?_ _ Tryd.underlying9 rfl ?_ | refine own_load_one rfl 9 _ rfl hO 1 _ _ rfl _ _ rfl _ rfl ?_ ?_ _ Tryd.underlying9 rfl ?_); rotate_left; (focus (first | (with_reducible exact hcell_) | (simp only [List.getElem?_toArray, List.getElem?_cons_zero, List.getElem?_cons_succ]; rfl))))
    | ((with_reducible refine gate_store 9 rfl ?_); (first | refine own_store rfl 9 _ _ rfl hO 0 _ _ ?_ rfl ?_ _ _ rfl _ rfl ?_ ?_ ?_ ?_ | refine own_store rfl 9 _ _ rfl hO 1 _ _ ?_ rfl ?_ _ _ rfl _ rfl ?_ ?_ ?_ ?_); rotate_left; (focus (first | (go_simp; done) | (go_simp; with_reducible rfl) | rfl)); (focus (first | (exact hble_) | kernel_rfl)); (focus kernel_rfl); (focus kernel_rfl); clear hO; (try clear w_); intro w_ hO; (first | (simp only [Value.cells] at hO; rw [hput_] at hO) | simp only [List.set_cons_zero, List.set_cons_succ, putAllA, Value.cells, List.setIfInBounds_toArray] at hO))
    | ((with_reducible refine gate_alloc 3 rfl ?_); refine own_alloc rfl 3 rfl hO _ rfl #[.int .i64 0] (by kernel_rfl) ?_; clear hO; (try clear w_); intro g_ w_ hO)
    | ((with_reducible refine gate_box 3 rfl ?_); refine own_box rfl 3 _ rfl hO _ rfl ?_ ?_ ?_; rotate_left; (focus (first | (go_simp; done) | (go_simp; with_reducible rfl) | rfl)); clear hO; (try clear w_); intro g_ w_ hO; simp only [Value.cells] at hO)
    | ((with_reducible refine gate_load 3 rfl ?_); (first | refine own_load_one rfl 3 _ rfl hO 0 _ _ rfl _ _ rfl _ rfl ?_ ?_ _ Tryd.underlying3 rfl ?_ | refine own_load_one rfl 3 _ rfl hO 1 _ _ rfl _ _ rfl _ rfl ?_ ?_ _ Tryd.underlying3 rfl ?_); rotate_left; (focus (first | (with_reducible exact hcell_) | (simp only [List.getElem?_toArray, List.getElem?_cons_zero, List.getElem?_cons_succ]; rfl))))
    | ((with_reducible refine gate_store 3 rfl ?_); (first | refine own_store rfl 3 _ _ rfl hO 0 _ _ ?_ rfl ?_ _ _ rfl _ rfl ?_ ?_ ?_ ?_ | refine own_store rfl 3 _ _ rfl hO 1 _ _ ?_ rfl ?_ _ _ rfl _ rfl ?_ ?_ ?_ ?_); rotate_left; (focus (first | (go_simp; done) | (go_simp; with_reducible rfl) | rfl)); (focus (first | (exact hble_) | kernel_rfl)); (focus kernel_rfl); (focus kernel_rfl); clear hO; (try clear w_); intro w_ hO; (first | (simp only [Value.cells] at hO; rw [hput_] at hO) | simp only [List.set_cons_zero, List.set_cons_succ, putAllA, Value.cells, List.setIfInBounds_toArray] at hO))
    | (go_at_call 44; (with_reducible refine (HN.out _).mono ?_); rintro e w_ ⟨rfl, rfl⟩)
    | (go_at_call 45; (with_reducible refine (HF0.out _).mono ?_); rintro e w_ ⟨rfl, rfl⟩)
      )
      go_ret
      exact ⟨rfl, hO.bel⟩
    · rw [if_neg hq] at hZ
      rw [hrr, decide_eq_false hq] at HF0
      clear hrr hq
      by_cases hl1 : st.length < 1
      · rw [if_pos hl1] at hZ
        have q1 : ((st.length : Int) == 0) = true := by rw [beq_iff_eq]; omega
        subst hZ
        clear hl1
        go_enter Tryd.func26, Tryd.ntmps26
        go_wp2_with (first
    | ((with_reducible refine gate_alloc 24 rfl ?_); refine own_alloc rfl 24 rfl hO _ rfl #[.string ⟨#[]⟩, .int .i64 0, .slice none 0 0] (by kernel_rfl) ?_; clear hO; (try clear w_); intro g_ w_ hO)
    | ((with_reducible refine gate_box 24 rfl ?_); refine own_box rfl 24 _ rfl hO _ rfl ?_ ?_ ?_; rotate_left; (focus (first | (go_simp; done) | (go_simp; with_reducible rfl) | rfl)); clear hO; (try clear w_); intro g_ w_ hO; simp only [Value.cells] at hO)
    | ((with_reducible refine gate_load 24 rfl ?_); (first | refine own_load_row rfl 24 _ rfl hO 0 _ _ rfl _ _ rfl _ rfl 3 ?_ ?_ ?_ _ Tryd.underlying24 rfl ?_ ?_ | refine own_load_row rfl 24 _ rfl hO 1 _ _ rfl _ _ rfl _ rfl 3 ?_ ?_ ?_ _ Tryd.underlying24 rfl ?_ ?_); rotate_left; (focus (first | (with_reducible exact hrow_) | (with_reducible exact hrow2_) | (simp only [Array.toList_extract, List.extract_toArray, List.extract_eq_take_drop, List.drop_zero, List.drop_succ_cons, List.take_succ_cons, List.take_zero, Nat.reduceAdd, Nat.reduceSub, Nat.zero_add, Nat.add_zero, Nat.add_sub_cancel_left, Nat.sub_zero, Nat.sub_self]; rfl))); (focus rfl); (focus kernel_rfl))
    | ((with_reducible refine gate_store 24 rfl ?_); (first | refine own_store rfl 24 _ _ rfl hO 0 _ _ ?_ rfl ?_ _ _ rfl _ rfl ?_ ?_ ?_ ?_ | refine own_store rfl 24 _ _ rfl hO 1 _ _ ?_ rfl ?_ _ _ rfl _ rfl ?_ ?_ ?_ ?_); rotate_left; (focus (first | (go_simp; done) | (go_simp; with_reducible rfl) | rfl)); (focus (first | (exact hble_) | kernel_rfl)); (focus kernel_rfl); (focus kernel_rfl); clear hO; (try clear w_); intro w_ hO; (first | (simp only [Value.cells] at hO; rw [hput_] at hO) | simp only [List.set_cons_zero, List.set_cons_succ, putAllA, Value.cells, List.setIfInBounds_toArray] at hO))
    | ((with_reducible refine gate_alloc 65 rfl ?_); refine own_alloc rfl 65 rfl hO _ rfl #[.int .i64 0, .int .i64 0, .int .i64 0, .int .i64 0] (by kernel_rfl) ?_; clear hO; (try clear w_); intro g_ w_ hO)
    | ((with_reducible refine gate_box 65 rfl ?_); refine own_box rfl 65 _ rfl hO _ rfl ?_ ?_ ?_; rotate_left; (focus (first | (go_simp; done) | (go_simp; with_reducible rfl) | rfl)); clear hO; (try clear w_); intro g_ w_ hO; simp only [Value.cells] at hO)
    | ((with_reducible refine gate_load 65 rfl ?_); (first | refine own_load_row rfl 65 _ rfl hO 0 _ _ rfl _ _ rfl _ rfl 4 ?_ ?_ ?_ _ Tryd.underlying65 rfl ?_ ?_ | refine own_load_row rfl 65 _ rfl hO 1 _ _ rfl _ _ rfl _ rfl 4 ?_ ?_ ?_ _ Tryd.underlying65 rfl ?_ ?_); rotate_left; (focus (first | (with_reducible exact hrow_) | (with_reducible exact hrow2_) | (simp only [Array.toList_extract, List.extract_toArray, List.extract_eq_take_drop, List.drop_zero, List.drop_succ_cons, List.take_succ_cons, List.take_zero, Nat.reduceAdd, Nat.reduceSub, Nat.zero_add, Nat.add_zero, Nat.add_sub_cancel_left, Nat.sub_zero, Nat.sub_self]; rfl))); (focus rfl); (focus kernel_rfl))
    | ((with_reducible refine gate_store 65 rfl ?_); (first | refine own_store rfl 65 _ _ rfl hO 0 _ _ ?_ rfl ?_ _ _ rfl _ rfl ?_ ?_ ?_ ?_ | refine own_store rfl 65 _ _ rfl hO 1 _ _ ?_ rfl ?_ _ _ rfl _ rfl ?_ ?_ ?_ ?_); rotate_left; (focus (first | (go_simp; done) | (go_simp; with_reducible rfl) | rfl)); (focus (first | (exact hble_) | kernel_rfl)); (focus kernel_rfl); (focus kernel_rfl); clear hO; (try clear w_); intro w_ hO; (first | (simp only [Value.cells] at hO; rw [hput_] at hO) | simp only [List.set_cons_zero, List.set_cons_succ, putAllA, Value.cells, List.setIfInBounds_toArray] at hO))
    | ((with_reducible refine gate_alloc 22 rfl ?_); refine own_alloc rfl 22 rfl hO _ rfl #[.slice none 0 0] (by kernel_rfl) ?_; clear hO; (try clear w_); intro g_ w_ hO)
    | ((with_reducible refine gate_box 22 rfl ?_); refine own_box rfl 22 _ rfl hO _ rfl ?_ ?_ ?_; rotate_left; (focus (first | (go_simp; done) | (go_simp; with_reducible rfl) | rfl)); clear hO; (try clear w_); intro g_ w_ hO; simp only [Value.cells] at hO)
    | ((with_reducible refine gate_load 22 rfl ?_); (first | refine own_load_one rfl 22 _ rfl hO 0 _ _ rfl _ _ rfl _ rfl ?_ ?_ _ Tryd.underlying22 rfl ?_ | refine own_load_one rfl 22 _ rfl hO 1 _ _ rfl _ _ rfl _ rfl ?_ ?_ _ Tryd.underlying22 rfl ?_); rotate_left; (focus (first | (with_reducible exact hcell_) | (simp only [List.getElem?_toArray, List.getElem?_cons_zero, List.getElem?_cons_succ]; rfl))))
    | ((with_reducible refine gate_store 22 rfl ?_); (first | refine own_store rfl 22 _ _ rfl hO 0 _ _ ?_ rfl ?_ _ _ rfl _ rfl ?_ ?_ ?_ ?_ | refine own_store rfl 22 _ _ rfl hO 1 _ _ ?_ rfl ?_ _ _ rfl _ rfl ?_ ?_ ?_ ?_); rotate_left; (focus (first | (go_simp; done) | (go_simp; with_reducible rfl) | rfl)); (focus (first | (exact hble_) | kernel_rfl)); (focus kernel_rfl); (focus kernel_rfl); clear hO; (try clear w_); intro w_ hO; (first | (simp only [Value.cells] at hO; rw [hput_] at hO) | simp only [List.set_cons_zero, List.set_cons_succ, putAllA, Value.cells, List.setIfInBounds_toArray] at hO))
    | ((with_reducible refine gate_alloc 9 rfl ?_); refine own_alloc rfl 9 rfl hO _ rfl #[.string ⟨#[]⟩] (by kernel_rfl) ?_; clear hO; (try clear w_); intro g_ w_ hO)
    | ((with_reducible refine gate_box 9 rfl ?_); refine own_box rfl 9 _ rfl hO _ rfl ?_ ?_ ?_; rotate_left; (focus (first | (go_simp; done) | (go_simp; with_reducible rfl) | rfl)); clear hO; (try clear w_); intro g_ w_ hO; simp only [Value.cells] at hO)
    | ((with_reducible refine gate_load 9 rfl ?_); (first | refine own_load_one rfl 9 _ rfl hO 0 _ _ rfl _ _ rfl _ rfl ?_ ?_ _ Tryd.underlying9 rfl ?_ | refine own_load_one rfl 9 _ rfl hO 1 _ _ rfl _ _ rfl _ rfl ?_ ?_ _ Tryd.underlying9 rfl ?_); rotate_left; (focus (first | (with_reducible exact hcell_) | (simp only [List.getElem?_toArray, List.getElem?_cons_zero, List.getElem?_cons_succ]; rfl))))
    | ((with_reducible refine gate_store 9 rfl ?_); (first | refine own_store rfl 9 _ _ rfl hO 0 _ _ ?_ rfl ?_ _ _ rfl _ rfl ?_ ?_ ?_ ?_ | refine own_store rfl 9 _ _ rfl hO 1 _ _ ?_ rfl ?_ _ _ rfl _ rfl ?_ ?_ ?_ ?_); rotate_left; (focus (first | (go_simp; done) | (go_simp; with_reducible rfl) | rfl)); (focus (first | (exact hble_) | kernel_rfl)); (focus kernel_rfl); (focus kernel_rfl); clear hO; (try clear w_); intro w_ hO; (first | (simp only [Value.cells] at hO; rw [hput_] at hO) | simp only [List.set_cons_zero, List.set_cons_succ, putAllA, Value.cells, List.setIfInBounds_toArray] at hO))
    | ((with_reducible refine gate_alloc 3 rfl ?_); refine own_alloc rfl 3 rfl hO _ rfl #[.int .i64 0] (by kernel_rfl) ?_; clear hO; (try clear w_); intro g_ w_ hO)
    | ((with_reducible refine gate_box 3 rfl ?_); refine own_box rfl 3 _ rfl hO _ rfl ?_ ?_ ?_; rotate_left; (focus (first | (go_simp; done) | (go_simp; with_reducible rfl) | rfl)); clear hO; (try clear w_); intro g_ w_ hO; simp only [Value.cells] at hO)
    | ((with_reducible refine gate_load 3 rfl ?_); (first | refine own_load_one rfl 3 _ rfl hO 0 _ _ rfl _ _ rfl _ rfl ?_ ?_ _ Tryd.underlying3 rfl ?_ | refine own_load_one rfl 3 _ rfl hO 1 _ _ rfl _ _ rfl _ rfl ?_ ?_ _ Tryd.underlying3 rfl ?_); rotate_left; (focus (first | (with_reducible exact hcell_) | (simp only [List.getElem?_toArray, List.getElem?_cons_zero, List.getElem?_cons_succ]; rfl))))
    | ((with_reducible refine gate_store 3 rfl ?_); (first | refine own_store rfl 3 _ _ rfl hO 0 _ _ ?_ rfl ?_ _ _ rfl _ rfl ?_ ?_ ?_ ?_ | refine own_store rfl 3 _ _ rfl hO 1 _ _ ?_ rfl ?_ _ _ rfl _ rfl ?_ ?_ ?_ ?_); rotate_left; (focus (first | (go_simp; done) | (go_simp; with_reducible rfl) | rfl)); (focus (first | (exact hble_) | kernel_rfl)); (focus kernel_rfl); (focus kernel_rfl); clear hO; (try clear w_); intro w_ hO; (first | (simp only [Value.cells] at hO; rw [hput_] at hO) | simp only [List.set_cons_zero, List.set_cons_succ, putAllA, Value.cells, List.setIfInBounds_toArray] at hO))
    | (go_at_call 44; (with_reducible refine (HN.out _).mono ?_); rintro e w_ ⟨rfl, rfl⟩)
    | (go_at_call 45; (with_reducible refine (HF0.out _).mono ?_); rintro e w_ ⟨rfl, rfl⟩)
        )
        go_ret
        exact ⟨rfl, hO.bel⟩
      · rw [if_neg hl1] at hZ
        have q1 : ((st.length : Int) == 0) = false := by rw [beq_eq_false_iff_ne]; omega
        by_cases hl2 : 12 < st.length
        · rw [if_pos hl2] at hZ
          have q2 : decide ((12 : Int) < (st.length : Int)) = true := decide_eq_true (by omega)
          subst hZ
          clear hl1 hl2
          go_enter Tryd.func26, Tryd.ntmps26
          go_wp2_with (first
    | ((with_reducible refine gate_alloc 24 rfl ?_); refine own_alloc rfl 24 rfl hO _ rfl #[.string ⟨#[]⟩, .int .i64 0, .slice none 0 0] (by kernel_rfl) ?_; clear hO; (try clear w_); intro g_ w_ hO)
    | ((with_reducible refine gate_box 24 rfl ?_); refine own_box rfl 24 _ rfl hO _ rfl ?_ ?_ ?_; rotate_left; (focus (first | (go_simp; done) | (go_simp; with_reducible rfl) | rfl)); clear hO; (try clear w_); intro g_ w_ hO; simp only [Value.cells] at hO)
    | ((with_reducible refine gate_load 24 rfl ?_); (first | refine own_load_row rfl 24 _ rfl hO 0 _ _ rfl _ _ rfl _ rfl 3 ?_ ?_ ?_ _ Tryd.underlying24 rfl ?_ ?_ | refine own_load_row rfl 24 _ rfl hO 1 _ _ rfl _ _ rfl _ rfl 3 ?_ ?_ ?_ _ Tryd.underlying24 rfl ?_ ?_); rotate_left; (focus (first | (with_reducible exact hrow_) | (with_reducible exact hrow2_) | (simp only [Array.toList_extract, List.extract_toArray, List.extract_eq_take_drop, List.drop_zero, List.drop_succ_cons, List.take_succ_cons, List.take_zero, Nat.reduceAdd, Nat.reduceSub, Nat.zero_add, Nat.add_zero, Nat.add_sub_cancel_left, Nat.sub_zero, Nat.sub_self]; rfl))); (focus rfl); (focus kernel_rfl))
    | ((with_reducible refine gate_store 24 rfl ?_); (first | refine own_store rfl 24 _ _ rfl hO 0 _ _ ?_ rfl ?_ _ _ rfl _ rfl ?_ ?_ ?_ ?_ | refine own_store rfl 24 _ _ rfl hO 1 _ _ ?_ rfl ?_ _ _ rfl _ rfl ?_ ?_ ?_ ?_); rotate_left; (focus (first | (go_simp; done) | (go_simp; with_reducible rfl) | rfl)); (focus (first | (exact hble_) | kernel_rfl)); (focus kernel_rfl); (focus kernel_rfl); clear hO; (try clear w_); intro w_ hO; (first | (simp only [Value.cells] at hO; rw [hput_] at hO) | simp only [List.set_cons_zero, List.set_cons_succ, putAllA, Value.cells, List.setIfInBounds_toArray] at hO))
    | ((with_reducible refine gate_alloc 65 rfl ?_); refine own_alloc rfl 65 rfl hO _ rfl #[.int .i64 0, .int .i64 0, .int .i64 0, .int .i64 0] (by kernel_rfl) ?_; clear hO; (try clear w_); intro g_ w_ hO)
    | ((with_reducible refine gate_box 65 rfl ?_); refine own_box rfl 65 _ rfl hO _ rfl ?_ ?_ ?_; rotate_left; (focus (first | (go_simp; done) | (go_simp; with_reducible rfl) | rfl)); clear hO; (try clear w_); intro g_ w_ hO; simp only [Value.cells] at hO)
    | ((with_reducible refine gate_load 65 rfl ?_); (first | refine own_load_row rfl 65 _ rfl hO 0 _ _ rfl _ _ rfl _ rfl 4 ?_ ?_ ?_ _ Tryd.underlying65 rfl ?_ ?_ | refine own_load_row rfl 65 _ rfl hO 1 _ _ rfl _ _ rfl _ rfl 4 ?_ ?_ ?_ _ Tryd.underlying65 rfl ?_ ?_); rotate_left; (focus (first | (with_reducible exact hrow_) | (with_reducible exact hrow2_) | (simp only [Array.toList_extract, List.extract_toArray, List.extract_eq_take_drop, List.drop_zero, List.drop_succ_cons, List.take_succ_cons, List.take_zero, Nat.reduceAdd, Nat.reduceSub, Nat.zero_add, Nat.add_zero, Nat.add_sub_cancel_left, Nat.sub_zero, Nat.sub_self]; rfl))); (focus rfl); (focus kernel_rfl))
    | ((with_reducible refine gate_store 65 rfl ?_); (first | refine own_store rfl 65 _ _ rfl hO 0 _ _ ?_ rfl ?_ _ _ rfl _ rfl ?_ ?_ ?_ ?_ | refine own_store rfl 65 _ _ rfl hO 1 _ _ ?_ rfl ?_ _ _ rfl _ rfl ?_ ?_ ?_ ?_); rotate_left; (focus (first | (go_simp; done) | (go_simp; with_reducible rfl) | rfl)); (focus (first | (exact hble_) | kernel_rfl)); (focus kernel_rfl); (focus kernel_rfl); clear hO; (try clear w_); intro w_ hO; (first | (simp only [Value.cells] at hO; rw [hput_] at hO) | simp only [List.set_cons_zero, List.set_cons_succ, putAllA, Value.cells, List.setIfInBounds_toArray] at hO))
    | ((with_reducible refine gate_alloc 22 rfl ?_); refine own_alloc rfl 22 rfl hO _ rfl #[.slice none 0 0] (by kernel_rfl) ?_; clear hO; (try clear w_); intro g_ w_ hO)
    | ((with_reducible refine gate_box 22 rfl ?_); refine own_box rfl 22 _ rfl hO _ rfl ?_ ?_ ?_; rotate_left; (focus (first | (go_simp; done) | (go_simp; with_reducible rfl) | rfl)); clear hO; (try clear w_); intro g_ w_ hO; simp only [Value.cells] at hO)
    | ((with_reducible refine gate_load 22 rfl ?_); (first | refine own_load_one rfl 22 _ rfl hO 0 _ _ rfl _ _ rfl _ rfl ?_ ?_ _ Tryd.underlying22 rfl ?_ | refine own_load_one rfl 22 _ rfl hO 1 _ _ rfl _ _ rfl _ rfl ?_ ?_ _ Tryd.underlying22 rfl ?_); rotate_left; (focus (first | (with_reducible exact hcell_) | (simp only [List.getElem?_toArray, List.getElem?_cons_zero, List.getElem?_cons_succ]; rfl))))
    | ((with_reducible refine gate_store 22 rfl ?_); (first | refine own_store rfl 22 _ _ rfl hO 0 _ _ ?_ rfl ?_ _ _ rfl _ rfl ?_ ?_ ?_ ?_ | refine own_store rfl 22 _ _ rfl hO 1 _ _ ?_ rfl ?_ _ _ rfl _ rfl ?_ ?_ ?_ ?_); rotate_left; (focus (first | (go_simp; done) | (go_simp; with_reducible rfl) | rfl)); (focus (first | (exact hble_) | kernel_rfl)); (focus kernel_rfl); (focus kernel_rfl); clear hO; (try clear w_); intro w_ hO; (first | (simp only [Value.cells] at hO; rw [hput_] at hO) | simp only [List.set_cons_zero, List.set_cons_succ, putAllA, Value.cells, List.setIfInBounds_toArray] at hO))
    | ((with_reducible refine gate_alloc 9 rfl ?_); refine own_alloc rfl 9 rfl hO _ rfl #[.string ⟨#[]⟩] (by kernel_rfl) ?_; clear hO; (try clear w_); intro g_ w_ hO)
    | ((with_reducible refine gate_box 9 rfl ?_); refine own_box rfl 9 _ rfl hO _ rfl ?_ ?_ ?_; rotate_left; (focus (first | (go_simp; done) | (go_simp; with_reducible rfl) | rfl)); clear hO; (try clear w_); intro g_ w_ hO; simp only [Value.cells] at hO)
    | ((with_reducible refine gate_load 9 rfl ?_); (first | refine own_load_one rfl 9 _ rfl hO 0 _ _ rfl _ _ rfl _ rfl ?_ ?_ _ Tryd.underlying9 rfl ?_ | refine own_load_one rfl 9 _ rfl hO 1 _ _ rfl _ _ rfl _ rfl ?_ ?_ _ Tryd.underlying9 rfl ?_); rotate_left; (focus (first | (with_reducible exact hcell_) | (simp only [List.getElem?_toArray, List.getElem?_cons_zero, List.getElem?_cons_succ]; rfl))))
    | ((with_reducible refine gate_store 9 rfl ?_); (first | refine own_store rfl 9 _ _ rfl hO 0 _ _ ?_ rfl ?_ _ _ rfl _ rfl ?_ ?_ ?_ ?_ | refine own_store rfl 9 _ _ rfl hO 1 _ _ ?_ rfl ?_ _ _ rfl _ rfl ?_ ?_ ?_ ?_); rotate_left; (focus (first | (go_simp; done) | (go_simp; with_reducible rfl) | rfl)); (focus (first | (exact hble_) | kernel_rfl)); (focus kernel_rfl); (focus kernel_rfl); clear hO; (try clear w_); intro w_ hO; (first | (simp only [Value.cells] at hO; rw [hput_] at hO) | simp only [List.set_cons_zero, List.set_cons_succ, putAllA, Value.cells, List.setIfInBounds_toArray] at hO))
    | ((with_reducible refine gate_alloc 3 rfl ?_); refine own_alloc rfl 3 rfl hO _ rfl #[.int .i64 0] (by kernel_rfl) ?_; clear hO; (try clear w_); intro g_ w_ hO)
    | ((with_reducible refine gate_box 3 rfl ?_); refine own_box rfl 3 _ rfl hO _ rfl ?_ ?_ ?_; rotate_left; (focus (first | (go_simp; done) | (go_simp; with_reducible rfl) | rfl)); clear hO; (try clear w_); intro g_ w_ hO; simp only [Value.cells] at hO)
    | ((with_reducible refine gate_load 3 rfl ?_); (first | refine own_load_one rfl 3 _ rfl hO 0 _ _ rfl _ _ rfl _ rfl ?_ ?_ _ Tryd.underlying3 rfl ?_ | refine own_load_one rfl 3 _ rfl hO 1 _ _ rfl _ _ rfl _ rfl ?_ ?_ _ Tryd.underlying3 rfl ?_); rotate_left; (focus (first | (with_reducible exact hcell_) | (simp only [List.getElem?_toArray, List.getElem?_cons_zero, List.getElem?_cons_succ]; rfl))))
    | ((with_reducible refine gate_store 3 rfl ?_); (first | refine own_store rfl 3 _ _ rfl hO 0 _ _ ?_ rfl ?_ _ _ rfl _ rfl ?_ ?_ ?_ ?_ | refine own_store rfl 3 _ _ rfl hO 1 _ _ ?_ rfl ?_ _ _ rfl _ rfl ?_ ?_ ?_ ?_); rotate_left; (focus (first | (go_simp; done) | (go_simp; with_reducible rfl) | rfl)); (focus (first | (exact hble_) | kernel_rfl)); (focus kernel_rfl); (focus kernel_rfl); clear hO; (try clear w_); intro w_ hO; (first | (simp only [Value.cells] at hO; rw [hput_] at hO) | simp only [List.set_cons_zero, List.set_cons_succ, putAllA, Value.cells, List.setIfInBounds_toArray] at hO))
    | (go_at_call 44; (with_reducible refine (HN.out _).mono ?_); rintro e w_ ⟨rfl, rfl⟩)
    | (go_at_call 45; (with_reducible refine (HF0.out _).mono ?_); rintro e w_ ⟨rfl, rfl⟩)
          )
          go_ret
          exact ⟨rfl, hO.bel⟩
        · rw [if_neg hl2] at hZ
          have q2 : decide ((12 : Int) < (st.length : Int)) = false := decide_eq_false (by omega)
          obtain ⟨b, o, hvA, hc⟩ : ∃ b o, vA = some ⟨b, o, none⟩ ∧ Hid (∀ (j : Nat) (u : Value), (flat q4 st)[j]? = some u → w.cell? ⟨b, o + j, none⟩ = some u) := by
            rcases hr.out with ⟨_, _, _, rfl⟩ | ⟨b, o, c, hv, hc⟩
            · simp at hl1
            · injection hv with hv _ _
              exact ⟨b, o, hv, Lib.hid hc⟩
          subst hvA
          have HZ := Lib.hid hZ
          clear hZ hl1
          go_enter Tryd.func26, Tryd.ntmps26
          go_wp2_with (first
    | ((with_reducible refine gate_alloc 24 rfl ?_); refine own_alloc rfl 24 rfl hO _ rfl #[.string ⟨#[]⟩, .int .i64 0, .slice none 0 0] (by kernel_rfl) ?_; clear hO; (try clear w_); intro g_ w_ hO)
    | ((with_reducible refine gate_box 24 rfl ?_); refine own_box rfl 24 _ rfl hO _ rfl ?_ ?_ ?_; rotate_left; (focus (first | (go_simp; done) | (go_simp; with_reducible rfl) | rfl)); clear hO; (try clear w_); intro g_ w_ hO; simp only [Value.cells] at hO)
    | ((with_reducible refine gate_load 24 rfl ?_); (first | refine own_load_row rfl 24 _ rfl hO 0 _ _ rfl _ _ rfl _ rfl 3 ?_ ?_ ?_ _ Tryd.underlying24 rfl ?_ ?_ | refine own_load_row rfl 24 _ rfl hO 1 _ _ rfl _ _ rfl _ rfl 3 ?_ ?_ ?_ _ Tryd.underlying24 rfl ?_ ?_); rotate_left; (focus (first | (with_reducible exact hrow_) | (with_reducible exact hrow2_) | (simp only [Array.toList_extract, List.extract_toArray, List.extract_eq_take_drop, List.drop_zero, List.drop_succ_cons, List.take_succ_cons, List.take_zero, Nat.reduceAdd, Nat.reduceSub, Nat.zero_add, Nat.add_zero, Nat.add_sub_cancel_left, Nat.sub_zero, Nat.sub_self]; rfl))); (focus rfl); (focus kernel_rfl))
    | ((with_reducible refine gate_store 24 rfl ?_); (first | refine own_store rfl 24 _ _ rfl hO 0 _ _ ?_ rfl ?_ _ _ rfl _ rfl ?_ ?_ ?_ ?_ | refine own_store rfl 24 _ _ rfl hO 1 _ _ ?_ rfl ?_ _ _ rfl _ rfl ?_ ?_ ?_ ?_); rotate_left; (focus (first | (go_simp; done) | (go_simp; with_reducible rfl) | rfl)); (focus (first | (exact hble_) | kernel_rfl)); (focus kernel_rfl); (focus kernel_rfl); clear hO; (try clear w_); intro w_ hO; (first | (simp only [Value.cells] at hO; rw [hput_] at hO) | simp only [List.set_cons_zero, List.set_cons_succ, putAllA, Value.cells, List.setIfInBounds_toArray] at hO))
    | ((with_reducible refine gate_alloc 65 rfl ?_); refine own_alloc rfl 65 rfl hO _ rfl #[.int .i64 0, .int .i64 0, .int .i64 0, .int .i64 0] (by kernel_rfl) ?_; clear hO; (try clear w_); intro g_ w_ hO)
    | ((with_reducible refine gate_box 65 rfl ?_); refine own_box rfl 65 _ rfl hO _ rfl ?_ ?_ ?_; rotate_left; (focus (first | (go_simp; done) | (go_simp; with_reducible rfl) | rfl)); clear hO; (try clear w_); intro g_ w_ hO; simp only [Value.cells] at hO)
    | ((with_reducible refine gate_load 65 rfl ?_); (first | refine own_load_row rfl 65 _ rfl hO 0 _ _ rfl _ _ rfl _ rfl 4 ?_ ?_ ?_ _ Tryd.underlying65 rfl ?_ ?_ | refine own_load_row rfl 65 _ rfl hO 1 _ _ rfl _ _ rfl _ rfl 4 ?_ ?_ ?_ _ Tryd.underlying65 rfl ?_ ?_); rotate_left; (focus (first | (with_reducible exact hrow_) | (with_reducible exact hrow2_) | (simp only [Array.toList_extract, List.extract_toArray, List.extract_eq_take_drop, List.drop_zero, List.drop_succ_cons, List.take_succ_cons, List.take_zero, Nat.reduceAdd, Nat.reduceSub, Nat.zero_add, Nat.add_zero, Nat.add_sub_cancel_left, Nat.sub_zero, Nat.sub_self]; rfl))); (focus rfl); (focus kernel_rfl))
    | ((with_reducible refine gate_store 65 rfl ?_); (first | refine own_store rfl 65 _ _ rfl hO 0 _ _ ?_ rfl ?_ _ _ rfl _ rfl ?_ ?_ ?_ ?_ | refine own_store rfl 65 _ _ rfl hO 1 _ _ ?_ rfl ?_ _ _ rfl _ rfl ?_ ?_ ?_ ?_); rotate_left; (focus (first | (go_simp; done) | (go_simp; with_reducible rfl) | rfl)); (focus (first | (exact hble_) | kernel_rfl)); (focus kernel_rfl); (focus kernel_rfl); clear hO; (try clear w_); intro w_ hO; (first | (simp only [Value.cells] at hO; rw [hput_] at hO) | simp only [List.set_cons_zero, List.set_cons_succ, putAllA, Value.cells, List.setIfInBounds_toArray] at hO))
    | ((with_reducible refine gate_alloc 22 rfl ?_); refine own_alloc rfl 22 rfl hO _ rfl #[.slice none 0 0] (by kernel_rfl) ?_; clear hO; (try clear w_); intro g_ w_ hO)
    | ((with_reducible refine gate_box 22 rfl ?_); refine own_box rfl 22 _ rfl hO _ rfl ?_ ?_ ?_; rotate_left; (focus (first | (go_simp; done) | (go_simp; with_reducible rfl) | rfl)); clear hO; (try clear w_); intro g_ w_ hO; simp only [Value.cells] at hO)
    | ((with_reducible refine gate_load 22 rfl ?_); (first | refine own_load_one rfl 22 _ rfl hO 0 _ _ rfl _ _ rfl _ rfl ?_ ?_ _ Tryd.underlying22 rfl ?_ | refine own_load_one rfl 22 _ rfl hO 1 _ _ rfl _ _ rfl _ rfl ?_ ?_ _ Tryd.underlying22 rfl ?_); rotate_left; (focus (first | (with_reducible exact hcell_) | (simp only [List.getElem?_toArray, List.getElem?_cons_zero, List.getElem?_cons_succ]; rfl))))
    | ((with_reducible refine gate_store 22 rfl ?_); (first | refine own_store rfl 22 _ _ rfl hO 0 _ _ ?_ rfl ?_ _ _ rfl _ rfl ?_ ?_ ?_ ?_ | refine own_store rfl 22 _ _ rfl hO 1 _ _ ?_ rfl ?_ _ _ rfl _ rfl ?_ ?_ ?_ ?_); rotate_left; (focus (first | (go_simp; done) | (go_simp; with_reducible rfl) | rfl)); (focus (first | (exact hble_) | kernel_rfl)); (focus kernel_rfl); (focus kernel_rfl); clear hO; (try clear w_); intro w_ hO; (first | (simp only [Value.cells] at hO; rw [hput_] at hO) | simp only [List.set_cons_zero, List.set_cons_succ, putAllA, Value.cells, List.setIfInBounds_toArray] at hO))
    | ((with_reducible refine gate_alloc 9 rfl ?_); refine own_alloc rfl 9 rfl hO _ rfl #[.string ⟨#[]⟩] (by kernel_rfl) ?_; clear hO; (try clear w_); intro g_ w_ hO)
    | ((with_reducible refine gate_box 9 rfl ?_); refine own_box rfl 9 _ rfl hO _ rfl ?_ ?_ ?_; rotate_left; (focus (first | (go_simp; done) | (go_simp; with_reducible rfl) | rfl)); clear hO; (try clear w_); intro g_ w_ hO; simp only [Value.cells] at hO)
    | ((with_reducible refine gate_load 9 rfl ?_); (first | refine own_load_one rfl 9 _ rfl hO 0 _ _ rfl _ _ rfl _ rfl ?_ ?_ _ Tryd.underlying9 rfl ?_ | refine own_load_one rfl 9 _ rfl hO 1 _ _ rfl _ _ rfl _ rfl ?_ ?_ _ Tryd.underlying9 rfl ?_); rotate_left; (focus (first | (with_reducible exact hcell_) | (simp only [List.getElem?_toArray, List.getElem?_cons_zero, List.getElem?_cons_succ]; rfl))))
    | ((with_reducible refine gate_store 9 rfl ?_); (first | refine own_store rfl 9 _ _ rfl hO 0 _ _ ?_ rfl ?_ _ _ rfl _ rfl ?_ ?_ ?_ ?_ | refine own_store rfl 9 _ _ rfl hO 1 _ _ ?_ rfl ?_ _ _ rfl _ rfl ?_ ?_ ?_ ?_); rotate_left; (focus (first | (go_simp; done) | (go_simp; with_reducible rfl) | rfl)); (focus (first | (exact hble_) | kernel_rfl)); (focus kernel_rfl); (focus kernel_rfl); clear hO; (try clear w_); intro w_ hO; (first | (simp only [Value.cells] at hO; rw [hput_] at hO) | simp only [List.set_cons_zero, List.set_cons_succ, putAllA, Value.cells, List.setIfInBounds_toArray] at hO))
    | ((with_reducible refine gate_alloc 3 rfl ?_); refine own_alloc rfl 3 rfl hO _ rfl #[.int .i64 0] (by kernel_rfl) ?_; clear hO; (try clear w_); intro g_ w_ hO)
    | ((with_reducible refine gate_box 3 rfl ?_); refine own_box rfl 3 _ rfl hO _ rfl ?_ ?_ ?_; rotate_left; (focus (first | (go_simp; done) | (go_simp; with_reducible rfl) | rfl)); clear hO; (try clear w_); intro g_ w_ hO; simp only [Value.cells] at hO)
    | ((with_reducible refine gate_load 3 rfl ?_); (first | refine own_load_one rfl 3 _ rfl hO 0 _ _ rfl _ _ rfl _ rfl ?_ ?_ _ Tryd.underlying3 rfl ?_ | refine own_load_one rfl 3 _ rfl hO 1 _ _ rfl _ _ rfl _ rfl ?_ ?_ _ Tryd.underlying3 rfl ?_); rotate_left; (focus (first | (with_reducible exact hcell_) | (simp only [List.getElem?_toArray, List.getElem?_cons_zero, List.getElem?_cons_succ]; rfl))))
    | ((with_reducible refine gate_store 3 rfl ?_); (first | refine own_store rfl 3 _ _ rfl hO 0 _ _ ?_ rfl ?_ _ _ rfl _ rfl ?_ ?_ ?_ ?_ | refine own_store rfl 3 _ _ rfl hO 1 _ _ ?_ rfl ?_ _ _ rfl _ rfl ?_ ?_ ?_ ?_); rotate_left; (focus (first | (go_simp; done) | (go_simp; with_reducible rfl) | rfl)); (focus (first | (exact hble_) | kernel_rfl)); (focus kernel_rfl); (focus kernel_rfl); clear hO; (try clear w_); intro w_ hO; (first | (simp only [Value.cells] at hO; rw [hput_] at hO) | simp only [List.set_cons_zero, List.set_cons_succ, putAllA, Value.cells, List.setIfInBounds_toArray] at hO))
    | (go_at_call 44; (with_reducible refine (HN.out _).mono ?_); rintro e w_ ⟨rfl, rfl⟩)
    | (go_at_call 45; (with_reducible refine (HF0.out _).mono ?_); rintro e w_ ⟨rfl, rfl⟩)
          )
          generalize g_ = gsc at *
          go_loopw [3] (fun i wr => ∃ k : Nat, k ≤ st.length ∧ i = .int .i64 k ∧ (st.take k).all stageB = true ∧ Own w [(gsc, 24, #[.string pn, .int .i64 ramp, .slice (some ⟨b, o, none⟩) st.length vc])] wr) (fun i _ => st.length - (intOf i).toNat)
          case atStart => exact ⟨0, Nat.zero_le _, rfl, rfl, hO⟩
          case round =>
            clear hO
            obtain ⟨k, hk, rfl, hall, hO⟩ := hrel
            by_cases hlt : k < st.length
            · obtain ⟨x, hx⟩ : ∃ x, st[k]? = some x := ⟨_, List.getElem?_eq_getElem hlt⟩
              have HBad : Hid (stageB x = false → Z = 9) := Lib.hid (fun h => by
                rw [← HZ.out, if_neg (all_bad hx h)])
              have HOk : Hid (stageB x = true → (st.take (k + 1)).all stageB = true) := Lib.hid (fun h => all_step hx hall h)
              have hsb := stageB_rng x
              obtain ⟨bl, tk, tt, td⟩ := x
              have HR : Hid (w.rangeAt b (o + k * 4) [.int .i64 bl, .int .i64 tk, .int .i64 tt, .int .i64 td]) := Lib.hid (RepQ.row hc.out k _ hx)
              have HF1 : Hid (∀ w, Calls Tryd.prog 45 #[.int .i64 bl, .int .i64 0, .int .i64 20000] w fun e w' => e = .returned (.bool (rngB' bl 0 20000)) ∧ w = w') := Lib.hid (rfrom37_any _ _ _)
              have HF2 : Hid (∀ w, Calls Tryd.prog 45 #[.int .i64 tk, .int .i64 0, .int .i64 10000] w fun e w' => e = .returned (.bool (rngB' tk 0 10000)) ∧ w = w') := Lib.hid (rfrom37_any _ _ _)
              have HF3 : Hid (∀ w, Calls Tryd.prog 45 #[.int .i64 tt, .int .i64 200, .int .i64 1200] w fun e w' => e = .returned (.bool (rngB' tt 200 1200)) ∧ w = w') := Lib.hid (rfrom37_any _ _ _)
              have HF4 : Hid (∀ w, Calls Tryd.prog 45 #[.int .i64 td, .int .i64 0, .int .i64 400] w fun e w' => e = .returned (.bool (rngB' td 0 400)) ∧ w = w') := Lib.hid (rfrom37_any _ _ _)
              simp only at hsb
              have HSB := Lib.hid hsb
              clear hx hall hsb
              generalize rngB' bl 0 20000 = b1 at *
              generalize rngB' tk 0 10000 = b2 at *
              generalize rngB' tt 200 1200 = b3 at *
              generalize rngB' td 0 400 = b4 at *
              obtain ⟨z1, hz1⟩ : ∃ z, (bl == 0) = z := ⟨_, rfl⟩
              obtain ⟨z2, hz2⟩ : ∃ z, (tk == 0) = z := ⟨_, rfl⟩
              rw [hz1, hz2] at HSB
              have HSB : Hid (stageB (bl, tk, tt, td) = (b1 && (b2 && (!(z1 && z2) && (b3 && b4))))) := HSB
              obtain ⟨sb, hsb⟩ : ∃ s, (b1 && (b2 && (!(z1 && z2) && (b3 && b4)))) = s := ⟨_, rfl⟩
              rw [hsb] at HSB
              cases sb with
              | true =>
                have HX := Lib.hid (HOk.out HSB.out)
                obtain ⟨rfl, rfl, hzz, rfl, rfl⟩ : b1 = true ∧ b2 = true ∧ (z1 && z2) = false ∧ b3 = true ∧ b4 = true := by
                  revert hsb
                  cases b1 <;> cases b2 <;> cases z1 <;> cases z2 <;> cases b3 <;> cases b4 <;> decide
                clear hsb
                cases z1 <;> cases z2
                all_goals first | (exfalso; revert hzz; decide) | clear hzz
                all_goals
                  go_wp2_with (first
    | ((with_reducible refine gate_load 65 rfl ?_); refine rng_load_row rfl 65 _ rfl (range_below HR.out hO.bel) rfl _ rfl _ Tryd.underlying65 rfl (by kernel_rfl) ?_)
    | ((with_reducible refine gate_alloc 24 rfl ?_); refine own_alloc rfl 24 rfl hO _ rfl #[.string ⟨#[]⟩, .int .i64 0, .slice none 0 0] (by kernel_rfl) ?_; clear hO; (try clear w_); intro g_ w_ hO)
    | ((with_reducible refine gate_box 24 rfl ?_); refine own_box rfl 24 _ rfl hO _ rfl ?_ ?_ ?_; rotate_left; (focus (first | (go_simp; done) | (go_simp; with_reducible rfl) | rfl)); clear hO; (try clear w_); intro g_ w_ hO; simp only [Value.cells] at hO)
    | ((with_reducible refine gate_load 24 rfl ?_); (first | refine own_load_row rfl 24 _ rfl hO 0 _ _ rfl _ _ rfl _ rfl 3 ?_ ?_ ?_ _ Tryd.underlying24 rfl ?_ ?_ | refine own_load_row rfl 24 _ rfl hO 1 _ _ rfl _ _ rfl _ rfl 3 ?_ ?_ ?_ _ Tryd.underlying24 rfl ?_ ?_); rotate_left; (focus (first | (with_reducible exact hrow_) | (with_reducible exact hrow2_) | (simp only [Array.toList_extract, List.extract_toArray, List.extract_eq_take_drop, List.drop_zero, List.drop_succ_cons, List.take_succ_cons, List.take_zero, Nat.reduceAdd, Nat.reduceSub, Nat.zero_add, Nat.add_zero, Nat.add_sub_cancel_left, Nat.sub_zero, Nat.sub_self]; rfl))); (focus rfl); (focus kernel_rfl))
    | ((with_reducible refine gate_store 24 rfl ?_); (first | refine own_store rfl 24 _ _ rfl hO 0 _ _ ?_ rfl ?_ _ _ rfl _ rfl ?_ ?_ ?_ ?_ | refine own_store rfl 24 _ _ rfl hO 1 _ _ ?_ rfl ?_ _ _ rfl _ rfl ?_ ?_ ?_ ?_); rotate_left; (focus (first | (go_simp; done) | (go_simp; with_reducible rfl) | rfl)); (focus (first | (exact hble_) | kernel_rfl)); (focus kernel_rfl); (focus kernel_rfl); clear hO; (try clear w_); intro w_ hO; (first | (simp only [Value.cells] at hO; rw [hput_] at hO) | simp only [List.set_cons_zero, List.set_cons_succ, putAllA, Value.cells, List.setIfInBounds_toArray] at hO))
    | ((with_reducible refine gate_alloc 65 rfl ?_); refine own_alloc rfl 65 rfl hO _ rfl #[.int .i64 0, .int .i64 0, .int .i64 0, .int .i64 0] (by kernel_rfl) ?_; clear hO; (try clear w_); intro g_ w_ hO)
    | ((with_reducible refine gate_box 65 rfl ?_); refine own_box rfl 65 _ rfl hO _ rfl ?_ ?_ ?_; rotate_left; (focus (first | (go_simp; done) | (go_simp; with_reducible rfl) | rfl)); clear hO; (try clear w_); intro g_ w_ hO; simp only [Value.cells] at hO)
    | ((with_reducible refine gate_load 65 rfl ?_); (first | refine own_load_row rfl 65 _ rfl hO 0 _ _ rfl _ _ rfl _ rfl 4 ?_ ?_ ?_ _ Tryd.underlying65 rfl ?_ ?_ | refine own_load_row rfl 65 _ rfl hO 1 _ _ rfl _ _ rfl _ rfl 4 ?_ ?_ ?_ _ Tryd.underlying65 rfl ?_ ?_); rotate_left; (focus (first | (with_reducible exact hrow_) | (with_reducible exact hrow2_) | (simp only [Array.toList_extract, List.extract_toArray, List.extract_eq_take_drop, List.drop_zero, List.drop_succ_cons, List.take_succ_cons, List.take_zero, Nat.reduceAdd, Nat.reduceSub, Nat.zero_add, Nat.add_zero, Nat.add_sub_cancel_left, Nat.sub_zero, Nat.sub_self]; rfl))); (focus rfl); (focus kernel_rfl))
    | ((with_reducible refine gate_store 65 rfl ?_); (first | refine own_store rfl 65 _ _ rfl hO 0 _ _ ?_ rfl ?_ _ _ rfl _ rfl ?_ ?_ ?_ ?_ | refine own_store rfl 65 _ _ rfl hO 1 _ _ ?_ rfl ?_ _ _ rfl _ rfl ?_ ?_ ?_ ?_); rotate_left; (focus (first | (go_simp; done) | (go_simp; with_reducible rfl) | rfl)); (focus (first | (exact hble_) | kernel_rfl)); (focus kernel_rfl); (focus kernel_rfl); clear hO; (try clear w_); intro w_ hO; (first | (simp only [Value.cells] at hO; rw [hput_] at hO) | simp only [List.set_cons_zero, List.set_cons_succ, putAllA, Value.cells, List.setIfInBounds_toArray] at hO))
    | ((with_reducible refine gate_alloc 22 rfl ?_); refine own_alloc rfl 22 rfl hO _ rfl #[.slice none 0 0] (by kernel_rfl) ?_; clear hO; (try clear w_); intro g_ w_ hO)
    | ((with_reducible refine gate_box 22 rfl ?_); refine own_box rfl 22 _ rfl hO _ rfl ?_ ?_ ?_; rotate_left; (focus (first | (go_simp; done) | (go_simp; with_reducible rfl) | rfl)); clear hO; (try clear w_); intro g_ w_ hO; simp only [Value.cells] at hO)
    | ((with_reducible refine gate_load 22 rfl ?_); (first | refine own_load_one rfl 22 _ rfl hO 0 _ _ rfl _ _ rfl _ rfl ?_ ?_ _ Tryd.underlying22 rfl ?_ | refine own_load_one rfl 22 _ rfl hO 1 _ _ rfl _ _ rfl _ rfl ?_ ?_ _ Tryd.underlying22 rfl ?_); rotate_left; (focus (first | (with_reducible exact hcell_) | (simp only [List.getElem?_toArray, List.getElem?_cons_zero, List.getElem?_cons_succ]; rfl))))
    | ((with_reducible refine gate_store 22 rfl ?_); (first | refine own_store rfl 22 _ _ rfl hO 0 _ _ ?_ rfl ?_ _ _ rfl _ rfl ?_ ?_ ?_ ?_ | refine own_store rfl 22 _ _ rfl hO 1 _ _ ?_ rfl ?_ _ _ rfl _ rfl ?_ ?_ ?_ ?_); rotate_left; (focus (first | (go_simp; done) | (go_simp; with_reducible rfl) | rfl)); (focus (first | (exact hble_) | kernel_rfl)); (focus kernel_rfl); (focus kernel_rfl); clear hO; (try clear w_); intro w_ hO; (first | (simp only [Value.cells] at hO; rw [hput_] at hO) | simp only [List.set_cons_zero, List.set_cons_succ, putAllA, Value.cells, List.setIfInBounds_toArray] at hO))
    | ((with_reducible refine gate_alloc 9 rfl ?_); refine own_alloc rfl 9 rfl hO _ rfl #[.string ⟨#[]⟩] (by kernel_rfl) ?_; clear hO; (try clear w_); intro g_ w_ hO)
    | ((with_reducible refine gate_box 9 rfl ?_); refine own_box rfl 9 _ rfl hO _ rfl ?_ ?_ ?_; rotate_left; (focus (first | (go_simp; done) | (go_simp; with_reducible rfl) | rfl)); clear hO; (try clear w_); intro g_ w_ hO; simp only [Value.cells] at hO)
    | ((with_reducible refine gate_load 9 rfl ?_); (first | refine own_load_one rfl 9 _ rfl hO 0 _ _ rfl _ _ rfl _ rfl ?_ ?_ _ Tryd.underlying9 rfl ?_ | refine own_load_one rfl 9 _ rfl hO 1 _ _ rfl _ _ rfl _ rfl ?_ ?_ _ Tryd.underlying9 rfl ?_); rotate_left; (focus (first | (with_reducible exact hcell_) | (simp only [List.getElem?_toArray, List.getElem?_cons_zero, List.getElem?_cons_succ]; rfl))))
    | ((with_reducible refine gate_store 9 rfl ?_); (first | refine own_store rfl 9 _ _ rfl hO 0 _ _ ?_ rfl ?_ _ _ rfl _ rfl ?_ ?_ ?_ ?_ | refine own_store rfl 9 _ _ rfl hO 1 _ _ ?_ rfl ?_ _ _ rfl _ rfl ?_ ?_ ?_ ?_); rotate_left; (focus (first | (go_simp; done) | (go_simp; with_reducible rfl) | rfl)); (focus (first | (exact hble_) | kernel_rfl)); (focus kernel_rfl); (focus kernel_rfl); clear hO; (try clear w_); intro w_ hO; (first | (simp only [Value.cells] at hO; rw [hput_] at hO) | simp only [List.set_cons_zero, List.set_cons_succ, putAllA, Value.cells, List.setIfInBounds_toArray] at hO))
    | ((with_reducible refine gate_alloc 3 rfl ?_); refine own_alloc rfl 3 rfl hO _ rfl #[.int .i64 0] (by kernel_rfl) ?_; clear hO; (try clear w_); intro g_ w_ hO)
    | ((with_reducible refine gate_box 3 rfl ?_); refine own_box rfl 3 _ rfl hO _ rfl ?_ ?_ ?_; rotate_left; (focus (first | (go_simp; done) | (go_simp; with_reducible rfl) | rfl)); clear hO; (try clear w_); intro g_ w_ hO; simp only [Value.cells] at hO)
    | ((with_reducible refine gate_load 3 rfl ?_); (first | refine own_load_one rfl 3 _ rfl hO 0 _ _ rfl _ _ rfl _ rfl ?_ ?_ _ Tryd.underlying3 rfl ?_ | refine own_load_one rfl 3 _ rfl hO 1 _ _ rfl _ _ rfl _ rfl ?_ ?_ _ Tryd.underlying3 rfl ?_); rotate_left; (focus (first | (with_reducible exact hcell_) | (simp only [List.getElem?_toArray, List.getElem?_cons_zero, List.getElem?_cons_succ]; rfl))))
    | ((with_reducible refine gate_store 3 rfl ?_); (first | refine own_store rfl 3 _ _ rfl hO 0 _ _ ?_ rfl ?_ _ _ rfl _ rfl ?_ ?_ ?_ ?_ | refine own_store rfl 3 _ _ rfl hO 1 _ _ ?_ rfl ?_ _ _ rfl _ rfl ?_ ?_ ?_ ?_); rotate_left; (focus (first | (go_simp; done) | (go_simp; with_reducible rfl) | rfl)); (focus (first | (exact hble_) | kernel_rfl)); (focus kernel_rfl); (focus kernel_rfl); clear hO; (try clear w_); intro w_ hO; (first | (simp only [Value.cells] at hO; rw [hput_] at hO) | simp only [List.set_cons_zero, List.set_cons_succ, putAllA, Value.cells, List.setIfInBounds_toArray] at hO))
    | (go_at_call 45; (with_reducible refine (HF1.out _).mono ?_); rintro e w_ ⟨rfl, rfl⟩)
    | (go_at_call 45; (with_reducible refine (HF2.out _).mono ?_); rintro e w_ ⟨rfl, rfl⟩)
    | (go_at_call 45; (with_reducible refine (HF3.out _).mono ?_); rintro e w_ ⟨rfl, rfl⟩)
    | (go_at_call 45; (with_reducible refine (HF4.out _).mono ?_); rintro e w_ ⟨rfl, rfl⟩)
                  )
                  go_roundw
                  (case rel => exact ⟨k + 1, by omega, by go_num, HX.out, hO.sub (List.Sublist.cons _ (List.Sublist.refl _))⟩)
                  (case measure => simp [intOf]; omega)
              | false =>
                have HX := Lib.hid (HBad.out HSB.out)
                have hcase : b1 = false ∨ (b1 = true ∧ b2 = false) ∨ (b1 = true ∧ b2 = true ∧ z1 = true ∧ z2 = true) ∨ (b1 = true ∧ b2 = true ∧ z1 = false ∧ b3 = false) ∨ (b1 = true ∧ b2 = true ∧ z1 = true ∧ z2 = false ∧ b3 = false) ∨ (b1 = true ∧ b2 = true ∧ z1 = false ∧ b3 = true ∧ b4 = false) ∨ (b1 = true ∧ b2 = true ∧ z1 = true ∧ z2 = false ∧ b3 = true ∧ b4 = false) := by
                  revert hsb
                  cases b1 <;> cases b2 <;> cases z1 <;> cases z2 <;> cases b3 <;> cases b4 <;> decide
                clear hsb
                rcases hcase with rfl | ⟨rfl, rfl⟩ | ⟨rfl, rfl, rfl, rfl⟩ | ⟨rfl, rfl, rfl, rfl⟩ | ⟨rfl, rfl, rfl, rfl, rfl⟩ | ⟨rfl, rfl, rfl, rfl, rfl⟩ | ⟨rfl, rfl, rfl, rfl, rfl, rfl⟩
                all_goals
                  go_wp2_with (first
    | ((with_reducible refine gate_load 65 rfl ?_); refine rng_load_row rfl 65 _ rfl (range_below HR.out hO.bel) rfl _ rfl _ Tryd.underlying65 rfl (by kernel_rfl) ?_)
    | ((with_reducible refine gate_alloc 24 rfl ?_); refine own_alloc rfl 24 rfl hO _ rfl #[.string ⟨#[]⟩, .int .i64 0, .slice none 0 0] (by kernel_rfl) ?_; clear hO; (try clear w_); intro g_ w_ hO)
    | ((with_reducible refine gate_box 24 rfl ?_); refine own_box rfl 24 _ rfl hO _ rfl ?_ ?_ ?_; rotate_left; (focus (first | (go_simp; done) | (go_simp; with_reducible rfl) | rfl)); clear hO; (try clear w_); intro g_ w_ hO; simp only [Value.cells] at hO)
    | ((with_reducible refine gate_load 24 rfl ?_); (first | refine own_load_row rfl 24 _ rfl hO 0 _ _ rfl _ _ rfl _ rfl 3 ?_ ?_ ?_ _ Tryd.underlying24 rfl ?_ ?_ | refine own_load_row rfl 24 _ rfl hO 1 _ _ rfl _ _ rfl _ rfl 3 ?_ ?_ ?_ _ Tryd.underlying24 rfl ?_ ?_); rotate_left; (focus (first | (with_reducible exact hrow_) | (with_reducible exact hrow2_) | (simp only [Array.toList_extract, List.extract_toArray, List.extract_eq_take_drop, List.drop_zero, List.drop_succ_cons, List.take_succ_cons, List.take_zero, Nat.reduceAdd, Nat.reduceSub, Nat.zero_add, Nat.add_zero, Nat.add_sub_cancel_left, Nat.sub_zero, Nat.sub_self]; rfl))); (focus rfl); (focus kernel_rfl))
    | ((with_reducible refine gate_store 24 rfl ?_); (first | refine own_store rfl 24 _ _ rfl hO 0 _ _ ?_ rfl ?_ _ _ rfl _ rfl ?_ ?_ ?_ ?_ | refine own_store rfl 24 _ _ rfl hO 1 _ _ ?_ rfl ?_ _ _ rfl _ rfl ?_ ?_ ?_ ?_); rotate_left; (focus (first | (go_simp; done) | (go_simp; with_reducible rfl) | rfl)); (focus (first | (exact hble_) | kernel_rfl)); (focus kernel_rfl); (focus kernel_rfl); clear hO; (try clear w_); intro w_ hO; (first | (simp only [Value.cells] at hO; rw [hput_] at hO) | simp only [List.set_cons_zero, List.set_cons_succ, putAllA, Value.cells, List.setIfInBounds_toArray] at hO))
    | ((with_reducible refine gate_alloc 65 rfl ?_); refine own_alloc rfl 65 rfl hO _ rfl #[.int .i64 0, .int .i64 0, .int .i64 0, .int .i64 0] (by kernel_rfl) ?_; clear hO; (try clear w_); intro g_ w_ hO)
    | ((with_reducible refine gate_box 65 rfl ?_); refine own_box rfl 65 _ rfl hO _ rfl ?_ ?_ ?_; rotate_left; (focus (first | (go_simp; done) | (go_simp; with_reducible rfl) | rfl)); clear hO; (try clear w_); intro g_ w_ hO; simp only [Value.cells] at hO)
    | ((with_reducible refine gate_load 65 rfl ?_); (first | refine own_load_row rfl 65 _ rfl hO 0 _ _ rfl _ _ rfl _ rfl 4 ?_ ?_ ?_ _ Tryd.underlying65 rfl ?_ ?_ | refine own_load_row rfl 65 _ rfl hO 1 _ _ rfl _ _ rfl _ rfl 4 ?_ ?_ ?_ _ Tryd.underlying65 rfl ?_ ?_); rotate_left; (focus (first | (with_reducible exact hrow_) | (with_reducible exact hrow2_) | (simp only [Array.toList_extract, List.extract_toArray, List.extract_eq_take_drop, List.drop_zero, List.drop_succ_cons, List.take_succ_cons, List.take_zero, Nat.reduceAdd, Nat.reduceSub, Nat.zero_add, Nat.add_zero, Nat.add_sub_cancel_left, Nat.sub_zero, Nat.sub_self]; rfl))); (focus rfl); (focus kernel_rfl))
    | ((with_reducible refine gate_store 65 rfl ?_); (first | refine own_store rfl 65 _ _ rfl hO 0 _ _ ?_ rfl ?_ _ _ rfl _ rfl ?_ ?_ ?_ ?_ | refine own_store rfl 65 _ _ rfl hO 1 _ _ ?_ rfl ?_ _ _ rfl _ rfl ?_ ?_ ?_ ?_); rotate_left; (focus (first | (go_simp; done) | (go_simp; with_reducible rfl) | rfl)); (focus (first | (exact hble_) | kernel_rfl)); (focus kernel_rfl); (focus kernel_rfl); clear hO; (try clear w_); intro w_ hO; (first | (simp only [Value.cells] at hO; rw [hput_] at hO) | simp only [List.set_cons_zero, List.set_cons_succ, putAllA, Value.cells, List.setIfInBounds_toArray] at hO))
    | ((with_reducible refine gate_alloc 22 rfl ?_); refine own_alloc rfl 22 rfl hO _ rfl #[.slice none 0 0] (by kernel_rfl) ?_; clear hO; (try clear w_); intro g_ w_ hO)
    | ((with_reducible refine gate_box 22 rfl ?_); refine own_box rfl 22 _ rfl hO _ rfl ?_ ?_ ?_; rotate_left; (focus (first | (go_simp; done) | (go_simp; with_reducible rfl) | rfl)); clear hO; (try clear w_); intro g_ w_ hO; simp only [Value.cells] at hO)
    | ((with_reducible refine gate_load 22 rfl ?_); (first | refine own_load_one rfl 22 _ rfl hO 0 _ _ rfl _ _ rfl _ rfl ?_ ?_ _ Tryd.underlying22 rfl ?_ | refine own_load_one rfl 22 _ rfl hO 1 _ _ rfl _ _ rfl _ rfl ?_ ?_ _ Tryd.underlying22 rfl ?_); rotate_left; (focus (first | (with_reducible exact hcell_) | (simp only [List.getElem?_toArray, List.getElem?_cons_zero, List.getElem?_cons_succ]; rfl))))
    | ((with_reducible refine gate_store 22 rfl ?_); (first | refine own_store rfl 22 _ _ rfl hO 0 _ _ ?_ rfl ?_ _ _ rfl _ rfl ?_ ?_ ?_ ?_ | refine own_store rfl 22 _ _ rfl hO 1 _ _ ?_ rfl ?_ _ _ rfl _ rfl ?_ ?_ ?_ ?_); rotate_left; (focus (first | (go_simp; done) | (go_simp; with_reducible rfl) | rfl)); (focus (first | (exact hble_) | kernel_rfl)); (focus kernel_rfl); (focus kernel_rfl); clear hO; (try clear w_); intro w_ hO; (first | (simp only [Value.cells] at hO; rw [hput_] at hO) | simp only [List.set_cons_zero, List.set_cons_succ, putAllA, Value.cells, List.setIfInBounds_toArray] at hO))
    | ((with_reducible refine gate_alloc 9 rfl ?_); refine own_alloc rfl 9 rfl hO _ rfl #[.string ⟨#[]⟩] (by kernel_rfl) ?_; clear hO; (try clear w_); intro g_ w_ hO)
    | ((with_reducible refine gate_box 9 rfl ?_); refine own_box rfl 9 _ rfl hO _ rfl ?_ ?_ ?_; rotate_left; (focus (first | (go_simp; done) | (go_simp; with_reducible rfl) | rfl)); clear hO; (try clear w_); intro g_ w_ hO; simp only [Value.cells] at hO)
    | ((with_reducible refine gate_load 9 rfl ?_); (first | refine own_load_one rfl 9 _ rfl hO 0 _ _ rfl _ _ rfl _ rfl ?_ ?_ _ Tryd.underlying9 rfl ?_ | refine own_load_one rfl 9 _ rfl hO 1 _ _ rfl _ _ rfl _ rfl ?_ ?_ _ Tryd.underlying9 rfl ?_); rotate_left; (focus (first | (with_reducible exact hcell_) | (simp only [List.getElem?_toArray, List.getElem?_cons_zero, List.getElem?_cons_succ]; rfl))))
    | ((with_reducible refine gate_store 9 rfl ?_); (first | refine own_store rfl 9 _ _ rfl hO 0 _ _ ?_ rfl ?_ _ _ rfl _ rfl ?_ ?_ ?_ ?_ | refine own_store rfl 9 _ _ rfl hO 1 _ _ ?_ rfl ?_ _ _ rfl _ rfl ?_ ?_ ?_ ?_); rotate_left; (focus (first | (go_simp; done) | (go_simp; with_reducible rfl) | rfl)); (focus (first | (exact hble_) | kernel_rfl)); (focus kernel_rfl); (focus kernel_rfl); clear hO; (try clear w_); intro w_ hO; (first | (simp only [Value.cells] at hO; rw [hput_] at hO) | simp only [List.set_cons_zero, List.set_cons_succ, putAllA, Value.cells, List.setIfInBounds_toArray] at hO))
    | ((with_reducible refine gate_alloc 3 rfl ?_); refine own_alloc rfl 3 rfl hO _ rfl #[.int .i64 0] (by kernel_rfl) ?_; clear hO; (try clear w_); intro g_ w_ hO)
    | ((with_reducible refine gate_box 3 rfl ?_); refine own_box rfl 3 _ rfl hO _ rfl ?_ ?_ ?_; rotate_left; (focus (first | (go_simp; done) | (go_simp; with_reducible rfl) | rfl)); clear hO; (try clear w_); intro g_ w_ hO; simp only [Value.cells] at hO)
    | ((with_reducible refine gate_load 3 rfl ?_); (first | refine own_load_one rfl 3 _ rfl hO 0 _ _ rfl _ _ rfl _ rfl ?_ ?_ _ Tryd.underlying3 rfl ?_ | refine own_load_one rfl 3 _ rfl hO 1 _ _ rfl _ _ rfl _ rfl ?_ ?_ _ Tryd.underlying3 rfl ?_); rotate_left; (focus (first | (with_reducible exact hcell_) | (simp only [List.getElem?_toArray, List.getElem?_cons_zero, List.getElem?_cons_succ]; rfl))))
    | ((with_reducible refine gate_store 3 rfl ?_); (first | refine own_store rfl 3 _ _ rfl hO 0 _ _ ?_ rfl ?_ _ _ rfl _ rfl ?_ ?_ ?_ ?_ | refine own_store rfl 3 _ _ rfl hO 1 _ _ ?_ rfl ?_ _ _ rfl _ rfl ?_ ?_ ?_ ?_); rotate_left; (focus (first | (go_simp; done) | (go_simp; with_reducible rfl) | rfl)); (focus (first | (exact hble_) | kernel_rfl)); (focus kernel_rfl); (focus kernel_rfl); clear hO; (try clear w_); intro w_ hO; (first | (simp only [Value.cells] at hO; rw [hput_] at hO) | simp only [List.set_cons_zero, List.set_cons_succ, putAllA, Value.cells, List.setIfInBounds_toArray] at hO))
    | (go_at_call 45; (with_reducible refine (HF1.out _).mono ?_); rintro e w_ ⟨rfl, rfl⟩)
    | (go_at_call 45; (with_reducible refine (HF2.out _).mono ?_); rintro e w_ ⟨rfl, rfl⟩)
    | (go_at_call 45; (with_reducible refine (HF3.out _).mono ?_); rintro e w_ ⟨rfl, rfl⟩)
    | (go_at_call 45; (with_reducible refine (HF4.out _).mono ?_); rintro e w_ ⟨rfl, rfl⟩)
                  )
                  go_ret
                  exact ⟨by rw [HX.out]; rfl, hO.bel⟩
            · obtain rfl : k = st.length := by omega
              rw [List.take_length] at hall
              have HX : Hid (Z = 0) := Lib.hid (by rw [← HZ.out, if_pos hall])
              clear hall
              go_wp2_with (first
    | ((with_reducible refine gate_alloc 24 rfl ?_); refine own_alloc rfl 24 rfl hO _ rfl #[.string ⟨#[]⟩, .int .i64 0, .slice none 0 0] (by kernel_rfl) ?_; clear hO; (try clear w_); intro g_ w_ hO)
    | ((with_reducible refine gate_box 24 rfl ?_); refine own_box rfl 24 _ rfl hO _ rfl ?_ ?_ ?_; rotate_left; (focus (first | (go_simp; done) | (go_simp; with_reducible rfl) | rfl)); clear hO; (try clear w_); intro g_ w_ hO; simp only [Value.cells] at hO)
    | ((with_reducible refine gate_load 24 rfl ?_); (first | refine own_load_row rfl 24 _ rfl hO 0 _ _ rfl _ _ rfl _ rfl 3 ?_ ?_ ?_ _ Tryd.underlying24 rfl ?_ ?_ | refine own_load_row rfl 24 _ rfl hO 1 _ _ rfl _ _ rfl _ rfl 3 ?_ ?_ ?_ _ Tryd.underlying24 rfl ?_ ?_); rotate_left; (focus (first | (with_reducible exact hrow_) | (with_reducible exact hrow2_) | (simp only [Array.toList_extract, List.extract_toArray, List.extract_eq_take_drop, List.drop_zero, List.drop_succ_cons, List.take_succ_cons, List.take_zero, Nat.reduceAdd, Nat.reduceSub, Nat.zero_add, Nat.add_zero, Nat.add_sub_cancel_left, Nat.sub_zero, Nat.sub_self]; rfl))); (focus rfl); (focus kernel_rfl))
    | ((with_reducible refine gate_store 24 rfl ?_); (first | refine own_store rfl 24 _ _ rfl hO 0 _ _ ?_ rfl ?_ _ _ rfl _ rfl ?_ ?_ ?_ ?_ | refine own_store rfl 24 _ _ rfl hO 1 _ _ ?_ rfl ?_ _ _ rfl _ rfl ?_ ?_ ?_ ?_); rotate_left; (focus (first | (go_simp; done) | (go_simp; with_reducible rfl) | rfl)); (focus (first | (exact hble_) | kernel_rfl)); (focus kernel_rfl); (focus kernel_rfl); clear hO; (try clear w_); intro w_ hO; (first | (simp only [Value.cells] at hO; rw [hput_] at hO) | simp only [List.set_cons_zero, List.set_cons_succ, putAllA, Value.cells, List.setIfInBounds_toArray] at hO))
    | ((with_reducible refine gate_alloc 65 rfl ?_); refine own_alloc rfl 65 rfl hO _ rfl #[.int .i64 0, .int .i64 0, .int .i64 0, .int .i64 0] (by kernel_rfl) ?_; clear hO; (try clear w_); intro g_ w_ hO)
    | ((with_reducible refine gate_box 65 rfl ?_); refine own_box rfl 65 _ rfl hO _ rfl ?_ ?_ ?_; rotate_left; (focus (first | (go_simp; done) | (go_simp; with_reducible rfl) | rfl)); clear hO; (try clear w_); intro g_ w_ hO; simp only [Value.cells] at hO)
    | ((with_reducible refine gate_load 65 rfl ?_); (first | refine own_load_row rfl 65 _ rfl hO 0 _ _ rfl _ _ rfl _ rfl 4 ?_ ?_ ?_ _ Tryd.underlying65 rfl ?_ ?_ | refine own_load_row rfl 65 _ rfl hO 1 _ _ rfl _ _ rfl _ rfl 4 ?_ ?_ ?_ _ Tryd.underlying65 rfl ?_ ?_); rotate_left; (focus (first | (with_reducible exact hrow_) | (with_reducible exact hrow2_) | (simp only [Array.toList_extract, List.extract_toArray, List.extract_eq_take_drop, List.drop_zero, List.drop_succ_cons, List.take_succ_cons, List.take_zero, Nat.reduceAdd, Nat.reduceSub, Nat.zero_add, Nat.add_zero, Nat.add_sub_cancel_left, Nat.sub_zero, Nat.sub_self]; rfl))); (focus rfl); (focus kernel_rfl))
    | ((with_reducible refine gate_store 65 rfl ?_); (first | refine own_store rfl 65 _ _ rfl hO 0 _ _ ?_ rfl ?_ _ _ rfl _ rfl ?_ ?_ ?_ ?_ | refine own_store rfl 65 _ _ rfl hO 1 _ _ ?_ rfl ?_ _ _ rfl _ rfl ?_ ?_ ?_ ?_); rotate_left; (focus (first | (go_simp; done) | (go_simp; with_reducible rfl) | rfl)); (focus (first | (exact hble_) | kernel_rfl)); (focus kernel_rfl); (focus kernel_rfl); clear hO; (try clear w_); intro w_ hO; (first | (simp only [Value.cells] at hO; rw [hput_] at hO) | simp only [List.set_cons_zero, List.set_cons_succ, putAllA, Value.cells, List.setIfInBounds_toArray] at hO))
    | ((with_reducible refine gate_alloc 22 rfl ?_); refine own_alloc rfl 22 rfl hO _ rfl #[.slice none 0 0] (by kernel_rfl) ?_; clear hO; (try clear w_); intro g_ w_ hO)
    | ((with_reducible refine gate_box 22 rfl ?_); refine own_box rfl 22 _ rfl hO _ rfl ?_ ?_ ?_; rotate_left; (focus (first | (go_simp; done) | (go_simp; with_reducible rfl) | rfl)); clear hO; (try clear w_); intro g_ w_ hO; simp only [Value.cells] at hO)
    | ((with_reducible refine gate_load 22 rfl ?_); (first | refine own_load_one rfl 22 _ rfl hO 0 _ _ rfl _ _ rfl _ rfl ?_ ?_ _ Tryd.underlying22 rfl ?_ | refine own_load_one rfl 22 _ rfl hO 1 _ _ rfl _ _ rfl _ rfl ?_ ?_ _ Tryd.underlying22 rfl ?_); rotate_left; (focus (first | (with_reducible exact hcell_) | (simp only [List.getElem?_toArray, List.getElem?_cons_zero, List.getElem?_cons_succ]; rfl))))
    | ((with_reducible refine gate_store 22 rfl ?_); (first | refine own_store rfl 22 _ _ rfl hO 0 _ _ ?_ rfl ?_ _ _ rfl _ rfl ?_ ?_ ?_ ?_ | refine own_store rfl 22 _ _ rfl hO 1 _ _ ?_ rfl ?_ _ _ rfl _ rfl ?_ ?_ ?_ ?_); rotate_left; (focus (first | (go_simp; done) | (go_simp; with_reducible rfl) | rfl)); (focus (first | (exact hble_) | kernel_rfl)); (focus kernel_rfl); (focus kernel_rfl); clear hO; (try clear w_); intro w_ hO; (first | (simp only [Value.cells] at hO; rw [hput_] at hO) | simp only [List.set_cons_zero, List.set_cons_succ, putAllA, Value.cells, List.setIfInBounds_toArray] at hO))
    | ((with_reducible refine gate_alloc 9 rfl ?_); refine own_alloc rfl 9 rfl hO _ rfl #[.string ⟨#[]⟩] (by kernel_rfl) ?_; clear hO; (try clear w_); intro g_ w_ hO)
    | ((with_reducible refine gate_box 9 rfl ?_); refine own_box rfl 9 _ rfl hO _ rfl ?_ ?_ ?_; rotate_left; (focus (first | (go_simp; done) | (go_simp; with_reducible rfl) | rfl)); clear hO; (try clear w_); intro g_ w_ hO; simp only [Value.cells] at hO)
    | ((with_reducible refine gate_load 9 rfl ?_); (first | refine own_load_one rfl 9 _ rfl hO 0 _ _ rfl _ _ rfl _ rfl ?_ ?_ _ Tryd.underlying9 rfl ?_ | refine own_load_one rfl 9 _ rfl hO 1 _ _ rfl _ _ rfl _ rfl ?_ ?_ _ Tryd.underlying9 rfl ?_); rotate_left; (focus (first | (with_reducible exact hcell_) | (simp only [List.getElem?_toArray, List.getElem?_cons_zero, List.getElem?_cons_succ]; rfl))))
    | ((with_reducible refine gate_store 9 rfl ?_); (first | refine own_store rfl 9 _ _ rfl hO 0 _ _ ?_ rfl ?_ _ _ rfl _ rfl ?_ ?_ ?_ ?_ | refine own_store rfl 9 _ _ rfl hO 1 _ _ ?_ rfl ?_ _ _ rfl _ rfl ?_ ?_ ?_ ?_); rotate_left; (focus (first | (go_simp; done) | (go_simp; with_reducible rfl) | rfl)); (focus (first | (exact hble_) | kernel_rfl)); (focus kernel_rfl); (focus kernel_rfl); clear hO; (try clear w_); intro w_ hO; (first | (simp only [Value.cells] at hO; rw [hput_] at hO) | simp only [List.set_cons_zero, List.set_cons_succ, putAllA, Value.cells, List.setIfInBounds_toArray] at hO))
    | ((with_reducible refine gate_alloc 3 rfl ?_); refine own_alloc rfl 3 rfl hO _ rfl #[.int .i64 0] (by kernel_rfl) ?_; clear hO; (try clear w_); intro g_ w_ hO)
    | ((with_reducible refine gate_box 3 rfl ?_); refine own_box rfl 3 _ rfl hO _ rfl ?_ ?_ ?_; rotate_left; (focus (first | (go_simp; done) | (go_simp; with_reducible rfl) | rfl)); clear hO; (try clear w_); intro g_ w_ hO; simp only [Value.cells] at hO)
    | ((with_reducible refine gate_load 3 rfl ?_); (first | refine own_load_one rfl 3 _ rfl hO 0 _ _ rfl _ _ rfl _ rfl ?_ ?_ _ Tryd.underlying3 rfl ?_ | refine own_load_one rfl 3 _ rfl hO 1 _ _ rfl _ _ rfl _ rfl ?_ ?_ _ Tryd.underlying3 rfl ?_); rotate_left; (focus (first | (with_reducible exact hcell_) | (simp only [List.getElem?_toArray, List.getElem?_cons_zero, List.getElem?_cons_succ]; rfl))))
    | ((with_reducible refine gate_store 3 rfl ?_); (first | refine own_store rfl 3 _ _ rfl hO 0 _ _ ?_ rfl ?_ _ _ rfl _ rfl ?_ ?_ ?_ ?_ | refine own_store rfl 3 _ _ rfl hO 1 _ _ ?_ rfl ?_ _ _ rfl _ rfl ?_ ?_ ?_ ?_); rotate_left; (focus (first | (go_simp; done) | (go_simp; with_reducible rfl) | rfl)); (focus (first | (exact hble_) | kernel_rfl)); (focus kernel_rfl); (focus kernel_rfl); clear hO; (try clear w_); intro w_ hO; (first | (simp only [Value.cells] at hO; rw [hput_] at hO) | simp only [List.set_cons_zero, List.set_cons_succ, putAllA, Value.cells, List.setIfInBounds_toArray] at hO))
              )
              go_ret
              exact ⟨by rw [HX.out]; rfl, hO.bel⟩
end
section
open Go.RowKit Go.Proofs.YtkedpokbbogkmaaDoorW.PrintLast
set_option linter.unusedSimpArgs false
set_option linter.unusedVariables false

theorem rng_eq (v lo hi : Int) : rngB v lo hi = rngB' v lo hi := by
  rw [Bool.eq_iff_iff]
  unfold rngB rngB'
  simp only [Bool.and_eq_true, Bool.not_eq_true', decide_eq_true_eq, decide_eq_false_iff_not]
  omega
theorem woodL_rng (a0 a1 a2 a3 a4 a5 a6 a7 a8 a9 a10 a11 : Int) : (woodL a0 a1 a2 a3 a4 a5 a6 a7 a8 a9 a10 a11).all id = (rngB' a0 3000 20000 && (rngB' a1 1 10000 && (rngB' a2 1 a1 && (rngB' a3 0 a4 && (rngB' a4 1 20000 && (rngB' a5 1 1000000 && (rngB' a6 200 1200 && (rngB' a7 100 400 && (rngB' a8 200 1500 && (rngB' a9 1000 30000 && (rngB' a10 0 1000 && (rngB' a11 0 200)))))))))))) := by
  unfold woodL
  simp only [List.all_cons, List.all_nil, id, rng_eq, Bool.and_true]
set_option maxHeartbeats 16000000 in
set_option maxRecDepth 100000 in
theorem rvalid_any (n : ByteArray) (a0 a1 a2 a3 a4 a5 a6 a7 a8 a9 a10 a11 : Int) (w : World) : Calls Tryd.prog 46 #[.agg #[.string n, .int .i64 a0, .int .i64 a1, .int .i64 a2, .int .i64 a3, .int .i64 a4, .int .i64 a5, .int .i64 a6, .int .i64 a7, .int .i64 a8, .int .i64 a9, .int .i64 a10, .int .i64 a11]] w fun e w' => e = .returned (.bool ((woodL a0 a1 a2 a3 a4 a5 a6 a7 a8 a9 a10 a11).all id)) ∧ Below w.heap.size w w' := by
  have hO := Own.nil w
  have HF0 : Hid (∀ w, Calls Tryd.prog 55 #[.int .i64 a0, .int .i64 3000, .int .i64 20000] w fun e w' => e = .returned (.bool (rngB' a0 3000 20000)) ∧ w = w') := Lib.hid (rfrom34_any _ _ _)
  have HF1 : Hid (∀ w, Calls Tryd.prog 55 #[.int .i64 a1, .int .i64 1, .int .i64 10000] w fun e w' => e = .returned (.bool (rngB' a1 1 10000)) ∧ w = w') := Lib.hid (rfrom34_any _ _ _)
  have HF2 : Hid (∀ w, Calls Tryd.prog 55 #[.int .i64 a2, .int .i64 1, .int .i64 a1] w fun e w' => e = .returned (.bool (rngB' a2 1 a1)) ∧ w = w') := Lib.hid (rfrom34_any _ _ _)
  have HF3 : Hid (∀ w, Calls Tryd.prog 55 #[.int .i64 a4, .int .i64 1, .int .i64 20000] w fun e w' => e = .returned (.bool (rngB' a4 1 20000)) ∧ w = w') := Lib.hid (rfrom34_any _ _ _)
  have HF4 : Hid (∀ w, Calls Tryd.prog 55 #[.int .i64 a3, .int .i64 0, .int .i64 a4] w fun e w' => e = .returned (.bool (rngB' a3 0 a4)) ∧ w = w') := Lib.hid (rfrom34_any _ _ _)
  have HF5 : Hid (∀ w, Calls Tryd.prog 55 #[.int .i64 a5, .int .i64 1, .int .i64 1000000] w fun e w' => e = .returned (.bool (rngB' a5 1 1000000)) ∧ w = w') := Lib.hid (rfrom34_any _ _ _)
  have HF6 : Hid (∀ w, Calls Tryd.prog 55 #[.int .i64 a6, .int .i64 200, .int .i64 1200] w fun e w' => e = .returned (.bool (rngB' a6 200 1200)) ∧ w = w') := Lib.hid (rfrom34_any _ _ _)
  have HF7 : Hid (∀ w, Calls Tryd.prog 55 #[.int .i64 a7, .int .i64 100, .int .i64 400] w fun e w' => e = .returned (.bool (rngB' a7 100 400)) ∧ w = w') := Lib.hid (rfrom34_any _ _ _)
  have HF8 : Hid (∀ w, Calls Tryd.prog 55 #[.int .i64 a8, .int .i64 200, .int .i64 1500] w fun e w' => e = .returned (.bool (rngB' a8 200 1500)) ∧ w = w') := Lib.hid (rfrom34_any _ _ _)
  have HF9 : Hid (∀ w, Calls Tryd.prog 55 #[.int .i64 a9, .int .i64 1000, .int .i64 30000] w fun e w' => e = .returned (.bool (rngB' a9 1000 30000)) ∧ w = w') := Lib.hid (rfrom34_any _ _ _)
  have HF10 : Hid (∀ w, Calls Tryd.prog 55 #[.int .i64 a10, .int .i64 0, .int .i64 1000] w fun e w' => e = .returned (.bool (rngB' a10 0 1000)) ∧ w = w') := Lib.hid (rfrom34_any _ _ _)
  have HF11 : Hid (∀ w, Calls Tryd.prog 55 #[.int .i64 a11, .int .i64 0, .int .i64 200] w fun e w' => e = .returned (.bool (rngB' a11 0 200)) ∧ w = w') := Lib.hid (rfrom34_any _ _ _)
  have hV := woodL_rng a0 a1 a2 a3 a4 a5 a6 a7 a8 a9 a10 a11
  generalize (woodL a0 a1 a2 a3 a4 a5 a6 a7 a8 a9 a10 a11).all id = V at *
  generalize rngB' a0 3000 20000 = b0 at *
  generalize rngB' a1 1 10000 = b1 at *
  generalize rngB' a2 1 a1 = b2 at *
  generalize rngB' a4 1 20000 = b3 at *
  generalize rngB' a3 0 a4 = b4 at *
  generalize rngB' a5 1 1000000 = b5 at *
  generalize rngB' a6 200 1200 = b6 at *
  generalize rngB' a7 100 400 = b7 at *
  generalize rngB' a8 200 1500 = b8 at *
  generalize rngB' a9 1000 30000 = b9 at *
  generalize rngB' a10 0 1000 = b10 at *
  generalize rngB' a11 0 200 = b11 at *
  have HV := Lib.hid hV
  clear hV
  cases b0 with
  | false =>
    have HVX : Hid (Ending.returned (.bool false) = Ending.returned (.bool V)) := Lib.hid (by rw [HV.out]; simp)
    go_enter Tryd.func46, Tryd.ntmps46
    go_wp2_with (first
    | ((with_reducible refine gate_alloc 26 rfl ?_); refine own_alloc rfl 26 rfl hO _ rfl #[.string ⟨#[]⟩, .int .i64 0, .int .i64 0, .int .i64 0, .int .i64 0, .int .i64 0, .int .i64 0, .int .i64 0, .int .i64 0, .int .i64 0, .int .i64 0, .int .i64 0, .int .i64 0] (by kernel_rfl) ?_; clear hO; (try clear w_); intro g_ w_ hO)
    | ((with_reducible refine gate_box 26 rfl ?_); refine own_box rfl 26 _ rfl hO _ rfl ?_ ?_ ?_; rotate_left; (focus (first | (go_simp; done) | (go_simp; with_reducible rfl) | rfl)); clear hO; (try clear w_); intro g_ w_ hO; simp only [Value.cells] at hO)
    | ((with_reducible refine gate_load 26 rfl ?_); (first | refine own_load_row rfl 26 _ rfl hO 0 _ _ rfl _ _ rfl _ rfl 13 ?_ ?_ ?_ _ Tryd.underlying26 rfl ?_ ?_); rotate_left; (focus (first | (with_reducible exact hrow_) | (with_reducible exact hrow2_) | (simp only [Array.toList_extract, List.extract_toArray, List.extract_eq_take_drop, List.drop_zero, List.drop_succ_cons, List.take_succ_cons, List.take_zero, Nat.reduceAdd, Nat.reduceSub, Nat.zero_add, Nat.add_zero, Nat.add_sub_cancel_left, Nat.sub_zero, Nat.sub_self]; rfl))); (focus rfl); (focus kernel_rfl))
    | ((with_reducible refine gate_store 26 rfl ?_); (first | refine own_store rfl 26 _ _ rfl hO 0 _ _ ?_ rfl ?_ _ _ rfl _ rfl ?_ ?_ ?_ ?_); rotate_left; (focus (first | (go_simp; done) | (go_simp; with_reducible rfl) | rfl)); (focus (first | (exact hble_) | kernel_rfl)); (focus kernel_rfl); (focus kernel_rfl); clear hO; (try clear w_); intro w_ hO; (first | (simp only [Value.cells] at hO; rw [hput_] at hO) | simp only [List.set_cons_zero, List.set_cons_succ, putAllA, Value.cells, List.setIfInBounds_toArray] at hO))
    | ((with_reducible refine gate_alloc 3 rfl ?_); refine own_alloc rfl 3 rfl hO _ rfl #[.int .i64 0] (by kernel_rfl) ?_; clear hO; (try clear w_); intro g_ w_ hO)
    | ((with_reducible refine gate_box 3 rfl ?_); refine own_box rfl 3 _ rfl hO _ rfl ?_ ?_ ?_; rotate_left; (focus (first | (go_simp; done) | (go_simp; with_reducible rfl) | rfl)); clear hO; (try clear w_); intro g_ w_ hO; simp only [Value.cells] at hO)
    | ((with_reducible refine gate_load 3 rfl ?_); (first | refine own_load_one rfl 3 _ rfl hO 0 _ _ rfl _ _ rfl _ rfl ?_ ?_ _ Tryd.underlying3 rfl ?_); rotate_left; (focus (first | (with_reducible exact hcell_) | (simp only [List.getElem?_toArray, List.getElem?_cons_zero, List.getElem?_cons_succ]; rfl))))
    | ((with_reducible refine gate_store 3 rfl ?_); (first | refine own_store rfl 3 _ _ rfl hO 0 _ _ ?_ rfl ?_ _ _ rfl _ rfl ?_ ?_ ?_ ?_); rotate_left; (focus (first | (go_simp; done) | (go_simp; with_reducible rfl) | rfl)); (focus (first | (exact hble_) | kernel_rfl)); (focus kernel_rfl); (focus kernel_rfl); clear hO; (try clear w_); intro w_ hO; (first | (simp only [Value.cells] at hO; rw [hput_] at hO) | simp only [List.set_cons_zero, List.set_cons_succ, putAllA, Value.cells, List.setIfInBounds_toArray] at hO))
    | (go_at_call 55; (with_reducible refine (HF0.out _).mono ?_); rintro e w_ ⟨rfl, rfl⟩)
    | (go_at_call 55; (with_reducible refine (HF1.out _).mono ?_); rintro e w_ ⟨rfl, rfl⟩)
    | (go_at_call 55; (with_reducible refine (HF2.out _).mono ?_); rintro e w_ ⟨rfl, rfl⟩)
    | (go_at_call 55; (with_reducible refine (HF3.out _).mono ?_); rintro e w_ ⟨rfl, rfl⟩)
    | (go_at_call 55; (with_reducible refine (HF4.out _).mono ?_); rintro e w_ ⟨rfl, rfl⟩)
    | (go_at_call 55; (with_reducible refine (HF5.out _).mono ?_); rintro e w_ ⟨rfl, rfl⟩)
    | (go_at_call 55; (with_reducible refine (HF6.out _).mono ?_); rintro e w_ ⟨rfl, rfl⟩)
    | (go_at_call 55; (with_reducible refine (HF7.out _).mono ?_); rintro e w_ ⟨rfl, rfl⟩)
    | (go_at_call 55; (with_reducible refine (HF8.out _).mono ?_); rintro e w_ ⟨rfl, rfl⟩)
    | (go_at_call 55; (with_reducible refine (HF9.out _).mono ?_); rintro e w_ ⟨rfl, rfl⟩)
    | (go_at_call 55; (with_reducible refine (HF10.out _).mono ?_); rintro e w_ ⟨rfl, rfl⟩)
    | (go_at_call 55; (with_reducible refine (HF11.out _).mono ?_); rintro e w_ ⟨rfl, rfl⟩)
    )
    go_ret
    exact ⟨HVX.out, hO.bel⟩
  | true =>
    cases b1 with
    | false =>
      have HVX : Hid (Ending.returned (.bool false) = Ending.returned (.bool V)) := Lib.hid (by rw [HV.out]; simp)
      go_enter Tryd.func46, Tryd.ntmps46
      go_wp2_with (first
    | ((with_reducible refine gate_alloc 26 rfl ?_); refine own_alloc rfl 26 rfl hO _ rfl #[.string ⟨#[]⟩, .int .i64 0, .int .i64 0, .int .i64 0, .int .i64 0, .int .i64 0, .int .i64 0, .int .i64 0, .int .i64 0, .int .i64 0, .int .i64 0, .int .i64 0, .int .i64 0] (by kernel_rfl) ?_; clear hO; (try clear w_); intro g_ w_ hO)
    | ((with_reducible refine gate_box 26 rfl ?_); refine own_box rfl 26 _ rfl hO _ rfl ?_ ?_ ?_; rotate_left; (focus (first | (go_simp; done) | (go_simp; with_reducible rfl) | rfl)); clear hO; (try clear w_); intro g_ w_ hO; simp only [Value.cells] at hO)
    | ((with_reducible refine gate_load 26 rfl ?_); (first | refine own_load_row rfl 26 _ rfl hO 0 _ _ rfl _ _ rfl _ rfl 13 ?_ ?_ ?_ _ Tryd.underlying26 rfl ?_ ?_); rotate_left; (focus (first | (with_reducible exact hrow_) | (with_reducible exact hrow2_) | (simp only [Array.toList_extract, List.extract_toArray, List.extract_eq_take_drop, List.drop_zero, List.drop_succ_cons, List.take_succ_cons, List.take_zero, Nat.reduceAdd, Nat.reduceSub, Nat.zero_add, Nat.add_zero, Nat.add_sub_cancel_left, Nat.sub_zero, Nat.sub_self]; rfl))); (focus rfl); (focus kernel_rfl))
    | ((with_reducible refine gate_store 26 rfl ?_); (first | refine own_store rfl 26 _ _ rfl hO 0 _ _ ?_ rfl ?_ _ _ rfl _ rfl ?_ ?_ ?_ ?_); rotate_left; (focus (first | (go_simp; done) | (go_simp; with_reducible rfl) | rfl)); (focus (first | (exact hble_) | kernel_rfl)); (focus kernel_rfl); (focus kernel_rfl); clear hO; (try clear w_); intro w_ hO; (first | (simp only [Value.cells] at hO; rw [hput_] at hO) | simp only [List.set_cons_zero, List.set_cons_succ, putAllA, Value.cells, List.setIfInBounds_toArray] at hO))
    | ((with_reducible refine gate_alloc 3 rfl ?_); refine own_alloc rfl 3 rfl hO _ rfl #[.int .i64 0] (by kernel_rfl) ?_; clear hO; (try clear w_); intro g_ w_ hO)
    | ((with_reducible refine gate_box 3 rfl ?_); refine own_box rfl 3 _ rfl hO _ rfl ?_ ?_ ?_; rotate_left; (focus (first | (go_simp; done) | (go_simp; with_reducible rfl) | rfl)); clear hO; (try clear w_); intro g_ w_ hO; simp only [Value.cells] at hO)
    | ((with_reducible refine gate_load 3 rfl ?_); (first | refine own_load_one rfl 3 _ rfl hO 0 _ _ rfl _ _ rfl _ rfl ?_ ?_ _ Tryd.underlying3 rfl ?_); rotate_left; (focus (first | (with_reducible exact hcell_) | (simp only [List.getElem?_toArray, List.getElem?_cons_zero, List.getElem?_cons_succ]; rfl))))
    | ((with_reducible refine gate_store 3 rfl ?_); (first | refine own_store rfl 3 _ _ rfl hO 0 _ _ ?_ rfl ?_ _ _ rfl _ rfl ?_ ?_ ?_ ?_); rotate_left; (focus (first | (go_simp; done) | (go_simp; with_reducible rfl) | rfl)); (focus (first | (exact hble_) | kernel_rfl)); (focus kernel_rfl); (focus kernel_rfl); clear hO; (try clear w_); intro w_ hO; (first | (simp only [Value.cells] at hO; rw [hput_] at hO) | simp only [List.set_cons_zero, List.set_cons_succ, putAllA, Value.cells, List.setIfInBounds_toArray] at hO))
    | (go_at_call 55; (with_reducible refine (HF0.out _).mono ?_); rintro e w_ ⟨rfl, rfl⟩)
    | (go_at_call 55; (with_reducible refine (HF1.out _).mono ?_); rintro e w_ ⟨rfl, rfl⟩)
    | (go_at_call 55; (with_reducible refine (HF2.out _).mono ?_); rintro e w_ ⟨rfl, rfl⟩)
    | (go_at_call 55; (with_reducible refine (HF3.out _).mono ?_); rintro e w_ ⟨rfl, rfl⟩)
    | (go_at_call 55; (with_reducible refine (HF4.out _).mono ?_); rintro e w_ ⟨rfl, rfl⟩)
    | (go_at_call 55; (with_reducible refine (HF5.out _).mono ?_); rintro e w_ ⟨rfl, rfl⟩)
    | (go_at_call 55; (with_reducible refine (HF6.out _).mono ?_); rintro e w_ ⟨rfl, rfl⟩)
    | (go_at_call 55; (with_reducible refine (HF7.out _).mono ?_); rintro e w_ ⟨rfl, rfl⟩)
    | (go_at_call 55; (with_reducible refine (HF8.out _).mono ?_); rintro e w_ ⟨rfl, rfl⟩)
    | (go_at_call 55; (with_reducible refine (HF9.out _).mono ?_); rintro e w_ ⟨rfl, rfl⟩)
    | (go_at_call 55; (with_reducible refine (HF10.out _).mono ?_); rintro e w_ ⟨rfl, rfl⟩)
    | (go_at_call 55; (with_reducible refine (HF11.out _).mono ?_); rintro e w_ ⟨rfl, rfl⟩)
      )
      go_ret
      exact ⟨HVX.out, hO.bel⟩
    | true =>
      cases b2 with
      | false =>
        have HVX : Hid (Ending.returned (.bool false) = Ending.returned (.bool V)) := Lib.hid (by rw [HV.out]; simp)
        go_enter Tryd.func46, Tryd.ntmps46
        go_wp2_with (first
    | ((with_reducible refine gate_alloc 26 rfl ?_); refine own_alloc rfl 26 rfl hO _ rfl #[.string ⟨#[]⟩, .int .i64 0, .int .i64 0, .int .i64 0, .int .i64 0, .int .i64 0, .int .i64 0, .int .i64 0, .int .i64 0, .int .i64 0, .int .i64 0, .int .i64 0, .int .i64 0] (by kernel_rfl) ?_; clear hO; (try clear w_); intro g_ w_ hO)
    | ((with_reducible refine gate_box 26 rfl ?_); refine own_box rfl 26 _ rfl hO _ rfl ?_ ?_ ?_; rotate_left; (focus (first | (go_simp; done) | (go_simp; with_reducible rfl) | rfl)); clear hO; (try clear w_); intro g_ w_ hO; simp only [Value.cells] at hO)
    | ((with_reducible refine gate_load 26 rfl ?_); (first | refine own_load_row rfl 26 _ rfl hO 0 _ _ rfl _ _ rfl _ rfl 13 ?_ ?_ ?_ _ Tryd.underlying26 rfl ?_ ?_); rotate_left; (focus (first | (with_reducible exact hrow_) | (with_reducible exact hrow2_) | (simp only [Array.toList_extract, List.extract_toArray, List.extract_eq_take_drop, List.drop_zero, List.drop_succ_cons, List.take_succ_cons, List.take_zero, Nat.reduceAdd, Nat.reduceSub, Nat.zero_add, Nat.add_zero, Nat.add_sub_cancel_left, Nat.sub_zero, Nat.sub_self]; rfl))); (focus rfl); (focus kernel_rfl))
    | ((with_reducible refine gate_store 26 rfl ?_); (first | refine own_store rfl 26 _ _ rfl hO 0 _ _ ?_ rfl ?_ _ _ rfl _ rfl ?_ ?_ ?_ ?_); rotate_left; (focus (first | (go_simp; done) | (go_simp; with_reducible rfl) | rfl)); (focus (first | (exact hble_) | kernel_rfl)); (focus kernel_rfl); (focus kernel_rfl); clear hO; (try clear w_); intro w_ hO; (first | (simp only [Value.cells] at hO; rw [hput_] at hO) | simp only [List.set_cons_zero, List.set_cons_succ, putAllA, Value.cells, List.setIfInBounds_toArray] at hO))
    | ((with_reducible refine gate_alloc 3 rfl ?_); refine own_alloc rfl 3 rfl hO _ rfl #[.int .i64 0] (by kernel_rfl) ?_; clear hO; (try clear w_); intro g_ w_ hO)
    | ((with_reducible refine gate_box 3 rfl ?_); refine own_box rfl 3 _ rfl hO _ rfl ?_ ?_ ?_; rotate_left; (focus (first | (go_simp; done) | (go_simp; with_reducible rfl) | rfl)); clear hO; (try clear w_); intro g_ w_ hO; simp only [Value.cells] at hO)
    | ((with_reducible refine gate_load 3 rfl ?_); (first | refine own_load_one rfl 3 _ rfl hO 0 _ _ rfl _ _ rfl _ rfl ?_ ?_ _ Tryd.underlying3 rfl ?_); rotate_left; (focus (first | (with_reducible exact hcell_) | (simp only [List.getElem?_toArray, List.getElem?_cons_zero, List.getElem?_cons_succ]; rfl))))
    | ((with_reducible refine gate_store 3 rfl ?_); (first | refine own_store rfl 3 _ _ rfl hO 0 _ _ ?_ rfl ?_ _ _ rfl _ rfl ?_ ?_ ?_ ?_); rotate_left; (focus (first | (go_simp; done) | (go_simp; with_reducible rfl) | rfl)); (focus (first | (exact hble_) | kernel_rfl)); (focus kernel_rfl); (focus kernel_rfl); clear hO; (try clear w_); intro w_ hO; (first | (simp only [Value.cells] at hO; rw [hput_] at hO) | simp only [List.set_cons_zero, List.set_cons_succ, putAllA, Value.cells, List.setIfInBounds_toArray] at hO))
    | (go_at_call 55; (with_reducible refine (HF0.out _).mono ?_); rintro e w_ ⟨rfl, rfl⟩)
    | (go_at_call 55; (with_reducible refine (HF1.out _).mono ?_); rintro e w_ ⟨rfl, rfl⟩)
    | (go_at_call 55; (with_reducible refine (HF2.out _).mono ?_); rintro e w_ ⟨rfl, rfl⟩)
    | (go_at_call 55; (with_reducible refine (HF3.out _).mono ?_); rintro e w_ ⟨rfl, rfl⟩)
    | (go_at_call 55; (with_reducible refine (HF4.out _).mono ?_); rintro e w_ ⟨rfl, rfl⟩)
    | (go_at_call 55; (with_reducible refine (HF5.out _).mono ?_); rintro e w_ ⟨rfl, rfl⟩)
    | (go_at_call 55; (with_reducible refine (HF6.out _).mono ?_); rintro e w_ ⟨rfl, rfl⟩)
    | (go_at_call 55; (with_reducible refine (HF7.out _).mono ?_); rintro e w_ ⟨rfl, rfl⟩)
    | (go_at_call 55; (with_reducible refine (HF8.out _).mono ?_); rintro e w_ ⟨rfl, rfl⟩)
    | (go_at_call 55; (with_reducible refine (HF9.out _).mono ?_); rintro e w_ ⟨rfl, rfl⟩)
    | (go_at_call 55; (with_reducible refine (HF10.out _).mono ?_); rintro e w_ ⟨rfl, rfl⟩)
    | (go_at_call 55; (with_reducible refine (HF11.out _).mono ?_); rintro e w_ ⟨rfl, rfl⟩)
        )
        go_ret
        exact ⟨HVX.out, hO.bel⟩
      | true =>
        cases b3 with
        | false =>
          have HVX : Hid (Ending.returned (.bool false) = Ending.returned (.bool V)) := Lib.hid (by rw [HV.out]; simp)
          go_enter Tryd.func46, Tryd.ntmps46
          go_wp2_with (first
    | ((with_reducible refine gate_alloc 26 rfl ?_); refine own_alloc rfl 26 rfl hO _ rfl #[.string ⟨#[]⟩, .int .i64 0, .int .i64 0, .int .i64 0, .int .i64 0, .int .i64 0, .int .i64 0, .int .i64 0, .int .i64 0, .int .i64 0, .int .i64 0, .int .i64 0, .int .i64 0] (by kernel_rfl) ?_; clear hO; (try clear w_); intro g_ w_ hO)
    | ((with_reducible refine gate_box 26 rfl ?_); refine own_box rfl 26 _ rfl hO _ rfl ?_ ?_ ?_; rotate_left; (focus (first | (go_simp; done) | (go_simp; with_reducible rfl) | rfl)); clear hO; (try clear w_); intro g_ w_ hO; simp only [Value.cells] at hO)
    | ((with_reducible refine gate_load 26 rfl ?_); (first | refine own_load_row rfl 26 _ rfl hO 0 _ _ rfl _ _ rfl _ rfl 13 ?_ ?_ ?_ _ Tryd.underlying26 rfl ?_ ?_); rotate_left; (focus (first | (with_reducible exact hrow_) | (with_reducible exact hrow2_) | (simp only [Array.toList_extract, List.extract_toArray, List.extract_eq_take_drop, List.drop_zero, List.drop_succ_cons, List.take_succ_cons, List.take_zero, Nat.reduceAdd, Nat.reduceSub, Nat.zero_add, Nat.add_zero, Nat.add_sub_cancel_left, Nat.sub_zero, Nat.sub_self]; rfl))); (focus rfl); (focus kernel_rfl))
    | ((with_reducible refine gate_store 26 rfl ?_); (first | refine own_store rfl 26 _ _ rfl hO 0 _ _ ?_ rfl ?_ _ _ rfl _ rfl ?_ ?_ ?_ ?_); rotate_left; (focus (first | (go_simp; done) | (go_simp; with_reducible rfl) | rfl)); (focus (first | (exact hble_) | kernel_rfl)); (focus kernel_rfl); (focus kernel_rfl); clear hO; (try clear w_); intro w_ hO; (first | (simp only [Value.cells] at hO; rw [hput_] at hO) | simp only [List.set_cons_zero, List.set_cons_succ, putAllA, Value.cells, List.setIfInBounds_toArray] at hO))
    | ((with_reducible refine gate_alloc 3 rfl ?_); refine own_alloc rfl 3 rfl hO _ rfl #[.int .i64 0] (by kernel_rfl) ?_; clear hO; (try clear w_); intro g_ w_ hO)
    | ((with_reducible refine gate_box 3 rfl ?_); refine own_box rfl 3 _ rfl hO _ rfl ?_ ?_ ?_; rotate_left; (focus (first | (go_simp; done) | (go_simp; with_reducible rfl) | rfl)); clear hO; (try clear w_); intro g_ w_ hO; simp only [Value.cells] at hO)
    | ((with_reducible refine gate_load 3 rfl ?_); (first | refine own_load_one rfl 3 _ rfl hO 0 _ _ rfl _ _ rfl _ rfl ?_ ?_ _ Tryd.underlying3 rfl ?_); rotate_left; (focus (first | (with_reducible exact hcell_) | (simp only [List.getElem?_toArray, List.getElem?_cons_zero, List.getElem?_cons_succ]; rfl))))
    | ((with_reducible refine gate_store 3 rfl ?_); (first | refine own_store rfl 3 _ _ rfl hO 0 _ _ ?_ rfl ?_ _ _ rfl _ rfl ?_ ?_ ?_ ?_); rotate_left; (focus (first | (go_simp; done) | (go_simp; with_reducible rfl) | rfl)); (focus (first | (exact hble_) | kernel_rfl)); (focus kernel_rfl); (focus kernel_rfl); clear hO; (try clear w_); intro w_ hO; (first | (simp only [Value.cells] at hO; rw [hput_] at hO) | simp only [List.set_cons_zero, List.set_cons_succ, putAllA, Value.cells, List.setIfInBounds_toArray] at hO))
    | (go_at_call 55; (with_reducible refine (HF0.out _).mono ?_); rintro e w_ ⟨rfl, rfl⟩)
    | (go_at_call 55; (with_reducible refine (HF1.out _).mono ?_); rintro e w_ ⟨rfl, rfl⟩)
    | (go_at_call 55; (with_reducible refine (HF2.out _).mono ?_); rintro e w_ ⟨rfl, rfl⟩)
    | (go_at_call 55; (with_reducible refine (HF3.out _).mono ?_); rintro e w_ ⟨rfl, rfl⟩)
    | (go_at_call 55; (with_reducible refine (HF4.out _).mono ?_); rintro e w_ ⟨rfl, rfl⟩)
    | (go_at_call 55; (with_reducible refine (HF5.out _).mono ?_); rintro e w_ ⟨rfl, rfl⟩)
    | (go_at_call 55; (with_reducible refine (HF6.out _).mono ?_); rintro e w_ ⟨rfl, rfl⟩)
    | (go_at_call 55; (with_reducible refine (HF7.out _).mono ?_); rintro e w_ ⟨rfl, rfl⟩)
    | (go_at_call 55; (with_reducible refine (HF8.out _).mono ?_); rintro e w_ ⟨rfl, rfl⟩)
    | (go_at_call 55; (with_reducible refine (HF9.out _).mono ?_); rintro e w_ ⟨rfl, rfl⟩)
    | (go_at_call 55; (with_reducible refine (HF10.out _).mono ?_); rintro e w_ ⟨rfl, rfl⟩)
    | (go_at_call 55; (with_reducible refine (HF11.out _).mono ?_); rintro e w_ ⟨rfl, rfl⟩)
          )
          go_ret
          exact ⟨HVX.out, hO.bel⟩
        | true =>
          cases b4 with
          | false =>
            have HVX : Hid (Ending.returned (.bool false) = Ending.returned (.bool V)) := Lib.hid (by rw [HV.out]; simp)
            go_enter Tryd.func46, Tryd.ntmps46
            go_wp2_with (first
    | ((with_reducible refine gate_alloc 26 rfl ?_); refine own_alloc rfl 26 rfl hO _ rfl #[.string ⟨#[]⟩, .int .i64 0, .int .i64 0, .int .i64 0, .int .i64 0, .int .i64 0, .int .i64 0, .int .i64 0, .int .i64 0, .int .i64 0, .int .i64 0, .int .i64 0, .int .i64 0] (by kernel_rfl) ?_; clear hO; (try clear w_); intro g_ w_ hO)
    | ((with_reducible refine gate_box 26 rfl ?_); refine own_box rfl 26 _ rfl hO _ rfl ?_ ?_ ?_; rotate_left; (focus (first | (go_simp; done) | (go_simp; with_reducible rfl) | rfl)); clear hO; (try clear w_); intro g_ w_ hO; simp only [Value.cells] at hO)
    | ((with_reducible refine gate_load 26 rfl ?_); (first | refine own_load_row rfl 26 _ rfl hO 0 _ _ rfl _ _ rfl _ rfl 13 ?_ ?_ ?_ _ Tryd.underlying26 rfl ?_ ?_); rotate_left; (focus (first | (with_reducible exact hrow_) | (with_reducible exact hrow2_) | (simp only [Array.toList_extract, List.extract_toArray, List.extract_eq_take_drop, List.drop_zero, List.drop_succ_cons, List.take_succ_cons, List.take_zero, Nat.reduceAdd, Nat.reduceSub, Nat.zero_add, Nat.add_zero, Nat.add_sub_cancel_left, Nat.sub_zero, Nat.sub_self]; rfl))); (focus rfl); (focus kernel_rfl))
    | ((with_reducible refine gate_store 26 rfl ?_); (first | refine own_store rfl 26 _ _ rfl hO 0 _ _ ?_ rfl ?_ _ _ rfl _ rfl ?_ ?_ ?_ ?_); rotate_left; (focus (first | (go_simp; done) | (go_simp; with_reducible rfl) | rfl)); (focus (first | (exact hble_) | kernel_rfl)); (focus kernel_rfl); (focus kernel_rfl); clear hO; (try clear w_); intro w_ hO; (first | (simp only [Value.cells] at hO; rw [hput_] at hO) | simp only [List.set_cons_zero, List.set_cons_succ, putAllA, Value.cells, List.setIfInBounds_toArray] at hO))
    | ((with_reducible refine gate_alloc 3 rfl ?_); refine own_alloc rfl 3 rfl hO _ rfl #[.int .i64 0] (by kernel_rfl) ?_; clear hO; (try clear w_); intro g_ w_ hO)
    | ((with_reducible refine gate_box 3 rfl ?_); refine own_box rfl 3 _ rfl hO _ rfl ?_ ?_ ?_; rotate_left; (focus (first | (go_simp; done) | (go_simp; with_reducible rfl) | rfl)); clear hO; (try clear w_); intro g_ w_ hO; simp only [Value.cells] at hO)
    | ((with_reducible refine gate_load 3 rfl ?_); (first | refine own_load_one rfl 3 _ rfl hO 0 _ _ rfl _ _ rfl _ rfl ?_ ?_ _ Tryd.underlying3 rfl ?_); rotate_left; (focus (first | (with_reducible exact hcell_) | (simp only [List.getElem?_toArray, List.getElem?_cons_zero, List.getElem?_cons_succ]; rfl))))
    | ((with_reducible refine gate_store 3 rfl ?_); (first | refine own_store rfl 3 _ _ rfl hO 0 _ _ ?_ rfl ?_ _ _ rfl _ rfl ?_ ?_ ?_ ?_); rotate_left; (focus (first | (go_simp; done) | (go_simp; with_reducible rfl) | rfl)); (focus (first | (exact hble_) | kernel_rfl)); (focus kernel_rfl); (focus kernel_rfl); clear hO; (try clear w_); intro w_ hO; (first | (simp only [Value.cells] at hO; rw [hput_] at hO) | simp only [List.set_cons_zero, List.set_cons_succ, putAllA, Value.cells, List.setIfInBounds_toArray] at hO))
    | (go_at_call 55; (with_reducible refine (HF0.out _).mono ?_); rintro e w_ ⟨rfl, rfl⟩)
    | (go_at_call 55; (with_reducible refine (HF1.out _).mono ?_); rintro e w_ ⟨rfl, rfl⟩)
    | (go_at_call 55; (with_reducible refine (HF2.out _).mono ?_); rintro e w_ ⟨rfl, rfl⟩)
    | (go_at_call 55; (with_reducible refine (HF3.out _).mono ?_); rintro e w_ ⟨rfl, rfl⟩)
    | (go_at_call 55; (with_reducible refine (HF4.out _).mono ?_); rintro e w_ ⟨rfl, rfl⟩)
    | (go_at_call 55; (with_reducible refine (HF5.out _).mono ?_); rintro e w_ ⟨rfl, rfl⟩)
    | (go_at_call 55; (with_reducible refine (HF6.out _).mono ?_); rintro e w_ ⟨rfl, rfl⟩)
    | (go_at_call 55; (with_reducible refine (HF7.out _).mono ?_); rintro e w_ ⟨rfl, rfl⟩)
    | (go_at_call 55; (with_reducible refine (HF8.out _).mono ?_); rintro e w_ ⟨rfl, rfl⟩)
    | (go_at_call 55; (with_reducible refine (HF9.out _).mono ?_); rintro e w_ ⟨rfl, rfl⟩)
    | (go_at_call 55; (with_reducible refine (HF10.out _).mono ?_); rintro e w_ ⟨rfl, rfl⟩)
    | (go_at_call 55; (with_reducible refine (HF11.out _).mono ?_); rintro e w_ ⟨rfl, rfl⟩)
            )
            go_ret
            exact ⟨HVX.out, hO.bel⟩
          | true =>
            cases b5 with
            | false =>
              have HVX : Hid (Ending.returned (.bool false) = Ending.returned (.bool V)) := Lib.hid (by rw [HV.out]; simp)
              go_enter Tryd.func46, Tryd.ntmps46
              go_wp2_with (first
    | ((with_reducible refine gate_alloc 26 rfl ?_); refine own_alloc rfl 26 rfl hO _ rfl #[.string ⟨#[]⟩, .int .i64 0, .int .i64 0, .int .i64 0, .int .i64 0, .int .i64 0, .int .i64 0, .int .i64 0, .int .i64 0, .int .i64 0, .int .i64 0, .int .i64 0, .int .i64 0] (by kernel_rfl) ?_; clear hO; (try clear w_); intro g_ w_ hO)
    | ((with_reducible refine gate_box 26 rfl ?_); refine own_box rfl 26 _ rfl hO _ rfl ?_ ?_ ?_; rotate_left; (focus (first | (go_simp; done) | (go_simp; with_reducible rfl) | rfl)); clear hO; (try clear w_); intro g_ w_ hO; simp only [Value.cells] at hO)
    | ((with_reducible refine gate_load 26 rfl ?_); (first | refine own_load_row rfl 26 _ rfl hO 0 _ _ rfl _ _ rfl _ rfl 13 ?_ ?_ ?_ _ Tryd.underlying26 rfl ?_ ?_); rotate_left; (focus (first | (with_reducible exact hrow_) | (with_reducible exact hrow2_) | (simp only [Array.toList_extract, List.extract_toArray, List.extract_eq_take_drop, List.drop_zero, List.drop_succ_cons, List.take_succ_cons, List.take_zero, Nat.reduceAdd, Nat.reduceSub, Nat.zero_add, Nat.add_zero, Nat.add_sub_cancel_left, Nat.sub_zero, Nat.sub_self]; rfl))); (focus rfl); (focus kernel_rfl))
    | ((with_reducible refine gate_store 26 rfl ?_); (first | refine own_store rfl 26 _ _ rfl hO 0 _ _ ?_ rfl ?_ _ _ rfl _ rfl ?_ ?_ ?_ ?_); rotate_left; (focus (first | (go_simp; done) | (go_simp; with_reducible rfl) | rfl)); (focus (first | (exact hble_) | kernel_rfl)); (focus kernel_rfl); (focus kernel_rfl); clear hO; (try clear w_); intro w_ hO; (first | (simp only [Value.cells] at hO; rw [hput_] at hO) | simp only [List.set_cons_zero, List.set_cons_succ, putAllA, Value.cells, List.setIfInBounds_toArray] at hO))
    | ((with_reducible refine gate_alloc 3 rfl ?_); refine own_alloc rfl 3 rfl hO _ rfl #[.int .i64 0] (by kernel_rfl) ?_; clear hO; (try clear w_); intro g_ w_ hO)
    | ((with_reducible refine gate_box 3 rfl ?_); refine own_box rfl 3 _ rfl hO _ rfl ?_ ?_ ?_; rotate_left; (focus (first | (go_simp; done) | (go_simp; with_reducible rfl) | rfl)); clear hO; (try clear w_); intro g_ w_ hO; simp only [Value.cells] at hO)
    | ((with_reducible refine gate_load 3 rfl ?_); (first | refine own_load_one rfl 3 _ rfl hO 0 _ _ rfl _ _ rfl _ rfl ?_ ?_ _ Tryd.underlying3 rfl ?_); rotate_left; (focus (first | (with_reducible exact hcell_) | (simp only [List.getElem?_toArray, List.getElem?_cons_zero, List.getElem?_cons_succ]; rfl))))
    | ((with_reducible refine gate_store 3 rfl ?_); (first | refine own_store rfl 3 _ _ rfl hO 0 _ _ ?_ rfl ?_ _ _ rfl _ rfl ?_ ?_ ?_ ?_); rotate_left; (focus (first | (go_simp; done) | (go_simp; with_reducible rfl) | rfl)); (focus (first | (exact hble_) | kernel_rfl)); (focus kernel_rfl); (focus kernel_rfl); clear hO; (try clear w_); intro w_ hO; (first | (simp only [Value.cells] at hO; rw [hput_] at hO) | simp only [List.set_cons_zero, List.set_cons_succ, putAllA, Value.cells, List.setIfInBounds_toArray] at hO))
    | (go_at_call 55; (with_reducible refine (HF0.out _).mono ?_); rintro e w_ ⟨rfl, rfl⟩)
    | (go_at_call 55; (with_reducible refine (HF1.out _).mono ?_); rintro e w_ ⟨rfl, rfl⟩)
    | (go_at_call 55; (with_reducible refine (HF2.out _).mono ?_); rintro e w_ ⟨rfl, rfl⟩)
    | (go_at_call 55; (with_reducible refine (HF3.out _).mono ?_); rintro e w_ ⟨rfl, rfl⟩)
    | (go_at_call 55; (with_reducible refine (HF4.out _).mono ?_); rintro e w_ ⟨rfl, rfl⟩)
    | (go_at_call 55; (with_reducible refine (HF5.out _).mono ?_); rintro e w_ ⟨rfl, rfl⟩)
    | (go_at_call 55; (with_reducible refine (HF6.out _).mono ?_); rintro e w_ ⟨rfl, rfl⟩)
    | (go_at_call 55; (with_reducible refine (HF7.out _).mono ?_); rintro e w_ ⟨rfl, rfl⟩)
    | (go_at_call 55; (with_reducible refine (HF8.out _).mono ?_); rintro e w_ ⟨rfl, rfl⟩)
    | (go_at_call 55; (with_reducible refine (HF9.out _).mono ?_); rintro e w_ ⟨rfl, rfl⟩)
    | (go_at_call 55; (with_reducible refine (HF10.out _).mono ?_); rintro e w_ ⟨rfl, rfl⟩)
    | (go_at_call 55; (with_reducible refine (HF11.out _).mono ?_); rintro e w_ ⟨rfl, rfl⟩)
              )
              go_ret
              exact ⟨HVX.out, hO.bel⟩
            | true =>
              cases b6 with
              | false =>
                have HVX : Hid (Ending.returned (.bool false) = Ending.returned (.bool V)) := Lib.hid (by rw [HV.out]; simp)
                go_enter Tryd.func46, Tryd.ntmps46
                go_wp2_with (first
    | ((with_reducible refine gate_alloc 26 rfl ?_); refine own_alloc rfl 26 rfl hO _ rfl #[.string ⟨#[]⟩, .int .i64 0, .int .i64 0, .int .i64 0, .int .i64 0, .int .i64 0, .int .i64 0, .int .i64 0, .int .i64 0, .int .i64 0, .int .i64 0, .int .i64 0, .int .i64 0] (by kernel_rfl) ?_; clear hO; (try clear w_); intro g_ w_ hO)
    | ((with_reducible refine gate_box 26 rfl ?_); refine own_box rfl 26 _ rfl hO _ rfl ?_ ?_ ?_; rotate_left; (focus (first | (go_simp; done) | (go_simp; with_reducible rfl) | rfl)); clear hO; (try clear w_); intro g_ w_ hO; simp only [Value.cells] at hO)
    | ((with_reducible refine gate_load 26 rfl ?_); (first | refine own_load_row rfl 26 _ rfl hO 0 _ _ rfl _ _ rfl _ rfl 13 ?_ ?_ ?_ _ Tryd.underlying26 rfl ?_ ?_); rotate_left; (focus (first | (with_reducible exact hrow_) | (with_reducible exact hrow2_) | (simp only [Array.toList_extract, List.extract_toArray, List.extract_eq_take_drop, List.drop_zero, List.drop_succ_cons, List.take_succ_cons, List.take_zero, Nat.reduceAdd, Nat.reduceSub, Nat.zero_add, Nat.add_zero, Nat.add_sub_cancel_left, Nat.sub_zero, Nat.sub_self]; rfl))); (focus rfl); (focus kernel_rfl))
    | ((with_reducible refine gate_store 26 rfl ?_); (first | refine own_store rfl 26 _ _ rfl hO 0 _ _ ?_ rfl ?_ _ _ rfl _ rfl ?_ ?_ ?_ ?_); rotate_left; (focus (first | (go_simp; done) | (go_simp; with_reducible rfl) | rfl)); (focus (first | (exact hble_) | kernel_rfl)); (focus kernel_rfl); (focus kernel_rfl); clear hO; (try clear w_); intro w_ hO; (first | (simp only [Value.cells] at hO; rw [hput_] at hO) | simp only [List.set_cons_zero, List.set_cons_succ, putAllA, Value.cells, List.setIfInBounds_toArray] at hO))
    | ((with_reducible refine gate_alloc 3 rfl ?_); refine own_alloc rfl 3 rfl hO _ rfl #[.int .i64 0] (by kernel_rfl) ?_; clear hO; (try clear w_); intro g_ w_ hO)
    | ((with_reducible refine gate_box 3 rfl ?_); refine own_box rfl 3 _ rfl hO _ rfl ?_ ?_ ?_; rotate_left; (focus (first | (go_simp; done) | (go_simp; with_reducible rfl) | rfl)); clear hO; (try clear w_); intro g_ w_ hO; simp only [Value.cells] at hO)
    | ((with_reducible refine gate_load 3 rfl ?_); (first | refine own_load_one rfl 3 _ rfl hO 0 _ _ rfl _ _ rfl _ rfl ?_ ?_ _ Tryd.underlying3 rfl ?_); rotate_left; (focus (first | (with_reducible exact hcell_) | (simp only [List.getElem?_toArray, List.getElem?_cons_zero, List.getElem?_cons_succ]; rfl))))
    | ((with_reducible refine gate_store 3 rfl ?_); (first | refine own_store rfl 3 _ _ rfl hO 0 _ _ ?_ rfl ?_ _ _ rfl _ rfl ?_ ?_ ?_ ?_); rotate_left; (focus (first | (go_simp; done) | (go_simp; with_reducible rfl) | rfl)); (focus (first | (exact hble_) | kernel_rfl)); (focus kernel_rfl); (focus kernel_rfl); clear hO; (try clear w_); intro w_ hO; (first | (simp only [Value.cells] at hO; rw [hput_] at hO) | simp only [List.set_cons_zero, List.set_cons_succ, putAllA, Value.cells, List.setIfInBounds_toArray] at hO))
    | (go_at_call 55; (with_reducible refine (HF0.out _).mono ?_); rintro e w_ ⟨rfl, rfl⟩)
    | (go_at_call 55; (with_reducible refine (HF1.out _).mono ?_); rintro e w_ ⟨rfl, rfl⟩)
    | (go_at_call 55; (with_reducible refine (HF2.out _).mono ?_); rintro e w_ ⟨rfl, rfl⟩)
    | (go_at_call 55; (with_reducible refine (HF3.out _).mono ?_); rintro e w_ ⟨rfl, rfl⟩)
    | (go_at_call 55; (with_reducible refine (HF4.out _).mono ?_); rintro e w_ ⟨rfl, rfl⟩)
    | (go_at_call 55; (with_reducible refine (HF5.out _).mono ?_); rintro e w_ ⟨rfl, rfl⟩)
    | (go_at_call 55; (with_reducible refine (HF6.out _).mono ?_); rintro e w_ ⟨rfl, rfl⟩)
    | (go_at_call 55; (with_reducible refine (HF7.out _).mono ?_); rintro e w_ ⟨rfl, rfl⟩)
    | (go_at_call 55; (with_reducible refine (HF8.out _).mono ?_); rintro e w_ ⟨rfl, rfl⟩)
    | (go_at_call 55; (with_reducible refine (HF9.out _).mono ?_); rintro e w_ ⟨rfl, rfl⟩)
    | (go_at_call 55; (with_reducible refine (HF10.out _).mono ?_); rintro e w_ ⟨rfl, rfl⟩)
    | (go_at_call 55; (with_reducible refine (HF11.out _).mono ?_); rintro e w_ ⟨rfl, rfl⟩)
                )
                go_ret
                exact ⟨HVX.out, hO.bel⟩
              | true =>
                cases b7 with
                | false =>
                  have HVX : Hid (Ending.returned (.bool false) = Ending.returned (.bool V)) := Lib.hid (by rw [HV.out]; simp)
                  go_enter Tryd.func46, Tryd.ntmps46
                  go_wp2_with (first
    | ((with_reducible refine gate_alloc 26 rfl ?_); refine own_alloc rfl 26 rfl hO _ rfl #[.string ⟨#[]⟩, .int .i64 0, .int .i64 0, .int .i64 0, .int .i64 0, .int .i64 0, .int .i64 0, .int .i64 0, .int .i64 0, .int .i64 0, .int .i64 0, .int .i64 0, .int .i64 0] (by kernel_rfl) ?_; clear hO; (try clear w_); intro g_ w_ hO)
    | ((with_reducible refine gate_box 26 rfl ?_); refine own_box rfl 26 _ rfl hO _ rfl ?_ ?_ ?_; rotate_left; (focus (first | (go_simp; done) | (go_simp; with_reducible rfl) | rfl)); clear hO; (try clear w_); intro g_ w_ hO; simp only [Value.cells] at hO)
    | ((with_reducible refine gate_load 26 rfl ?_); (first | refine own_load_row rfl 26 _ rfl hO 0 _ _ rfl _ _ rfl _ rfl 13 ?_ ?_ ?_ _ Tryd.underlying26 rfl ?_ ?_); rotate_left; (focus (first | (with_reducible exact hrow_) | (with_reducible exact hrow2_) | (simp only [Array.toList_extract, List.extract_toArray, List.extract_eq_take_drop, List.drop_zero, List.drop_succ_cons, List.take_succ_cons, List.take_zero, Nat.reduceAdd, Nat.reduceSub, Nat.zero_add, Nat.add_zero, Nat.add_sub_cancel_left, Nat.sub_zero, Nat.sub_self]; rfl))); (focus rfl); (focus kernel_rfl))
    | ((with_reducible refine gate_store 26 rfl ?_); (first | refine own_store rfl 26 _ _ rfl hO 0 _ _ ?_ rfl ?_ _ _ rfl _ rfl ?_ ?_ ?_ ?_); rotate_left; (focus (first | (go_simp; done) | (go_simp; with_reducible rfl) | rfl)); (focus (first | (exact hble_) | kernel_rfl)); (focus kernel_rfl); (focus kernel_rfl); clear hO; (try clear w_); intro w_ hO; (first | (simp only [Value.cells] at hO; rw [hput_] at hO) | simp only [List.set_cons_zero, List.set_cons_succ, putAllA, Value.cells, List.setIfInBounds_toArray] at hO))
    | ((with_reducible refine gate_alloc 3 rfl ?_); refine own_alloc rfl 3 rfl hO _ rfl #[.int .i64 0] (by kernel_rfl) ?_; clear hO; (try clear w_); intro g_ w_ hO)
    | ((with_reducible refine gate_box 3 rfl ?_); refine own_box rfl 3 _ rfl hO _ rfl ?_ ?_ ?_; rotate_left; (focus (first | (go_simp; done) | (go_simp; with_reducible rfl) | rfl)); clear hO; (try clear w_); intro g_ w_ hO; simp only [Value.cells] at hO)
    | ((with_reducible refine gate_load 3 rfl ?_); (first | refine own_load_one rfl 3 _ rfl hO 0 _ _ rfl _ _ rfl _ rfl ?_ ?_ _ Tryd.underlying3 rfl ?_); rotate_left; (focus (first | (with_reducible exact hcell_) | (simp only [List.getElem?_toArray, List.getElem?_cons_zero, List.getElem?_cons_succ]; rfl))))
    | ((with_reducible refine gate_store 3 rfl ?_); (first | refine own_store rfl 3 _ _ rfl hO 0 _ _ ?_ rfl ?_ _ _ rfl _ rfl ?_ ?_ ?_ ?_); rotate_left; (focus (first | (go_simp; done) | (go_simp; with_reducible rfl) | rfl)); (focus (first | (exact hble_) | kernel_rfl)); (focus kernel_rfl); (focus kernel_rfl); clear hO; (try clear w_); intro w_ hO; (first | (simp only [Value.cells] at hO; rw [hput_] at hO) | simp only [List.set_cons_zero, List.set_cons_succ, putAllA, Value.cells, List.setIfInBounds_toArray] at hO))
    | (go_at_call 55; (with_reducible refine (HF0.out _).mono ?_); rintro e w_ ⟨rfl, rfl⟩)
    | (go_at_call 55; (with_reducible refine (HF1.out _).mono ?_); rintro e w_ ⟨rfl, rfl⟩)
    | (go_at_call 55; (with_reducible refine (HF2.out _).mono ?_); rintro e w_ ⟨rfl, rfl⟩)
    | (go_at_call 55; (with_reducible refine (HF3.out _).mono ?_); rintro e w_ ⟨rfl, rfl⟩)
    | (go_at_call 55; (with_reducible refine (HF4.out _).mono ?_); rintro e w_ ⟨rfl, rfl⟩)
    | (go_at_call 55; (with_reducible refine (HF5.out _).mono ?_); rintro e w_ ⟨rfl, rfl⟩)
    | (go_at_call 55; (with_reducible refine (HF6.out _).mono ?_); rintro e w_ ⟨rfl, rfl⟩)
    | (go_at_call 55; (with_reducible refine (HF7.out _).mono ?_); rintro e w_ ⟨rfl, rfl⟩)
    | (go_at_call 55; (with_reducible refine (HF8.out _).mono ?_); rintro e w_ ⟨rfl, rfl⟩)
    | (go_at_call 55; (with_reducible refine (HF9.out _).mono ?_); rintro e w_ ⟨rfl, rfl⟩)
    | (go_at_call 55; (with_reducible refine (HF10.out _).mono ?_); rintro e w_ ⟨rfl, rfl⟩)
    | (go_at_call 55; (with_reducible refine (HF11.out _).mono ?_); rintro e w_ ⟨rfl, rfl⟩)
                  )
                  go_ret
                  exact ⟨HVX.out, hO.bel⟩
                | true =>
                  cases b8 with
                  | false =>
                    have HVX : Hid (Ending.returned (.bool false) = Ending.returned (.bool V)) := Lib.hid (by rw [HV.out]; simp)
                    go_enter Tryd.func46, Tryd.ntmps46
                    go_wp2_with (first
    | ((with_reducible refine gate_alloc 26 rfl ?_); refine own_alloc rfl 26 rfl hO _ rfl #[.string ⟨#[]⟩, .int .i64 0, .int .i64 0, .int .i64 0, .int .i64 0, .int .i64 0, .int .i64 0, .int .i64 0, .int .i64 0, .int .i64 0, .int .i64 0, .int .i64 0, .int .i64 0] (by kernel_rfl) ?_; clear hO; (try clear w_); intro g_ w_ hO)
    | ((with_reducible refine gate_box 26 rfl ?_); refine own_box rfl 26 _ rfl hO _ rfl ?_ ?_ ?_; rotate_left; (focus (first | (go_simp; done) | (go_simp; with_reducible rfl) | rfl)); clear hO; (try clear w_); intro g_ w_ hO; simp only [Value.cells] at hO)
    | ((with_reducible refine gate_load 26 rfl ?_); (first | refine own_load_row rfl 26 _ rfl hO 0 _ _ rfl _ _ rfl _ rfl 13 ?_ ?_ ?_ _ Tryd.underlying26 rfl ?_ ?_); rotate_left; (focus (first | (with_reducible exact hrow_) | (with_reducible exact hrow2_) | (simp only [Array.toList_extract, List.extract_toArray, List.extract_eq_take_drop, List.drop_zero, List.drop_succ_cons, List.take_succ_cons, List.take_zero, Nat.reduceAdd, Nat.reduceSub, Nat.zero_add, Nat.add_zero, Nat.add_sub_cancel_left, Nat.sub_zero, Nat.sub_self]; rfl))); (focus rfl); (focus kernel_rfl))
    | ((with_reducible refine gate_store 26 rfl ?_); (first | refine own_store rfl 26 _ _ rfl hO 0 _ _ ?_ rfl ?_ _ _ rfl _ rfl ?_ ?_ ?_ ?_); rotate_left; (focus (first | (go_simp; done) | (go_simp; with_reducible rfl) | rfl)); (focus (first | (exact hble_) | kernel_rfl)); (focus kernel_rfl); (focus kernel_rfl); clear hO; (try clear w_); intro w_ hO; (first | (simp only [Value.cells] at hO; rw [hput_] at hO) | simp only [List.set_cons_zero, List.set_cons_succ, putAllA, Value.cells, List.setIfInBounds_toArray] at hO))
    | ((with_reducible refine gate_alloc 3 rfl ?_); refine own_alloc rfl 3 rfl hO _ rfl #[.int .i64 0] (by kernel_rfl) ?_; clear hO; (try clear w_); intro g_ w_ hO)
    | ((with_reducible refine gate_box 3 rfl ?_); refine own_box rfl 3 _ rfl hO _ rfl ?_ ?_ ?_; rotate_left; (focus (first | (go_simp; done) | (go_simp; with_reducible rfl) | rfl)); clear hO; (try clear w_); intro g_ w_ hO; simp only [Value.cells] at hO)
    | ((with_reducible refine gate_load 3 rfl ?_); (first | refine own_load_one rfl 3 _ rfl hO 0 _ _ rfl _ _ rfl _ rfl ?_ ?_ _ Tryd.underlying3 rfl ?_); rotate_left; (focus (first | (with_reducible exact hcell_) | (simp only [List.getElem?_toArray, List.getElem?_cons_zero, List.getElem?_cons_succ]; rfl))))
    | ((with_reducible refine gate_store 3 rfl ?_); (first | refine own_store rfl 3 _ _ rfl hO 0 _ _ ?_ rfl ?_ _ _ rfl _ rfl ?_ ?_ ?_ ?_); rotate_left; (focus (first | (go_simp; done) | (go_simp; with_reducible rfl) | rfl)); (focus (first | (exact hble_) | kernel_rfl)); (focus kernel_rfl); (focus kernel_rfl); clear hO; (try clear w_); intro w_ hO; (first | (simp only [Value.cells] at hO; rw [hput_] at hO) | simp only [List.set_cons_zero, List.set_cons_succ, putAllA, Value.cells, List.setIfInBounds_toArray] at hO))
    | (go_at_call 55; (with_reducible refine (HF0.out _).mono ?_); rintro e w_ ⟨rfl, rfl⟩)
    | (go_at_call 55; (with_reducible refine (HF1.out _).mono ?_); rintro e w_ ⟨rfl, rfl⟩)
    | (go_at_call 55; (with_reducible refine (HF2.out _).mono ?_); rintro e w_ ⟨rfl, rfl⟩)
    | (go_at_call 55; (with_reducible refine (HF3.out _).mono ?_); rintro e w_ ⟨rfl, rfl⟩)
    | (go_at_call 55; (with_reducible refine (HF4.out _).mono ?_); rintro e w_ ⟨rfl, rfl⟩)
    | (go_at_call 55; (with_reducible refine (HF5.out _).mono ?_); rintro e w_ ⟨rfl, rfl⟩)
    | (go_at_call 55; (with_reducible refine (HF6.out _).mono ?_); rintro e w_ ⟨rfl, rfl⟩)
    | (go_at_call 55; (with_reducible refine (HF7.out _).mono ?_); rintro e w_ ⟨rfl, rfl⟩)
    | (go_at_call 55; (with_reducible refine (HF8.out _).mono ?_); rintro e w_ ⟨rfl, rfl⟩)
    | (go_at_call 55; (with_reducible refine (HF9.out _).mono ?_); rintro e w_ ⟨rfl, rfl⟩)
    | (go_at_call 55; (with_reducible refine (HF10.out _).mono ?_); rintro e w_ ⟨rfl, rfl⟩)
    | (go_at_call 55; (with_reducible refine (HF11.out _).mono ?_); rintro e w_ ⟨rfl, rfl⟩)
                    )
                    go_ret
                    exact ⟨HVX.out, hO.bel⟩
                  | true =>
                    cases b9 with
                    | false =>
                      have HVX : Hid (Ending.returned (.bool false) = Ending.returned (.bool V)) := Lib.hid (by rw [HV.out]; simp)
                      go_enter Tryd.func46, Tryd.ntmps46
                      go_wp2_with (first
    | ((with_reducible refine gate_alloc 26 rfl ?_); refine own_alloc rfl 26 rfl hO _ rfl #[.string ⟨#[]⟩, .int .i64 0, .int .i64 0, .int .i64 0, .int .i64 0, .int .i64 0, .int .i64 0, .int .i64 0, .int .i64 0, .int .i64 0, .int .i64 0, .int .i64 0, .int .i64 0] (by kernel_rfl) ?_; clear hO; (try clear w_); intro g_ w_ hO)
    | ((with_reducible refine gate_box 26 rfl ?_); refine own_box rfl 26 _ rfl hO _ rfl ?_ ?_ ?_; rotate_left; (focus (first | (go_simp; done) | (go_simp; with_reducible rfl) | rfl)); clear hO; (try clear w_); intro g_ w_ hO; simp only [Value.cells] at hO)
    | ((with_reducible refine gate_load 26 rfl ?_); (first | refine own_load_row rfl 26 _ rfl hO 0 _ _ rfl _ _ rfl _ rfl 13 ?_ ?_ ?_ _ Tryd.underlying26 rfl ?_ ?_); rotate_left; (focus (first | (with_reducible exact hrow_) | (with_reducible exact hrow2_) | (simp only [Array.toList_extract, List.extract_toArray, List.extract_eq_take_drop, List.drop_zero, List.drop_succ_cons, List.take_succ_cons, List.take_zero, Nat.reduceAdd, Nat.reduceSub, Nat.zero_add, Nat.add_zero, Nat.add_sub_cancel_left, Nat.sub_zero, Nat.sub_self]; rfl))); (focus rfl); (focus kernel_rfl))
    | ((with_reducible refine gate_store 26 rfl ?_); (first | refine own_store rfl 26 _ _ rfl hO 0 _ _ ?_ rfl ?_ _ _ rfl _ rfl ?_ ?_ ?_ ?_); rotate_left; (focus (first | (go_simp; done) | (go_simp; with_reducible rfl) | rfl)); (focus (first | (exact hble_) | kernel_rfl)); (focus kernel_rfl); (focus kernel_rfl); clear hO; (try clear w_); intro w_ hO; (first | (simp only [Value.cells] at hO; rw [hput_] at hO) | simp only [List.set_cons_zero, List.set_cons_succ, putAllA, Value.cells, List.setIfInBounds_toArray] at hO))
    | ((with_reducible refine gate_alloc 3 rfl ?_); refine own_alloc rfl 3 rfl hO _ rfl #[.int .i64 0] (by kernel_rfl) ?_; clear hO; (try clear w_); intro g_ w_ hO)
    | ((with_reducible refine gate_box 3 rfl ?_); refine own_box rfl 3 _ rfl hO _ rfl ?_ ?_ ?_; rotate_left; (focus (first | (go_simp; done) | (go_simp; with_reducible rfl) | rfl)); clear hO; (try clear w_); intro g_ w_ hO; simp only [Value.cells] at hO)
    | ((with_reducible refine gate_load 3 rfl ?_); (first | refine own_load_one rfl 3 _ rfl hO 0 _ _ rfl _ _ rfl _ rfl ?_ ?_ _ Tryd.underlying3 rfl ?_); rotate_left; (focus (first | (with_reducible exact hcell_) | (simp only [List.getElem?_toArray, List.getElem?_cons_zero, List.getElem?_cons_succ]; rfl))))
    | ((with_reducible refine gate_store 3 rfl ?_); (first | refine own_store rfl 3 _ _ rfl hO 0 _ _ ?_ rfl ?_ _ _ rfl _ rfl ?_ ?_ ?_ ?_); rotate_left; (focus (first | (go_simp; done) | (go_simp; with_reducible rfl) | rfl)); (focus (first | (exact hble_) | kernel_rfl)); (focus kernel_rfl); (focus kernel_rfl); clear hO; (try clear w_); intro w_ hO; (first | (simp only [Value.cells] at hO; rw [hput_] at hO) | simp only [List.set_cons_zero, List.set_cons_succ, putAllA, Value.cells, List.setIfInBounds_toArray] at hO))
    | (go_at_call 55; (with_reducible refine (HF0.out _).mono ?_); rintro e w_ ⟨rfl, rfl⟩)
    | (go_at_call 55; (with_reducible refine (HF1.out _).mono ?_); rintro e w_ ⟨rfl, rfl⟩)
    | (go_at_call 55; (with_reducible refine (HF2.out _).mono ?_); rintro e w_ ⟨rfl, rfl⟩)
    | (go_at_call 55; (with_reducible refine (HF3.out _).mono ?_); rintro e w_ ⟨rfl, rfl⟩)
    | (go_at_call 55; (with_reducible refine (HF4.out _).mono ?_); rintro e w_ ⟨rfl, rfl⟩)
    | (go_at_call 55; (with_reducible refine (HF5.out _).mono ?_); rintro e w_ ⟨rfl, rfl⟩)
    | (go_at_call 55; (with_reducible refine (HF6.out _).mono ?_); rintro e w_ ⟨rfl, rfl⟩)
    | (go_at_call 55; (with_reducible refine (HF7.out _).mono ?_); rintro e w_ ⟨rfl, rfl⟩)
    | (go_at_call 55; (with_reducible refine (HF8.out _).mono ?_); rintro e w_ ⟨rfl, rfl⟩)
    | (go_at_call 55; (with_reducible refine (HF9.out _).mono ?_); rintro e w_ ⟨rfl, rfl⟩)
    | (go_at_call 55; (with_reducible refine (HF10.out _).mono ?_); rintro e w_ ⟨rfl, rfl⟩)
    | (go_at_call 55; (with_reducible refine (HF11.out _).mono ?_); rintro e w_ ⟨rfl, rfl⟩)
                      )
                      go_ret
                      exact ⟨HVX.out, hO.bel⟩
                    | true =>
                      cases b10 with
                      | false =>
                        have HVX : Hid (Ending.returned (.bool false) = Ending.returned (.bool V)) := Lib.hid (by rw [HV.out]; simp)
                        go_enter Tryd.func46, Tryd.ntmps46
                        go_wp2_with (first
    | ((with_reducible refine gate_alloc 26 rfl ?_); refine own_alloc rfl 26 rfl hO _ rfl #[.string ⟨#[]⟩, .int .i64 0, .int .i64 0, .int .i64 0, .int .i64 0, .int .i64 0, .int .i64 0, .int .i64 0, .int .i64 0, .int .i64 0, .int .i64 0, .int .i64 0, .int .i64 0] (by kernel_rfl) ?_; clear hO; (try clear w_); intro g_ w_ hO)
    | ((with_reducible refine gate_box 26 rfl ?_); refine own_box rfl 26 _ rfl hO _ rfl ?_ ?_ ?_; rotate_left; (focus (first | (go_simp; done) | (go_simp; with_reducible rfl) | rfl)); clear hO; (try clear w_); intro g_ w_ hO; simp only [Value.cells] at hO)
    | ((with_reducible refine gate_load 26 rfl ?_); (first | refine own_load_row rfl 26 _ rfl hO 0 _ _ rfl _ _ rfl _ rfl 13 ?_ ?_ ?_ _ Tryd.underlying26 rfl ?_ ?_); rotate_left; (focus (first | (with_reducible exact hrow_) | (with_reducible exact hrow2_) | (simp only [Array.toList_extract, List.extract_toArray, List.extract_eq_take_drop, List.drop_zero, List.drop_succ_cons, List.take_succ_cons, List.take_zero, Nat.reduceAdd, Nat.reduceSub, Nat.zero_add, Nat.add_zero, Nat.add_sub_cancel_left, Nat.sub_zero, Nat.sub_self]; rfl))); (focus rfl); (focus kernel_rfl))
    | ((with_reducible refine gate_store 26 rfl ?_); (first | refine own_store rfl 26 _ _ rfl hO 0 _ _ ?_ rfl ?_ _ _ rfl _ rfl ?_ ?_ ?_ ?_); rotate_left; (focus (first | (go_simp; done) | (go_simp; with_reducible rfl) | rfl)); (focus (first | (exact hble_) | kernel_rfl)); (focus kernel_rfl); (focus kernel_rfl); clear hO; (try clear w_); intro w_ hO; (first | (simp only [Value.cells] at hO; rw [hput_] at hO) | simp only [List.set_cons_zero, List.set_cons_succ, putAllA, Value.cells, List.setIfInBounds_toArray] at hO))
    | ((with_reducible refine gate_alloc 3 rfl ?_); refine own_alloc rfl 3 rfl hO _ rfl #[.int .i64 0] (by kernel_rfl) ?_; clear hO; (try clear w_); intro g_ w_ hO)
    | ((with_reducible refine gate_box 3 rfl ?_); refine own_box rfl 3 _ rfl hO _ rfl ?_ ?_ ?_; rotate_left; (focus (first | (go_simp; done) | (go_simp; with_reducible rfl) | rfl)); clear hO; (try clear w_); intro g_ w_ hO; simp only [Value.cells] at hO)
    | ((with_reducible refine gate_load 3 rfl ?_); (first | refine own_load_one rfl 3 _ rfl hO 0 _ _ rfl _ _ rfl _ rfl ?_ ?_ _ Tryd.underlying3 rfl ?_); rotate_left; (focus (first | (with_reducible exact hcell_) | (simp only [List.getElem?_toArray, List.getElem?_cons_zero, List.getElem?_cons_succ]; rfl))))
    | ((with_reducible refine gate_store 3 rfl ?_); (first | refine own_store rfl 3 _ _ rfl hO 0 _ _ ?_ rfl ?_ _ _ rfl _ rfl ?_ ?_ ?_ ?_); rotate_left; (focus (first | (go_simp; done) | (go_simp; with_reducible rfl) | rfl)); (focus (first | (exact hble_) | kernel_rfl)); (focus kernel_rfl); (focus kernel_rfl); clear hO; (try clear w_); intro w_ hO; (first | (simp only [Value.cells] at hO; rw [hput_] at hO) | simp only [List.set_cons_zero, List.set_cons_succ, putAllA, Value.cells, List.setIfInBounds_toArray] at hO))
    | (go_at_call 55; (with_reducible refine (HF0.out _).mono ?_); rintro e w_ ⟨rfl, rfl⟩)
    | (go_at_call 55; (with_reducible refine (HF1.out _).mono ?_); rintro e w_ ⟨rfl, rfl⟩)
    | (go_at_call 55; (with_reducible refine (HF2.out _).mono ?_); rintro e w_ ⟨rfl, rfl⟩)
    | (go_at_call 55; (with_reducible refine (HF3.out _).mono ?_); rintro e w_ ⟨rfl, rfl⟩)
    | (go_at_call 55; (with_reducible refine (HF4.out _).mono ?_); rintro e w_ ⟨rfl, rfl⟩)
    | (go_at_call 55; (with_reducible refine (HF5.out _).mono ?_); rintro e w_ ⟨rfl, rfl⟩)
    | (go_at_call 55; (with_reducible refine (HF6.out _).mono ?_); rintro e w_ ⟨rfl, rfl⟩)
    | (go_at_call 55; (with_reducible refine (HF7.out _).mono ?_); rintro e w_ ⟨rfl, rfl⟩)
    | (go_at_call 55; (with_reducible refine (HF8.out _).mono ?_); rintro e w_ ⟨rfl, rfl⟩)
    | (go_at_call 55; (with_reducible refine (HF9.out _).mono ?_); rintro e w_ ⟨rfl, rfl⟩)
    | (go_at_call 55; (with_reducible refine (HF10.out _).mono ?_); rintro e w_ ⟨rfl, rfl⟩)
    | (go_at_call 55; (with_reducible refine (HF11.out _).mono ?_); rintro e w_ ⟨rfl, rfl⟩)
                        )
                        go_ret
                        exact ⟨HVX.out, hO.bel⟩
                      | true =>
                        cases b11 with
                        | false =>
                          have HVX : Hid (Ending.returned (.bool false) = Ending.returned (.bool V)) := Lib.hid (by rw [HV.out]; simp)
                          go_enter Tryd.func46, Tryd.ntmps46
                          go_wp2_with (first
    | ((with_reducible refine gate_alloc 26 rfl ?_); refine own_alloc rfl 26 rfl hO _ rfl #[.string ⟨#[]⟩, .int .i64 0, .int .i64 0, .int .i64 0, .int .i64 0, .int .i64 0, .int .i64 0, .int .i64 0, .int .i64 0, .int .i64 0, .int .i64 0, .int .i64 0, .int .i64 0] (by kernel_rfl) ?_; clear hO; (try clear w_); intro g_ w_ hO)
    | ((with_reducible refine gate_box 26 rfl ?_); refine own_box rfl 26 _ rfl hO _ rfl ?_ ?_ ?_; rotate_left; (focus (first | (go_simp; done) | (go_simp; with_reducible rfl) | rfl)); clear hO; (try clear w_); intro g_ w_ hO; simp only [Value.cells] at hO)
    | ((with_reducible refine gate_load 26 rfl ?_); (first | refine own_load_row rfl 26 _ rfl hO 0 _ _ rfl _ _ rfl _ rfl 13 ?_ ?_ ?_ _ Tryd.underlying26 rfl ?_ ?_); rotate_left; (focus (first | (with_reducible exact hrow_) | (with_reducible exact hrow2_) | (simp only [Array.toList_extract, List.extract_toArray, List.extract_eq_take_drop, List.drop_zero, List.drop_succ_cons, List.take_succ_cons, List.take_zero, Nat.reduceAdd, Nat.reduceSub, Nat.zero_add, Nat.add_zero, Nat.add_sub_cancel_left, Nat.sub_zero, Nat.sub_self]; rfl))); (focus rfl); (focus kernel_rfl))
    | ((with_reducible refine gate_store 26 rfl ?_); (first | refine own_store rfl 26 _ _ rfl hO 0 _ _ ?_ rfl ?_ _ _ rfl _ rfl ?_ ?_ ?_ ?_); rotate_left; (focus (first | (go_simp; done) | (go_simp; with_reducible rfl) | rfl)); (focus (first | (exact hble_) | kernel_rfl)); (focus kernel_rfl); (focus kernel_rfl); clear hO; (try clear w_); intro w_ hO; (first | (simp only [Value.cells] at hO; rw [hput_] at hO) | simp only [List.set_cons_zero, List.set_cons_succ, putAllA, Value.cells, List.setIfInBounds_toArray] at hO))
    | ((with_reducible refine gate_alloc 3 rfl ?_); refine own_alloc rfl 3 rfl hO _ rfl #[.int .i64 0] (by kernel_rfl) ?_; clear hO; (try clear w_); intro g_ w_ hO)
    | ((with_reducible refine gate_box 3 rfl ?_); refine own_box rfl 3 _ rfl hO _ rfl ?_ ?_ ?_; rotate_left; (focus (first | (go_simp; done) | (go_simp; with_reducible rfl) | rfl)); clear hO; (try clear w_); intro g_ w_ hO; simp only [Value.cells] at hO)
    | ((with_reducible refine gate_load 3 rfl ?_); (first | refine own_load_one rfl 3 _ rfl hO 0 _ _ rfl _ _ rfl _ rfl ?_ ?_ _ Tryd.underlying3 rfl ?_); rotate_left; (focus (first | (with_reducible exact hcell_) | (simp only [List.getElem?_toArray, List.getElem?_cons_zero, List.getElem?_cons_succ]; rfl))))
    | ((with_reducible refine gate_store 3 rfl ?_); (first | refine own_store rfl 3 _ _ rfl hO 0 _ _ ?_ rfl ?_ _ _ rfl _ rfl ?_ ?_ ?_ ?_); rotate_left; (focus (first | (go_simp; done) | (go_simp; with_reducible rfl) | rfl)); (focus (first | (exact hble_) | kernel_rfl)); (focus kernel_rfl); (focus kernel_rfl); clear hO; (try clear w_); intro w_ hO; (first | (simp only [Value.cells] at hO; rw [hput_] at hO) | simp only [List.set_cons_zero, List.set_cons_succ, putAllA, Value.cells, List.setIfInBounds_toArray] at hO))
    | (go_at_call 55; (with_reducible refine (HF0.out _).mono ?_); rintro e w_ ⟨rfl, rfl⟩)
    | (go_at_call 55; (with_reducible refine (HF1.out _).mono ?_); rintro e w_ ⟨rfl, rfl⟩)
    | (go_at_call 55; (with_reducible refine (HF2.out _).mono ?_); rintro e w_ ⟨rfl, rfl⟩)
    | (go_at_call 55; (with_reducible refine (HF3.out _).mono ?_); rintro e w_ ⟨rfl, rfl⟩)
    | (go_at_call 55; (with_reducible refine (HF4.out _).mono ?_); rintro e w_ ⟨rfl, rfl⟩)
    | (go_at_call 55; (with_reducible refine (HF5.out _).mono ?_); rintro e w_ ⟨rfl, rfl⟩)
    | (go_at_call 55; (with_reducible refine (HF6.out _).mono ?_); rintro e w_ ⟨rfl, rfl⟩)
    | (go_at_call 55; (with_reducible refine (HF7.out _).mono ?_); rintro e w_ ⟨rfl, rfl⟩)
    | (go_at_call 55; (with_reducible refine (HF8.out _).mono ?_); rintro e w_ ⟨rfl, rfl⟩)
    | (go_at_call 55; (with_reducible refine (HF9.out _).mono ?_); rintro e w_ ⟨rfl, rfl⟩)
    | (go_at_call 55; (with_reducible refine (HF10.out _).mono ?_); rintro e w_ ⟨rfl, rfl⟩)
    | (go_at_call 55; (with_reducible refine (HF11.out _).mono ?_); rintro e w_ ⟨rfl, rfl⟩)
                          )
                          go_ret
                          exact ⟨HVX.out, hO.bel⟩
                        | true =>
                          have HVX : Hid (Ending.returned (.bool true) = Ending.returned (.bool V)) := Lib.hid (by rw [HV.out]; simp)
                          go_enter Tryd.func46, Tryd.ntmps46
                          go_wp2_with (first
    | ((with_reducible refine gate_alloc 26 rfl ?_); refine own_alloc rfl 26 rfl hO _ rfl #[.string ⟨#[]⟩, .int .i64 0, .int .i64 0, .int .i64 0, .int .i64 0, .int .i64 0, .int .i64 0, .int .i64 0, .int .i64 0, .int .i64 0, .int .i64 0, .int .i64 0, .int .i64 0] (by kernel_rfl) ?_; clear hO; (try clear w_); intro g_ w_ hO)
    | ((with_reducible refine gate_box 26 rfl ?_); refine own_box rfl 26 _ rfl hO _ rfl ?_ ?_ ?_; rotate_left; (focus (first | (go_simp; done) | (go_simp; with_reducible rfl) | rfl)); clear hO; (try clear w_); intro g_ w_ hO; simp only [Value.cells] at hO)
    | ((with_reducible refine gate_load 26 rfl ?_); (first | refine own_load_row rfl 26 _ rfl hO 0 _ _ rfl _ _ rfl _ rfl 13 ?_ ?_ ?_ _ Tryd.underlying26 rfl ?_ ?_); rotate_left; (focus (first | (with_reducible exact hrow_) | (with_reducible exact hrow2_) | (simp only [Array.toList_extract, List.extract_toArray, List.extract_eq_take_drop, List.drop_zero, List.drop_succ_cons, List.take_succ_cons, List.take_zero, Nat.reduceAdd, Nat.reduceSub, Nat.zero_add, Nat.add_zero, Nat.add_sub_cancel_left, Nat.sub_zero, Nat.sub_self]; rfl))); (focus rfl); (focus kernel_rfl))
    | ((with_reducible refine gate_store 26 rfl ?_); (first | refine own_store rfl 26 _ _ rfl hO 0 _ _ ?_ rfl ?_ _ _ rfl _ rfl ?_ ?_ ?_ ?_); rotate_left; (focus (first | (go_simp; done) | (go_simp; with_reducible rfl) | rfl)); (focus (first | (exact hble_) | kernel_rfl)); (focus kernel_rfl); (focus kernel_rfl); clear hO; (try clear w_); intro w_ hO; (first | (simp only [Value.cells] at hO; rw [hput_] at hO) | simp only [List.set_cons_zero, List.set_cons_succ, putAllA, Value.cells, List.setIfInBounds_toArray] at hO))
    | ((with_reducible refine gate_alloc 3 rfl ?_); refine own_alloc rfl 3 rfl hO _ rfl #[.int .i64 0] (by kernel_rfl) ?_; clear hO; (try clear w_); intro g_ w_ hO)
    | ((with_reducible refine gate_box 3 rfl ?_); refine own_box rfl 3 _ rfl hO _ rfl ?_ ?_ ?_; rotate_left; (focus (first | (go_simp; done) | (go_simp; with_reducible rfl) | rfl)); clear hO; (try clear w_); intro g_ w_ hO; simp only [Value.cells] at hO)
    | ((with_reducible refine gate_load 3 rfl ?_); (first | refine own_load_one rfl 3 _ rfl hO 0 _ _ rfl _ _ rfl _ rfl ?_ ?_ _ Tryd.underlying3 rfl ?_); rotate_left; (focus (first | (with_reducible exact hcell_) | (simp only [List.getElem?_toArray, List.getElem?_cons_zero, List.getElem?_cons_succ]; rfl))))
    | ((with_reducible refine gate_store 3 rfl ?_); (first | refine own_store rfl 3 _ _ rfl hO 0 _ _ ?_ rfl ?_ _ _ rfl _ rfl ?_ ?_ ?_ ?_); rotate_left; (focus (first | (go_simp; done) | (go_simp; with_reducible rfl) | rfl)); (focus (first | (exact hble_) | kernel_rfl)); (focus kernel_rfl); (focus kernel_rfl); clear hO; (try clear w_); intro w_ hO; (first | (simp only [Value.cells] at hO; rw [hput_] at hO) | simp only [List.set_cons_zero, List.set_cons_succ, putAllA, Value.cells, List.setIfInBounds_toArray] at hO))
    | (go_at_call 55; (with_reducible refine (HF0.out _).mono ?_); rintro e w_ ⟨rfl, rfl⟩)
    | (go_at_call 55; (with_reducible refine (HF1.out _).mono ?_); rintro e w_ ⟨rfl, rfl⟩)
    | (go_at_call 55; (with_reducible refine (HF2.out _).mono ?_); rintro e w_ ⟨rfl, rfl⟩)
    | (go_at_call 55; (with_reducible refine (HF3.out _).mono ?_); rintro e w_ ⟨rfl, rfl⟩)
    | (go_at_call 55; (with_reducible refine (HF4.out _).mono ?_); rintro e w_ ⟨rfl, rfl⟩)
    | (go_at_call 55; (with_reducible refine (HF5.out _).mono ?_); rintro e w_ ⟨rfl, rfl⟩)
    | (go_at_call 55; (with_reducible refine (HF6.out _).mono ?_); rintro e w_ ⟨rfl, rfl⟩)
    | (go_at_call 55; (with_reducible refine (HF7.out _).mono ?_); rintro e w_ ⟨rfl, rfl⟩)
    | (go_at_call 55; (with_reducible refine (HF8.out _).mono ?_); rintro e w_ ⟨rfl, rfl⟩)
    | (go_at_call 55; (with_reducible refine (HF9.out _).mono ?_); rintro e w_ ⟨rfl, rfl⟩)
    | (go_at_call 55; (with_reducible refine (HF10.out _).mono ?_); rintro e w_ ⟨rfl, rfl⟩)
    | (go_at_call 55; (with_reducible refine (HF11.out _).mono ?_); rintro e w_ ⟨rfl, rfl⟩)
                          )
                          go_ret
                          exact ⟨HVX.out, hO.bel⟩

set_option maxHeartbeats 16000000 in
set_option maxRecDepth 100000 in
theorem rwcheck_any (n : ByteArray) (a0 a1 a2 a3 a4 a5 a6 a7 a8 a9 a10 a11 : Int) (g : Nat) (w : World) (HSp : Hid (Blk w g 26 #[.string n, .int .i64 a0, .int .i64 a1, .int .i64 a2, .int .i64 a3, .int .i64 a4, .int .i64 a5, .int .i64 a6, .int .i64 a7, .int .i64 a8, .int .i64 a9, .int .i64 a10, .int .i64 a11])) :
    Calls Tryd.prog 27 #[.slice (some ⟨g, 0, none⟩) 1 1] w fun e w' => e = .returned (.int .i64 (woodZ n a0 a1 a2 a3 a4 a5 a6 a7 a8 a9 a10 a11)) ∧ Below w.heap.size w w' := by
  have hO := Own.nil w
  have HN : Hid (∀ w, Calls Tryd.prog 44 #[.string n] w fun e w' => e = .returned (.bool (nameB n)) ∧ w = w') := Lib.hid (risName_any n)
  have HV : Hid (∀ w, Calls Tryd.prog 46 #[.agg #[.string n, .int .i64 a0, .int .i64 a1, .int .i64 a2, .int .i64 a3, .int .i64 a4, .int .i64 a5, .int .i64 a6, .int .i64 a7, .int .i64 a8, .int .i64 a9, .int .i64 a10, .int .i64 a11]] w fun e w' => e = .returned (.bool ((woodL a0 a1 a2 a3 a4 a5 a6 a7 a8 a9 a10 a11).all id)) ∧ Below w.heap.size w w') := Lib.hid (rvalid_any n a0 a1 a2 a3 a4 a5 a6 a7 a8 a9 a10 a11)
  obtain ⟨Z, hZ⟩ : ∃ Z, woodZ n a0 a1 a2 a3 a4 a5 a6 a7 a8 a9 a10 a11 = Z := ⟨_, rfl⟩
  rw [hZ]
  unfold woodZ at hZ
  generalize (woodL a0 a1 a2 a3 a4 a5 a6 a7 a8 a9 a10 a11).all id = V at *
  have HZ := Lib.hid hZ
  clear hZ
  obtain ⟨nb, hnb⟩ : ∃ b, nameB n = b := ⟨_, rfl⟩
  rw [hnb] at HN HZ
  clear hnb
  go_enter Tryd.func27, Tryd.ntmps27
  go_wp2
  go_loopw [3] (fun i wr => ∃ k : Nat, k ≤ 1 ∧ i = .int .i64 k ∧ Aside (k = 1 → Z = 0) ∧ Own w [] wr) (fun i _ => 1 - (intOf i).toNat)
  case atStart => exact ⟨0, by omega, rfl, (fun h => by omega : 0 = 1 → Z = 0), hO⟩
  case round =>
    clear hO
    obtain ⟨k, hk, rfl, hz, hO⟩ := hrel
    by_cases hlt : k < 1
    · obtain rfl : k = 0 := by omega
      clear hz
      cases nb with
      | false =>
        have HX : Hid (Z = 6) := Lib.hid (by rw [← HZ.out]; rfl)
        go_wp2_with (first
    | ((with_reducible refine gate_load 9 rfl ?_); refine blk_load_one rfl 9 _ rfl (HSp.out.below hO.bel HSp.out.lt) _ rfl _ rfl ?_ ?_ _ Tryd.underlying9 rfl ?_; rotate_left; (focus (first | (with_reducible exact hcell_) | (simp only [List.getElem?_toArray, List.getElem?_cons_zero, List.getElem?_cons_succ]; rfl))))
    | (go_at_call 44; (with_reducible refine (HN.out _).mono ?_); rintro e w_ ⟨rfl, rfl⟩)
        )
        go_ret
        exact ⟨by rw [HX.out]; rfl, hO.bel⟩
      | true =>
        go_wp2_with (first
    | ((with_reducible refine gate_load 9 rfl ?_); refine blk_load_one rfl 9 _ rfl (HSp.out.below hO.bel HSp.out.lt) _ rfl _ rfl ?_ ?_ _ Tryd.underlying9 rfl ?_; rotate_left; (focus (first | (with_reducible exact hcell_) | (simp only [List.getElem?_toArray, List.getElem?_cons_zero, List.getElem?_cons_succ]; rfl))))
    | (go_at_call 44; (with_reducible refine (HN.out _).mono ?_); rintro e w_ ⟨rfl, rfl⟩)
        )
        go_loopw [4] (fun i wx => i = .int .i64 0 ∧ Own w [] wx) (fun _ _ => 0)
        case atStart => exact ⟨rfl, hO⟩
        case round =>
          clear hO
          obtain ⟨rfl, hO⟩ := hrel
          cases V with
          | false =>
            have HX : Hid (Z = 9) := Lib.hid (by rw [← HZ.out]; rfl)
            go_wp2_with (first
    | ((with_reducible refine gate_load 26 rfl ?_); refine blk_load_row rfl 26 _ rfl (HSp.out.below hO.bel HSp.out.lt) _ rfl _ rfl 13 ?_ ?_ ?_ _ Tryd.underlying26 rfl ?_ ?_; rotate_left; (focus (first | (with_reducible exact hrow_) | (with_reducible exact hrow2_) | (simp only [Array.toList_extract, List.extract_toArray, List.extract_eq_take_drop, List.drop_zero, List.drop_succ_cons, List.take_succ_cons, List.take_zero, Nat.reduceAdd, Nat.reduceSub, Nat.zero_add, Nat.add_zero, Nat.add_sub_cancel_left, Nat.sub_zero, Nat.sub_self]; rfl))); (focus rfl); (focus kernel_rfl))
    | (go_at_call 46; (with_reducible refine (HV.out _).mono ?_); rintro e w_ ⟨rfl, hb_⟩; replace hO := Own.call hO hb_; clear hb_)
            )
            go_ret
            exact ⟨by rw [HX.out]; rfl, hO.bel⟩
          | true =>
            have HX : Hid (Z = 0) := Lib.hid (by rw [← HZ.out]; rfl)
            go_wp2_with (first
    | ((with_reducible refine gate_load 26 rfl ?_); refine blk_load_row rfl 26 _ rfl (HSp.out.below hO.bel HSp.out.lt) _ rfl _ rfl 13 ?_ ?_ ?_ _ Tryd.underlying26 rfl ?_ ?_; rotate_left; (focus (first | (with_reducible exact hrow_) | (with_reducible exact hrow2_) | (simp only [Array.toList_extract, List.extract_toArray, List.extract_eq_take_drop, List.drop_zero, List.drop_succ_cons, List.take_succ_cons, List.take_zero, Nat.reduceAdd, Nat.reduceSub, Nat.zero_add, Nat.add_zero, Nat.add_sub_cancel_left, Nat.sub_zero, Nat.sub_self]; rfl))); (focus rfl); (focus kernel_rfl))
    | (go_at_call 46; (with_reducible refine (HV.out _).mono ?_); rintro e w_ ⟨rfl, hb_⟩; replace hO := Own.call hO hb_; clear hb_)
            )
            go_roundw
            case rel => exact ⟨1, by omega, by go_num, (fun _ => HX.out : 1 = 1 → Z = 0), hO⟩
            case measure => simp [intOf]
    · obtain rfl : k = 1 := by omega
      have HX := Lib.hid (hz rfl)
      clear hz
      go_wp2
      go_ret
      exact ⟨by rw [HX.out]; rfl, hO.bel⟩
end
end Go.Proofs.YtkedpokbbogkmaaDoor
