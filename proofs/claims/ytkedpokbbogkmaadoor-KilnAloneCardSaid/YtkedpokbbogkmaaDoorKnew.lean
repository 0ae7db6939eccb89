/-
  The contract of kiln.New.
-/
import Derived.Test.YtkedpokbbogkmaaDoorKwood
import Derived.Test.YtkedpokbbogkmaaDoorKscheck
import Derived.Test.YtkedpokbbogkmaaDoorKtickD
import Derived.Deep.DeepCutAuto
namespace Go.Proofs.YtkedpokbbogkmaaDoor
open Go.RowKit Go.Proofs.YtkedpokbbogkmaaDoorW.PrintLast
set_option linter.unusedSimpArgs false
set_option linter.unusedVariables false

def itemZ (x : Q4) : Int := if x.1 < 1 ∨ 600 < x.1 then 9 else chkZ x.2.1 x.2.2.1 x.2.2.2
def itemsZ : List Q4 → Int
  | [] => 0
  | x :: l => if itemZ x = 0 then itemsZ l else itemZ x
def okI (x : Q4) : Bool := itemZ x == 0
theorem itemsZ_at : ∀ (l : List Q4) (k : Nat) (x : Q4), (l.take k).all okI = true → l[k]? = some x → itemZ x ≠ 0 → itemsZ l = itemZ x
  | y :: l, 0, x, _, h, hn => by
    simp only [List.getElem?_cons_zero, Option.some.injEq] at h
    subst h
    unfold itemsZ
    rw [if_neg hn]
  | y :: l, k + 1, x, ha, h, hn => by
    simp only [List.take_succ_cons, List.all_cons, Bool.and_eq_true] at ha
    unfold itemsZ
    rw [if_pos (by simpa [okI] using ha.1)]
    exact itemsZ_at l k x ha.2 (by simpa using h) hn
theorem itemsZ_all : ∀ (l : List Q4), l.all okI = true → itemsZ l = 0
  | [], _ => rfl
  | y :: l, ha => by
    simp only [List.all_cons, Bool.and_eq_true] at ha
    unfold itemsZ
    rw [if_pos (by simpa [okI] using ha.1)]
    exact itemsZ_all l ha.2
theorem itemsZ_ok : ∀ (l : List Q4), itemsZ l = 0 → ∀ x ∈ l, 1 ≤ x.1 ∧ x.1 ≤ 600 ∧ chkZ x.2.1 x.2.2.1 x.2.2.2 = 0
  | y :: l, h, x, hx => by
    unfold itemsZ at h
    split at h
    · rename_i h0
      rcases List.mem_cons.1 hx with rfl | hx
      · unfold itemZ at h0
        split at h0
        · omega
        · exact ⟨by omega, by omega, h0⟩
      · exact itemsZ_ok l h x hx
    · rename_i h0
      exact absurd h h0
theorem sched_len {pn : ByteArray} {ramp : Int} {st : List Q4} (h : schedZ pn ramp st = 0) : 1 ≤ st.length ∧ st.length ≤ 100000 := by
  unfold schedZ at h
  repeat' split at h
  all_goals first | omega | (exfalso; revert h; decide)
def newZ (pn : ByteArray) (ramp : Int) (st : List Q4) (n : ByteArray) (a0 a1 a2 a3 a4 a5 a6 a7 a8 a9 a10 a11 : Int) (l : List Q4) : Int :=
  if schedZ pn ramp st ≠ 0 then schedZ pn ramp st else if woodZ n a0 a1 a2 a3 a4 a5 a6 a7 a8 a9 a10 a11 ≠ 0 then woodZ n a0 a1 a2 a3 a4 a5 a6 a7 a8 a9 a10 a11 else if l.length = 0 then 3 else if 1024 < l.length then 4 else itemsZ l
set_option maxRecDepth 100000 in
theorem outside_any (w : World) : Calls Tryd.prog 43 #[] w fun e w' => e = .returned (.agg #[.int .i64 200, .int .i64 100]) ∧ Below w.heap.size w w' := by
  have hO := Own.nil w
  go_enter Tryd.func43, Tryd.ntmps43
  go_wp2_with (first
    | ((with_reducible refine gate_alloc 37 rfl ?_); refine own_alloc rfl 37 rfl hO _ rfl #[.int .i64 0, .int .i64 0] (by kernel_rfl) ?_; clear hO; (try clear w_); intro g_ w_ hO)
    | ((with_reducible refine gate_box 37 rfl ?_); refine own_box rfl 37 _ rfl hO _ rfl ?_ ?_ ?_; rotate_left; (focus (first | (go_simp; done) | (go_simp; with_reducible rfl) | rfl)); clear hO; (try clear w_); intro g_ w_ hO; simp only [Value.cells] at hO)
    | ((with_reducible refine gate_load 37 rfl ?_); (first | refine own_load_row rfl 37 _ rfl hO 0 _ _ rfl _ _ rfl _ rfl 2 ?_ ?_ ?_ _ Tryd.underlying37 rfl ?_ ?_); rotate_left; (focus (first | (with_reducible exact hrow_) | (with_reducible exact hrow2_) | (simp only [Array.toList_extract, List.extract_toArray, List.extract_eq_take_drop, List.drop_zero, List.drop_succ_cons, List.take_succ_cons, List.take_zero, Nat.reduceAdd, Nat.reduceSub, Nat.zero_add, Nat.add_zero, Nat.add_sub_cancel_left, Nat.sub_zero, Nat.sub_self]; rfl))); (focus rfl); (focus kernel_rfl))
    | ((with_reducible refine gate_store 37 rfl ?_); (first | refine own_store rfl 37 _ _ rfl hO 0 _ _ ?_ rfl ?_ _ _ rfl _ rfl ?_ ?_ ?_ ?_); rotate_left; (focus (first | (go_simp; done) | (go_simp; with_reducible rfl) | rfl)); (focus (first | (exact hble_) | kernel_rfl)); (focus kernel_rfl); (focus kernel_rfl); clear hO; (try clear w_); intro w_ hO; (first | (simp only [Value.cells] at hO; rw [hput_] at hO) | simp only [List.set_cons_zero, List.set_cons_succ, putAllA, Value.cells, List.setIfInBounds_toArray] at hO))
    )
  exact bodyPost_ret (results_cell_row Tryd.results43 _ _ g_ 37 _ (0, 0) _ rfl (hO.at 0 rfl) Tryd.underlying37 rfl (by kernel_rfl)) rfl ⟨rfl, hO.bel⟩
def NewPost (w : World) (pn : ByteArray) (ramp : Int) (st : List Q4) (n : ByteArray) (a0 a1 a2 a3 a4 a5 a6 a7 a8 a9 a10 a11 : Int) (l : List Q4) (e : Ending) (w' : World) : Prop :=
  (newZ pn ramp st n a0 a1 a2 a3 a4 a5 a6 a7 a8 a9 a10 a11 l ≠ 0 ∧ e = .returned (.tuple #[.pointer none, .int .i64 (newZ pn ramp st n a0 a1 a2 a3 a4 a5 a6 a7 a8 a9 a10 a11 l)]) ∧ Below w.heap.size w w') ∨
  (newZ pn ramp st n a0 a1 a2 a3 a4 a5 a6 a7 a8 a9 a10 a11 l = 0 ∧ ∃ gk gi ci pad gs cs pads, e = .returned (.tuple #[.pointer (some ⟨gk, 0, none⟩), .int .i64 0]) ∧
    Own w [(gk, 74, #[.string pn, .int .i64 ramp, .slice (some ⟨gs, 0, none⟩) st.length cs, .string n, .int .i64 a0, .int .i64 a1, .int .i64 a2, .int .i64 a3, .int .i64 a4, .int .i64 a5, .int .i64 a6, .int .i64 a7, .int .i64 a8, .int .i64 a9, .int .i64 a10, .int .i64 a11, .slice (some ⟨gi, 0, none⟩) l.length ci, .int .i64 200, .int .i64 100, .int .i64 0, .int .i64 0, .int .i64 0, .int .i64 0]), (gi, 53, (flat q4 l ++ pad).toArray), (gs, 65, (flat q4 st ++ pads).toArray)] w')
set_option maxHeartbeats 16000000 in
set_option maxRecDepth 100000 in
theorem new_any (pn n : ByteArray) (ramp a0 a1 a2 a3 a4 a5 a6 a7 a8 a9 a10 a11 : Int) (vS vI : Value) (st l : List Q4) (w : World) (h2 : Hid (Glob2 w)) (hS : Hid (RepQ w vS st)) (hI : Hid (RepQ w vI l)) (hs : st.length ≤ 1000000) (hl : l.length ≤ 1000000) :
    Calls Tryd.prog 25 #[.agg #[.string pn, .int .i64 ramp, vS], .agg #[.string n, .int .i64 a0, .int .i64 a1, .int .i64 a2, .int .i64 a3, .int .i64 a4, .int .i64 a5, .int .i64 a6, .int .i64 a7, .int .i64 a8, .int .i64 a9, .int .i64 a10, .int .i64 a11], vI] w (NewPost w pn ramp st n a0 a1 a2 a3 a4 a5 a6 a7 a8 a9 a10 a11 l) := by
  obtain ⟨vA, vc, hv⟩ : ∃ A c, vI = .slice A l.length c := by
    rcases hI.out with ⟨A, c, rfl, rfl⟩ | ⟨b, o, c, rfl, _⟩
    · exact ⟨_, _, rfl⟩
    · exact ⟨_, _, rfl⟩
  subst hv
  obtain ⟨i0, hi0, hz0, hz1, _⟩ := info_parts species_info
  have hO := Own.nil w
  obtain ⟨e1, he1⟩ : ∃ e, schedZ pn ramp st = e := ⟨_, rfl⟩
  obtain ⟨e2, he2⟩ : ∃ e, woodZ n a0 a1 a2 a3 a4 a5 a6 a7 a8 a9 a10 a11 = e := ⟨_, rfl⟩
  have H1 : Hid (∀ w, Hid (Glob2 w) → Hid (RepQ w vS st) → Calls Tryd.prog 40 #[.agg #[.string pn, .int .i64 ramp, vS]] w fun e w' => e = .returned (.int .i64 e1) ∧ Below w.heap.size w w') := Lib.hid (fun w g r => he1 ▸ scheck_any pn ramp vS st w g r hs)
  have H2 : Hid (∀ (g : Nat) w, Hid (Blk w g 26 #[.string n, .int .i64 a0, .int .i64 a1, .int .i64 a2, .int .i64 a3, .int .i64 a4, .int .i64 a5, .int .i64 a6, .int .i64 a7, .int .i64 a8, .int .i64 a9, .int .i64 a10, .int .i64 a11]) → Calls Tryd.prog 41 #[.slice (some ⟨g, 0, none⟩) 1 1] w fun e w' => e = .returned (.int .i64 e2) ∧ Below w.heap.size w w') := Lib.hid (fun g w r => he2 ▸ wcheck_any n a0 a1 a2 a3 a4 a5 a6 a7 a8 a9 a10 a11 g w r)
  obtain ⟨Z, hZ⟩ : ∃ Z, newZ pn ramp st n a0 a1 a2 a3 a4 a5 a6 a7 a8 a9 a10 a11 l = Z := ⟨_, rfl⟩
  have HZ := Lib.hid hZ
  unfold newZ at hZ
  rw [he1, he2] at hZ
  have HE1 : schedZ pn ramp st = e1 := he1
  clear he1 he2
  have HST0 : Hid (e1 = 0 → 1 ≤ st.length ∧ st.length ≤ 100000) := Lib.hid (fun h => by
    rw [h] at HE1
    exact sched_len HE1)
  clear HE1
  by_cases k1 : e1 = 0
  · subst k1
    rw [if_neg (by simp)] at hZ
    by_cases k2 : e2 = 0
    · subst k2
      rw [if_neg (by simp)] at hZ
      by_cases k3 : l.length = 0
      · rw [if_pos k3] at hZ
        have q1 : ((l.length : Int) == 0) = true := by rw [k3]; rfl
        subst hZ
        clear k3
        go_enter Tryd.func25, Tryd.ntmps25
        go_wp2_with (first
    | ((with_reducible refine gate_alloc 24 rfl ?_); refine own_alloc rfl 24 rfl hO _ rfl #[.string ⟨#[]⟩, .int .i64 0, .slice none 0 0] (by kernel_rfl) ?_; clear hO; (try clear w_); intro g_ w_ hO)
    | ((with_reducible refine gate_box 24 rfl ?_); refine own_box rfl 24 _ rfl hO _ rfl ?_ ?_ ?_; rotate_left; (focus (first | (go_simp; done) | (go_simp; with_reducible rfl) | rfl)); clear hO; (try clear w_); intro g_ w_ hO; simp only [Value.cells] at hO)
    | ((with_reducible refine gate_load 24 rfl ?_); (first | refine own_load_row rfl 24 _ rfl hO 0 _ _ rfl _ _ rfl _ rfl 3 ?_ ?_ ?_ _ Tryd.underlying24 rfl ?_ ?_ | refine own_load_row rfl 24 _ rfl hO 1 _ _ rfl _ _ rfl _ rfl 3 ?_ ?_ ?_ _ Tryd.underlying24 rfl ?_ ?_); rotate_left; (focus (first | (with_reducible exact hrow_) | (with_reducible exact hrow2_) | (simp only [Array.toList_extract, List.extract_toArray, List.extract_eq_take_drop, List.drop_zero, List.drop_succ_cons, List.take_succ_cons, List.take_zero, Nat.reduceAdd, Nat.reduceSub, Nat.zero_add, Nat.add_zero, Nat.add_sub_cancel_left, Nat.sub_zero, Nat.sub_self]; rfl))); (focus rfl); (focus kernel_rfl))
    | ((with_reducible refine gate_store 24 rfl ?_); (first | refine own_store rfl 24 _ _ rfl hO 0 _ _ ?_ rfl ?_ _ _ rfl _ rfl ?_ ?_ ?_ ?_ | refine own_store rfl 24 _ _ rfl hO 1 _ _ ?_ rfl ?_ _ _ rfl _ rfl ?_ ?_ ?_ ?_); rotate_left; (focus (first | (go_simp; done) | (go_simp; with_reducible rfl) | rfl)); (focus (first | (exact hble_) | kernel_rfl)); (focus kernel_rfl); (focus kernel_rfl); clear hO; (try clear w_); intro w_ hO; (first | (simp only [Value.cells] at hO; rw [hput_] at hO) | simp only [List.set_cons_zero, List.set_cons_succ, putAllA, Value.cells, List.setIfInBounds_toArray] at hO))
    | ((with_reducible refine gate_alloc 26 rfl ?_); refine own_alloc rfl 26 rfl hO _ rfl #[.string ⟨#[]⟩, .int .i64 0, .int .i64 0, .int .i64 0, .int .i64 0, .int .i64 0, .int .i64 0, .int .i64 0, .int .i64 0, .int .i64 0, .int .i64 0, .int .i64 0, .int .i64 0] (by kernel_rfl) ?_; clear hO; (try clear w_); intro g_ w_ hO)
    | ((with_reducible refine gate_box 26 rfl ?_); refine own_box rfl 26 _ rfl hO _ rfl ?_ ?_ ?_; rotate_left; (focus (first | (go_simp; done) | (go_simp; with_reducible rfl) | rfl)); clear hO; (try clear w_); intro g_ w_ hO; simp only [Value.cells] at hO)
    | ((with_reducible refine gate_load 26 rfl ?_); (first | refine own_load_row rfl 26 _ rfl hO 0 _ _ rfl _ _ rfl _ rfl 13 ?_ ?_ ?_ _ Tryd.underlying26 rfl ?_ ?_ | refine own_load_row rfl 26 _ rfl hO 1 _ _ rfl _ _ rfl _ rfl 13 ?_ ?_ ?_ _ Tryd.underlying26 rfl ?_ ?_); rotate_left; (focus (first | (with_reducible exact hrow_) | (with_reducible exact hrow2_) | (simp only [Array.toList_extract, List.extract_toArray, List.extract_eq_take_drop, List.drop_zero, List.drop_succ_cons, List.take_succ_cons, List.take_zero, Nat.reduceAdd, Nat.reduceSub, Nat.zero_add, Nat.add_zero, Nat.add_sub_cancel_left, Nat.sub_zero, Nat.sub_self]; rfl))); (focus rfl); (focus kernel_rfl))
    | ((with_reducible refine gate_store 26 rfl ?_); (first | refine own_store rfl 26 _ _ rfl hO 0 _ _ ?_ rfl ?_ _ _ rfl _ rfl ?_ ?_ ?_ ?_ | refine own_store rfl 26 _ _ rfl hO 1 _ _ ?_ rfl ?_ _ _ rfl _ rfl ?_ ?_ ?_ ?_); rotate_left; (focus (first | (go_simp; done) | (go_simp; with_reducible rfl) | rfl)); (focus (first | (exact hble_) | kernel_rfl)); (focus kernel_rfl); (focus kernel_rfl); clear hO; (try clear w_); intro w_ hO; (first | (simp only [Value.cells] at hO; rw [hput_] at hO) | simp only [List.set_cons_zero, List.set_cons_succ, putAllA, Value.cells, List.setIfInBounds_toArray] at hO))
    | (go_at_call 40; (with_reducible refine (H1.out _ (Lib.hid (h2.out.below hO.bel)) (Lib.hid (hS.out.below hO.bel))).mono ?_); rintro e w_ ⟨rfl, hb_⟩; replace hO := Own.call hO hb_; clear hb_)
    | (go_at_call 41; (with_reducible refine (H2.out _ _ (Lib.hid (hO.at 0 rfl))).mono ?_); rintro e w_ ⟨rfl, hb_⟩; replace hO := Own.call hO hb_; clear hb_)
    | (refine own_buildSlice rfl 69 26 1 _ rfl _ rfl hO #[.string n, .int .i64 a0, .int .i64 a1, .int .i64 a2, .int .i64 a3, .int .i64 a4, .int .i64 a5, .int .i64 a6, .int .i64 a7, .int .i64 a8, .int .i64 a9, .int .i64 a10, .int .i64 a11] i0 (.agg #[.string ⟨#[]⟩, .int .i64 0, .int .i64 0, .int .i64 0, .int .i64 0, .int .i64 0, .int .i64 0, .int .i64 0, .int .i64 0, .int .i64 0, .int .i64 0, .int .i64 0, .int .i64 0]) 13 Tryd.underlying69 hi0 hz0 hz1 rfl rfl (by kernel_rfl) ?_; clear hO; intro gsp w_ hO)
        )
        go_ret2
        exact .inl ⟨by rw [HZ.out]; decide, by rw [HZ.out]; rfl, hO.bel⟩
      · rw [if_neg k3] at hZ
        have q1 : ((l.length : Int) == 0) = false := by rw [beq_eq_false_iff_ne]; omega
        by_cases k4 : 1024 < l.length
        · rw [if_pos k4] at hZ
          have q2 : decide ((1024 : Int) < (l.length : Int)) = true := decide_eq_true (by omega)
          subst hZ
          clear k3 k4
          go_enter Tryd.func25, Tryd.ntmps25
          go_wp2_with (first
    | ((with_reducible refine gate_alloc 24 rfl ?_); refine own_alloc rfl 24 rfl hO _ rfl #[.string ⟨#[]⟩, .int .i64 0, .slice none 0 0] (by kernel_rfl) ?_; clear hO; (try clear w_); intro g_ w_ hO)
    | ((with_reducible refine gate_box 24 rfl ?_); refine own_box rfl 24 _ rfl hO _ rfl ?_ ?_ ?_; rotate_left; (focus (first | (go_simp; done) | (go_simp; with_reducible rfl) | rfl)); clear hO; (try clear w_); intro g_ w_ hO; simp only [Value.cells] at hO)
    | ((with_reducible refine gate_load 24 rfl ?_); (first | refine own_load_row rfl 24 _ rfl hO 0 _ _ rfl _ _ rfl _ rfl 3 ?_ ?_ ?_ _ Tryd.underlying24 rfl ?_ ?_ | refine own_load_row rfl 24 _ rfl hO 1 _ _ rfl _ _ rfl _ rfl 3 ?_ ?_ ?_ _ Tryd.underlying24 rfl ?_ ?_); rotate_left; (focus (first | (with_reducible exact hrow_) | (with_reducible exact hrow2_) | (simp only [Array.toList_extract, List.extract_toArray, List.extract_eq_take_drop, List.drop_zero, List.drop_succ_cons, List.take_succ_cons, List.take_zero, Nat.reduceAdd, Nat.reduceSub, Nat.zero_add, Nat.add_zero, Nat.add_sub_cancel_left, Nat.sub_zero, Nat.sub_self]; rfl))); (focus rfl); (focus kernel_rfl))
    | ((with_reducible refine gate_store 24 rfl ?_); (first | refine own_store rfl 24 _ _ rfl hO 0 _ _ ?_ rfl ?_ _ _ rfl _ rfl ?_ ?_ ?_ ?_ | refine own_store rfl 24 _ _ rfl hO 1 _ _ ?_ rfl ?_ _ _ rfl _ rfl ?_ ?_ ?_ ?_); rotate_left; (focus (first | (go_simp; done) | (go_simp; with_reducible rfl) | rfl)); (focus (first | (exact hble_) | kernel_rfl)); (focus kernel_rfl); (focus kernel_rfl); clear hO; (try clear w_); intro w_ hO; (first | (simp only [Value.cells] at hO; rw [hput_] at hO) | simp only [List.set_cons_zero, List.set_cons_succ, putAllA, Value.cells, List.setIfInBounds_toArray] at hO))
    | ((with_reducible refine gate_alloc 26 rfl ?_); refine own_alloc rfl 26 rfl hO _ rfl #[.string ⟨#[]⟩, .int .i64 0, .int .i64 0, .int .i64 0, .int .i64 0, .int .i64 0, .int .i64 0, .int .i64 0, .int .i64 0, .int .i64 0, .int .i64 0, .int .i64 0, .int .i64 0] (by kernel_rfl) ?_; clear hO; (try clear w_); intro g_ w_ hO)
    | ((with_reducible refine gate_box 26 rfl ?_); refine own_box rfl 26 _ rfl hO _ rfl ?_ ?_ ?_; rotate_left; (focus (first | (go_simp; done) | (go_simp; with_reducible rfl) | rfl)); clear hO; (try clear w_); intro g_ w_ hO; simp only [Value.cells] at hO)
    | ((with_reducible refine gate_load 26 rfl ?_); (first | refine own_load_row rfl 26 _ rfl hO 0 _ _ rfl _ _ rfl _ rfl 13 ?_ ?_ ?_ _ Tryd.underlying26 rfl ?_ ?_ | refine own_load_row rfl 26 _ rfl hO 1 _ _ rfl _ _ rfl _ rfl 13 ?_ ?_ ?_ _ Tryd.underlying26 rfl ?_ ?_); rotate_left; (focus (first | (with_reducible exact hrow_) | (with_reducible exact hrow2_) | (simp only [Array.toList_extract, List.extract_toArray, List.extract_eq_take_drop, List.drop_zero, List.drop_succ_cons, List.take_succ_cons, List.take_zero, Nat.reduceAdd, Nat.reduceSub, Nat.zero_add, Nat.add_zero, Nat.add_sub_cancel_left, Nat.sub_zero, Nat.sub_self]; rfl))); (focus rfl); (focus kernel_rfl))
    | ((with_reducible refine gate_store 26 rfl ?_); (first | refine own_store rfl 26 _ _ rfl hO 0 _ _ ?_ rfl ?_ _ _ rfl _ rfl ?_ ?_ ?_ ?_ | refine own_store rfl 26 _ _ rfl hO 1 _ _ ?_ rfl ?_ _ _ rfl _ rfl ?_ ?_ ?_ ?_); rotate_left; (focus (first | (go_simp; done) | (go_simp; with_reducible rfl) | rfl)); (focus (first | (exact hble_) | kernel_rfl)); (focus kernel_rfl); (focus kernel_rfl); clear hO; (try clear w_); intro w_ hO; (first | (simp only [Value.cells] at hO; rw [hput_] at hO) | simp only [List.set_cons_zero, List.set_cons_succ, putAllA, Value.cells, List.setIfInBounds_toArray] at hO))
    | (go_at_call 40; (with_reducible refine (H1.out _ (Lib.hid (h2.out.below hO.bel)) (Lib.hid (hS.out.below hO.bel))).mono ?_); rintro e w_ ⟨rfl, hb_⟩; replace hO := Own.call hO hb_; clear hb_)
    | (go_at_call 41; (with_reducible refine (H2.out _ _ (Lib.hid (hO.at 0 rfl))).mono ?_); rintro e w_ ⟨rfl, hb_⟩; replace hO := Own.call hO hb_; clear hb_)
    | (refine own_buildSlice rfl 69 26 1 _ rfl _ rfl hO #[.string n, .int .i64 a0, .int .i64 a1, .int .i64 a2, .int .i64 a3, .int .i64 a4, .int .i64 a5, .int .i64 a6, .int .i64 a7, .int .i64 a8, .int .i64 a9, .int .i64 a10, .int .i64 a11] i0 (.agg #[.string ⟨#[]⟩, .int .i64 0, .int .i64 0, .int .i64 0, .int .i64 0, .int .i64 0, .int .i64 0, .int .i64 0, .int .i64 0, .int .i64 0, .int .i64 0, .int .i64 0, .int .i64 0]) 13 Tryd.underlying69 hi0 hz0 hz1 rfl rfl (by kernel_rfl) ?_; clear hO; intro gsp w_ hO)
          )
          go_ret2
          exact .inl ⟨by rw [HZ.out]; decide, by rw [HZ.out]; rfl, hO.bel⟩
        · rw [if_neg k4] at hZ
          have q2 : decide ((1024 : Int) < (l.length : Int)) = false := decide_eq_false (by omega)
          obtain ⟨b, o, hvA, hc⟩ : ∃ b o, vA = some ⟨b, o, none⟩ ∧ Hid (∀ (j : Nat) (u : Value), (flat q4 l)[j]? = some u → w.cell? ⟨b, o + j, none⟩ = some u) := by
            rcases hI.out with ⟨_, _, _, rfl⟩ | ⟨b, o, c, hv, hc⟩
            · simp at k3
            · injection hv with hv _ _
              exact ⟨b, o, hv, Lib.hid hc⟩
          subst hvA
          have HI := Lib.hid hZ
          have hst : Hid (1 ≤ st.length ∧ st.length ≤ 100000) := Lib.hid (HST0.out rfl)
          obtain ⟨bs, os, vd, hvS, HcS⟩ : ∃ b o c, vS = .slice (some ⟨b, o, none⟩) st.length c ∧ Hid (∀ (j : Nat) (u : Value), (flat q4 st)[j]? = some u → w.cell? ⟨b, o + j, none⟩ = some u) := by
            rcases hS.out with ⟨_, _, _, h0⟩ | ⟨b, o, c, h, hc⟩
            · have := hst.out.1
              rw [h0] at this
              simp at this
            · exact ⟨b, o, c, h, Lib.hid hc⟩
          subst hvS
          have hl1 : 1 ≤ l.length := by omega
          have hl2 : l.length ≤ 100000 := by omega
          clear hZ k3 k4
          go_enter Tryd.func25, Tryd.ntmps25
          go_wp2_with (first
    | ((with_reducible refine gate_alloc 24 rfl ?_); refine own_alloc rfl 24 rfl hO _ rfl #[.string ⟨#[]⟩, .int .i64 0, .slice none 0 0] (by kernel_rfl) ?_; clear hO; (try clear w_); intro g_ w_ hO)
    | ((with_reducible refine gate_box 24 rfl ?_); refine own_box rfl 24 _ rfl hO _ rfl ?_ ?_ ?_; rotate_left; (focus (first | (go_simp; done) | (go_simp; with_reducible rfl) | rfl)); clear hO; (try clear w_); intro g_ w_ hO; simp only [Value.cells] at hO)
    | ((with_reducible refine gate_load 24 rfl ?_); (first | refine own_load_row rfl 24 _ rfl hO 0 _ _ rfl _ _ rfl _ rfl 3 ?_ ?_ ?_ _ Tryd.underlying24 rfl ?_ ?_ | refine own_load_row rfl 24 _ rfl hO 1 _ _ rfl _ _ rfl _ rfl 3 ?_ ?_ ?_ _ Tryd.underlying24 rfl ?_ ?_); rotate_left; (focus (first | (with_reducible exact hrow_) | (with_reducible exact hrow2_) | (simp only [Array.toList_extract, List.extract_toArray, List.extract_eq_take_drop, List.drop_zero, List.drop_succ_cons, List.take_succ_cons, List.take_zero, Nat.reduceAdd, Nat.reduceSub, Nat.zero_add, Nat.add_zero, Nat.add_sub_cancel_left, Nat.sub_zero, Nat.sub_self]; rfl))); (focus rfl); (focus kernel_rfl))
    | ((with_reducible refine gate_store 24 rfl ?_); (first | refine own_store rfl 24 _ _ rfl hO 0 _ _ ?_ rfl ?_ _ _ rfl _ rfl ?_ ?_ ?_ ?_ | refine own_store rfl 24 _ _ rfl hO 1 _ _ ?_ rfl ?_ _ _ rfl _ rfl ?_ ?_ ?_ ?_); rotate_left; (focus (first | (go_simp; done) | (go_simp; with_reducible rfl) | rfl)); (focus (first | (exact hble_) | kernel_rfl)); (focus kernel_rfl); (focus kernel_rfl); clear hO; (try clear w_); intro w_ hO; (first | (simp only [Value.cells] at hO; rw [hput_] at hO) | simp only [List.set_cons_zero, List.set_cons_succ, putAllA, Value.cells, List.setIfInBounds_toArray] at hO))
    | ((with_reducible refine gate_alloc 26 rfl ?_); refine own_alloc rfl 26 rfl hO _ rfl #[.string ⟨#[]⟩, .int .i64 0, .int .i64 0, .int .i64 0, .int .i64 0, .int .i64 0, .int .i64 0, .int .i64 0, .int .i64 0, .int .i64 0, .int .i64 0, .int .i64 0, .int .i64 0] (by kernel_rfl) ?_; clear hO; (try clear w_); intro g_ w_ hO)
    | ((with_reducible refine gate_box 26 rfl ?_); refine own_box rfl 26 _ rfl hO _ rfl ?_ ?_ ?_; rotate_left; (focus (first | (go_simp; done) | (go_simp; with_reducible rfl) | rfl)); clear hO; (try clear w_); intro g_ w_ hO; simp only [Value.cells] at hO)
    | ((with_reducible refine gate_load 26 rfl ?_); (first | refine own_load_row rfl 26 _ rfl hO 0 _ _ rfl _ _ rfl _ rfl 13 ?_ ?_ ?_ _ Tryd.underlying26 rfl ?_ ?_ | refine own_load_row rfl 26 _ rfl hO 1 _ _ rfl _ _ rfl _ rfl 13 ?_ ?_ ?_ _ Tryd.underlying26 rfl ?_ ?_); rotate_left; (focus (first | (with_reducible exact hrow_) | (with_reducible exact hrow2_) | (simp only [Array.toList_extract, List.extract_toArray, List.extract_eq_take_drop, List.drop_zero, List.drop_succ_cons, List.take_succ_cons, List.take_zero, Nat.reduceAdd, Nat.reduceSub, Nat.zero_add, Nat.add_zero, Nat.add_sub_cancel_left, Nat.sub_zero, Nat.sub_self]; rfl))); (focus rfl); (focus kernel_rfl))
    | ((with_reducible refine gate_store 26 rfl ?_); (first | refine own_store rfl 26 _ _ rfl hO 0 _ _ ?_ rfl ?_ _ _ rfl _ rfl ?_ ?_ ?_ ?_ | refine own_store rfl 26 _ _ rfl hO 1 _ _ ?_ rfl ?_ _ _ rfl _ rfl ?_ ?_ ?_ ?_); rotate_left; (focus (first | (go_simp; done) | (go_simp; with_reducible rfl) | rfl)); (focus (first | (exact hble_) | kernel_rfl)); (focus kernel_rfl); (focus kernel_rfl); clear hO; (try clear w_); intro w_ hO; (first | (simp only [Value.cells] at hO; rw [hput_] at hO) | simp only [List.set_cons_zero, List.set_cons_succ, putAllA, Value.cells, List.setIfInBounds_toArray] at hO))
    | (go_at_call 40; (with_reducible refine (H1.out _ (Lib.hid (h2.out.below hO.bel)) (Lib.hid (hS.out.below hO.bel))).mono ?_); rintro e w_ ⟨rfl, hb_⟩; replace hO := Own.call hO hb_; clear hb_)
    | (go_at_call 41; (with_reducible refine (H2.out _ _ (Lib.hid (hO.at 0 rfl))).mono ?_); rintro e w_ ⟨rfl, hb_⟩; replace hO := Own.call hO hb_; clear hb_)
    | (refine own_buildSlice rfl 69 26 1 _ rfl _ rfl hO #[.string n, .int .i64 a0, .int .i64 a1, .int .i64 a2, .int .i64 a3, .int .i64 a4, .int .i64 a5, .int .i64 a6, .int .i64 a7, .int .i64 a8, .int .i64 a9, .int .i64 a10, .int .i64 a11] i0 (.agg #[.string ⟨#[]⟩, .int .i64 0, .int .i64 0, .int .i64 0, .int .i64 0, .int .i64 0, .int .i64 0, .int .i64 0, .int .i64 0, .int .i64 0, .int .i64 0, .int .i64 0, .int .i64 0]) 13 Tryd.underlying69 hi0 hz0 hz1 rfl rfl (by kernel_rfl) ?_; clear hO; intro gsp w_ hO)
          )
          rename_i g3 _ _ _ _ _
          generalize g_ = g4 at *
          go_loopw [32] (fun i wr => ∃ k : Nat, k ≤ l.length ∧ i = .int .i64 k ∧ (l.take k).all okI = true ∧ Own w [(gsp, 26, #[.string n, .int .i64 a0, .int .i64 a1, .int .i64 a2, .int .i64 a3, .int .i64 a4, .int .i64 a5, .int .i64 a6, .int .i64 a7, .int .i64 a8, .int .i64 a9, .int .i64 a10, .int .i64 a11]), (g4, 26, #[.string n, .int .i64 a0, .int .i64 a1, .int .i64 a2, .int .i64 a3, .int .i64 a4, .int .i64 a5, .int .i64 a6, .int .i64 a7, .int .i64 a8, .int .i64 a9, .int .i64 a10, .int .i64 a11]), (g3, 24, #[.string pn, .int .i64 ramp, .slice (some ⟨bs, os, none⟩) st.length vd])] wr) (fun i _ => l.length - (intOf i).toNat)
          case atStart => exact ⟨0, Nat.zero_le _, rfl, rfl, hO⟩
          case round =>
            clear hO
            obtain ⟨k, hk, rfl, hall, hO⟩ := hrel
            by_cases hlt : k < l.length
            · obtain ⟨x, hx⟩ : ∃ x, l[k]? = some x := ⟨_, List.getElem?_eq_getElem hlt⟩
              have HBad : Hid (itemZ x ≠ 0 → Z = itemZ x) := Lib.hid (fun h => by rw [← HI.out, itemsZ_at l k x hall hx h])
              have HOk : Hid (itemZ x = 0 → (l.take (k + 1)).all okI = true) := Lib.hid (fun h => all_step hx hall (by unfold okI; rw [h]; rfl))
              obtain ⟨th, a, b1, s⟩ := x
              have HR : Hid (w.rangeAt b (o + k * 4) [.int .i64 th, .int .i64 a, .int .i64 b1, .int .i64 s]) := Lib.hid (RepQ.row hc.out k _ hx)
              obtain ⟨e3, he3⟩ : ∃ e, chkZ a b1 s = e := ⟨_, rfl⟩
              have HC : Hid (∀ w, Calls Tryd.prog 17 #[.agg #[.int .i64 a, .int .i64 b1, .int .i64 s]] w fun e w' => e = .returned (.int .i64 e3) ∧ Below w.heap.size w w') := Lib.hid (he3 ▸ mcheck_any a b1 s)
              have HE : itemZ (th, a, b1, s) = if th < 1 ∨ 600 < th then 9 else e3 := by
                unfold itemZ
                simp only
                rw [he3]
              clear hx hall he3
              rcases Decidable.em (th < 1) with d1 | d1
              · rw [if_pos (.inl d1)] at HE
                have HX := Lib.hid (HBad.out (by rw [HE]; decide))
                rw [HE] at HX
                replace d1 := decide_eq_true d1
                clear HE
                go_wp2_with (first
    | ((with_reducible refine gate_load 53 rfl ?_); refine rng_load_row rfl 53 _ rfl (range_below HR.out hO.bel) rfl _ rfl _ Tryd.underlying53 rfl (by kernel_rfl) ?_)
    | ((with_reducible refine gate_alloc 53 rfl ?_); refine own_alloc rfl 53 rfl hO _ rfl #[.int .i64 0, .int .i64 0, .int .i64 0, .int .i64 0] (by kernel_rfl) ?_; clear hO; (try clear w_); intro g_ w_ hO)
    | ((with_reducible refine gate_box 53 rfl ?_); refine own_box rfl 53 _ rfl hO _ rfl ?_ ?_ ?_; rotate_left; (focus (first | (go_simp; done) | (go_simp; with_reducible rfl) | rfl)); clear hO; (try clear w_); intro g_ w_ hO; simp only [Value.cells] at hO)
    | ((with_reducible refine gate_load 53 rfl ?_); (first | refine own_load_row rfl 53 _ rfl hO 0 _ _ rfl _ _ rfl _ rfl 4 ?_ ?_ ?_ _ Tryd.underlying53 rfl ?_ ?_); rotate_left; (focus (first | (with_reducible exact hrow_) | (with_reducible exact hrow2_) | (simp only [Array.toList_extract, List.extract_toArray, List.extract_eq_take_drop, List.drop_zero, List.drop_succ_cons, List.take_succ_cons, List.take_zero, Nat.reduceAdd, Nat.reduceSub, Nat.zero_add, Nat.add_zero, Nat.add_sub_cancel_left, Nat.sub_zero, Nat.sub_self]; rfl))); (focus rfl); (focus kernel_rfl))
    | ((with_reducible refine gate_store 53 rfl ?_); (first | refine own_store rfl 53 _ _ rfl hO 0 _ _ ?_ rfl ?_ _ _ rfl _ rfl ?_ ?_ ?_ ?_); rotate_left; (focus (first | (go_simp; done) | (go_simp; with_reducible rfl) | rfl)); (focus (first | (exact hble_) | kernel_rfl)); (focus kernel_rfl); (focus kernel_rfl); clear hO; (try clear w_); intro w_ hO; (first | (simp only [Value.cells] at hO; rw [hput_] at hO) | simp only [List.set_cons_zero, List.set_cons_succ, putAllA, Value.cells, List.setIfInBounds_toArray] at hO))
    | ((with_reducible refine gate_alloc 3 rfl ?_); refine own_alloc rfl 3 rfl hO _ rfl #[.int .i64 0] (by kernel_rfl) ?_; clear hO; (try clear w_); intro g_ w_ hO)
    | ((with_reducible refine gate_box 3 rfl ?_); refine own_box rfl 3 _ rfl hO _ rfl ?_ ?_ ?_; rotate_left; (focus (first | (go_simp; done) | (go_simp; with_reducible rfl) | rfl)); clear hO; (try clear w_); intro g_ w_ hO; simp only [Value.cells] at hO)
    | ((with_reducible refine gate_load 3 rfl ?_); (first | refine own_load_one rfl 3 _ rfl hO 0 _ _ rfl _ _ rfl _ rfl ?_ ?_ _ Tryd.underlying3 rfl ?_); rotate_left; (focus (first | (with_reducible exact hcell_) | (simp only [List.getElem?_toArray, List.getElem?_cons_zero, List.getElem?_cons_succ]; rfl))))
    | ((with_reducible refine gate_store 3 rfl ?_); (first | refine own_store rfl 3 _ _ rfl hO 0 _ _ ?_ rfl ?_ _ _ rfl _ rfl ?_ ?_ ?_ ?_); rotate_left; (focus (first | (go_simp; done) | (go_simp; with_reducible rfl) | rfl)); (focus (first | (exact hble_) | kernel_rfl)); (focus kernel_rfl); (focus kernel_rfl); clear hO; (try clear w_); intro w_ hO; (first | (simp only [Value.cells] at hO; rw [hput_] at hO) | simp only [List.set_cons_zero, List.set_cons_succ, putAllA, Value.cells, List.setIfInBounds_toArray] at hO))
    | ((with_reducible refine gate_alloc 51 rfl ?_); refine own_alloc rfl 51 rfl hO _ rfl #[.int .i64 0, .int .i64 0, .int .i64 0] (by kernel_rfl) ?_; clear hO; (try clear w_); intro g_ w_ hO)
    | ((with_reducible refine gate_box 51 rfl ?_); refine own_box rfl 51 _ rfl hO _ rfl ?_ ?_ ?_; rotate_left; (focus (first | (go_simp; done) | (go_simp; with_reducible rfl) | rfl)); clear hO; (try clear w_); intro g_ w_ hO; simp only [Value.cells] at hO)
    | ((with_reducible refine gate_load 51 rfl ?_); (first | refine own_load_row rfl 51 _ rfl hO 0 _ _ rfl _ _ rfl _ rfl 3 ?_ ?_ ?_ _ Tryd.underlying51 rfl ?_ ?_); rotate_left; (focus (first | (with_reducible exact hrow_) | (with_reducible exact hrow2_) | (simp only [Array.toList_extract, List.extract_toArray, List.extract_eq_take_drop, List.drop_zero, List.drop_succ_cons, List.take_succ_cons, List.take_zero, Nat.reduceAdd, Nat.reduceSub, Nat.zero_add, Nat.add_zero, Nat.add_sub_cancel_left, Nat.sub_zero, Nat.sub_self]; rfl))); (focus rfl); (focus kernel_rfl))
    | ((with_reducible refine gate_store 51 rfl ?_); (first | refine own_store rfl 51 _ _ rfl hO 0 _ _ ?_ rfl ?_ _ _ rfl _ rfl ?_ ?_ ?_ ?_); rotate_left; (focus (first | (go_simp; done) | (go_simp; with_reducible rfl) | rfl)); (focus (first | (exact hble_) | kernel_rfl)); (focus kernel_rfl); (focus kernel_rfl); clear hO; (try clear w_); intro w_ hO; (first | (simp only [Value.cells] at hO; rw [hput_] at hO) | simp only [List.set_cons_zero, List.set_cons_succ, putAllA, Value.cells, List.setIfInBounds_toArray] at hO))
    | (go_at_call 17; (with_reducible refine (HC.out _).mono ?_); rintro e w_ ⟨rfl, hb_⟩; replace hO := Own.call hO hb_; clear hb_)
                )
                go_ret2
                exact .inl ⟨by rw [HZ.out, HX.out]; decide, by rw [HZ.out, HX.out]; rfl, hO.bel⟩
              · rcases Decidable.em (600 < th) with d2 | d2
                · rw [if_pos (.inr d2)] at HE
                  have HX := Lib.hid (HBad.out (by rw [HE]; decide))
                  rw [HE] at HX
                  replace d1 := decide_eq_false d1
                  replace d2 := decide_eq_true d2
                  clear HE
                  go_wp2_with (first
    | ((with_reducible refine gate_load 53 rfl ?_); refine rng_load_row rfl 53 _ rfl (range_below HR.out hO.bel) rfl _ rfl _ Tryd.underlying53 rfl (by kernel_rfl) ?_)
    | ((with_reducible refine gate_alloc 53 rfl ?_); refine own_alloc rfl 53 rfl hO _ rfl #[.int .i64 0, .int .i64 0, .int .i64 0, .int .i64 0] (by kernel_rfl) ?_; clear hO; (try clear w_); intro g_ w_ hO)
    | ((with_reducible refine gate_box 53 rfl ?_); refine own_box rfl 53 _ rfl hO _ rfl ?_ ?_ ?_; rotate_left; (focus (first | (go_simp; done) | (go_simp; with_reducible rfl) | rfl)); clear hO; (try clear w_); intro g_ w_ hO; simp only [Value.cells] at hO)
    | ((with_reducible refine gate_load 53 rfl ?_); (first | refine own_load_row rfl 53 _ rfl hO 0 _ _ rfl _ _ rfl _ rfl 4 ?_ ?_ ?_ _ Tryd.underlying53 rfl ?_ ?_); rotate_left; (focus (first | (with_reducible exact hrow_) | (with_reducible exact hrow2_) | (simp only [Array.toList_extract, List.extract_toArray, List.extract_eq_take_drop, List.drop_zero, List.drop_succ_cons, List.take_succ_cons, List.take_zero, Nat.reduceAdd, Nat.reduceSub, Nat.zero_add, Nat.add_zero, Nat.add_sub_cancel_left, Nat.sub_zero, Nat.sub_self]; rfl))); (focus rfl); (focus kernel_rfl))
    | ((with_reducible refine gate_store 53 rfl ?_); (first | refine own_store rfl 53 _ _ rfl hO 0 _ _ ?_ rfl ?_ _ _ rfl _ rfl ?_ ?_ ?_ ?_); rotate_left; (focus (first | (go_simp; done) | (go_simp; with_reducible rfl) | rfl)); (focus (first | (exact hble_) | kernel_rfl)); (focus kernel_rfl); (focus kernel_rfl); clear hO; (try clear w_); intro w_ hO; (first | (simp only [Value.cells] at hO; rw [hput_] at hO) | simp only [List.set_cons_zero, List.set_cons_succ, putAllA, Value.cells, List.setIfInBounds_toArray] at hO))
    | ((with_reducible refine gate_alloc 3 rfl ?_); refine own_alloc rfl 3 rfl hO _ rfl #[.int .i64 0] (by kernel_rfl) ?_; clear hO; (try clear w_); intro g_ w_ hO)
    | ((with_reducible refine gate_box 3 rfl ?_); refine own_box rfl 3 _ rfl hO _ rfl ?_ ?_ ?_; rotate_left; (focus (first | (go_simp; done) | (go_simp; with_reducible rfl) | rfl)); clear hO; (try clear w_); intro g_ w_ hO; simp only [Value.cells] at hO)
    | ((with_reducible refine gate_load 3 rfl ?_); (first | refine own_load_one rfl 3 _ rfl hO 0 _ _ rfl _ _ rfl _ rfl ?_ ?_ _ Tryd.underlying3 rfl ?_); rotate_left; (focus (first | (with_reducible exact hcell_) | (simp only [List.getElem?_toArray, List.getElem?_cons_zero, List.getElem?_cons_succ]; rfl))))
    | ((with_reducible refine gate_store 3 rfl ?_); (first | refine own_store rfl 3 _ _ rfl hO 0 _ _ ?_ rfl ?_ _ _ rfl _ rfl ?_ ?_ ?_ ?_); rotate_left; (focus (first | (go_simp; done) | (go_simp; with_reducible rfl) | rfl)); (focus (first | (exact hble_) | kernel_rfl)); (focus kernel_rfl); (focus kernel_rfl); clear hO; (try clear w_); intro w_ hO; (first | (simp only [Value.cells] at hO; rw [hput_] at hO) | simp only [List.set_cons_zero, List.set_cons_succ, putAllA, Value.cells, List.setIfInBounds_toArray] at hO))
    | ((with_reducible refine gate_alloc 51 rfl ?_); refine own_alloc rfl 51 rfl hO _ rfl #[.int .i64 0, .int .i64 0, .int .i64 0] (by kernel_rfl) ?_; clear hO; (try clear w_); intro g_ w_ hO)
    | ((with_reducible refine gate_box 51 rfl ?_); refine own_box rfl 51 _ rfl hO _ rfl ?_ ?_ ?_; rotate_left; (focus (first | (go_simp; done) | (go_simp; with_reducible rfl) | rfl)); clear hO; (try clear w_); intro g_ w_ hO; simp only [Value.cells] at hO)
    | ((with_reducible refine gate_load 51 rfl ?_); (first | refine own_load_row rfl 51 _ rfl hO 0 _ _ rfl _ _ rfl _ rfl 3 ?_ ?_ ?_ _ Tryd.underlying51 rfl ?_ ?_); rotate_left; (focus (first | (with_reducible exact hrow_) | (with_reducible exact hrow2_) | (simp only [Array.toList_extract, List.extract_toArray, List.extract_eq_take_drop, List.drop_zero, List.drop_succ_cons, List.take_succ_cons, List.take_zero, Nat.reduceAdd, Nat.reduceSub, Nat.zero_add, Nat.add_zero, Nat.add_sub_cancel_left, Nat.sub_zero, Nat.sub_self]; rfl))); (focus rfl); (focus kernel_rfl))
    | ((with_reducible refine gate_store 51 rfl ?_); (first | refine own_store rfl 51 _ _ rfl hO 0 _ _ ?_ rfl ?_ _ _ rfl _ rfl ?_ ?_ ?_ ?_); rotate_left; (focus (first | (go_simp; done) | (go_simp; with_reducible rfl) | rfl)); (focus (first | (exact hble_) | kernel_rfl)); (focus kernel_rfl); (focus kernel_rfl); clear hO; (try clear w_); intro w_ hO; (first | (simp only [Value.cells] at hO; rw [hput_] at hO) | simp only [List.set_cons_zero, List.set_cons_succ, putAllA, Value.cells, List.setIfInBounds_toArray] at hO))
    | (go_at_call 17; (with_reducible refine (HC.out _).mono ?_); rintro e w_ ⟨rfl, hb_⟩; replace hO := Own.call hO hb_; clear hb_)
                  )
                  go_ret2
                  exact .inl ⟨by rw [HZ.out, HX.out]; decide, by rw [HZ.out, HX.out]; rfl, hO.bel⟩
                · rw [if_neg (by omega)] at HE
                  replace d1 := decide_eq_false d1
                  replace d2 := decide_eq_false d2
                  by_cases d3 : e3 = 0
                  · subst d3
                    have HX := Lib.hid (HOk.out HE)
                    clear HE
                    go_wp2_with (first
    | ((with_reducible refine gate_load 53 rfl ?_); refine rng_load_row rfl 53 _ rfl (range_below HR.out hO.bel) rfl _ rfl _ Tryd.underlying53 rfl (by kernel_rfl) ?_)
    | ((with_reducible refine gate_alloc 53 rfl ?_); refine own_alloc rfl 53 rfl hO _ rfl #[.int .i64 0, .int .i64 0, .int .i64 0, .int .i64 0] (by kernel_rfl) ?_; clear hO; (try clear w_); intro g_ w_ hO)
    | ((with_reducible refine gate_box 53 rfl ?_); refine own_box rfl 53 _ rfl hO _ rfl ?_ ?_ ?_; rotate_left; (focus (first | (go_simp; done) | (go_simp; with_reducible rfl) | rfl)); clear hO; (try clear w_); intro g_ w_ hO; simp only [Value.cells] at hO)
    | ((with_reducible refine gate_load 53 rfl ?_); (first | refine own_load_row rfl 53 _ rfl hO 0 _ _ rfl _ _ rfl _ rfl 4 ?_ ?_ ?_ _ Tryd.underlying53 rfl ?_ ?_); rotate_left; (focus (first | (with_reducible exact hrow_) | (with_reducible exact hrow2_) | (simp only [Array.toList_extract, List.extract_toArray, List.extract_eq_take_drop, List.drop_zero, List.drop_succ_cons, List.take_succ_cons, List.take_zero, Nat.reduceAdd, Nat.reduceSub, Nat.zero_add, Nat.add_zero, Nat.add_sub_cancel_left, Nat.sub_zero, Nat.sub_self]; rfl))); (focus rfl); (focus kernel_rfl))
    | ((with_reducible refine gate_store 53 rfl ?_); (first | refine own_store rfl 53 _ _ rfl hO 0 _ _ ?_ rfl ?_ _ _ rfl _ rfl ?_ ?_ ?_ ?_); rotate_left; (focus (first | (go_simp; done) | (go_simp; with_reducible rfl) | rfl)); (focus (first | (exact hble_) | kernel_rfl)); (focus kernel_rfl); (focus kernel_rfl); clear hO; (try clear w_); intro w_ hO; (first | (simp only [Value.cells] at hO; rw [hput_] at hO) | simp only [List.set_cons_zero, List.set_cons_succ, putAllA, Value.cells, List.setIfInBounds_toArray] at hO))
    | ((with_reducible refine gate_alloc 3 rfl ?_); refine own_alloc rfl 3 rfl hO _ rfl #[.int .i64 0] (by kernel_rfl) ?_; clear hO; (try clear w_); intro g_ w_ hO)
    | ((with_reducible refine gate_box 3 rfl ?_); refine own_box rfl 3 _ rfl hO _ rfl ?_ ?_ ?_; rotate_left; (focus (first | (go_simp; done) | (go_simp; with_reducible rfl) | rfl)); clear hO; (try clear w_); intro g_ w_ hO; simp only [Value.cells] at hO)
    | ((with_reducible refine gate_load 3 rfl ?_); (first | refine own_load_one rfl 3 _ rfl hO 0 _ _ rfl _ _ rfl _ rfl ?_ ?_ _ Tryd.underlying3 rfl ?_); rotate_left; (focus (first | (with_reducible exact hcell_) | (simp only [List.getElem?_toArray, List.getElem?_cons_zero, List.getElem?_cons_succ]; rfl))))
    | ((with_reducible refine gate_store 3 rfl ?_); (first | refine own_store rfl 3 _ _ rfl hO 0 _ _ ?_ rfl ?_ _ _ rfl _ rfl ?_ ?_ ?_ ?_); rotate_left; (focus (first | (go_simp; done) | (go_simp; with_reducible rfl) | rfl)); (focus (first | (exact hble_) | kernel_rfl)); (focus kernel_rfl); (focus kernel_rfl); clear hO; (try clear w_); intro w_ hO; (first | (simp only [Value.cells] at hO; rw [hput_] at hO) | simp only [List.set_cons_zero, List.set_cons_succ, putAllA, Value.cells, List.setIfInBounds_toArray] at hO))
    | ((with_reducible refine gate_alloc 51 rfl ?_); refine own_alloc rfl 51 rfl hO _ rfl #[.int .i64 0, .int .i64 0, .int .i64 0] (by kernel_rfl) ?_; clear hO; (try clear w_); intro g_ w_ hO)
    | ((with_reducible refine gate_box 51 rfl ?_); refine own_box rfl 51 _ rfl hO _ rfl ?_ ?_ ?_; rotate_left; (focus (first | (go_simp; done) | (go_simp; with_reducible rfl) | rfl)); clear hO; (try clear w_); intro g_ w_ hO; simp only [Value.cells] at hO)
    | ((with_reducible refine gate_load 51 rfl ?_); (first | refine own_load_row rfl 51 _ rfl hO 0 _ _ rfl _ _ rfl _ rfl 3 ?_ ?_ ?_ _ Tryd.underlying51 rfl ?_ ?_); rotate_left; (focus (first | (with_reducible exact hrow_) | (with_reducible exact hrow2_) | (simp only [Array.toList_extract, List.extract_toArray, List.extract_eq_take_drop, List.drop_zero, List.drop_succ_cons, List.take_succ_cons, List.take_zero, Nat.reduceAdd, Nat.reduceSub, Nat.zero_add, Nat.add_zero, Nat.add_sub_cancel_left, Nat.sub_zero, Nat.sub_self]; rfl))); (focus rfl); (focus kernel_rfl))
    | ((with_reducible refine gate_store 51 rfl ?_); (first | refine own_store rfl 51 _ _ rfl hO 0 _ _ ?_ rfl ?_ _ _ rfl _ rfl ?_ ?_ ?_ ?_); rotate_left; (focus (first | (go_simp; done) | (go_simp; with_reducible rfl) | rfl)); (focus (first | (exact hble_) | kernel_rfl)); (focus kernel_rfl); (focus kernel_rfl); clear hO; (try clear w_); intro w_ hO; (first | (simp only [Value.cells] at hO; rw [hput_] at hO) | simp only [List.set_cons_zero, List.set_cons_succ, putAllA, Value.cells, List.setIfInBounds_toArray] at hO))
    | (go_at_call 17; (with_reducible refine (HC.out _).mono ?_); rintro e w_ ⟨rfl, hb_⟩; replace hO := Own.call hO hb_; clear hb_)
                    )
                    go_roundw
                    case rel => exact ⟨k + 1, by omega, by go_num, HX.out, hO.sub (List.Sublist.cons _ (List.Sublist.refl _))⟩
                    case measure => simp [intOf]; omega
                  · have HX := Lib.hid (HBad.out (by rw [HE]; exact d3))
                    rw [HE] at HX
                    have D3 := Lib.hid d3
                    have q3 : (e3 != 0) = true := by simpa using d3
                    clear HE d3
                    go_wp2_with (first
    | ((with_reducible refine gate_load 53 rfl ?_); refine rng_load_row rfl 53 _ rfl (range_below HR.out hO.bel) rfl _ rfl _ Tryd.underlying53 rfl (by kernel_rfl) ?_)
    | ((with_reducible refine gate_alloc 53 rfl ?_); refine own_alloc rfl 53 rfl hO _ rfl #[.int .i64 0, .int .i64 0, .int .i64 0, .int .i64 0] (by kernel_rfl) ?_; clear hO; (try clear w_); intro g_ w_ hO)
    | ((with_reducible refine gate_box 53 rfl ?_); refine own_box rfl 53 _ rfl hO _ rfl ?_ ?_ ?_; rotate_left; (focus (first | (go_simp; done) | (go_simp; with_reducible rfl) | rfl)); clear hO; (try clear w_); intro g_ w_ hO; simp only [Value.cells] at hO)
    | ((with_reducible refine gate_load 53 rfl ?_); (first | refine own_load_row rfl 53 _ rfl hO 0 _ _ rfl _ _ rfl _ rfl 4 ?_ ?_ ?_ _ Tryd.underlying53 rfl ?_ ?_); rotate_left; (focus (first | (with_reducible exact hrow_) | (with_reducible exact hrow2_) | (simp only [Array.toList_extract, List.extract_toArray, List.extract_eq_take_drop, List.drop_zero, List.drop_succ_cons, List.take_succ_cons, List.take_zero, Nat.reduceAdd, Nat.reduceSub, Nat.zero_add, Nat.add_zero, Nat.add_sub_cancel_left, Nat.sub_zero, Nat.sub_self]; rfl))); (focus rfl); (focus kernel_rfl))
    | ((with_reducible refine gate_store 53 rfl ?_); (first | refine own_store rfl 53 _ _ rfl hO 0 _ _ ?_ rfl ?_ _ _ rfl _ rfl ?_ ?_ ?_ ?_); rotate_left; (focus (first | (go_simp; done) | (go_simp; with_reducible rfl) | rfl)); (focus (first | (exact hble_) | kernel_rfl)); (focus kernel_rfl); (focus kernel_rfl); clear hO; (try clear w_); intro w_ hO; (first | (simp only [Value.cells] at hO; rw [hput_] at hO) | simp only [List.set_cons_zero, List.set_cons_succ, putAllA, Value.cells, List.setIfInBounds_toArray] at hO))
    | ((with_reducible refine gate_alloc 3 rfl ?_); refine own_alloc rfl 3 rfl hO _ rfl #[.int .i64 0] (by kernel_rfl) ?_; clear hO; (try clear w_); intro g_ w_ hO)
    | ((with_reducible refine gate_box 3 rfl ?_); refine own_box rfl 3 _ rfl hO _ rfl ?_ ?_ ?_; rotate_left; (focus (first | (go_simp; done) | (go_simp; with_reducible rfl) | rfl)); clear hO; (try clear w_); intro g_ w_ hO; simp only [Value.cells] at hO)
    | ((with_reducible refine gate_load 3 rfl ?_); (first | refine own_load_one rfl 3 _ rfl hO 0 _ _ rfl _ _ rfl _ rfl ?_ ?_ _ Tryd.underlying3 rfl ?_); rotate_left; (focus (first | (with_reducible exact hcell_) | (simp only [List.getElem?_toArray, List.getElem?_cons_zero, List.getElem?_cons_succ]; rfl))))
    | ((with_reducible refine gate_store 3 rfl ?_); (first | refine own_store rfl 3 _ _ rfl hO 0 _ _ ?_ rfl ?_ _ _ rfl _ rfl ?_ ?_ ?_ ?_); rotate_left; (focus (first | (go_simp; done) | (go_simp; with_reducible rfl) | rfl)); (focus (first | (exact hble_) | kernel_rfl)); (focus kernel_rfl); (focus kernel_rfl); clear hO; (try clear w_); intro w_ hO; (first | (simp only [Value.cells] at hO; rw [hput_] at hO) | simp only [List.set_cons_zero, List.set_cons_succ, putAllA, Value.cells, List.setIfInBounds_toArray] at hO))
    | ((with_reducible refine gate_alloc 51 rfl ?_); refine own_alloc rfl 51 rfl hO _ rfl #[.int .i64 0, .int .i64 0, .int .i64 0] (by kernel_rfl) ?_; clear hO; (try clear w_); intro g_ w_ hO)
    | ((with_reducible refine gate_box 51 rfl ?_); refine own_box rfl 51 _ rfl hO _ rfl ?_ ?_ ?_; rotate_left; (focus (first | (go_simp; done) | (go_simp; with_reducible rfl) | rfl)); clear hO; (try clear w_); intro g_ w_ hO; simp only [Value.cells] at hO)
    | ((with_reducible refine gate_load 51 rfl ?_); (first | refine own_load_row rfl 51 _ rfl hO 0 _ _ rfl _ _ rfl _ rfl 3 ?_ ?_ ?_ _ Tryd.underlying51 rfl ?_ ?_); rotate_left; (focus (first | (with_reducible exact hrow_) | (with_reducible exact hrow2_) | (simp only [Array.toList_extract, List.extract_toArray, List.extract_eq_take_drop, List.drop_zero, List.drop_succ_cons, List.take_succ_cons, List.take_zero, Nat.reduceAdd, Nat.reduceSub, Nat.zero_add, Nat.add_zero, Nat.add_sub_cancel_left, Nat.sub_zero, Nat.sub_self]; rfl))); (focus rfl); (focus kernel_rfl))
    | ((with_reducible refine gate_store 51 rfl ?_); (first | refine own_store rfl 51 _ _ rfl hO 0 _ _ ?_ rfl ?_ _ _ rfl _ rfl ?_ ?_ ?_ ?_); rotate_left; (focus (first | (go_simp; done) | (go_simp; with_reducible rfl) | rfl)); (focus (first | (exact hble_) | kernel_rfl)); (focus kernel_rfl); (focus kernel_rfl); clear hO; (try clear w_); intro w_ hO; (first | (simp only [Value.cells] at hO; rw [hput_] at hO) | simp only [List.set_cons_zero, List.set_cons_succ, putAllA, Value.cells, List.setIfInBounds_toArray] at hO))
    | (go_at_call 17; (with_reducible refine (HC.out _).mono ?_); rintro e w_ ⟨rfl, hb_⟩; replace hO := Own.call hO hb_; clear hb_)
                    )
                    go_ret2
                    exact .inl ⟨by rw [HZ.out, HX.out]; exact D3.out, by rw [HZ.out, HX.out]; rfl, hO.bel⟩
            · obtain rfl : k = l.length := by omega
              rw [List.take_length] at hall
              have HX : Hid (Z = 0) := Lib.hid (by rw [← HI.out, itemsZ_all l hall])
              clear hall
              go_upto_region 21 with (first
    | ((with_reducible refine gate_alloc 22 rfl ?_); refine own_alloc rfl 22 rfl hO _ rfl #[.slice none 0 0] (by kernel_rfl) ?_; clear hO; (try clear w_); intro g_ w_ hO)
    | ((with_reducible refine gate_box 22 rfl ?_); refine own_box rfl 22 _ rfl hO _ rfl ?_ ?_ ?_; rotate_left; (focus (first | (go_simp; done) | (go_simp; with_reducible rfl) | rfl)); clear hO; (try clear w_); intro g_ w_ hO; simp only [Value.cells] at hO)
    | ((with_reducible refine gate_load 22 rfl ?_); (first | refine own_load_one rfl 22 _ rfl hO 0 _ _ rfl _ _ rfl _ rfl ?_ ?_ _ Tryd.underlying22 rfl ?_ | refine own_load_one rfl 22 _ rfl hO 1 _ _ rfl _ _ rfl _ rfl ?_ ?_ _ Tryd.underlying22 rfl ?_ | refine own_load_one rfl 22 _ rfl hO 2 _ _ rfl _ _ rfl _ rfl ?_ ?_ _ Tryd.underlying22 rfl ?_); rotate_left; (focus (first | (with_reducible exact hcell_) | (simp only [List.getElem?_toArray, List.getElem?_cons_zero, List.getElem?_cons_succ]; rfl))))
    | ((with_reducible refine gate_store 22 rfl ?_); (first | refine own_store rfl 22 _ _ rfl hO 0 _ _ ?_ rfl ?_ _ _ rfl _ rfl ?_ ?_ ?_ ?_ | refine own_store rfl 22 _ _ rfl hO 1 _ _ ?_ rfl ?_ _ _ rfl _ rfl ?_ ?_ ?_ ?_ | refine own_store rfl 22 _ _ rfl hO 2 _ _ ?_ rfl ?_ _ _ rfl _ rfl ?_ ?_ ?_ ?_); rotate_left; (focus (first | (go_simp; done) | (go_simp; with_reducible rfl) | rfl)); (focus (first | (exact hble_) | kernel_rfl)); (focus kernel_rfl); (focus kernel_rfl); clear hO; (try clear w_); intro w_ hO; (first | (simp only [Value.cells] at hO; rw [hput_] at hO) | simp only [List.set_cons_zero, List.set_cons_succ, putAllA, Value.cells, List.setIfInBounds_toArray] at hO))
    | (go_at_call 42; (with_reducible refine (clone_stages ⟨bs, os, none⟩ vd st _ hst.out.1 hst.out.2 (Lib.hid (RepQ.addr (fun j u h => (hO.bel.cell (World.block_lt_of_cell? w _ (HcS.out j u h))).trans (HcS.out j u h))))).mono ?_); rintro e w_ ⟨gs, cs, pads, rfl, hO1⟩; replace hO := Own.join hO hO1; clear hO1; simp only [List.cons_append, List.nil_append] at hO)
    | ((with_reducible refine gate_alloc 22 rfl ?_); refine own_alloc rfl 22 rfl hO _ rfl #[.slice none 0 0] (by kernel_rfl) ?_; clear hO; (try clear w_); intro g_ w_ hO)
    | ((with_reducible refine gate_box 22 rfl ?_); refine own_box rfl 22 _ rfl hO _ rfl ?_ ?_ ?_; rotate_left; (focus (first | (go_simp; done) | (go_simp; with_reducible rfl) | rfl)); clear hO; (try clear w_); intro g_ w_ hO; simp only [Value.cells] at hO)
    | ((with_reducible refine gate_load 22 rfl ?_); (first | refine own_load_one rfl 22 _ rfl hO 0 _ _ rfl _ _ rfl _ rfl ?_ ?_ _ Tryd.underlying22 rfl ?_ | refine own_load_one rfl 22 _ rfl hO 1 _ _ rfl _ _ rfl _ rfl ?_ ?_ _ Tryd.underlying22 rfl ?_ | refine own_load_one rfl 22 _ rfl hO 2 _ _ rfl _ _ rfl _ rfl ?_ ?_ _ Tryd.underlying22 rfl ?_ | refine own_load_one rfl 22 _ rfl hO 3 _ _ rfl _ _ rfl _ rfl ?_ ?_ _ Tryd.underlying22 rfl ?_); rotate_left; (focus (first | (with_reducible exact hcell_) | (simp only [List.getElem?_toArray, List.getElem?_cons_zero, List.getElem?_cons_succ]; rfl))))
    | ((with_reducible refine gate_store 22 rfl ?_); (first | refine own_store rfl 22 _ _ rfl hO 0 _ _ ?_ rfl ?_ _ _ rfl _ rfl ?_ ?_ ?_ ?_ | refine own_store rfl 22 _ _ rfl hO 1 _ _ ?_ rfl ?_ _ _ rfl _ rfl ?_ ?_ ?_ ?_ | refine own_store rfl 22 _ _ rfl hO 2 _ _ ?_ rfl ?_ _ _ rfl _ rfl ?_ ?_ ?_ ?_ | refine own_store rfl 22 _ _ rfl hO 3 _ _ ?_ rfl ?_ _ _ rfl _ rfl ?_ ?_ ?_ ?_); rotate_left; (focus (first | (go_simp; done) | (go_simp; with_reducible rfl) | rfl)); (focus (first | (exact hble_) | kernel_rfl)); (focus kernel_rfl); (focus kernel_rfl); clear hO; (try clear w_); intro w_ hO; (first | (simp only [Value.cells] at hO; rw [hput_] at hO) | simp only [List.set_cons_zero, List.set_cons_succ, putAllA, Value.cells, List.setIfInBounds_toArray] at hO))
              )
              (try simp only [Act.put, List.setIfInBounds_toArray, List.set_cons_zero, List.set_cons_succ])
              refine start_ (n := 9) (S := fun w' => Own w [(gs, 65, (flat q4 st ++ pads).toArray), (gsp, 26, #[.string n, .int .i64 a0, .int .i64 a1, .int .i64 a2, .int .i64 a3, .int .i64 a4, .int .i64 a5, .int .i64 a6, .int .i64 a7, .int .i64 a8, .int .i64 a9, .int .i64 a10, .int .i64 a11]), (g4, 26, #[.string n, .int .i64 a0, .int .i64 a1, .int .i64 a2, .int .i64 a3, .int .i64 a4, .int .i64 a5, .int .i64 a6, .int .i64 a7, .int .i64 a8, .int .i64 a9, .int .i64 a10, .int .i64 a11]), (g3, 24, #[.string pn, .int .i64 ramp, .slice (some ⟨gs, 0, none⟩) st.length cs])] w') (ds := []) #[false, false, false, false, false, false, false, false, false] (by kernel_rfl) rfl rfl (Own.drew hO) (fun hS => ?_)
              clear hO
              have hO := hS
              first
                | (refine take_ (i := 0) (N := some 55) (a' := ?_) #[true, false, false, false, false, false, false, false, false] rfl rfl (by kernel_rfl) (fun _ _ _ h => h) (yRow hS ?_ 24 _ rfl 0 _ _ rfl _ _ rfl 3 ?_ ?_ ?_ _ Tryd.underlying24 rfl ?_) hS ?_ ?_; (focus rfl); rotate_left; (focus (first | (with_reducible exact hrow_) | (with_reducible exact hrow2_) | (simp only [Array.toList_extract, List.extract_toArray, List.extract_eq_take_drop, List.drop_zero, List.drop_succ_cons, List.take_succ_cons, List.take_zero, Nat.reduceAdd, Nat.reduceSub, Nat.zero_add, Nat.add_zero, Nat.add_sub_cancel_left, Nat.sub_zero, Nat.sub_self]; rfl))); (focus rfl); (focus kernel_rfl); rotate_left; (focus (simp only [Act.put, List.setIfInBounds_toArray, List.set_cons_zero, List.set_cons_succ]; rfl)))
                | (refine take_ (i := 0) (N := some 55) (a' := ?_) #[true, false, false, false, false, false, false, false, false] rfl rfl (by kernel_rfl) (fun _ _ _ h => h) (yRow hS ?_ 24 _ rfl 1 _ _ rfl _ _ rfl 3 ?_ ?_ ?_ _ Tryd.underlying24 rfl ?_) hS ?_ ?_; (focus rfl); rotate_left; (focus (first | (with_reducible exact hrow_) | (with_reducible exact hrow2_) | (simp only [Array.toList_extract, List.extract_toArray, List.extract_eq_take_drop, List.drop_zero, List.drop_succ_cons, List.take_succ_cons, List.take_zero, Nat.reduceAdd, Nat.reduceSub, Nat.zero_add, Nat.add_zero, Nat.add_sub_cancel_left, Nat.sub_zero, Nat.sub_self]; rfl))); (focus rfl); (focus kernel_rfl); rotate_left; (focus (simp only [Act.put, List.setIfInBounds_toArray, List.set_cons_zero, List.set_cons_succ]; rfl)))
                | (refine take_ (i := 0) (N := some 55) (a' := ?_) #[true, false, false, false, false, false, false, false, false] rfl rfl (by kernel_rfl) (fun _ _ _ h => h) (yRow hS ?_ 24 _ rfl 2 _ _ rfl _ _ rfl 3 ?_ ?_ ?_ _ Tryd.underlying24 rfl ?_) hS ?_ ?_; (focus rfl); rotate_left; (focus (first | (with_reducible exact hrow_) | (with_reducible exact hrow2_) | (simp only [Array.toList_extract, List.extract_toArray, List.extract_eq_take_drop, List.drop_zero, List.drop_succ_cons, List.take_succ_cons, List.take_zero, Nat.reduceAdd, Nat.reduceSub, Nat.zero_add, Nat.add_zero, Nat.add_sub_cancel_left, Nat.sub_zero, Nat.sub_self]; rfl))); (focus rfl); (focus kernel_rfl); rotate_left; (focus (simp only [Act.put, List.setIfInBounds_toArray, List.set_cons_zero, List.set_cons_succ]; rfl)))
                | (refine take_ (i := 0) (N := some 55) (a' := ?_) #[true, false, false, false, false, false, false, false, false] rfl rfl (by kernel_rfl) (fun _ _ _ h => h) (yRow hS ?_ 24 _ rfl 3 _ _ rfl _ _ rfl 3 ?_ ?_ ?_ _ Tryd.underlying24 rfl ?_) hS ?_ ?_; (focus rfl); rotate_left; (focus (first | (with_reducible exact hrow_) | (with_reducible exact hrow2_) | (simp only [Array.toList_extract, List.extract_toArray, List.extract_eq_take_drop, List.drop_zero, List.drop_succ_cons, List.take_succ_cons, List.take_zero, Nat.reduceAdd, Nat.reduceSub, Nat.zero_add, Nat.add_zero, Nat.add_sub_cancel_left, Nat.sub_zero, Nat.sub_self]; rfl))); (focus rfl); (focus kernel_rfl); rotate_left; (focus (simp only [Act.put, List.setIfInBounds_toArray, List.set_cons_zero, List.set_cons_succ]; rfl)))
              first
                | (refine take_ (i := 1) (N := some 56) (a' := ?_) #[true, true, false, false, false, false, false, false, false] rfl rfl (by kernel_rfl) (fun _ _ _ h => h) (yRow hS ?_ 26 _ rfl 0 _ _ rfl _ _ rfl 13 ?_ ?_ ?_ _ Tryd.underlying26 rfl ?_) hS ?_ ?_; (focus rfl); rotate_left; (focus (first | (with_reducible exact hrow_) | (with_reducible exact hrow2_) | (simp only [Array.toList_extract, List.extract_toArray, List.extract_eq_take_drop, List.drop_zero, List.drop_succ_cons, List.take_succ_cons, List.take_zero, Nat.reduceAdd, Nat.reduceSub, Nat.zero_add, Nat.add_zero, Nat.add_sub_cancel_left, Nat.sub_zero, Nat.sub_self]; rfl))); (focus rfl); (focus kernel_rfl); rotate_left; (focus (simp only [Act.put, List.setIfInBounds_toArray, List.set_cons_zero, List.set_cons_succ]; rfl)))
                | (refine take_ (i := 1) (N := some 56) (a' := ?_) #[true, true, false, false, false, false, false, false, false] rfl rfl (by kernel_rfl) (fun _ _ _ h => h) (yRow hS ?_ 26 _ rfl 1 _ _ rfl _ _ rfl 13 ?_ ?_ ?_ _ Tryd.underlying26 rfl ?_) hS ?_ ?_; (focus rfl); rotate_left; (focus (first | (with_reducible exact hrow_) | (with_reducible exact hrow2_) | (simp only [Array.toList_extract, List.extract_toArray, List.extract_eq_take_drop, List.drop_zero, List.drop_succ_cons, List.take_succ_cons, List.take_zero, Nat.reduceAdd, Nat.reduceSub, Nat.zero_add, Nat.add_zero, Nat.add_sub_cancel_left, Nat.sub_zero, Nat.sub_self]; rfl))); (focus rfl); (focus kernel_rfl); rotate_left; (focus (simp only [Act.put, List.setIfInBounds_toArray, List.set_cons_zero, List.set_cons_succ]; rfl)))
                | (refine take_ (i := 1) (N := some 56) (a' := ?_) #[true, true, false, false, false, false, false, false, false] rfl rfl (by kernel_rfl) (fun _ _ _ h => h) (yRow hS ?_ 26 _ rfl 2 _ _ rfl _ _ rfl 13 ?_ ?_ ?_ _ Tryd.underlying26 rfl ?_) hS ?_ ?_; (focus rfl); rotate_left; (focus (first | (with_reducible exact hrow_) | (with_reducible exact hrow2_) | (simp only [Array.toList_extract, List.extract_toArray, List.extract_eq_take_drop, List.drop_zero, List.drop_succ_cons, List.take_succ_cons, List.take_zero, Nat.reduceAdd, Nat.reduceSub, Nat.zero_add, Nat.add_zero, Nat.add_sub_cancel_left, Nat.sub_zero, Nat.sub_self]; rfl))); (focus rfl); (focus kernel_rfl); rotate_left; (focus (simp only [Act.put, List.setIfInBounds_toArray, List.set_cons_zero, List.set_cons_succ]; rfl)))
                | (refine take_ (i := 1) (N := some 56) (a' := ?_) #[true, true, false, false, false, false, false, false, false] rfl rfl (by kernel_rfl) (fun _ _ _ h => h) (yRow hS ?_ 26 _ rfl 3 _ _ rfl _ _ rfl 13 ?_ ?_ ?_ _ Tryd.underlying26 rfl ?_) hS ?_ ?_; (focus rfl); rotate_left; (focus (first | (with_reducible exact hrow_) | (with_reducible exact hrow2_) | (simp only [Array.toList_extract, List.extract_toArray, List.extract_eq_take_drop, List.drop_zero, List.drop_succ_cons, List.take_succ_cons, List.take_zero, Nat.reduceAdd, Nat.reduceSub, Nat.zero_add, Nat.add_zero, Nat.add_sub_cancel_left, Nat.sub_zero, Nat.sub_self]; rfl))); (focus rfl); (focus kernel_rfl); rotate_left; (focus (simp only [Act.put, List.setIfInBounds_toArray, List.set_cons_zero, List.set_cons_succ]; rfl)))
              refine pure_ (i := 2) (N := some 57) (v := ?_) (a' := ?_) #[true, true, true, false, false, false, false, false, false] rfl rfl (by kernel_rfl) (fun _ _ _ h => h) (Or.inl ⟨by rfl, ?_⟩) ?_ ?_
              rotate_left
              · intro w'
                go_simp
                with_reducible rfl
              rotate_left
              · simp only [Act.put, List.setIfInBounds_toArray, List.set_cons_zero, List.set_cons_succ]
                rfl
              refine one_ (i := 3) (N := some 58) #[true, true, true, true, false, false, false, false, false] rfl rfl (by kernel_rfl) (by decide) (fun K hK => ?_)
              refine goes_ Tryd.func39 (by kernel_rfl) rfl #[.slice (some ⟨b, o, none⟩) l.length vc] (by rfl) rfl rfl (by (try simp only [List.map_toArray, List.map_cons, List.map_nil]); first | done | rfl) ?_
              with_reducible refine (clone_items ⟨b, o, none⟩ vc l _ hl1 hl2 (Lib.hid (RepQ.addr (fun j u h => (hO.bel.cell (World.block_lt_of_cell? w _ (hc.out j u h))).trans (hc.out j u h))))).mono ?_
              rintro e w_ ⟨gi, ci, pad, rfl, hO1⟩
              refine ⟨_, rfl, ?_⟩
              replace hO := Own.join hO hO1
              clear hO1
              simp only [List.cons_append, List.nil_append] at hO
              refine hK.out _ _ (Own.sub hO (List.Sublist.cons _ (List.Sublist.refl _))) (fun hS => ?_)
              clear hK K
              refine norm_ (a' := ?_) ?_ ?_
              rotate_left
              · show Act.put _ (some 58) _ = _
                simp only [Act.put, List.setIfInBounds_toArray, List.set_cons_zero, List.set_cons_succ]
                rfl
              refine one_ (i := 4) (N := some 59) #[true, true, true, true, true, false, false, false, false] rfl rfl (by kernel_rfl) (by decide) (fun K hK => ?_)
              refine goes_ Tryd.func43 (by kernel_rfl) rfl #[] (by rfl) rfl rfl (by (try simp only [List.map_toArray, List.map_cons, List.map_nil]); first | done | rfl) ?_
              with_reducible refine (outside_any _).mono ?_
              rintro e w_ ⟨rfl, hb_⟩
              refine ⟨_, rfl, ?_⟩
              replace hO := Own.call hO hb_
              clear hb_
              refine hK.out _ _ (Own.sub hO (List.Sublist.cons _ (List.Sublist.refl _))) (fun hS => ?_)
              clear hK K
              refine norm_ (a' := ?_) ?_ ?_
              rotate_left
              · show Act.put _ (some 59) _ = _
                simp only [Act.put, List.setIfInBounds_toArray, List.set_cons_zero, List.set_cons_succ]
                rfl
              refine pure_ (i := 5) (N := some 60) (v := ?_) (a' := ?_) #[true, true, true, true, true, true, false, false, false] rfl rfl (by kernel_rfl) (fun _ _ _ h => h) (Or.inl ⟨by rfl, ?_⟩) ?_ ?_
              rotate_left
              · intro w'
                go_simp
                with_reducible rfl
              rotate_left
              · simp only [Act.put, List.setIfInBounds_toArray, List.set_cons_zero, List.set_cons_succ]
                rfl
              refine one_ (i := 6) (N := some 61) #[true, true, true, true, true, true, true, false, false] rfl rfl (by kernel_rfl) (by decide) (fun K hK => ?_)
              refine rBox (by rfl) rfl 74 _ rfl hO _ rfl ?_
              clear hO
              intro gk w_ hO
              simp only [Value.cells] at hO
              refine hK.out _ _ (Own.sub hO (List.Sublist.cons _ (List.Sublist.cons _ (List.Sublist.refl _)))) (fun hS => ?_)
              clear hK K
              refine norm_ (a' := ?_) ?_ ?_
              rotate_left
              · show Act.put _ (some 61) _ = _
                simp only [Act.put, List.setIfInBounds_toArray, List.set_cons_zero, List.set_cons_succ]
                rfl
              refine pure_ (i := 7) (N := some 6) (v := ?_) (a' := ?_) #[true, true, true, true, true, true, true, true, false] rfl rfl (by kernel_rfl) (fun _ _ _ h => h) (Or.inl ⟨by rfl, ?_⟩) ?_ ?_
              rotate_left
              · intro w'
                go_simp
                with_reducible rfl
              rotate_left
              · simp only [Act.put, List.setIfInBounds_toArray, List.set_cons_zero, List.set_cons_succ]
                rfl
              refine pure_ (i := 8) (N := some 7) (v := ?_) (a' := ?_) #[true, true, true, true, true, true, true, true, true] rfl rfl (by kernel_rfl) (fun _ _ _ h => h) (Or.inl ⟨by rfl, ?_⟩) ?_ ?_
              rotate_left
              · intro w'
                go_simp
                with_reducible rfl
              rotate_left
              · simp only [Act.put, List.setIfInBounds_toArray, List.set_cons_zero, List.set_cons_succ]
                rfl
              refine done_ (by kernel_rfl) ?_
              go_wp2_with fail
              go_ret2
              exact .inr ⟨by rw [HZ.out, HX.out], gk, gi, ci, pad, gs, cs, pads, rfl, hO.sub (List.Sublist.cons_cons _ (List.Sublist.cons_cons _ (List.Sublist.cons_cons _ (List.nil_sublist _))))⟩
    · rw [if_pos k2] at hZ
      have q1 : (e2 != 0) = true := by simpa using k2
      subst hZ
      have K2 := Lib.hid k2
      clear k2
      go_enter Tryd.func25, Tryd.ntmps25
      go_wp2_with (first
    | ((with_reducible refine gate_alloc 24 rfl ?_); refine own_alloc rfl 24 rfl hO _ rfl #[.string ⟨#[]⟩, .int .i64 0, .slice none 0 0] (by kernel_rfl) ?_; clear hO; (try clear w_); intro g_ w_ hO)
    | ((with_reducible refine gate_box 24 rfl ?_); refine own_box rfl 24 _ rfl hO _ rfl ?_ ?_ ?_; rotate_left; (focus (first | (go_simp; done) | (go_simp; with_reducible rfl) | rfl)); clear hO; (try clear w_); intro g_ w_ hO; simp only [Value.cells] at hO)
    | ((with_reducible refine gate_load 24 rfl ?_); (first | refine own_load_row rfl 24 _ rfl hO 0 _ _ rfl _ _ rfl _ rfl 3 ?_ ?_ ?_ _ Tryd.underlying24 rfl ?_ ?_ | refine own_load_row rfl 24 _ rfl hO 1 _ _ rfl _ _ rfl _ rfl 3 ?_ ?_ ?_ _ Tryd.underlying24 rfl ?_ ?_); rotate_left; (focus (first | (with_reducible exact hrow_) | (with_reducible exact hrow2_) | (simp only [Array.toList_extract, List.extract_toArray, List.extract_eq_take_drop, List.drop_zero, List.drop_succ_cons, List.take_succ_cons, List.take_zero, Nat.reduceAdd, Nat.reduceSub, Nat.zero_add, Nat.add_zero, Nat.add_sub_cancel_left, Nat.sub_zero, Nat.sub_self]; rfl))); (focus rfl); (focus kernel_rfl))
    | ((with_reducible refine gate_store 24 rfl ?_); (first | refine own_store rfl 24 _ _ rfl hO 0 _ _ ?_ rfl ?_ _ _ rfl _ rfl ?_ ?_ ?_ ?_ | refine own_store rfl 24 _ _ rfl hO 1 _ _ ?_ rfl ?_ _ _ rfl _ rfl ?_ ?_ ?_ ?_); rotate_left; (focus (first | (go_simp; done) | (go_simp; with_reducible rfl) | rfl)); (focus (first | (exact hble_) | kernel_rfl)); (focus kernel_rfl); (focus kernel_rfl); clear hO; (try clear w_); intro w_ hO; (first | (simp only [Value.cells] at hO; rw [hput_] at hO) | simp only [List.set_cons_zero, List.set_cons_succ, putAllA, Value.cells, List.setIfInBounds_toArray] at hO))
    | ((with_reducible refine gate_alloc 26 rfl ?_); refine own_alloc rfl 26 rfl hO _ rfl #[.string ⟨#[]⟩, .int .i64 0, .int .i64 0, .int .i64 0, .int .i64 0, .int .i64 0, .int .i64 0, .int .i64 0, .int .i64 0, .int .i64 0, .int .i64 0, .int .i64 0, .int .i64 0] (by kernel_rfl) ?_; clear hO; (try clear w_); intro g_ w_ hO)
    | ((with_reducible refine gate_box 26 rfl ?_); refine own_box rfl 26 _ rfl hO _ rfl ?_ ?_ ?_; rotate_left; (focus (first | (go_simp; done) | (go_simp; with_reducible rfl) | rfl)); clear hO; (try clear w_); intro g_ w_ hO; simp only [Value.cells] at hO)
    | ((with_reducible refine gate_load 26 rfl ?_); (first | refine own_load_row rfl 26 _ rfl hO 0 _ _ rfl _ _ rfl _ rfl 13 ?_ ?_ ?_ _ Tryd.underlying26 rfl ?_ ?_ | refine own_load_row rfl 26 _ rfl hO 1 _ _ rfl _ _ rfl _ rfl 13 ?_ ?_ ?_ _ Tryd.underlying26 rfl ?_ ?_); rotate_left; (focus (first | (with_reducible exact hrow_) | (with_reducible exact hrow2_) | (simp only [Array.toList_extract, List.extract_toArray, List.extract_eq_take_drop, List.drop_zero, List.drop_succ_cons, List.take_succ_cons, List.take_zero, Nat.reduceAdd, Nat.reduceSub, Nat.zero_add, Nat.add_zero, Nat.add_sub_cancel_left, Nat.sub_zero, Nat.sub_self]; rfl))); (focus rfl); (focus kernel_rfl))
    | ((with_reducible refine gate_store 26 rfl ?_); (first | refine own_store rfl 26 _ _ rfl hO 0 _ _ ?_ rfl ?_ _ _ rfl _ rfl ?_ ?_ ?_ ?_ | refine own_store rfl 26 _ _ rfl hO 1 _ _ ?_ rfl ?_ _ _ rfl _ rfl ?_ ?_ ?_ ?_); rotate_left; (focus (first | (go_simp; done) | (go_simp; with_reducible rfl) | rfl)); (focus (first | (exact hble_) | kernel_rfl)); (focus kernel_rfl); (focus kernel_rfl); clear hO; (try clear w_); intro w_ hO; (first | (simp only [Value.cells] at hO; rw [hput_] at hO) | simp only [List.set_cons_zero, List.set_cons_succ, putAllA, Value.cells, List.setIfInBounds_toArray] at hO))
    | (go_at_call 40; (with_reducible refine (H1.out _ (Lib.hid (h2.out.below hO.bel)) (Lib.hid (hS.out.below hO.bel))).mono ?_); rintro e w_ ⟨rfl, hb_⟩; replace hO := Own.call hO hb_; clear hb_)
    | (go_at_call 41; (with_reducible refine (H2.out _ _ (Lib.hid (hO.at 0 rfl))).mono ?_); rintro e w_ ⟨rfl, hb_⟩; replace hO := Own.call hO hb_; clear hb_)
    | (refine own_buildSlice rfl 69 26 1 _ rfl _ rfl hO #[.string n, .int .i64 a0, .int .i64 a1, .int .i64 a2, .int .i64 a3, .int .i64 a4, .int .i64 a5, .int .i64 a6, .int .i64 a7, .int .i64 a8, .int .i64 a9, .int .i64 a10, .int .i64 a11] i0 (.agg #[.string ⟨#[]⟩, .int .i64 0, .int .i64 0, .int .i64 0, .int .i64 0, .int .i64 0, .int .i64 0, .int .i64 0, .int .i64 0, .int .i64 0, .int .i64 0, .int .i64 0, .int .i64 0]) 13 Tryd.underlying69 hi0 hz0 hz1 rfl rfl (by kernel_rfl) ?_; clear hO; intro gsp w_ hO)
      )
      go_ret2
      exact .inl ⟨by rw [HZ.out]; exact K2.out, by rw [HZ.out]; rfl, hO.bel⟩
  · rw [if_pos k1] at hZ
    have q1 : (e1 != 0) = true := by simpa using k1
    subst hZ
    have K1 := Lib.hid k1
    clear k1
    go_enter Tryd.func25, Tryd.ntmps25
    go_wp2_with (first
    | ((with_reducible refine gate_alloc 24 rfl ?_); refine own_alloc rfl 24 rfl hO _ rfl #[.string ⟨#[]⟩, .int .i64 0, .slice none 0 0] (by kernel_rfl) ?_; clear hO; (try clear w_); intro g_ w_ hO)
    | ((with_reducible refine gate_box 24 rfl ?_); refine own_box rfl 24 _ rfl hO _ rfl ?_ ?_ ?_; rotate_left; (focus (first | (go_simp; done) | (go_simp; with_reducible rfl) | rfl)); clear hO; (try clear w_); intro g_ w_ hO; simp only [Value.cells] at hO)
    | ((with_reducible refine gate_load 24 rfl ?_); (first | refine own_load_row rfl 24 _ rfl hO 0 _ _ rfl _ _ rfl _ rfl 3 ?_ ?_ ?_ _ Tryd.underlying24 rfl ?_ ?_ | refine own_load_row rfl 24 _ rfl hO 1 _ _ rfl _ _ rfl _ rfl 3 ?_ ?_ ?_ _ Tryd.underlying24 rfl ?_ ?_); rotate_left; (focus (first | (with_reducible exact hrow_) | (with_reducible exact hrow2_) | (simp only [Array.toList_extract, List.extract_toArray, List.extract_eq_take_drop, List.drop_zero, List.drop_succ_cons, List.take_succ_cons, List.take_zero, Nat.reduceAdd, Nat.reduceSub, Nat.zero_add, Nat.add_zero, Nat.add_sub_cancel_left, Nat.sub_zero, Nat.sub_self]; rfl))); (focus rfl); (focus kernel_rfl))
    | ((with_reducible refine gate_store 24 rfl ?_); (first | refine own_store rfl 24 _ _ rfl hO 0 _ _ ?_ rfl ?_ _ _ rfl _ rfl ?_ ?_ ?_ ?_ | refine own_store rfl 24 _ _ rfl hO 1 _ _ ?_ rfl ?_ _ _ rfl _ rfl ?_ ?_ ?_ ?_); rotate_left; (focus (first | (go_simp; done) | (go_simp; with_reducible rfl) | rfl)); (focus (first | (exact hble_) | kernel_rfl)); (focus kernel_rfl); (focus kernel_rfl); clear hO; (try clear w_); intro w_ hO; (first | (simp only [Value.cells] at hO; rw [hput_] at hO) | simp only [List.set_cons_zero, List.set_cons_succ, putAllA, Value.cells, List.setIfInBounds_toArray] at hO))
    | ((with_reducible refine gate_alloc 26 rfl ?_); refine own_alloc rfl 26 rfl hO _ rfl #[.string ⟨#[]⟩, .int .i64 0, .int .i64 0, .int .i64 0, .int .i64 0, .int .i64 0, .int .i64 0, .int .i64 0, .int .i64 0, .int .i64 0, .int .i64 0, .int .i64 0, .int .i64 0] (by kernel_rfl) ?_; clear hO; (try clear w_); intro g_ w_ hO)
    | ((with_reducible refine gate_box 26 rfl ?_); refine own_box rfl 26 _ rfl hO _ rfl ?_ ?_ ?_; rotate_left; (focus (first | (go_simp; done) | (go_simp; with_reducible rfl) | rfl)); clear hO; (try clear w_); intro g_ w_ hO; simp only [Value.cells] at hO)
    | ((with_reducible refine gate_load 26 rfl ?_); (first | refine own_load_row rfl 26 _ rfl hO 0 _ _ rfl _ _ rfl _ rfl 13 ?_ ?_ ?_ _ Tryd.underlying26 rfl ?_ ?_ | refine own_load_row rfl 26 _ rfl hO 1 _ _ rfl _ _ rfl _ rfl 13 ?_ ?_ ?_ _ Tryd.underlying26 rfl ?_ ?_); rotate_left; (focus (first | (with_reducible exact hrow_) | (with_reducible exact hrow2_) | (simp only [Array.toList_extract, List.extract_toArray, List.extract_eq_take_drop, List.drop_zero, List.drop_succ_cons, List.take_succ_cons, List.take_zero, Nat.reduceAdd, Nat.reduceSub, Nat.zero_add, Nat.add_zero, Nat.add_sub_cancel_left, Nat.sub_zero, Nat.sub_self]; rfl))); (focus rfl); (focus kernel_rfl))
    | ((with_reducible refine gate_store 26 rfl ?_); (first | refine own_store rfl 26 _ _ rfl hO 0 _ _ ?_ rfl ?_ _ _ rfl _ rfl ?_ ?_ ?_ ?_ | refine own_store rfl 26 _ _ rfl hO 1 _ _ ?_ rfl ?_ _ _ rfl _ rfl ?_ ?_ ?_ ?_); rotate_left; (focus (first | (go_simp; done) | (go_simp; with_reducible rfl) | rfl)); (focus (first | (exact hble_) | kernel_rfl)); (focus kernel_rfl); (focus kernel_rfl); clear hO; (try clear w_); intro w_ hO; (first | (simp only [Value.cells] at hO; rw [hput_] at hO) | simp only [List.set_cons_zero, List.set_cons_succ, putAllA, Value.cells, List.setIfInBounds_toArray] at hO))
    | (go_at_call 40; (with_reducible refine (H1.out _ (Lib.hid (h2.out.below hO.bel)) (Lib.hid (hS.out.below hO.bel))).mono ?_); rintro e w_ ⟨rfl, hb_⟩; replace hO := Own.call hO hb_; clear hb_)
    | (go_at_call 41; (with_reducible refine (H2.out _ _ (Lib.hid (hO.at 0 rfl))).mono ?_); rintro e w_ ⟨rfl, hb_⟩; replace hO := Own.call hO hb_; clear hb_)
    | (refine own_buildSlice rfl 69 26 1 _ rfl _ rfl hO #[.string n, .int .i64 a0, .int .i64 a1, .int .i64 a2, .int .i64 a3, .int .i64 a4, .int .i64 a5, .int .i64 a6, .int .i64 a7, .int .i64 a8, .int .i64 a9, .int .i64 a10, .int .i64 a11] i0 (.agg #[.string ⟨#[]⟩, .int .i64 0, .int .i64 0, .int .i64 0, .int .i64 0, .int .i64 0, .int .i64 0, .int .i64 0, .int .i64 0, .int .i64 0, .int .i64 0, .int .i64 0, .int .i64 0]) 13 Tryd.underlying69 hi0 hz0 hz1 rfl rfl (by kernel_rfl) ?_; clear hO; intro gsp w_ hO)
    )
    go_ret2
    exact .inl ⟨by rw [HZ.out]; exact K1.out, by rw [HZ.out]; rfl, hO.bel⟩
end Go.Proofs.YtkedpokbbogkmaaDoor
