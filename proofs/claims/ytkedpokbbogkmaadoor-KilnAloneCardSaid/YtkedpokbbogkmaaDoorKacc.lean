/-
  What a kiln tells: Done, Climate, Stage, Ticks, Items, Mean, harmed; of a nil kiln, too.
-/
import Derived.Test.YtkedpokbbogkmaaDoorDried
import Derived.Deep.DeepCutAuto
namespace Go.Proofs.YtkedpokbbogkmaaDoor
open Go.RowKit Go.Proofs.YtkedpokbbogkmaaDoorW.PrintLast
set_option linter.unusedSimpArgs false

set_option maxRecDepth 100000 in
theorem ptr_eql (g : Nat) (w : World) : (binOp .eql 32 (.pointer (some ⟨g, 0, none⟩)) (.pointer none)).run Tryd.prog w = .ok (.bool false) w := by rfl
set_option maxRecDepth 100000 in
theorem ptr_neq (g : Nat) (w : World) : (binOp .neq 32 (.pointer (some ⟨g, 0, none⟩)) (.pointer none)).run Tryd.prog w = .ok (.bool true) w := by rfl

set_option maxHeartbeats 2000000 in
set_option maxRecDepth 100000 in
theorem done_any (gk gs gi cs ci ns ni : Nat) (pn n : ByteArray) (ramp a0 a1 a2 a3 a4 a5 a6 a7 a8 a9 a10 a11 t d stage ins ticks held : Int) (w : World) (HK : Hid (Blk w gk 74 #[.string pn, .int .i64 ramp, .slice (some ⟨gs, 0, none⟩) ns cs, .string n, .int .i64 a0, .int .i64 a1, .int .i64 a2, .int .i64 a3, .int .i64 a4, .int .i64 a5, .int .i64 a6, .int .i64 a7, .int .i64 a8, .int .i64 a9, .int .i64 a10, .int .i64 a11, .slice (some ⟨gi, 0, none⟩) ni ci, .int .i64 t, .int .i64 d, .int .i64 stage, .int .i64 ins, .int .i64 ticks, .int .i64 held])) :
    Calls Tryd.prog 21 #[.pointer (some ⟨gk, 0, none⟩)] w fun e w' => e = .returned (.bool (stage == (ns : Int))) ∧ Below w.heap.size w w' := by
  have q1 := ptr_neq gk
  have hO := Own.nil w
  go_enter Tryd.func21, Tryd.ntmps21
  go_upto_region 1 with fail
  refine start_ (n := 16) (S := fun w' => Own w [] w') (ds := []) #[false, false, false, false, false, false, false, false, false, false, false, false, false, false, false, false] (by kernel_rfl) rfl rfl (Own.drew hO) (fun hS => ?_)
  clear hO
  have hO := hS
  refine pure_ (i := 0) (N := some 3) (v := ?_) (a' := ?_) #[true, false, false, false, false, false, false, false, false, false, false, false, false, false, false, false] rfl rfl (by kernel_rfl) (fun _ _ _ h => h) (Or.inl ⟨by rfl, ?_⟩) ?_ ?_
  rotate_left
  · intro w'
    go_simp
    with_reducible rfl
  rotate_left
  · simp only [Act.put, List.setIfInBounds_toArray, List.set_cons_zero, List.set_cons_succ]
    rfl
  refine pure_ (i := 1) (N := some 4) (v := ?_) (a' := ?_) #[true, true, false, false, false, false, false, false, false, false, false, false, false, false, false, false] rfl rfl (by kernel_rfl) (fun _ _ _ h => h) (Or.inl ⟨by rfl, ?_⟩) ?_ ?_
  rotate_left
  · intro w'
    go_simp
    with_reducible rfl
  rotate_left
  · simp only [Act.put, List.setIfInBounds_toArray, List.set_cons_zero, List.set_cons_succ]
    rfl
  refine pure_ (i := 2) (N := some 5) (v := ?_) (a' := ?_) #[true, true, true, false, false, false, false, false, false, false, false, false, false, false, false, false] rfl rfl (by kernel_rfl) (fun _ _ _ h => h) (Or.inl ⟨by rfl, ?_⟩) ?_ ?_
  rotate_left
  · intro w'
    go_simp
    with_reducible rfl
  rotate_left
  · simp only [Act.put, List.setIfInBounds_toArray, List.set_cons_zero, List.set_cons_succ]
    rfl
  refine pure_ (i := 3) (N := some 6) (v := ?_) (a' := ?_) #[true, true, true, true, false, false, false, false, false, false, false, false, false, false, false, false] rfl rfl (by kernel_rfl) (fun _ _ _ h => h) (Or.inl ⟨by rfl, ?_⟩) ?_ ?_
  rotate_left
  · intro w'
    go_simp
    with_reducible rfl
  rotate_left
  · simp only [Act.put, List.setIfInBounds_toArray, List.set_cons_zero, List.set_cons_succ]
    rfl
  refine pure_ (i := 4) (N := some 7) (v := ?_) (a' := ?_) #[true, true, true, true, true, false, false, false, false, false, false, false, false, false, false, false] rfl rfl (by kernel_rfl) (fun _ _ _ h => h) (Or.inl ⟨by rfl, ?_⟩) ?_ ?_
  rotate_left
  · intro w'
    go_simp
    with_reducible rfl
  rotate_left
  · simp only [Act.put, List.setIfInBounds_toArray, List.set_cons_zero, List.set_cons_succ]
    rfl
  refine pure_ (i := 5) (N := some 8) (v := ?_) (a' := ?_) #[true, true, true, true, true, true, false, false, false, false, false, false, false, false, false, false] rfl rfl (by kernel_rfl) (fun _ _ _ h => h) (Or.inl ⟨by rfl, ?_⟩) ?_ ?_
  rotate_left
  · intro w'
    go_simp
    with_reducible rfl
  rotate_left
  · simp only [Act.put, List.setIfInBounds_toArray, List.set_cons_zero, List.set_cons_succ]
    rfl
  first
    | (refine take_ (i := 6) (N := some 9) (a' := ?_) #[true, true, true, true, true, true, true, false, false, false, false, false, false, false, false, false] rfl rfl (by kernel_rfl) (fun _ _ _ h => h) (ysOne hS HK.out ?_ 3 _ rfl _ rfl ?_ ?_ _ Tryd.underlying3 rfl) hS ?_ ?_; (focus rfl); rotate_left; (focus (first | (with_reducible exact hcell_) | (simp only [List.getElem?_toArray, List.getElem?_cons_zero, List.getElem?_cons_succ]; rfl))); rotate_left; (focus (simp only [Act.put, List.setIfInBounds_toArray, List.set_cons_zero, List.set_cons_succ]; rfl)))
  refine pure_ (i := 7) (N := some 10) (v := ?_) (a' := ?_) #[true, true, true, true, true, true, true, true, false, false, false, false, false, false, false, false] rfl rfl (by kernel_rfl) (fun _ _ _ h => h) (Or.inl ⟨by rfl, ?_⟩) ?_ ?_
  rotate_left
  · intro w'
    go_simp
    with_reducible rfl
  rotate_left
  · simp only [Act.put, List.setIfInBounds_toArray, List.set_cons_zero, List.set_cons_succ]
    rfl
  refine pure_ (i := 8) (N := some 11) (v := ?_) (a' := ?_) #[true, true, true, true, true, true, true, true, true, false, false, false, false, false, false, false] rfl rfl (by kernel_rfl) (fun _ _ _ h => h) (Or.inl ⟨by rfl, ?_⟩) ?_ ?_
  rotate_left
  · intro w'
    go_simp
    with_reducible rfl
  rotate_left
  · simp only [Act.put, List.setIfInBounds_toArray, List.set_cons_zero, List.set_cons_succ]
    rfl
  refine pure_ (i := 9) (N := some 12) (v := ?_) (a' := ?_) #[true, true, true, true, true, true, true, true, true, true, false, false, false, false, false, false] rfl rfl (by kernel_rfl) (fun _ _ _ h => h) (Or.inl ⟨by rfl, ?_⟩) ?_ ?_
  rotate_left
  · intro w'
    go_simp
    with_reducible rfl
  rotate_left
  · simp only [Act.put, List.setIfInBounds_toArray, List.set_cons_zero, List.set_cons_succ]
    rfl
  refine pure_ (i := 10) (N := some 13) (v := ?_) (a' := ?_) #[true, true, true, true, true, true, true, true, true, true, true, false, false, false, false, false] rfl rfl (by kernel_rfl) (fun _ _ _ h => h) (Or.inl ⟨by rfl, ?_⟩) ?_ ?_
  rotate_left
  · intro w'
    go_simp
    with_reducible rfl
  rotate_left
  · simp only [Act.put, List.setIfInBounds_toArray, List.set_cons_zero, List.set_cons_succ]
    rfl
  first
    | (refine take_ (i := 11) (N := some 14) (a' := ?_) #[true, true, true, true, true, true, true, true, true, true, true, true, false, false, false, false] rfl rfl (by kernel_rfl) (fun _ _ _ h => h) (ysOne hS HK.out ?_ 22 _ rfl _ rfl ?_ ?_ _ Tryd.underlying22 rfl) hS ?_ ?_; (focus rfl); rotate_left; (focus (first | (with_reducible exact hcell_) | (simp only [List.getElem?_toArray, List.getElem?_cons_zero, List.getElem?_cons_succ]; rfl))); rotate_left; (focus (simp only [Act.put, List.setIfInBounds_toArray, List.set_cons_zero, List.set_cons_succ]; rfl)))
  refine pure_ (i := 12) (N := some 15) (v := ?_) (a' := ?_) #[true, true, true, true, true, true, true, true, true, true, true, true, true, false, false, false] rfl rfl (by kernel_rfl) (fun _ _ _ h => h) (Or.inl ⟨by rfl, ?_⟩) ?_ ?_
  rotate_left
  · intro w'
    go_simp
    with_reducible rfl
  rotate_left
  · simp only [Act.put, List.setIfInBounds_toArray, List.set_cons_zero, List.set_cons_succ]
    rfl
  refine pure_ (i := 13) (N := some 16) (v := ?_) (a' := ?_) #[true, true, true, true, true, true, true, true, true, true, true, true, true, true, false, false] rfl rfl (by kernel_rfl) (fun _ _ _ h => h) (Or.inl ⟨by rfl, ?_⟩) ?_ ?_
  rotate_left
  · intro w'
    go_simp
    with_reducible rfl
  rotate_left
  · simp only [Act.put, List.setIfInBounds_toArray, List.set_cons_zero, List.set_cons_succ]
    rfl
  refine pure_ (i := 14) (N := some 17) (v := ?_) (a' := ?_) #[true, true, true, true, true, true, true, true, true, true, true, true, true, true, true, false] rfl rfl (by kernel_rfl) (fun _ _ _ h => h) (Or.inl ⟨by rfl, ?_⟩) ?_ ?_
  rotate_left
  · intro w'
    go_simp
    with_reducible rfl
  rotate_left
  · simp only [Act.put, List.setIfInBounds_toArray, List.set_cons_zero, List.set_cons_succ]
    rfl
  refine pure_ (i := 15) (N := some 2) (v := ?_) (a' := ?_) #[true, true, true, true, true, true, true, true, true, true, true, true, true, true, true, true] rfl rfl (by kernel_rfl) (fun _ _ _ h => h) (Or.inl ⟨by rfl, ?_⟩) ?_ ?_
  rotate_left
  · intro w'
    go_simp
    with_reducible rfl
  rotate_left
  · simp only [Act.put, List.setIfInBounds_toArray, List.set_cons_zero, List.set_cons_succ]
    rfl
  refine done_ (by kernel_rfl) ?_
  go_wp2_with fail
  go_ret
  exact ⟨rfl, hO.bel⟩
set_option maxHeartbeats 2000000 in
set_option maxRecDepth 100000 in
theorem climate_any (gk gs gi cs ci ns ni : Nat) (pn n : ByteArray) (ramp a0 a1 a2 a3 a4 a5 a6 a7 a8 a9 a10 a11 t d stage ins ticks held : Int) (w : World) (HK : Hid (Blk w gk 74 #[.string pn, .int .i64 ramp, .slice (some ⟨gs, 0, none⟩) ns cs, .string n, .int .i64 a0, .int .i64 a1, .int .i64 a2, .int .i64 a3, .int .i64 a4, .int .i64 a5, .int .i64 a6, .int .i64 a7, .int .i64 a8, .int .i64 a9, .int .i64 a10, .int .i64 a11, .slice (some ⟨gi, 0, none⟩) ni ci, .int .i64 t, .int .i64 d, .int .i64 stage, .int .i64 ins, .int .i64 ticks, .int .i64 held])) :
    Calls Tryd.prog 15 #[.pointer (some ⟨gk, 0, none⟩)] w fun e w' => e = .returned (.agg #[.int .i64 t, .int .i64 d]) ∧ Below w.heap.size w w' := by
  have q1 := ptr_eql gk
  have hO := Own.nil w
  go_enter Tryd.func15, Tryd.ntmps15
  go_wp2_with (first
    | ((with_reducible refine gate_load 37 rfl ?_); refine blk_load_row rfl 37 _ rfl (HK.out.below hO.bel HK.out.lt) _ rfl _ rfl 2 ?_ ?_ ?_ _ Tryd.underlying37 rfl ?_ ?_; rotate_left; (focus (first | (with_reducible exact hrow_) | (with_reducible exact hrow2_) | (simp only [Array.toList_extract, List.extract_toArray, List.extract_eq_take_drop, List.drop_zero, List.drop_succ_cons, List.take_succ_cons, List.take_zero, Nat.reduceAdd, Nat.reduceSub, Nat.zero_add, Nat.add_zero, Nat.add_sub_cancel_left, Nat.sub_zero, Nat.sub_self]; rfl))); (focus rfl); (focus kernel_rfl))
    | ((with_reducible refine gate_alloc 37 rfl ?_); refine own_alloc rfl 37 rfl hO _ rfl #[.int .i64 0, .int .i64 0] (by kernel_rfl) ?_; clear hO; (try clear w_); intro g_ w_ hO)
    | ((with_reducible refine gate_box 37 rfl ?_); refine own_box rfl 37 _ rfl hO _ rfl ?_ ?_ ?_; rotate_left; (focus (first | (go_simp; done) | (go_simp; with_reducible rfl) | rfl)); clear hO; (try clear w_); intro g_ w_ hO; simp only [Value.cells] at hO)
    | ((with_reducible refine gate_load 37 rfl ?_); (first | refine own_load_row rfl 37 _ rfl hO 0 _ _ rfl _ _ rfl _ rfl 2 ?_ ?_ ?_ _ Tryd.underlying37 rfl ?_ ?_); rotate_left; (focus (first | (with_reducible exact hrow_) | (with_reducible exact hrow2_) | (simp only [Array.toList_extract, List.extract_toArray, List.extract_eq_take_drop, List.drop_zero, List.drop_succ_cons, List.take_succ_cons, List.take_zero, Nat.reduceAdd, Nat.reduceSub, Nat.zero_add, Nat.add_zero, Nat.add_sub_cancel_left, Nat.sub_zero, Nat.sub_self]; rfl))); (focus rfl); (focus kernel_rfl))
    | ((with_reducible refine gate_store 37 rfl ?_); (first | refine own_store rfl 37 _ _ rfl hO 0 _ _ ?_ rfl ?_ _ _ rfl _ rfl ?_ ?_ ?_ ?_); rotate_left; (focus (first | (go_simp; done) | (go_simp; with_reducible rfl) | rfl)); (focus (first | (exact hble_) | kernel_rfl)); (focus kernel_rfl); (focus kernel_rfl); clear hO; (try clear w_); intro w_ hO; (first | (simp only [Value.cells] at hO; rw [hput_] at hO) | simp only [List.set_cons_zero, List.set_cons_succ, putAllA, Value.cells, List.setIfInBounds_toArray] at hO))
    )
  exact bodyPost_ret (results_cell_row Tryd.results15 _ _ g_ 37 _ (0, 0) _ rfl (hO.at 0 rfl) Tryd.underlying37 rfl (by kernel_rfl)) rfl ⟨rfl, hO.bel⟩
set_option maxHeartbeats 2000000 in
set_option maxRecDepth 100000 in
theorem stage_any (gk gs gi cs ci ns ni : Nat) (pn n : ByteArray) (ramp a0 a1 a2 a3 a4 a5 a6 a7 a8 a9 a10 a11 t d stage ins ticks held : Int) (w : World) (HK : Hid (Blk w gk 74 #[.string pn, .int .i64 ramp, .slice (some ⟨gs, 0, none⟩) ns cs, .string n, .int .i64 a0, .int .i64 a1, .int .i64 a2, .int .i64 a3, .int .i64 a4, .int .i64 a5, .int .i64 a6, .int .i64 a7, .int .i64 a8, .int .i64 a9, .int .i64 a10, .int .i64 a11, .slice (some ⟨gi, 0, none⟩) ni ci, .int .i64 t, .int .i64 d, .int .i64 stage, .int .i64 ins, .int .i64 ticks, .int .i64 held])) :
    Calls Tryd.prog 20 #[.pointer (some ⟨gk, 0, none⟩)] w fun e w' => e = .returned (.int .i64 stage) ∧ Below w.heap.size w w' := by
  have q1 := ptr_eql gk
  have hO := Own.nil w
  go_enter Tryd.func20, Tryd.ntmps20
  go_wp2_with (first
    | ((with_reducible refine gate_load 3 rfl ?_); refine blk_load_one rfl 3 _ rfl (HK.out.below hO.bel HK.out.lt) _ rfl _ rfl ?_ ?_ _ Tryd.underlying3 rfl ?_; rotate_left; (focus (first | (with_reducible exact hcell_) | (simp only [List.getElem?_toArray, List.getElem?_cons_zero, List.getElem?_cons_succ]; rfl))))
    )
  go_ret
  exact ⟨rfl, hO.bel⟩
set_option maxHeartbeats 2000000 in
set_option maxRecDepth 100000 in
theorem ticksK_any (gk gs gi cs ci ns ni : Nat) (pn n : ByteArray) (ramp a0 a1 a2 a3 a4 a5 a6 a7 a8 a9 a10 a11 t d stage ins ticks held : Int) (w : World) (HK : Hid (Blk w gk 74 #[.string pn, .int .i64 ramp, .slice (some ⟨gs, 0, none⟩) ns cs, .string n, .int .i64 a0, .int .i64 a1, .int .i64 a2, .int .i64 a3, .int .i64 a4, .int .i64 a5, .int .i64 a6, .int .i64 a7, .int .i64 a8, .int .i64 a9, .int .i64 a10, .int .i64 a11, .slice (some ⟨gi, 0, none⟩) ni ci, .int .i64 t, .int .i64 d, .int .i64 stage, .int .i64 ins, .int .i64 ticks, .int .i64 held])) :
    Calls Tryd.prog 19 #[.pointer (some ⟨gk, 0, none⟩)] w fun e w' => e = .returned (.tuple #[.int .i64 ticks, .int .i64 held]) ∧ Below w.heap.size w w' := by
  have q1 := ptr_eql gk
  have hO := Own.nil w
  go_enter Tryd.func19, Tryd.ntmps19
  go_upto_region 3 with fail
  refine start_ (n := 10) (S := fun w' => Own w [] w') (ds := []) #[false, false, false, false, false, false, false, false, false, false] (by kernel_rfl) rfl rfl (Own.drew hO) (fun hS => ?_)
  clear hO
  have hO := hS
  refine pure_ (i := 0) (N := some 6) (v := ?_) (a' := ?_) #[true, false, false, false, false, false, false, false, false, false] rfl rfl (by kernel_rfl) (fun _ _ _ h => h) (Or.inl ⟨by rfl, ?_⟩) ?_ ?_
  rotate_left
  · intro w'
    go_simp
    with_reducible rfl
  rotate_left
  · simp only [Act.put, List.setIfInBounds_toArray, List.set_cons_zero, List.set_cons_succ]
    rfl
  refine pure_ (i := 1) (N := some 7) (v := ?_) (a' := ?_) #[true, true, false, false, false, false, false, false, false, false] rfl rfl (by kernel_rfl) (fun _ _ _ h => h) (Or.inl ⟨by rfl, ?_⟩) ?_ ?_
  rotate_left
  · intro w'
    go_simp
    with_reducible rfl
  rotate_left
  · simp only [Act.put, List.setIfInBounds_toArray, List.set_cons_zero, List.set_cons_succ]
    rfl
  refine pure_ (i := 2) (N := some 8) (v := ?_) (a' := ?_) #[true, true, true, false, false, false, false, false, false, false] rfl rfl (by kernel_rfl) (fun _ _ _ h => h) (Or.inl ⟨by rfl, ?_⟩) ?_ ?_
  rotate_left
  · intro w'
    go_simp
    with_reducible rfl
  rotate_left
  · simp only [Act.put, List.setIfInBounds_toArray, List.set_cons_zero, List.set_cons_succ]
    rfl
  first
    | (refine take_ (i := 3) (N := some 9) (a' := ?_) #[true, true, true, true, false, false, false, false, false, false] rfl rfl (by kernel_rfl) (fun _ _ _ h => h) (ysOne hS HK.out ?_ 3 _ rfl _ rfl ?_ ?_ _ Tryd.underlying3 rfl) hS ?_ ?_; (focus rfl); rotate_left; (focus (first | (with_reducible exact hcell_) | (simp only [List.getElem?_toArray, List.getElem?_cons_zero, List.getElem?_cons_succ]; rfl))); rotate_left; (focus (simp only [Act.put, List.setIfInBounds_toArray, List.set_cons_zero, List.set_cons_succ]; rfl)))
  refine pure_ (i := 4) (N := some 10) (v := ?_) (a' := ?_) #[true, true, true, true, true, false, false, false, false, false] rfl rfl (by kernel_rfl) (fun _ _ _ h => h) (Or.inl ⟨by rfl, ?_⟩) ?_ ?_
  rotate_left
  · intro w'
    go_simp
    with_reducible rfl
  rotate_left
  · simp only [Act.put, List.setIfInBounds_toArray, List.set_cons_zero, List.set_cons_succ]
    rfl
  refine pure_ (i := 5) (N := some 11) (v := ?_) (a' := ?_) #[true, true, true, true, true, true, false, false, false, false] rfl rfl (by kernel_rfl) (fun _ _ _ h => h) (Or.inl ⟨by rfl, ?_⟩) ?_ ?_
  rotate_left
  · intro w'
    go_simp
    with_reducible rfl
  rotate_left
  · simp only [Act.put, List.setIfInBounds_toArray, List.set_cons_zero, List.set_cons_succ]
    rfl
  refine pure_ (i := 6) (N := some 12) (v := ?_) (a' := ?_) #[true, true, true, true, true, true, true, false, false, false] rfl rfl (by kernel_rfl) (fun _ _ _ h => h) (Or.inl ⟨by rfl, ?_⟩) ?_ ?_
  rotate_left
  · intro w'
    go_simp
    with_reducible rfl
  rotate_left
  · simp only [Act.put, List.setIfInBounds_toArray, List.set_cons_zero, List.set_cons_succ]
    rfl
  first
    | (refine take_ (i := 7) (N := some 13) (a' := ?_) #[true, true, true, true, true, true, true, true, false, false] rfl rfl (by kernel_rfl) (fun _ _ _ h => h) (ysOne hS HK.out ?_ 3 _ rfl _ rfl ?_ ?_ _ Tryd.underlying3 rfl) hS ?_ ?_; (focus rfl); rotate_left; (focus (first | (with_reducible exact hcell_) | (simp only [List.getElem?_toArray, List.getElem?_cons_zero, List.getElem?_cons_succ]; rfl))); rotate_left; (focus (simp only [Act.put, List.setIfInBounds_toArray, List.set_cons_zero, List.set_cons_succ]; rfl)))
  refine pure_ (i := 8) (N := some 2) (v := ?_) (a' := ?_) #[true, true, true, true, true, true, true, true, true, false] rfl rfl (by kernel_rfl) (fun _ _ _ h => h) (Or.inl ⟨by rfl, ?_⟩) ?_ ?_
  rotate_left
  · intro w'
    go_simp
    with_reducible rfl
  rotate_left
  · simp only [Act.put, List.setIfInBounds_toArray, List.set_cons_zero, List.set_cons_succ]
    rfl
  refine pure_ (i := 9) (N := some 3) (v := ?_) (a' := ?_) #[true, true, true, true, true, true, true, true, true, true] rfl rfl (by kernel_rfl) (fun _ _ _ h => h) (Or.inl ⟨by rfl, ?_⟩) ?_ ?_
  rotate_left
  · intro w'
    go_simp
    with_reducible rfl
  rotate_left
  · simp only [Act.put, List.setIfInBounds_toArray, List.set_cons_zero, List.set_cons_succ]
    rfl
  refine done_ (by kernel_rfl) ?_
  go_wp2_with fail
  go_ret2
  exact ⟨rfl, hO.bel⟩
theorem cells_of_blk {w : World} {g : Nat} {T : TypeId} {l : List Q4} {pad : List Value} (HI : Blk w g T (flat q4 l ++ pad).toArray) : ∀ j u, (flat q4 l)[j]? = some u → w.cell? ((⟨g, 0, none⟩ : Addr).add j) = some u := fun j u h => by
  have hj := (List.getElem?_eq_some_iff.1 h).1
  have := HI.cell j
  rw [List.getElem?_toArray, List.getElem?_append_left hj, h] at this
  rw [show (⟨g, 0, none⟩ : Addr).add j = ⟨g, j, none⟩ by cases j <;> simp [Addr.add]]
  exact this
set_option maxHeartbeats 2000000 in
set_option maxRecDepth 100000 in
theorem items_any (gk gs gi cs ci ns ni : Nat) (pn n : ByteArray) (ramp a0 a1 a2 a3 a4 a5 a6 a7 a8 a9 a10 a11 t d stage ins ticks held : Int) (l : List Q4) (pad : List Value) (w : World) (h1 : 1 ≤ l.length) (h2 : l.length ≤ 100000) (hni : ni = l.length)
    (HK : Hid (Blk w gk 74 #[.string pn, .int .i64 ramp, .slice (some ⟨gs, 0, none⟩) ns cs, .string n, .int .i64 a0, .int .i64 a1, .int .i64 a2, .int .i64 a3, .int .i64 a4, .int .i64 a5, .int .i64 a6, .int .i64 a7, .int .i64 a8, .int .i64 a9, .int .i64 a10, .int .i64 a11, .slice (some ⟨gi, 0, none⟩) ni ci, .int .i64 t, .int .i64 d, .int .i64 stage, .int .i64 ins, .int .i64 ticks, .int .i64 held])) (HI : Hid (Blk w gi 53 (flat q4 l ++ pad).toArray)) :
    Calls Tryd.prog 16 #[.pointer (some ⟨gk, 0, none⟩)] w fun e w' => ∃ g c pad', e = .returned (.slice (some ⟨g, 0, none⟩) l.length c) ∧ Own w [(g, 53, (flat q4 l ++ pad').toArray)] w' := by
  subst hni
  have q1 := ptr_eql gk
  have HC := Lib.hid (cells_of_blk HI.out)
  have hO := Own.nil w
  go_enter Tryd.func16, Tryd.ntmps16
  go_wp2_with (first
    | ((with_reducible refine gate_load 48 rfl ?_); refine blk_load_one rfl 48 _ rfl (HK.out.below hO.bel HK.out.lt) _ rfl _ rfl ?_ ?_ _ Tryd.underlying48 rfl ?_; rotate_left; (focus (first | (with_reducible exact hcell_) | (simp only [List.getElem?_toArray, List.getElem?_cons_zero, List.getElem?_cons_succ]; rfl))))
    | (go_at_call 39; (with_reducible refine (clone_items ⟨gi, 0, none⟩ ci l _ h1 h2 HC).mono ?_); rintro e w1 ⟨g, c, pad', rfl, hO'⟩)
    )
  go_ret
  exact ⟨g, c, pad', rfl, hO'⟩

/-- The sum of the cores. -/
def coreSum (l : List Q4) : Int := (l.map fun x => x.2.2.1).sum
def meanK (l : List Q4) : Int := coreSum l / (l.length : Int)
theorem coreSum_take (l : List Q4) (k : Nat) (x : Q4) (h : l[k]? = some x) : coreSum (l.take (k + 1)) = coreSum (l.take k) + x.2.2.1 := by
  unfold coreSum
  rw [List.take_add_one, h]
  simp
def Wet (l : List Q4) : Prop := ∀ x ∈ l, 0 ≤ x.2.2.1 ∧ x.2.2.1 ≤ 20000
theorem coreSum_bd {l : List Q4} (h : Wet l) : 0 ≤ coreSum l ∧ coreSum l ≤ 20000 * (l.length : Int) := by
  induction l with
  | nil => simp [coreSum]
  | cons x l ih =>
    have hx := h x (by simp)
    have := ih fun y hy => h y (by simp [hy])
    have e : coreSum (x :: l) = x.2.2.1 + coreSum l := by simp [coreSum]
    rw [e]
    simp only [List.length_cons]
    omega
set_option maxHeartbeats 2000000 in
set_option maxRecDepth 100000 in
theorem meanK_any (gk gs gi cs ci ns ni : Nat) (pn n : ByteArray) (ramp a0 a1 a2 a3 a4 a5 a6 a7 a8 a9 a10 a11 t d stage ins ticks held : Int) (l : List Q4) (pad : List Value) (w : World) (h1 : 1 ≤ l.length) (h2 : l.length ≤ 100000) (hni : ni = l.length) (HW : Hid (Wet l))
    (HK : Hid (Blk w gk 74 #[.string pn, .int .i64 ramp, .slice (some ⟨gs, 0, none⟩) ns cs, .string n, .int .i64 a0, .int .i64 a1, .int .i64 a2, .int .i64 a3, .int .i64 a4, .int .i64 a5, .int .i64 a6, .int .i64 a7, .int .i64 a8, .int .i64 a9, .int .i64 a10, .int .i64 a11, .slice (some ⟨gi, 0, none⟩) ni ci, .int .i64 t, .int .i64 d, .int .i64 stage, .int .i64 ins, .int .i64 ticks, .int .i64 held])) (HI : Hid (Blk w gi 53 (flat q4 l ++ pad).toArray)) :
    Calls Tryd.prog 24 #[.pointer (some ⟨gk, 0, none⟩)] w fun e w' => e = .returned (.int .i64 (meanK l)) ∧ Below w.heap.size w w' := by
  subst hni
  have q1 := ptr_eql gk
  have q2 : ((l.length : Int) == 0) = false := by rw [beq_eq_false_iff_ne]; omega
  have hO := Own.nil w
  go_enter Tryd.func24, Tryd.ntmps24
  go_wp2_with (first
    | ((with_reducible refine gate_load 48 rfl ?_); refine blk_load_one rfl 48 _ rfl (HK.out.below hO.bel HK.out.lt) _ rfl _ rfl ?_ ?_ _ Tryd.underlying48 rfl ?_; rotate_left; (focus (first | (with_reducible exact hcell_) | (simp only [List.getElem?_toArray, List.getElem?_cons_zero, List.getElem?_cons_succ]; rfl))))
    )
  go_loopw [21, 3] (fun i v wr => ∃ k : Nat, k ≤ l.length ∧ i = .int .i64 k ∧ v = .int .i64 (coreSum (l.take k)) ∧ Own w [] wr) (fun i _ _ => l.length - (intOf i).toNat)
  case atStart => exact ⟨0, Nat.zero_le _, rfl, rfl, hO⟩
  case round =>
    clear hO
    obtain ⟨k, hk, rfl, rfl, hO⟩ := hrel
    by_cases hlt : k < l.length
    · obtain ⟨x, hx⟩ : ∃ x, l[k]? = some x := ⟨_, List.getElem?_eq_getElem hlt⟩
      have hs := coreSum_take l k x hx
      have hb := coreSum_bd (l := l.take k) (fun y hy => HW.out y (List.mem_of_mem_take hy))
      have hxb := HW.out x (List.mem_of_getElem? hx)
      have hlk : ((l.take k).length : Int) = k := by rw [List.length_take, Nat.min_eq_left hk]
      obtain ⟨th, a, b, s⟩ := x
      have hrow_ : ((flat q4 l ++ pad).toArray.extract (k * 4) (k * 4 + 4)).toList = [.int .i64 th, .int .i64 a, .int .i64 b, .int .i64 s] := flat_row q4 4 q4_len l pad k _ hx
      simp only at hs hxb
      generalize coreSum (l.take k) = S at *
      have s1 : IntKind.i64.wrap (S + b) = coreSum (l.take (k + 1)) := by rw [hs]; exact IntWalk.i64_in _ (by omega)
      clear hs hb hxb hlk hx
      go_wp2_with (first
    | ((with_reducible refine gate_load 53 rfl ?_); refine blk_load_row rfl 53 _ rfl (HI.out.below hO.bel HI.out.lt) _ rfl _ rfl 4 ?_ ?_ ?_ _ Tryd.underlying53 rfl ?_ ?_; rotate_left; (focus (first | (with_reducible exact hrow_) | (with_reducible exact hrow2_) | (simp only [Array.toList_extract, List.extract_toArray, List.extract_eq_take_drop, List.drop_zero, List.drop_succ_cons, List.take_succ_cons, List.take_zero, Nat.reduceAdd, Nat.reduceSub, Nat.zero_add, Nat.add_zero, Nat.add_sub_cancel_left, Nat.sub_zero, Nat.sub_self]; rfl))); (focus rfl); (focus kernel_rfl))
    | ((with_reducible refine gate_alloc 53 rfl ?_); refine own_alloc rfl 53 rfl hO _ rfl #[.int .i64 0, .int .i64 0, .int .i64 0, .int .i64 0] (by kernel_rfl) ?_; clear hO; (try clear w_); intro g_ w_ hO)
    | ((with_reducible refine gate_box 53 rfl ?_); refine own_box rfl 53 _ rfl hO _ rfl ?_ ?_ ?_; rotate_left; (focus (first | (go_simp; done) | (go_simp; with_reducible rfl) | rfl)); clear hO; (try clear w_); intro g_ w_ hO; simp only [Value.cells] at hO)
    | ((with_reducible refine gate_load 53 rfl ?_); (first | refine own_load_row rfl 53 _ rfl hO 0 _ _ rfl _ _ rfl _ rfl 4 ?_ ?_ ?_ _ Tryd.underlying53 rfl ?_ ?_); rotate_left; (focus (first | (with_reducible exact hrow_) | (with_reducible exact hrow2_) | (simp only [Array.toList_extract, List.extract_toArray, List.extract_eq_take_drop, List.drop_zero, List.drop_succ_cons, List.take_succ_cons, List.take_zero, Nat.reduceAdd, Nat.reduceSub, Nat.zero_add, Nat.add_zero, Nat.add_sub_cancel_left, Nat.sub_zero, Nat.sub_self]; rfl))); (focus rfl); (focus kernel_rfl))
    | ((with_reducible refine gate_store 53 rfl ?_); (first | refine own_store rfl 53 _ _ rfl hO 0 _ _ ?_ rfl ?_ _ _ rfl _ rfl ?_ ?_ ?_ ?_); rotate_left; (focus (first | (go_simp; done) | (go_simp; with_reducible rfl) | rfl)); (focus (first | (exact hble_) | kernel_rfl)); (focus kernel_rfl); (focus kernel_rfl); clear hO; (try clear w_); intro w_ hO; (first | (simp only [Value.cells] at hO; rw [hput_] at hO) | simp only [List.set_cons_zero, List.set_cons_succ, putAllA, Value.cells, List.setIfInBounds_toArray] at hO))
    | ((with_reducible refine gate_alloc 3 rfl ?_); refine own_alloc rfl 3 rfl hO _ rfl #[.int .i64 0] (by kernel_rfl) ?_; clear hO; (try clear w_); intro g_ w_ hO)
    | ((with_reducible refine gate_box 3 rfl ?_); refine own_box rfl 3 _ rfl hO _ rfl ?_ ?_ ?_; rotate_left; (focus (first | (go_simp; done) | (go_simp; with_reducible rfl) | rfl)); clear hO; (try clear w_); intro g_ w_ hO; simp only [Value.cells] at hO)
    | ((with_reducible refine gate_load 3 rfl ?_); (first | refine own_load_one rfl 3 _ rfl hO 0 _ _ rfl _ _ rfl _ rfl ?_ ?_ _ Tryd.underlying3 rfl ?_); rotate_left; (focus (first | (with_reducible exact hcell_) | (simp only [List.getElem?_toArray, List.getElem?_cons_zero, List.getElem?_cons_succ]; rfl))))
    | ((with_reducible refine gate_store 3 rfl ?_); (first | refine own_store rfl 3 _ _ rfl hO 0 _ _ ?_ rfl ?_ _ _ rfl _ rfl ?_ ?_ ?_ ?_); rotate_left; (focus (first | (go_simp; done) | (go_simp; with_reducible rfl) | rfl)); (focus (first | (exact hble_) | kernel_rfl)); (focus kernel_rfl); (focus kernel_rfl); clear hO; (try clear w_); intro w_ hO; (first | (simp only [Value.cells] at hO; rw [hput_] at hO) | simp only [List.set_cons_zero, List.set_cons_succ, putAllA, Value.cells, List.setIfInBounds_toArray] at hO))
      )
      go_roundw
      case rel => exact ⟨k + 1, by omega, by go_num, rfl, hO.sub (List.Sublist.cons _ (List.Sublist.refl _))⟩
      case measure => simp [intOf]; omega
    · obtain rfl : k = l.length := by omega
      have hb := coreSum_bd HW.out
      rw [List.take_length]
      have s1 : IntKind.i64.wrap (Int.tdiv (coreSum l) (l.length : Int)) = meanK l := by
        rw [Int.tdiv_eq_ediv_of_nonneg hb.1]
        unfold meanK
        have d0 : 0 ≤ coreSum l / (l.length : Int) := Int.ediv_nonneg hb.1 (by omega)
        have d1 : coreSum l / (l.length : Int) ≤ coreSum l := Int.ediv_le_self _ hb.1
        exact IntWalk.i64_in _ (by omega)
      have q3 : (l.length : Int) ≠ 0 := by omega
      clear hb
      go_wp2_with (first
    | ((with_reducible refine gate_load 48 rfl ?_); refine blk_load_one rfl 48 _ rfl (HK.out.below hO.bel HK.out.lt) _ rfl _ rfl ?_ ?_ _ Tryd.underlying48 rfl ?_; rotate_left; (focus (first | (with_reducible exact hcell_) | (simp only [List.getElem?_toArray, List.getElem?_cons_zero, List.getElem?_cons_succ]; rfl))))
      )
      go_ret
      exact ⟨rfl, hO.bel⟩
end Go.Proofs.YtkedpokbbogkmaaDoor
