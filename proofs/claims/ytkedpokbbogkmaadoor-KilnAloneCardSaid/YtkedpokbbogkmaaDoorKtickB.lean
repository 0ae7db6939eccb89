/-
  A tick of a kiln in which the controller stops the fans.
-/
import Derived.Test.YtkedpokbbogkmaaDoorKtickD
import Derived.Deep.DeepCutAuto
namespace Go.Proofs.YtkedpokbbogkmaaDoor
open Go.RowKit Go.Proofs.YtkedpokbbogkmaaDoorW.PrintLast
set_option linter.unusedSimpArgs false
set_option linter.unusedVariables false

set_option maxHeartbeats 16000000 in
set_option maxRecDepth 100000 in
theorem tickK_B (gk gs gi cs ci ns ni stage : Nat) (pn n : ByteArray) (ramp a0 a1 a2 a3 a4 a5 a6 a7 a8 a9 a10 a11 t d ins ticks held : Int) (l st : List Q4) (pad pads : List Value) (v : Value) (F : List Int) (R : List (Nat × TypeId × Array Value)) (W0 w : World)
    (hG : Hid (Glob W0)) (h2 : Hid (Glob2 W0)) (hr : Hid (∀ w, Own W0 R w → RepI w v F)) (hF : F.length ≤ 1000000) (h1 : 1 ≤ l.length) (hl : l.length ≤ 100000) (hni : ni = l.length) (hst : st.length ≤ 100000) (hns : ns = st.length) (hlt : stage < st.length)
    (hV : Hid (Valid l)) (b1 : 0 ≤ ins ∧ ins ≤ 1000000) (b2 : 0 ≤ ticks ∧ ticks ≤ 1000000) (b3 : 0 ≤ held ∧ held ≤ 1000000)
    (P : KP) (hP : P = ⟨ramp, st, a1, a2, a3, a4, a6, a7⟩) (s : KS) (hs : s = ⟨l, t, d, stage, ins, ticks, held⟩)
    (hfb : F.any (· == 2) = false) (hharm : s.harm P F = true)
    (hO : Own W0 ((gk, 74, #[.string pn, .int .i64 ramp, .slice (some ⟨gs, 0, none⟩) ns cs, .string n, .int .i64 a0, .int .i64 a1, .int .i64 a2, .int .i64 a3, .int .i64 a4, .int .i64 a5, .int .i64 a6, .int .i64 a7, .int .i64 a8, .int .i64 a9, .int .i64 a10, .int .i64 a11, .slice (some ⟨gi, 0, none⟩) ni ci, .int .i64 t, .int .i64 d, .int .i64 stage, .int .i64 ins, .int .i64 ticks, .int .i64 held]) :: (gi, 53, (flat q4 l ++ pad).toArray) :: (gs, 65, (flat q4 st ++ pads).toArray) :: R) w) :
    Calls Tryd.prog 14 #[.pointer (some ⟨gk, 0, none⟩), v] w fun e w' => ∃ gi ci pad, e = .returned (.bool (!(((s.tick P F).stage : Int) == (ns : Int)))) ∧
      Own W0 ((gk, 74, #[.string pn, .int .i64 ramp, .slice (some ⟨gs, 0, none⟩) ns cs, .string n, .int .i64 a0, .int .i64 a1, .int .i64 a2, .int .i64 a3, .int .i64 a4, .int .i64 a5, .int .i64 a6, .int .i64 a7, .int .i64 a8, .int .i64 a9, .int .i64 a10, .int .i64 a11, .slice (some ⟨gi, 0, none⟩) ni ci, .int .i64 (s.tick P F).t, .int .i64 (s.tick P F).d, .int .i64 (s.tick P F).stage, .int .i64 (s.tick P F).ins, .int .i64 (s.tick P F).ticks, .int .i64 (s.tick P F).held]) :: (gi, 53, (flat q4 (s.tick P F).l ++ pad).toArray) :: (gs, 65, (flat q4 st ++ pads).toArray) :: R) w' := by
  subst hni hns
  obtain ⟨x, hx⟩ : ∃ x, st[stage]? = some x := ⟨_, List.getElem?_eq_getElem hlt⟩
  have hxd : st.getD stage (0, 0, 0, 0) = x := by rw [List.getD_eq_getElem?_getD, hx]; rfl
  have q1 := ptr_eql gk
  have q2 : (((stage : Nat) : Int) == ((st.length : Nat) : Int)) = false := by rw [beq_eq_false_iff_ne]; omega
  go_enter Tryd.func14, Tryd.ntmps14
  go_upto_region 3 with (first
    | (go_at_call 21; (with_reducible refine (done_any gk gs gi cs ci st.length l.length pn n ramp a0 a1 a2 a3 a4 a5 a6 a7 a8 a9 a10 a11 t d stage ins ticks held _ (Lib.hid (hO.at 0 rfl))).mono ?_); rintro e w_ ⟨rfl, hb_⟩; replace hO := Own.call hO hb_; clear hb_)
    )
  (try simp only [Act.put, List.setIfInBounds_toArray, List.set_cons_zero, List.set_cons_succ])
  obtain ⟨xb, xk, xt, xd⟩ := x
  obtain ⟨tt, htt⟩ : ∃ y, mnZ xt a6 = y := ⟨_, rfl⟩
  obtain ⟨td, htd⟩ : ∃ y, mnZ xd a7 = y := ⟨_, rfl⟩
  obtain ⟨t', ht'⟩ : ∃ y, nextT t tt ramp F = y := ⟨_, rfl⟩
  obtain ⟨d', hd'⟩ : ∃ y, nextD d td ramp F = y := ⟨_, rfl⟩
  have hcl : s.clim P F = (t', d') := by
    subst hP hs
    unfold KS.clim
    simp only
    rw [hxd]
    simp only
    rw [htt, htd, ht', hd']
  have HTg : Hid (∀ w, Hid (Blk w gs 65 (flat q4 st ++ pads).toArray) → Calls Tryd.prog 33 #[.agg #[.string pn, .int .i64 ramp, .slice (some ⟨gs, 0, none⟩) st.length cs], .int .i64 (stage : Int), .agg #[.string n, .int .i64 a0, .int .i64 a1, .int .i64 a2, .int .i64 a3, .int .i64 a4, .int .i64 a5, .int .i64 a6, .int .i64 a7, .int .i64 a8, .int .i64 a9, .int .i64 a10, .int .i64 a11]] w fun e w' => e = .returned (.agg #[.int .i64 tt, .int .i64 td]) ∧ Below w.heap.size w w') := Lib.hid (by
    intro w HS
    have h := target_any gs cs stage pn n ramp a0 a1 a2 a3 a4 a5 a6 a7 a8 a9 a10 a11 st pads _ hx hst st.length rfl w HS
    simp only at h
    rw [htt, htd] at h
    exact h)
  have HNx : Hid (∀ w, Hid (RepI w v F) → Calls Tryd.prog 32 #[.agg #[.int .i64 t, .int .i64 d], .agg #[.int .i64 tt, .int .i64 td], .int .i64 ramp, v] w fun e w' => e = .returned (.agg #[.int .i64 t', .int .i64 d']) ∧ Below w.heap.size w w') := Lib.hid (by
    intro w HR
    have h := next_any t d tt td ramp v F w HR hF
    rw [ht', hd'] at h
    exact h)
  have HX := Lib.hid hx
  have HCL := Lib.hid hcl
  have HXD := Lib.hid hxd
  clear ht' hd' htt htd hcl hx hxd
  refine start_ (n := 28) (S := fun w' => Own W0 ((gk, 74, #[.string pn, .int .i64 ramp, .slice (some ⟨gs, 0, none⟩) st.length cs, .string n, .int .i64 a0, .int .i64 a1, .int .i64 a2, .int .i64 a3, .int .i64 a4, .int .i64 a5, .int .i64 a6, .int .i64 a7, .int .i64 a8, .int .i64 a9, .int .i64 a10, .int .i64 a11, .slice (some ⟨gi, 0, none⟩) l.length ci, .int .i64 t, .int .i64 d, .int .i64 (stage : Int), .int .i64 ins, .int .i64 ticks, .int .i64 held]) :: (gi, 53, (flat q4 l ++ pad).toArray) :: (gs, 65, (flat q4 st ++ pads).toArray) :: R) w') (ds := [27]) #[false, false, false, false, false, false, false, false, false, false, false, false, false, false, false, false, false, false, false, false, false, false, false, false, false, false, false, false] (by kernel_rfl) rfl rfl (Own.drew hO) (fun hS => ?_)
  clear hO
  have hO := hS
  refine pure_ (i := 0) (N := some 15) (v := ?_) (a' := ?_) #[true, false, false, false, false, false, false, false, false, false, false, false, false, false, false, false, false, false, false, false, false, false, false, false, false, false, false, false] rfl rfl (by kernel_rfl) (fun _ _ _ h => h) (Or.inl ⟨by rfl, ?_⟩) ?_ ?_
  rotate_left
  · intro w'
    go_simp
    with_reducible rfl
  rotate_left
  · simp only [Act.put, List.setIfInBounds_toArray, List.set_cons_zero, List.set_cons_succ]
    rfl
  refine pure_ (i := 1) (N := some 16) (v := ?_) (a' := ?_) #[true, true, false, false, false, false, false, false, false, false, false, false, false, false, false, false, false, false, false, false, false, false, false, false, false, false, false, false] rfl rfl (by kernel_rfl) (fun _ _ _ h => h) (Or.inl ⟨by rfl, ?_⟩) ?_ ?_
  rotate_left
  · intro w'
    go_simp
    with_reducible rfl
  rotate_left
  · simp only [Act.put, List.setIfInBounds_toArray, List.set_cons_zero, List.set_cons_succ]
    rfl
  refine pure_ (i := 2) (N := some 17) (v := ?_) (a' := ?_) #[true, true, true, false, false, false, false, false, false, false, false, false, false, false, false, false, false, false, false, false, false, false, false, false, false, false, false, false] rfl rfl (by kernel_rfl) (fun _ _ _ h => h) (Or.inl ⟨by rfl, ?_⟩) ?_ ?_
  rotate_left
  · intro w'
    go_simp
    with_reducible rfl
  rotate_left
  · simp only [Act.put, List.setIfInBounds_toArray, List.set_cons_zero, List.set_cons_succ]
    rfl
  refine pure_ (i := 3) (N := some 18) (v := ?_) (a' := ?_) #[true, true, true, true, false, false, false, false, false, false, false, false, false, false, false, false, false, false, false, false, false, false, false, false, false, false, false, false] rfl rfl (by kernel_rfl) (fun _ _ _ h => h) (Or.inl ⟨by rfl, ?_⟩) ?_ ?_
  rotate_left
  · intro w'
    go_simp
    with_reducible rfl
  rotate_left
  · simp only [Act.put, List.setIfInBounds_toArray, List.set_cons_zero, List.set_cons_succ]
    rfl
  first
    | (refine take_ (i := 4) (N := some 19) (a' := ?_) #[true, true, true, true, true, false, false, false, false, false, false, false, false, false, false, false, false, false, false, false, false, false, false, false, false, false, false, false] rfl rfl (by kernel_rfl) (fun _ _ _ h => h) (yRow hS ?_ 37 _ rfl 0 _ _ rfl _ _ rfl 2 ?_ ?_ ?_ _ Tryd.underlying37 rfl ?_) hS ?_ ?_; (focus rfl); rotate_left; (focus (first | (with_reducible exact hrow_) | (with_reducible exact hrow2_) | (simp only [Array.toList_extract, List.extract_toArray, List.extract_eq_take_drop, List.drop_zero, List.drop_succ_cons, List.take_succ_cons, List.take_zero, Nat.reduceAdd, Nat.reduceSub, Nat.zero_add, Nat.add_zero, Nat.add_sub_cancel_left, Nat.sub_zero, Nat.sub_self]; rfl))); (focus rfl); (focus kernel_rfl); rotate_left; (focus (simp only [Act.put, List.setIfInBounds_toArray, List.set_cons_zero, List.set_cons_succ]; rfl)))
    | (refine take_ (i := 4) (N := some 19) (a' := ?_) #[true, true, true, true, true, false, false, false, false, false, false, false, false, false, false, false, false, false, false, false, false, false, false, false, false, false, false, false] rfl rfl (by kernel_rfl) (fun _ _ _ h => h) (yRow hS ?_ 37 _ rfl 1 _ _ rfl _ _ rfl 2 ?_ ?_ ?_ _ Tryd.underlying37 rfl ?_) hS ?_ ?_; (focus rfl); rotate_left; (focus (first | (with_reducible exact hrow_) | (with_reducible exact hrow2_) | (simp only [Array.toList_extract, List.extract_toArray, List.extract_eq_take_drop, List.drop_zero, List.drop_succ_cons, List.take_succ_cons, List.take_zero, Nat.reduceAdd, Nat.reduceSub, Nat.zero_add, Nat.add_zero, Nat.add_sub_cancel_left, Nat.sub_zero, Nat.sub_self]; rfl))); (focus rfl); (focus kernel_rfl); rotate_left; (focus (simp only [Act.put, List.setIfInBounds_toArray, List.set_cons_zero, List.set_cons_succ]; rfl)))
    | (refine take_ (i := 4) (N := some 19) (a' := ?_) #[true, true, true, true, true, false, false, false, false, false, false, false, false, false, false, false, false, false, false, false, false, false, false, false, false, false, false, false] rfl rfl (by kernel_rfl) (fun _ _ _ h => h) (yRow hS ?_ 37 _ rfl 2 _ _ rfl _ _ rfl 2 ?_ ?_ ?_ _ Tryd.underlying37 rfl ?_) hS ?_ ?_; (focus rfl); rotate_left; (focus (first | (with_reducible exact hrow_) | (with_reducible exact hrow2_) | (simp only [Array.toList_extract, List.extract_toArray, List.extract_eq_take_drop, List.drop_zero, List.drop_succ_cons, List.take_succ_cons, List.take_zero, Nat.reduceAdd, Nat.reduceSub, Nat.zero_add, Nat.add_zero, Nat.add_sub_cancel_left, Nat.sub_zero, Nat.sub_self]; rfl))); (focus rfl); (focus kernel_rfl); rotate_left; (focus (simp only [Act.put, List.setIfInBounds_toArray, List.set_cons_zero, List.set_cons_succ]; rfl)))
  refine pure_ (i := 5) (N := some 20) (v := ?_) (a' := ?_) #[true, true, true, true, true, true, false, false, false, false, false, false, false, false, false, false, false, false, false, false, false, false, false, false, false, false, false, false] rfl rfl (by kernel_rfl) (fun _ _ _ h => h) (Or.inl ⟨by rfl, ?_⟩) ?_ ?_
  rotate_left
  · intro w'
    go_simp
    with_reducible rfl
  rotate_left
  · simp only [Act.put, List.setIfInBounds_toArray, List.set_cons_zero, List.set_cons_succ]
    rfl
  refine pure_ (i := 6) (N := some 21) (v := ?_) (a' := ?_) #[true, true, true, true, true, true, true, false, false, false, false, false, false, false, false, false, false, false, false, false, false, false, false, false, false, false, false, false] rfl rfl (by kernel_rfl) (fun _ _ _ h => h) (Or.inl ⟨by rfl, ?_⟩) ?_ ?_
  rotate_left
  · intro w'
    go_simp
    with_reducible rfl
  rotate_left
  · simp only [Act.put, List.setIfInBounds_toArray, List.set_cons_zero, List.set_cons_succ]
    rfl
  refine pure_ (i := 7) (N := some 22) (v := ?_) (a' := ?_) #[true, true, true, true, true, true, true, true, false, false, false, false, false, false, false, false, false, false, false, false, false, false, false, false, false, false, false, false] rfl rfl (by kernel_rfl) (fun _ _ _ h => h) (Or.inl ⟨by rfl, ?_⟩) ?_ ?_
  rotate_left
  · intro w'
    go_simp
    with_reducible rfl
  rotate_left
  · simp only [Act.put, List.setIfInBounds_toArray, List.set_cons_zero, List.set_cons_succ]
    rfl
  first
    | (refine take_ (i := 8) (N := some 23) (a' := ?_) #[true, true, true, true, true, true, true, true, true, false, false, false, false, false, false, false, false, false, false, false, false, false, false, false, false, false, false, false] rfl rfl (by kernel_rfl) (fun _ _ _ h => h) (yRow hS ?_ 24 _ rfl 0 _ _ rfl _ _ rfl 3 ?_ ?_ ?_ _ Tryd.underlying24 rfl ?_) hS ?_ ?_; (focus rfl); rotate_left; (focus (first | (with_reducible exact hrow_) | (with_reducible exact hrow2_) | (simp only [Array.toList_extract, List.extract_toArray, List.extract_eq_take_drop, List.drop_zero, List.drop_succ_cons, List.take_succ_cons, List.take_zero, Nat.reduceAdd, Nat.reduceSub, Nat.zero_add, Nat.add_zero, Nat.add_sub_cancel_left, Nat.sub_zero, Nat.sub_self]; rfl))); (focus rfl); (focus kernel_rfl); rotate_left; (focus (simp only [Act.put, List.setIfInBounds_toArray, List.set_cons_zero, List.set_cons_succ]; rfl)))
    | (refine take_ (i := 8) (N := some 23) (a' := ?_) #[true, true, true, true, true, true, true, true, true, false, false, false, false, false, false, false, false, false, false, false, false, false, false, false, false, false, false, false] rfl rfl (by kernel_rfl) (fun _ _ _ h => h) (yRow hS ?_ 24 _ rfl 1 _ _ rfl _ _ rfl 3 ?_ ?_ ?_ _ Tryd.underlying24 rfl ?_) hS ?_ ?_; (focus rfl); rotate_left; (focus (first | (with_reducible exact hrow_) | (with_reducible exact hrow2_) | (simp only [Array.toList_extract, List.extract_toArray, List.extract_eq_take_drop, List.drop_zero, List.drop_succ_cons, List.take_succ_cons, List.take_zero, Nat.reduceAdd, Nat.reduceSub, Nat.zero_add, Nat.add_zero, Nat.add_sub_cancel_left, Nat.sub_zero, Nat.sub_self]; rfl))); (focus rfl); (focus kernel_rfl); rotate_left; (focus (simp only [Act.put, List.setIfInBounds_toArray, List.set_cons_zero, List.set_cons_succ]; rfl)))
    | (refine take_ (i := 8) (N := some 23) (a' := ?_) #[true, true, true, true, true, true, true, true, true, false, false, false, false, false, false, false, false, false, false, false, false, false, false, false, false, false, false, false] rfl rfl (by kernel_rfl) (fun _ _ _ h => h) (yRow hS ?_ 24 _ rfl 2 _ _ rfl _ _ rfl 3 ?_ ?_ ?_ _ Tryd.underlying24 rfl ?_) hS ?_ ?_; (focus rfl); rotate_left; (focus (first | (with_reducible exact hrow_) | (with_reducible exact hrow2_) | (simp only [Array.toList_extract, List.extract_toArray, List.extract_eq_take_drop, List.drop_zero, List.drop_succ_cons, List.take_succ_cons, List.take_zero, Nat.reduceAdd, Nat.reduceSub, Nat.zero_add, Nat.add_zero, Nat.add_sub_cancel_left, Nat.sub_zero, Nat.sub_self]; rfl))); (focus rfl); (focus kernel_rfl); rotate_left; (focus (simp only [Act.put, List.setIfInBounds_toArray, List.set_cons_zero, List.set_cons_succ]; rfl)))
  refine pure_ (i := 9) (N := some 24) (v := ?_) (a' := ?_) #[true, true, true, true, true, true, true, true, true, true, false, false, false, false, false, false, false, false, false, false, false, false, false, false, false, false, false, false] rfl rfl (by kernel_rfl) (fun _ _ _ h => h) (Or.inl ⟨by rfl, ?_⟩) ?_ ?_
  rotate_left
  · intro w'
    go_simp
    with_reducible rfl
  rotate_left
  · simp only [Act.put, List.setIfInBounds_toArray, List.set_cons_zero, List.set_cons_succ]
    rfl
  refine pure_ (i := 10) (N := some 25) (v := ?_) (a' := ?_) #[true, true, true, true, true, true, true, true, true, true, true, false, false, false, false, false, false, false, false, false, false, false, false, false, false, false, false, false] rfl rfl (by kernel_rfl) (fun _ _ _ h => h) (Or.inl ⟨by rfl, ?_⟩) ?_ ?_
  rotate_left
  · intro w'
    go_simp
    with_reducible rfl
  rotate_left
  · simp only [Act.put, List.setIfInBounds_toArray, List.set_cons_zero, List.set_cons_succ]
    rfl
  refine pure_ (i := 11) (N := some 26) (v := ?_) (a' := ?_) #[true, true, true, true, true, true, true, true, true, true, true, true, false, false, false, false, false, false, false, false, false, false, false, false, false, false, false, false] rfl rfl (by kernel_rfl) (fun _ _ _ h => h) (Or.inl ⟨by rfl, ?_⟩) ?_ ?_
  rotate_left
  · intro w'
    go_simp
    with_reducible rfl
  rotate_left
  · simp only [Act.put, List.setIfInBounds_toArray, List.set_cons_zero, List.set_cons_succ]
    rfl
  first
    | (refine take_ (i := 12) (N := some 27) (a' := ?_) #[true, true, true, true, true, true, true, true, true, true, true, true, true, false, false, false, false, false, false, false, false, false, false, false, false, false, false, false] rfl rfl (by kernel_rfl) (fun _ _ _ h => h) (yOne hS ?_ 3 _ rfl 0 _ _ rfl _ _ rfl ?_ ?_ _ Tryd.underlying3 rfl) hS ?_ ?_; (focus rfl); rotate_left; (focus (first | (with_reducible exact hcell_) | (simp only [List.getElem?_toArray, List.getElem?_cons_zero, List.getElem?_cons_succ]; rfl))); rotate_left; (focus (simp only [Act.put, List.setIfInBounds_toArray, List.set_cons_zero, List.set_cons_succ]; rfl)))
    | (refine take_ (i := 12) (N := some 27) (a' := ?_) #[true, true, true, true, true, true, true, true, true, true, true, true, true, false, false, false, false, false, false, false, false, false, false, false, false, false, false, false] rfl rfl (by kernel_rfl) (fun _ _ _ h => h) (yOne hS ?_ 3 _ rfl 1 _ _ rfl _ _ rfl ?_ ?_ _ Tryd.underlying3 rfl) hS ?_ ?_; (focus rfl); rotate_left; (focus (first | (with_reducible exact hcell_) | (simp only [List.getElem?_toArray, List.getElem?_cons_zero, List.getElem?_cons_succ]; rfl))); rotate_left; (focus (simp only [Act.put, List.setIfInBounds_toArray, List.set_cons_zero, List.set_cons_succ]; rfl)))
    | (refine take_ (i := 12) (N := some 27) (a' := ?_) #[true, true, true, true, true, true, true, true, true, true, true, true, true, false, false, false, false, false, false, false, false, false, false, false, false, false, false, false] rfl rfl (by kernel_rfl) (fun _ _ _ h => h) (yOne hS ?_ 3 _ rfl 2 _ _ rfl _ _ rfl ?_ ?_ _ Tryd.underlying3 rfl) hS ?_ ?_; (focus rfl); rotate_left; (focus (first | (with_reducible exact hcell_) | (simp only [List.getElem?_toArray, List.getElem?_cons_zero, List.getElem?_cons_succ]; rfl))); rotate_left; (focus (simp only [Act.put, List.setIfInBounds_toArray, List.set_cons_zero, List.set_cons_succ]; rfl)))
  refine pure_ (i := 13) (N := some 28) (v := ?_) (a' := ?_) #[true, true, true, true, true, true, true, true, true, true, true, true, true, true, false, false, false, false, false, false, false, false, false, false, false, false, false, false] rfl rfl (by kernel_rfl) (fun _ _ _ h => h) (Or.inl ⟨by rfl, ?_⟩) ?_ ?_
  rotate_left
  · intro w'
    go_simp
    with_reducible rfl
  rotate_left
  · simp only [Act.put, List.setIfInBounds_toArray, List.set_cons_zero, List.set_cons_succ]
    rfl
  refine pure_ (i := 14) (N := some 29) (v := ?_) (a' := ?_) #[true, true, true, true, true, true, true, true, true, true, true, true, true, true, true, false, false, false, false, false, false, false, false, false, false, false, false, false] rfl rfl (by kernel_rfl) (fun _ _ _ h => h) (Or.inl ⟨by rfl, ?_⟩) ?_ ?_
  rotate_left
  · intro w'
    go_simp
    with_reducible rfl
  rotate_left
  · simp only [Act.put, List.setIfInBounds_toArray, List.set_cons_zero, List.set_cons_succ]
    rfl
  refine pure_ (i := 15) (N := some 30) (v := ?_) (a' := ?_) #[true, true, true, true, true, true, true, true, true, true, true, true, true, true, true, true, false, false, false, false, false, false, false, false, false, false, false, false] rfl rfl (by kernel_rfl) (fun _ _ _ h => h) (Or.inl ⟨by rfl, ?_⟩) ?_ ?_
  rotate_left
  · intro w'
    go_simp
    with_reducible rfl
  rotate_left
  · simp only [Act.put, List.setIfInBounds_toArray, List.set_cons_zero, List.set_cons_succ]
    rfl
  first
    | (refine take_ (i := 16) (N := some 31) (a' := ?_) #[true, true, true, true, true, true, true, true, true, true, true, true, true, true, true, true, true, false, false, false, false, false, false, false, false, false, false, false] rfl rfl (by kernel_rfl) (fun _ _ _ h => h) (yRow hS ?_ 26 _ rfl 0 _ _ rfl _ _ rfl 13 ?_ ?_ ?_ _ Tryd.underlying26 rfl ?_) hS ?_ ?_; (focus rfl); rotate_left; (focus (first | (with_reducible exact hrow_) | (with_reducible exact hrow2_) | (simp only [Array.toList_extract, List.extract_toArray, List.extract_eq_take_drop, List.drop_zero, List.drop_succ_cons, List.take_succ_cons, List.take_zero, Nat.reduceAdd, Nat.reduceSub, Nat.zero_add, Nat.add_zero, Nat.add_sub_cancel_left, Nat.sub_zero, Nat.sub_self]; rfl))); (focus rfl); (focus kernel_rfl); rotate_left; (focus (simp only [Act.put, List.setIfInBounds_toArray, List.set_cons_zero, List.set_cons_succ]; rfl)))
    | (refine take_ (i := 16) (N := some 31) (a' := ?_) #[true, true, true, true, true, true, true, true, true, true, true, true, true, true, true, true, true, false, false, false, false, false, false, false, false, false, false, false] rfl rfl (by kernel_rfl) (fun _ _ _ h => h) (yRow hS ?_ 26 _ rfl 1 _ _ rfl _ _ rfl 13 ?_ ?_ ?_ _ Tryd.underlying26 rfl ?_) hS ?_ ?_; (focus rfl); rotate_left; (focus (first | (with_reducible exact hrow_) | (with_reducible exact hrow2_) | (simp only [Array.toList_extract, List.extract_toArray, List.extract_eq_take_drop, List.drop_zero, List.drop_succ_cons, List.take_succ_cons, List.take_zero, Nat.reduceAdd, Nat.reduceSub, Nat.zero_add, Nat.add_zero, Nat.add_sub_cancel_left, Nat.sub_zero, Nat.sub_self]; rfl))); (focus rfl); (focus kernel_rfl); rotate_left; (focus (simp only [Act.put, List.setIfInBounds_toArray, List.set_cons_zero, List.set_cons_succ]; rfl)))
    | (refine take_ (i := 16) (N := some 31) (a' := ?_) #[true, true, true, true, true, true, true, true, true, true, true, true, true, true, true, true, true, false, false, false, false, false, false, false, false, false, false, false] rfl rfl (by kernel_rfl) (fun _ _ _ h => h) (yRow hS ?_ 26 _ rfl 2 _ _ rfl _ _ rfl 13 ?_ ?_ ?_ _ Tryd.underlying26 rfl ?_) hS ?_ ?_; (focus rfl); rotate_left; (focus (first | (with_reducible exact hrow_) | (with_reducible exact hrow2_) | (simp only [Array.toList_extract, List.extract_toArray, List.extract_eq_take_drop, List.drop_zero, List.drop_succ_cons, List.take_succ_cons, List.take_zero, Nat.reduceAdd, Nat.reduceSub, Nat.zero_add, Nat.add_zero, Nat.add_sub_cancel_left, Nat.sub_zero, Nat.sub_self]; rfl))); (focus rfl); (focus kernel_rfl); rotate_left; (focus (simp only [Act.put, List.setIfInBounds_toArray, List.set_cons_zero, List.set_cons_succ]; rfl)))
  refine pure_ (i := 18) (N := some 33) (v := ?_) (a' := ?_) #[true, true, true, true, true, true, true, true, true, true, true, true, true, true, true, true, true, false, true, false, false, false, false, false, false, false, false, false] rfl rfl (by kernel_rfl) (fun _ _ _ h => h) (Or.inl ⟨by rfl, ?_⟩) ?_ ?_
  rotate_left
  · intro w'
    go_simp
    with_reducible rfl
  rotate_left
  · simp only [Act.put, List.setIfInBounds_toArray, List.set_cons_zero, List.set_cons_succ]
    rfl
  refine pure_ (i := 19) (N := some 34) (v := ?_) (a' := ?_) #[true, true, true, true, true, true, true, true, true, true, true, true, true, true, true, true, true, false, true, true, false, false, false, false, false, false, false, false] rfl rfl (by kernel_rfl) (fun _ _ _ h => h) (Or.inl ⟨by rfl, ?_⟩) ?_ ?_
  rotate_left
  · intro w'
    go_simp
    with_reducible rfl
  rotate_left
  · simp only [Act.put, List.setIfInBounds_toArray, List.set_cons_zero, List.set_cons_succ]
    rfl
  refine pure_ (i := 20) (N := some 35) (v := ?_) (a' := ?_) #[true, true, true, true, true, true, true, true, true, true, true, true, true, true, true, true, true, false, true, true, true, false, false, false, false, false, false, false] rfl rfl (by kernel_rfl) (fun _ _ _ h => h) (Or.inl ⟨by rfl, ?_⟩) ?_ ?_
  rotate_left
  · intro w'
    go_simp
    with_reducible rfl
  rotate_left
  · simp only [Act.put, List.setIfInBounds_toArray, List.set_cons_zero, List.set_cons_succ]
    rfl
  refine pure_ (i := 21) (N := some 36) (v := ?_) (a' := ?_) #[true, true, true, true, true, true, true, true, true, true, true, true, true, true, true, true, true, false, true, true, true, true, false, false, false, false, false, false] rfl rfl (by kernel_rfl) (fun _ _ _ h => h) (Or.inl ⟨by rfl, ?_⟩) ?_ ?_
  rotate_left
  · intro w'
    go_simp
    with_reducible rfl
  rotate_left
  · simp only [Act.put, List.setIfInBounds_toArray, List.set_cons_zero, List.set_cons_succ]
    rfl
  first
    | (refine take_ (i := 22) (N := some 37) (a' := ?_) #[true, true, true, true, true, true, true, true, true, true, true, true, true, true, true, true, true, false, true, true, true, true, true, false, false, false, false, false] rfl rfl (by kernel_rfl) (fun _ _ _ h => h) (yOne hS ?_ 3 _ rfl 0 _ _ rfl _ _ rfl ?_ ?_ _ Tryd.underlying3 rfl) hS ?_ ?_; (focus rfl); rotate_left; (focus (first | (with_reducible exact hcell_) | (simp only [List.getElem?_toArray, List.getElem?_cons_zero, List.getElem?_cons_succ]; rfl))); rotate_left; (focus (simp only [Act.put, List.setIfInBounds_toArray, List.set_cons_zero, List.set_cons_succ]; rfl)))
    | (refine take_ (i := 22) (N := some 37) (a' := ?_) #[true, true, true, true, true, true, true, true, true, true, true, true, true, true, true, true, true, false, true, true, true, true, true, false, false, false, false, false] rfl rfl (by kernel_rfl) (fun _ _ _ h => h) (yOne hS ?_ 3 _ rfl 1 _ _ rfl _ _ rfl ?_ ?_ _ Tryd.underlying3 rfl) hS ?_ ?_; (focus rfl); rotate_left; (focus (first | (with_reducible exact hcell_) | (simp only [List.getElem?_toArray, List.getElem?_cons_zero, List.getElem?_cons_succ]; rfl))); rotate_left; (focus (simp only [Act.put, List.setIfInBounds_toArray, List.set_cons_zero, List.set_cons_succ]; rfl)))
    | (refine take_ (i := 22) (N := some 37) (a' := ?_) #[true, true, true, true, true, true, true, true, true, true, true, true, true, true, true, true, true, false, true, true, true, true, true, false, false, false, false, false] rfl rfl (by kernel_rfl) (fun _ _ _ h => h) (yOne hS ?_ 3 _ rfl 2 _ _ rfl _ _ rfl ?_ ?_ _ Tryd.underlying3 rfl) hS ?_ ?_; (focus rfl); rotate_left; (focus (first | (with_reducible exact hcell_) | (simp only [List.getElem?_toArray, List.getElem?_cons_zero, List.getElem?_cons_succ]; rfl))); rotate_left; (focus (simp only [Act.put, List.setIfInBounds_toArray, List.set_cons_zero, List.set_cons_succ]; rfl)))
  refine pure_ (i := 23) (N := some 38) (v := ?_) (a' := ?_) #[true, true, true, true, true, true, true, true, true, true, true, true, true, true, true, true, true, false, true, true, true, true, true, true, false, false, false, false] rfl rfl (by kernel_rfl) (fun _ _ _ h => h) (Or.inl ⟨by rfl, ?_⟩) ?_ ?_
  rotate_left
  · intro w'
    go_simp
    with_reducible rfl
  rotate_left
  · simp only [Act.put, List.setIfInBounds_toArray, List.set_cons_zero, List.set_cons_succ]
    rfl
  refine one_ (i := 17) (N := some 32) #[true, true, true, true, true, true, true, true, true, true, true, true, true, true, true, true, true, true, true, true, true, true, true, true, false, false, false, false] rfl rfl (by kernel_rfl) (by decide) (fun K hK => ?_)
  refine goes_ Tryd.func33 (by kernel_rfl) rfl #[.agg #[.string pn, .int .i64 ramp, .slice (some ⟨gs, 0, none⟩) st.length cs], .int .i64 (stage : Int), .agg #[.string n, .int .i64 a0, .int .i64 a1, .int .i64 a2, .int .i64 a3, .int .i64 a4, .int .i64 a5, .int .i64 a6, .int .i64 a7, .int .i64 a8, .int .i64 a9, .int .i64 a10, .int .i64 a11]] (by rfl) rfl rfl (by (try simp only [List.map_toArray, List.map_cons, List.map_nil]); first | done | rfl) ?_
  with_reducible refine (HTg.out _ (Lib.hid (hO.at 2 rfl))).mono ?_
  rintro e w_ ⟨rfl, hb_⟩
  refine ⟨_, rfl, ?_⟩
  replace hO := Own.call hO hb_
  clear hb_
  refine hK.out _ _ (hO) (fun hS => ?_)
  clear hK K
  refine norm_ (a' := ?_) ?_ ?_
  rotate_left
  · show Act.put _ (some 32) _ = _
    simp only [Act.put, List.setIfInBounds_toArray, List.set_cons_zero, List.set_cons_succ]
    rfl
  refine one_ (i := 24) (N := some 39) #[true, true, true, true, true, true, true, true, true, true, true, true, true, true, true, true, true, true, true, true, true, true, true, true, true, false, false, false] rfl rfl (by kernel_rfl) (by decide) (fun K hK => ?_)
  refine goes_ Tryd.func32 (by kernel_rfl) rfl #[.agg #[.int .i64 t, .int .i64 d], .agg #[.int .i64 tt, .int .i64 td], .int .i64 ramp, v] (by rfl) rfl rfl (by (try simp only [List.map_toArray, List.map_cons, List.map_nil]); first | done | rfl) ?_
  with_reducible refine (HNx.out _ (Lib.hid (hr.out _ hO.tail.tail.tail))).mono ?_
  rintro e w_ ⟨rfl, hb_⟩
  refine ⟨_, rfl, ?_⟩
  replace hO := Own.call hO hb_
  clear hb_
  refine hK.out _ _ (hO) (fun hS => ?_)
  clear hK K
  refine norm_ (a' := ?_) ?_ ?_
  rotate_left
  · show Act.put _ (some 39) _ = _
    simp only [Act.put, List.setIfInBounds_toArray, List.set_cons_zero, List.set_cons_succ]
    rfl
  refine pure_ (i := 25) (N := some 40) (v := ?_) (a' := ?_) #[true, true, true, true, true, true, true, true, true, true, true, true, true, true, true, true, true, true, true, true, true, true, true, true, true, true, false, false] rfl rfl (by kernel_rfl) (fun _ _ _ h => h) (Or.inl ⟨by rfl, ?_⟩) ?_ ?_
  rotate_left
  · intro w'
    go_simp
    with_reducible rfl
  rotate_left
  · simp only [Act.put, List.setIfInBounds_toArray, List.set_cons_zero, List.set_cons_succ]
    rfl
  refine pure_ (i := 26) (N := some 41) (v := ?_) (a' := ?_) #[true, true, true, true, true, true, true, true, true, true, true, true, true, true, true, true, true, true, true, true, true, true, true, true, true, true, true, false] rfl rfl (by kernel_rfl) (fun _ _ _ h => h) (Or.inl ⟨by rfl, ?_⟩) ?_ ?_
  rotate_left
  · intro w'
    go_simp
    with_reducible rfl
  rotate_left
  · simp only [Act.put, List.setIfInBounds_toArray, List.set_cons_zero, List.set_cons_succ]
    rfl
  refine last_ (i := 27) (N := none) #[true, true, true, true, true, true, true, true, true, true, true, true, true, true, true, true, true, true, true, true, true, true, true, true, true, true, true, true] rfl rfl (by kernel_rfl) (by decide) (fun K hK => ?_)
  refine rStore (by rfl) rfl 37 _ _ rfl hO 0 _ _ ?_ rfl ?_ _ _ rfl ?_ ?_ ?_ ?_
  rotate_left
  · first | (go_simp; done) | (go_simp; with_reducible rfl) | rfl
  · first | (exact hble_) | kernel_rfl
  · kernel_rfl
  · kernel_rfl
  clear hO
  intro w_ hO
  first | (simp only [Value.cells] at hO; rw [hput_] at hO) | simp only [List.set_cons_zero, List.set_cons_succ, putAllA, Value.cells, List.setIfInBounds_toArray] at hO
  refine hK.out _ _ ?_
  clear hK K
  refine norm_ (a' := ?_) ?_ ?_
  rotate_left
  · rfl
  refine done_ (by kernel_rfl) ?_
  clear HTg HNx
  have s1 : IntKind.i64.wrap (ins + 1) = ins + 1 := IntWalk.i64_in _ (by omega)
  have s2 : IntKind.i64.wrap (ticks + 1) = ticks + 1 := IntWalk.i64_in _ (by omega)
  have s3 : IntKind.i64.wrap (held + 1) = held + 1 := IntWalk.i64_in _ (by omega)
  have hfan : KS.fan F = true := by
    unfold KS.fan
    rw [hfb]
    rfl
  have HF : Hid (∀ w, Hid (Glob2 w) → Hid (RepI w v F) → Calls Tryd.prog 34 #[v, .func (.func 35) #[] #[]] w fun e w' => e = .returned (.bool false) ∧ Below w.heap.size w w') := Lib.hid (fun w g r => hfb ▸ hasF_any v F w g r hF)
  clear hfb
  have hhb : s.harm P F = harmB a4 l (l.map (dryZ a1 a2 a3 t' d' true)) := by
    unfold KS.harm KS.dried
    rw [hfan, HCL.out]
    subst hP hs
    rfl
  have HH : Hid (∀ w gn cn (pn' : List Value), Hid (Blk w gk 74 #[.string pn, .int .i64 ramp, .slice (some ⟨gs, 0, none⟩) st.length cs, .string n, .int .i64 a0, .int .i64 a1, .int .i64 a2, .int .i64 a3, .int .i64 a4, .int .i64 a5, .int .i64 a6, .int .i64 a7, .int .i64 a8, .int .i64 a9, .int .i64 a10, .int .i64 a11, .slice (some ⟨gi, 0, none⟩) l.length ci, .int .i64 t', .int .i64 d', .int .i64 (stage : Int), .int .i64 ins, .int .i64 ticks, .int .i64 held]) → Hid (Blk w gi 53 (flat q4 l ++ pad).toArray) → Hid (Blk w gn 53 (flat q4 (l.map (dryZ a1 a2 a3 t' d' true)) ++ pn').toArray) → Calls Tryd.prog 37 #[.pointer (some ⟨gk, 0, none⟩), .slice (some ⟨gn, 0, none⟩) l.length cn] w fun e w' => e = .returned (.bool (s.harm P F)) ∧ Below w.heap.size w w') := Lib.hid (by
    intro w gn cn pn' HK HI HN
    rw [hhb]
    exact harmed_any gk gs gi cs ci st.length l.length pn n ramp a0 a1 a2 a3 a4 a5 a6 a7 a8 a9 a10 a11 t' d' stage ins ticks held gn cn l (l.map (dryZ a1 a2 a3 t' d' true)) pad pn' w hl rfl (List.length_map _) HK HI HN)
  clear hhb
  rw [hharm] at HH
  go_upto_region 8 with (first
  | (go_at_call 34; (with_reducible refine (HF.out _ (Lib.hid (h2.out.below hO.bel)) (Lib.hid (hr.out _ hO.tail.tail.tail))).mono ?_); rintro e w_ ⟨rfl, hb_⟩; replace hO := Own.call hO hb_; clear hb_)
  | (go_at_call 36; (with_reducible refine (dried_any true gk gs gi cs ci st.length pn n ramp a0 a1 a2 a3 a4 a5 a6 a7 a8 a9 a10 a11 t' d' stage ins ticks held l pad _ (Lib.hid (hG.out.below hO.bel)) h1 hl l.length rfl (Lib.hid (hO.at 0 rfl)) (Lib.hid (hO.at 1 rfl))).mono ?_); rintro e w_ ⟨g1, c1, pad1, rfl, hO1⟩; replace hO := Own.join hO hO1; clear hO1; simp only [List.cons_append, List.nil_append] at hO)
  | (go_at_call 37; (with_reducible refine (HH.out _ g1 c1 pad1 (Lib.hid (hO.at 1 rfl)) (Lib.hid (hO.at 2 rfl)) (Lib.hid (hO.at 0 rfl))).mono ?_); rintro e w_ ⟨rfl, hb_⟩; replace hO := Own.call hO hb_; clear hb_)
  | (go_at_call 36; (with_reducible refine (dried_any false gk gs gi cs ci st.length pn n ramp a0 a1 a2 a3 a4 a5 a6 a7 a8 a9 a10 a11 t' d' stage ins ticks held l pad _ (Lib.hid (hG.out.below hO.bel)) h1 hl l.length rfl (Lib.hid (hO.at 1 rfl)) (Lib.hid (hO.at 2 rfl))).mono ?_); rintro e w_ ⟨g2, c2, pad2, rfl, hO1⟩; replace hO := Own.join hO hO1; clear hO1; simp only [List.cons_append, List.nil_append] at hO)
  )
  clear HH HF
  have HN : Hid (Valid (l.map (dryZ a1 a2 a3 t' d' false))) := Lib.hid (hV.out.dry a1 a2 a3 t' d' false)
  have HLN : (l.map (dryZ a1 a2 a3 t' d' false)).length = l.length := List.length_map _
  have HL2 : Hid (s.l2 P F = l.map (dryZ a1 a2 a3 t' d' false)) := Lib.hid (by
    unfold KS.l2
    rw [hharm]
    unfold KS.dried
    rw [HCL.out]
    subst hP hs
    rfl)
  generalize hLN : l.map (dryZ a1 a2 a3 t' d' false) = lN at *
  obtain ⟨mm, hmm⟩ : ∃ y, meanK lN = y := ⟨_, rfl⟩
  have HM : Hid (∀ w gi ci (pad : List Value), Hid (Blk w gk 74 #[.string pn, .int .i64 ramp, .slice (some ⟨gs, 0, none⟩) st.length cs, .string n, .int .i64 a0, .int .i64 a1, .int .i64 a2, .int .i64 a3, .int .i64 a4, .int .i64 a5, .int .i64 a6, .int .i64 a7, .int .i64 a8, .int .i64 a9, .int .i64 a10, .int .i64 a11, .slice (some ⟨gi, 0, none⟩) l.length ci, .int .i64 t', .int .i64 d', .int .i64 (stage : Int), .int .i64 (ins + 1), .int .i64 (ticks + 1), .int .i64 (held + 1)]) → Hid (Blk w gi 53 (flat q4 lN ++ pad).toArray) → Calls Tryd.prog 24 #[.pointer (some ⟨gk, 0, none⟩)] w fun e w' => e = .returned (.int .i64 mm) ∧ Below w.heap.size w w') := Lib.hid (by
    intro w gi ci pad HK HI
    have h := meanK_any gk gs gi cs ci st.length l.length pn n ramp a0 a1 a2 a3 a4 a5 a6 a7 a8 a9 a10 a11 t' d' stage (ins + 1) (ticks + 1) (held + 1) lN pad w (by omega) (by omega) HLN.symm (Lib.hid HN.out.wet) HK HI
    rw [hmm] at h
    exact h)
  have HEb : Hid (s.ends P F = endsB (xb, xk, xt, xd) (ins + 1) mm) := Lib.hid (by
    unfold KS.ends
    rw [HL2.out, hmm]
    subst hP hs
    show endsB (st.getD stage (0, 0, 0, 0)) _ _ = _
    rw [HXD.out])
  have HEn : Hid (∀ w, Hid (Blk w gs 65 (flat q4 st ++ pads).toArray) → Calls Tryd.prog 38 #[.agg #[.string pn, .int .i64 ramp, .slice (some ⟨gs, 0, none⟩) st.length cs], .int .i64 (stage : Int), .int .i64 (ins + 1), .int .i64 mm] w fun e w' => e = .returned (.tuple #[.int .i64 (if endsB (xb, xk, xt, xd) (ins + 1) mm = true then (stage : Int) + 1 else (stage : Int)), .bool (endsB (xb, xk, xt, xd) (ins + 1) mm)]) ∧ Below w.heap.size w w') := Lib.hid (fun w HS => ends_any gs cs stage pn ramp (ins + 1) mm st pads _ HX.out hst st.length rfl w HS)
  have HTK : Hid (s.tick P F = ⟨lN, t', d', if endsB (xb, xk, xt, xd) (ins + 1) mm = true then stage + 1 else stage, if endsB (xb, xk, xt, xd) (ins + 1) mm = true then 0 else ins + 1, ticks + 1, (held + 1)⟩) := Lib.hid (by
    unfold KS.tick
    rw [HL2.out, HCL.out, HEb.out, hharm]
    subst hP hs
    rfl)
  clear HEb HL2 hmm hLN hharm hfan
  rcases Bool.eq_false_or_eq_true (endsB (xb, xk, xt, xd) (ins + 1) mm) with he | he
  · rw [he] at HEn HTK
    simp only [if_true, Bool.false_eq_true, if_false] at HEn HTK
    clear he
    go_upto_region 12 with (first
  | ((with_reducible refine gate_alloc 3 rfl ?_); refine own_alloc rfl 3 rfl hO _ rfl #[.int .i64 0] (by kernel_rfl) ?_; clear hO; (try clear w_); intro g_ w_ hO)
  | ((with_reducible refine gate_box 3 rfl ?_); refine own_box rfl 3 _ rfl hO _ rfl ?_ ?_ ?_; rotate_left; (focus (first | (go_simp; done) | (go_simp; with_reducible rfl) | rfl)); clear hO; (try clear w_); intro g_ w_ hO; simp only [Value.cells] at hO)
  | ((with_reducible refine gate_load 3 rfl ?_); (first | refine own_load_one rfl 3 _ rfl hO 0 _ _ rfl _ _ rfl _ rfl ?_ ?_ _ Tryd.underlying3 rfl ?_); rotate_left; (focus (first | (with_reducible exact hcell_) | (simp only [List.getElem?_toArray, List.getElem?_cons_zero, List.getElem?_cons_succ]; rfl))))
  | ((with_reducible refine gate_store 3 rfl ?_); (first | refine own_store rfl 3 _ _ rfl hO 0 _ _ ?_ rfl ?_ _ _ rfl _ rfl ?_ ?_ ?_ ?_); rotate_left; (focus (first | (go_simp; done) | (go_simp; with_reducible rfl) | rfl)); (focus (first | (exact hble_) | kernel_rfl)); (focus kernel_rfl); (focus kernel_rfl); clear hO; (try clear w_); intro w_ hO; (first | (simp only [Value.cells] at hO; rw [hput_] at hO) | simp only [List.set_cons_zero, List.set_cons_succ, putAllA, Value.cells, List.setIfInBounds_toArray] at hO))
  | ((with_reducible refine gate_alloc 48 rfl ?_); refine own_alloc rfl 48 rfl hO _ rfl #[.slice none 0 0] (by kernel_rfl) ?_; clear hO; (try clear w_); intro g_ w_ hO)
  | ((with_reducible refine gate_box 48 rfl ?_); refine own_box rfl 48 _ rfl hO _ rfl ?_ ?_ ?_; rotate_left; (focus (first | (go_simp; done) | (go_simp; with_reducible rfl) | rfl)); clear hO; (try clear w_); intro g_ w_ hO; simp only [Value.cells] at hO)
  | ((with_reducible refine gate_load 48 rfl ?_); (first | refine own_load_one rfl 48 _ rfl hO 0 _ _ rfl _ _ rfl _ rfl ?_ ?_ _ Tryd.underlying48 rfl ?_); rotate_left; (focus (first | (with_reducible exact hcell_) | (simp only [List.getElem?_toArray, List.getElem?_cons_zero, List.getElem?_cons_succ]; rfl))))
  | ((with_reducible refine gate_store 48 rfl ?_); (first | refine own_store rfl 48 _ _ rfl hO 0 _ _ ?_ rfl ?_ _ _ rfl _ rfl ?_ ?_ ?_ ?_); rotate_left; (focus (first | (go_simp; done) | (go_simp; with_reducible rfl) | rfl)); (focus (first | (exact hble_) | kernel_rfl)); (focus kernel_rfl); (focus kernel_rfl); clear hO; (try clear w_); intro w_ hO; (first | (simp only [Value.cells] at hO; rw [hput_] at hO) | simp only [List.set_cons_zero, List.set_cons_succ, putAllA, Value.cells, List.setIfInBounds_toArray] at hO))
  | ((with_reducible refine gate_alloc 3 rfl ?_); refine own_alloc rfl 3 rfl hO _ rfl #[.int .i64 0] (by kernel_rfl) ?_; clear hO; (try clear w_); intro g_ w_ hO)
  | ((with_reducible refine gate_box 3 rfl ?_); refine own_box rfl 3 _ rfl hO _ rfl ?_ ?_ ?_; rotate_left; (focus (first | (go_simp; done) | (go_simp; with_reducible rfl) | rfl)); clear hO; (try clear w_); intro g_ w_ hO; simp only [Value.cells] at hO)
  | ((with_reducible refine gate_load 3 rfl ?_); (first | refine own_load_one rfl 3 _ rfl hO 0 _ _ rfl _ _ rfl _ rfl ?_ ?_ _ Tryd.underlying3 rfl ?_ | refine own_load_one rfl 3 _ rfl hO 1 _ _ rfl _ _ rfl _ rfl ?_ ?_ _ Tryd.underlying3 rfl ?_ | refine own_load_one rfl 3 _ rfl hO 2 _ _ rfl _ _ rfl _ rfl ?_ ?_ _ Tryd.underlying3 rfl ?_); rotate_left; (focus (first | (with_reducible exact hcell_) | (simp only [List.getElem?_toArray, List.getElem?_cons_zero, List.getElem?_cons_succ]; rfl))))
  | ((with_reducible refine gate_store 3 rfl ?_); (first | refine own_store rfl 3 _ _ rfl hO 0 _ _ ?_ rfl ?_ _ _ rfl _ rfl ?_ ?_ ?_ ?_ | refine own_store rfl 3 _ _ rfl hO 1 _ _ ?_ rfl ?_ _ _ rfl _ rfl ?_ ?_ ?_ ?_ | refine own_store rfl 3 _ _ rfl hO 2 _ _ ?_ rfl ?_ _ _ rfl _ rfl ?_ ?_ ?_ ?_); rotate_left; (focus (first | (go_simp; done) | (go_simp; with_reducible rfl) | rfl)); (focus (first | (exact hble_) | kernel_rfl)); (focus kernel_rfl); (focus kernel_rfl); clear hO; (try clear w_); intro w_ hO; (first | (simp only [Value.cells] at hO; rw [hput_] at hO) | simp only [List.set_cons_zero, List.set_cons_succ, putAllA, Value.cells, List.setIfInBounds_toArray] at hO))
  | ((with_reducible refine gate_alloc 48 rfl ?_); refine own_alloc rfl 48 rfl hO _ rfl #[.slice none 0 0] (by kernel_rfl) ?_; clear hO; (try clear w_); intro g_ w_ hO)
  | ((with_reducible refine gate_box 48 rfl ?_); refine own_box rfl 48 _ rfl hO _ rfl ?_ ?_ ?_; rotate_left; (focus (first | (go_simp; done) | (go_simp; with_reducible rfl) | rfl)); clear hO; (try clear w_); intro g_ w_ hO; simp only [Value.cells] at hO)
  | ((with_reducible refine gate_load 48 rfl ?_); (first | refine own_load_one rfl 48 _ rfl hO 0 _ _ rfl _ _ rfl _ rfl ?_ ?_ _ Tryd.underlying48 rfl ?_ | refine own_load_one rfl 48 _ rfl hO 1 _ _ rfl _ _ rfl _ rfl ?_ ?_ _ Tryd.underlying48 rfl ?_ | refine own_load_one rfl 48 _ rfl hO 2 _ _ rfl _ _ rfl _ rfl ?_ ?_ _ Tryd.underlying48 rfl ?_); rotate_left; (focus (first | (with_reducible exact hcell_) | (simp only [List.getElem?_toArray, List.getElem?_cons_zero, List.getElem?_cons_succ]; rfl))))
  | ((with_reducible refine gate_store 48 rfl ?_); (first | refine own_store rfl 48 _ _ rfl hO 0 _ _ ?_ rfl ?_ _ _ rfl _ rfl ?_ ?_ ?_ ?_ | refine own_store rfl 48 _ _ rfl hO 1 _ _ ?_ rfl ?_ _ _ rfl _ rfl ?_ ?_ ?_ ?_ | refine own_store rfl 48 _ _ rfl hO 2 _ _ ?_ rfl ?_ _ _ rfl _ rfl ?_ ?_ ?_ ?_); rotate_left; (focus (first | (go_simp; done) | (go_simp; with_reducible rfl) | rfl)); (focus (first | (exact hble_) | kernel_rfl)); (focus kernel_rfl); (focus kernel_rfl); clear hO; (try clear w_); intro w_ hO; (first | (simp only [Value.cells] at hO; rw [hput_] at hO) | simp only [List.set_cons_zero, List.set_cons_succ, putAllA, Value.cells, List.setIfInBounds_toArray] at hO))
    )
    (try simp only [Act.put, List.setIfInBounds_toArray, List.set_cons_zero, List.set_cons_succ])
    refine start_ (n := 20) (S := fun w' => Own W0 ((g2, 53, (flat q4 lN ++ pad2).toArray) :: (g1, 53, (flat q4 (l.map (dryZ a1 a2 a3 t' d' true)) ++ pad1).toArray) :: (gk, 74, #[.string pn, .int .i64 ramp, .slice (some ⟨gs, 0, none⟩) st.length cs, .string n, .int .i64 a0, .int .i64 a1, .int .i64 a2, .int .i64 a3, .int .i64 a4, .int .i64 a5, .int .i64 a6, .int .i64 a7, .int .i64 a8, .int .i64 a9, .int .i64 a10, .int .i64 a11, .slice (some ⟨g2, 0, none⟩) l.length c2, .int .i64 t', .int .i64 d', .int .i64 (stage : Int), .int .i64 (ins + 1), .int .i64 (ticks + 1), .int .i64 (held + 1)]) :: (gi, 53, (flat q4 l ++ pad).toArray) :: (gs, 65, (flat q4 st ++ pads).toArray) :: R) w') (ds := []) #[false, false, false, false, false, false, false, false, false, false, false, false, false, false, false, false, false, false, false, false] (by kernel_rfl) rfl rfl (Own.drew hO) (fun hS => ?_)
    clear hO
    have hO := hS
    refine pure_ (i := 0) (N := some 82) (v := ?_) (a' := ?_) #[true, false, false, false, false, false, false, false, false, false, false, false, false, false, false, false, false, false, false, false] rfl rfl (by kernel_rfl) (fun _ _ _ h => h) (Or.inl ⟨by rfl, ?_⟩) ?_ ?_
    rotate_left
    · intro w'
      go_simp
      with_reducible rfl
    rotate_left
    · simp only [Act.put, List.setIfInBounds_toArray, List.set_cons_zero, List.set_cons_succ]
      rfl
    refine pure_ (i := 1) (N := some 83) (v := ?_) (a' := ?_) #[true, true, false, false, false, false, false, false, false, false, false, false, false, false, false, false, false, false, false, false] rfl rfl (by kernel_rfl) (fun _ _ _ h => h) (Or.inl ⟨by rfl, ?_⟩) ?_ ?_
    rotate_left
    · intro w'
      go_simp
      with_reducible rfl
    rotate_left
    · simp only [Act.put, List.setIfInBounds_toArray, List.set_cons_zero, List.set_cons_succ]
      rfl
    refine pure_ (i := 2) (N := some 84) (v := ?_) (a' := ?_) #[true, true, true, false, false, false, false, false, false, false, false, false, false, false, false, false, false, false, false, false] rfl rfl (by kernel_rfl) (fun _ _ _ h => h) (Or.inl ⟨by rfl, ?_⟩) ?_ ?_
    rotate_left
    · intro w'
      go_simp
      with_reducible rfl
    rotate_left
    · simp only [Act.put, List.setIfInBounds_toArray, List.set_cons_zero, List.set_cons_succ]
      rfl
    first
      | (refine take_ (i := 3) (N := some 85) (a' := ?_) #[true, true, true, true, false, false, false, false, false, false, false, false, false, false, false, false, false, false, false, false] rfl rfl (by kernel_rfl) (fun _ _ _ h => h) (yRow hS ?_ 24 _ rfl 0 _ _ rfl _ _ rfl 3 ?_ ?_ ?_ _ Tryd.underlying24 rfl ?_) hS ?_ ?_; (focus rfl); rotate_left; (focus (first | (with_reducible exact hrow_) | (with_reducible exact hrow2_) | (simp only [Array.toList_extract, List.extract_toArray, List.extract_eq_take_drop, List.drop_zero, List.drop_succ_cons, List.take_succ_cons, List.take_zero, Nat.reduceAdd, Nat.reduceSub, Nat.zero_add, Nat.add_zero, Nat.add_sub_cancel_left, Nat.sub_zero, Nat.sub_self]; rfl))); (focus rfl); (focus kernel_rfl); rotate_left; (focus (simp only [Act.put, List.setIfInBounds_toArray, List.set_cons_zero, List.set_cons_succ]; rfl)))
      | (refine take_ (i := 3) (N := some 85) (a' := ?_) #[true, true, true, true, false, false, false, false, false, false, false, false, false, false, false, false, false, false, false, false] rfl rfl (by kernel_rfl) (fun _ _ _ h => h) (yRow hS ?_ 24 _ rfl 1 _ _ rfl _ _ rfl 3 ?_ ?_ ?_ _ Tryd.underlying24 rfl ?_) hS ?_ ?_; (focus rfl); rotate_left; (focus (first | (with_reducible exact hrow_) | (with_reducible exact hrow2_) | (simp only [Array.toList_extract, List.extract_toArray, List.extract_eq_take_drop, List.drop_zero, List.drop_succ_cons, List.take_succ_cons, List.take_zero, Nat.reduceAdd, Nat.reduceSub, Nat.zero_add, Nat.add_zero, Nat.add_sub_cancel_left, Nat.sub_zero, Nat.sub_self]; rfl))); (focus rfl); (focus kernel_rfl); rotate_left; (focus (simp only [Act.put, List.setIfInBounds_toArray, List.set_cons_zero, List.set_cons_succ]; rfl)))
      | (refine take_ (i := 3) (N := some 85) (a' := ?_) #[true, true, true, true, false, false, false, false, false, false, false, false, false, false, false, false, false, false, false, false] rfl rfl (by kernel_rfl) (fun _ _ _ h => h) (yRow hS ?_ 24 _ rfl 2 _ _ rfl _ _ rfl 3 ?_ ?_ ?_ _ Tryd.underlying24 rfl ?_) hS ?_ ?_; (focus rfl); rotate_left; (focus (first | (with_reducible exact hrow_) | (with_reducible exact hrow2_) | (simp only [Array.toList_extract, List.extract_toArray, List.extract_eq_take_drop, List.drop_zero, List.drop_succ_cons, List.take_succ_cons, List.take_zero, Nat.reduceAdd, Nat.reduceSub, Nat.zero_add, Nat.add_zero, Nat.add_sub_cancel_left, Nat.sub_zero, Nat.sub_self]; rfl))); (focus rfl); (focus kernel_rfl); rotate_left; (focus (simp only [Act.put, List.setIfInBounds_toArray, List.set_cons_zero, List.set_cons_succ]; rfl)))
      | (refine take_ (i := 3) (N := some 85) (a' := ?_) #[true, true, true, true, false, false, false, false, false, false, false, false, false, false, false, false, false, false, false, false] rfl rfl (by kernel_rfl) (fun _ _ _ h => h) (yRow hS ?_ 24 _ rfl 3 _ _ rfl _ _ rfl 3 ?_ ?_ ?_ _ Tryd.underlying24 rfl ?_) hS ?_ ?_; (focus rfl); rotate_left; (focus (first | (with_reducible exact hrow_) | (with_reducible exact hrow2_) | (simp only [Array.toList_extract, List.extract_toArray, List.extract_eq_take_drop, List.drop_zero, List.drop_succ_cons, List.take_succ_cons, List.take_zero, Nat.reduceAdd, Nat.reduceSub, Nat.zero_add, Nat.add_zero, Nat.add_sub_cancel_left, Nat.sub_zero, Nat.sub_self]; rfl))); (focus rfl); (focus kernel_rfl); rotate_left; (focus (simp only [Act.put, List.setIfInBounds_toArray, List.set_cons_zero, List.set_cons_succ]; rfl)))
      | (refine take_ (i := 3) (N := some 85) (a' := ?_) #[true, true, true, true, false, false, false, false, false, false, false, false, false, false, false, false, false, false, false, false] rfl rfl (by kernel_rfl) (fun _ _ _ h => h) (yRow hS ?_ 24 _ rfl 4 _ _ rfl _ _ rfl 3 ?_ ?_ ?_ _ Tryd.underlying24 rfl ?_) hS ?_ ?_; (focus rfl); rotate_left; (focus (first | (with_reducible exact hrow_) | (with_reducible exact hrow2_) | (simp only [Array.toList_extract, List.extract_toArray, List.extract_eq_take_drop, List.drop_zero, List.drop_succ_cons, List.take_succ_cons, List.take_zero, Nat.reduceAdd, Nat.reduceSub, Nat.zero_add, Nat.add_zero, Nat.add_sub_cancel_left, Nat.sub_zero, Nat.sub_self]; rfl))); (focus rfl); (focus kernel_rfl); rotate_left; (focus (simp only [Act.put, List.setIfInBounds_toArray, List.set_cons_zero, List.set_cons_succ]; rfl)))
    refine pure_ (i := 4) (N := some 86) (v := ?_) (a' := ?_) #[true, true, true, true, true, false, false, false, false, false, false, false, false, false, false, false, false, false, false, false] rfl rfl (by kernel_rfl) (fun _ _ _ h => h) (Or.inl ⟨by rfl, ?_⟩) ?_ ?_
    rotate_left
    · intro w'
      go_simp
      with_reducible rfl
    rotate_left
    · simp only [Act.put, List.setIfInBounds_toArray, List.set_cons_zero, List.set_cons_succ]
      rfl
    refine pure_ (i := 5) (N := some 87) (v := ?_) (a' := ?_) #[true, true, true, true, true, true, false, false, false, false, false, false, false, false, false, false, false, false, false, false] rfl rfl (by kernel_rfl) (fun _ _ _ h => h) (Or.inl ⟨by rfl, ?_⟩) ?_ ?_
    rotate_left
    · intro w'
      go_simp
      with_reducible rfl
    rotate_left
    · simp only [Act.put, List.setIfInBounds_toArray, List.set_cons_zero, List.set_cons_succ]
      rfl
    refine pure_ (i := 6) (N := some 88) (v := ?_) (a' := ?_) #[true, true, true, true, true, true, true, false, false, false, false, false, false, false, false, false, false, false, false, false] rfl rfl (by kernel_rfl) (fun _ _ _ h => h) (Or.inl ⟨by rfl, ?_⟩) ?_ ?_
    rotate_left
    · intro w'
      go_simp
      with_reducible rfl
    rotate_left
    · simp only [Act.put, List.setIfInBounds_toArray, List.set_cons_zero, List.set_cons_succ]
      rfl
    first
      | (refine take_ (i := 7) (N := some 89) (a' := ?_) #[true, true, true, true, true, true, true, true, false, false, false, false, false, false, false, false, false, false, false, false] rfl rfl (by kernel_rfl) (fun _ _ _ h => h) (yOne hS ?_ 3 _ rfl 0 _ _ rfl _ _ rfl ?_ ?_ _ Tryd.underlying3 rfl) hS ?_ ?_; (focus rfl); rotate_left; (focus (first | (with_reducible exact hcell_) | (simp only [List.getElem?_toArray, List.getElem?_cons_zero, List.getElem?_cons_succ]; rfl))); rotate_left; (focus (simp only [Act.put, List.setIfInBounds_toArray, List.set_cons_zero, List.set_cons_succ]; rfl)))
      | (refine take_ (i := 7) (N := some 89) (a' := ?_) #[true, true, true, true, true, true, true, true, false, false, false, false, false, false, false, false, false, false, false, false] rfl rfl (by kernel_rfl) (fun _ _ _ h => h) (yOne hS ?_ 3 _ rfl 1 _ _ rfl _ _ rfl ?_ ?_ _ Tryd.underlying3 rfl) hS ?_ ?_; (focus rfl); rotate_left; (focus (first | (with_reducible exact hcell_) | (simp only [List.getElem?_toArray, List.getElem?_cons_zero, List.getElem?_cons_succ]; rfl))); rotate_left; (focus (simp only [Act.put, List.setIfInBounds_toArray, List.set_cons_zero, List.set_cons_succ]; rfl)))
      | (refine take_ (i := 7) (N := some 89) (a' := ?_) #[true, true, true, true, true, true, true, true, false, false, false, false, false, false, false, false, false, false, false, false] rfl rfl (by kernel_rfl) (fun _ _ _ h => h) (yOne hS ?_ 3 _ rfl 2 _ _ rfl _ _ rfl ?_ ?_ _ Tryd.underlying3 rfl) hS ?_ ?_; (focus rfl); rotate_left; (focus (first | (with_reducible exact hcell_) | (simp only [List.getElem?_toArray, List.getElem?_cons_zero, List.getElem?_cons_succ]; rfl))); rotate_left; (focus (simp only [Act.put, List.setIfInBounds_toArray, List.set_cons_zero, List.set_cons_succ]; rfl)))
      | (refine take_ (i := 7) (N := some 89) (a' := ?_) #[true, true, true, true, true, true, true, true, false, false, false, false, false, false, false, false, false, false, false, false] rfl rfl (by kernel_rfl) (fun _ _ _ h => h) (yOne hS ?_ 3 _ rfl 3 _ _ rfl _ _ rfl ?_ ?_ _ Tryd.underlying3 rfl) hS ?_ ?_; (focus rfl); rotate_left; (focus (first | (with_reducible exact hcell_) | (simp only [List.getElem?_toArray, List.getElem?_cons_zero, List.getElem?_cons_succ]; rfl))); rotate_left; (focus (simp only [Act.put, List.setIfInBounds_toArray, List.set_cons_zero, List.set_cons_succ]; rfl)))
      | (refine take_ (i := 7) (N := some 89) (a' := ?_) #[true, true, true, true, true, true, true, true, false, false, false, false, false, false, false, false, false, false, false, false] rfl rfl (by kernel_rfl) (fun _ _ _ h => h) (yOne hS ?_ 3 _ rfl 4 _ _ rfl _ _ rfl ?_ ?_ _ Tryd.underlying3 rfl) hS ?_ ?_; (focus rfl); rotate_left; (focus (first | (with_reducible exact hcell_) | (simp only [List.getElem?_toArray, List.getElem?_cons_zero, List.getElem?_cons_succ]; rfl))); rotate_left; (focus (simp only [Act.put, List.setIfInBounds_toArray, List.set_cons_zero, List.set_cons_succ]; rfl)))
    refine pure_ (i := 8) (N := some 90) (v := ?_) (a' := ?_) #[true, true, true, true, true, true, true, true, true, false, false, false, false, false, false, false, false, false, false, false] rfl rfl (by kernel_rfl) (fun _ _ _ h => h) (Or.inl ⟨by rfl, ?_⟩) ?_ ?_
    rotate_left
    · intro w'
      go_simp
      with_reducible rfl
    rotate_left
    · simp only [Act.put, List.setIfInBounds_toArray, List.set_cons_zero, List.set_cons_succ]
      rfl
    refine pure_ (i := 9) (N := some 91) (v := ?_) (a' := ?_) #[true, true, true, true, true, true, true, true, true, true, false, false, false, false, false, false, false, false, false, false] rfl rfl (by kernel_rfl) (fun _ _ _ h => h) (Or.inl ⟨by rfl, ?_⟩) ?_ ?_
    rotate_left
    · intro w'
      go_simp
      with_reducible rfl
    rotate_left
    · simp only [Act.put, List.setIfInBounds_toArray, List.set_cons_zero, List.set_cons_succ]
      rfl
    refine pure_ (i := 10) (N := some 92) (v := ?_) (a' := ?_) #[true, true, true, true, true, true, true, true, true, true, true, false, false, false, false, false, false, false, false, false] rfl rfl (by kernel_rfl) (fun _ _ _ h => h) (Or.inl ⟨by rfl, ?_⟩) ?_ ?_
    rotate_left
    · intro w'
      go_simp
      with_reducible rfl
    rotate_left
    · simp only [Act.put, List.setIfInBounds_toArray, List.set_cons_zero, List.set_cons_succ]
      rfl
    first
      | (refine take_ (i := 11) (N := some 93) (a' := ?_) #[true, true, true, true, true, true, true, true, true, true, true, true, false, false, false, false, false, false, false, false] rfl rfl (by kernel_rfl) (fun _ _ _ h => h) (yOne hS ?_ 3 _ rfl 0 _ _ rfl _ _ rfl ?_ ?_ _ Tryd.underlying3 rfl) hS ?_ ?_; (focus rfl); rotate_left; (focus (first | (with_reducible exact hcell_) | (simp only [List.getElem?_toArray, List.getElem?_cons_zero, List.getElem?_cons_succ]; rfl))); rotate_left; (focus (simp only [Act.put, List.setIfInBounds_toArray, List.set_cons_zero, List.set_cons_succ]; rfl)))
      | (refine take_ (i := 11) (N := some 93) (a' := ?_) #[true, true, true, true, true, true, true, true, true, true, true, true, false, false, false, false, false, false, false, false] rfl rfl (by kernel_rfl) (fun _ _ _ h => h) (yOne hS ?_ 3 _ rfl 1 _ _ rfl _ _ rfl ?_ ?_ _ Tryd.underlying3 rfl) hS ?_ ?_; (focus rfl); rotate_left; (focus (first | (with_reducible exact hcell_) | (simp only [List.getElem?_toArray, List.getElem?_cons_zero, List.getElem?_cons_succ]; rfl))); rotate_left; (focus (simp only [Act.put, List.setIfInBounds_toArray, List.set_cons_zero, List.set_cons_succ]; rfl)))
      | (refine take_ (i := 11) (N := some 93) (a' := ?_) #[true, true, true, true, true, true, true, true, true, true, true, true, false, false, false, false, false, false, false, false] rfl rfl (by kernel_rfl) (fun _ _ _ h => h) (yOne hS ?_ 3 _ rfl 2 _ _ rfl _ _ rfl ?_ ?_ _ Tryd.underlying3 rfl) hS ?_ ?_; (focus rfl); rotate_left; (focus (first | (with_reducible exact hcell_) | (simp only [List.getElem?_toArray, List.getElem?_cons_zero, List.getElem?_cons_succ]; rfl))); rotate_left; (focus (simp only [Act.put, List.setIfInBounds_toArray, List.set_cons_zero, List.set_cons_succ]; rfl)))
      | (refine take_ (i := 11) (N := some 93) (a' := ?_) #[true, true, true, true, true, true, true, true, true, true, true, true, false, false, false, false, false, false, false, false] rfl rfl (by kernel_rfl) (fun _ _ _ h => h) (yOne hS ?_ 3 _ rfl 3 _ _ rfl _ _ rfl ?_ ?_ _ Tryd.underlying3 rfl) hS ?_ ?_; (focus rfl); rotate_left; (focus (first | (with_reducible exact hcell_) | (simp only [List.getElem?_toArray, List.getElem?_cons_zero, List.getElem?_cons_succ]; rfl))); rotate_left; (focus (simp only [Act.put, List.setIfInBounds_toArray, List.set_cons_zero, List.set_cons_succ]; rfl)))
      | (refine take_ (i := 11) (N := some 93) (a' := ?_) #[true, true, true, true, true, true, true, true, true, true, true, true, false, false, false, false, false, false, false, false] rfl rfl (by kernel_rfl) (fun _ _ _ h => h) (yOne hS ?_ 3 _ rfl 4 _ _ rfl _ _ rfl ?_ ?_ _ Tryd.underlying3 rfl) hS ?_ ?_; (focus rfl); rotate_left; (focus (first | (with_reducible exact hcell_) | (simp only [List.getElem?_toArray, List.getElem?_cons_zero, List.getElem?_cons_succ]; rfl))); rotate_left; (focus (simp only [Act.put, List.setIfInBounds_toArray, List.set_cons_zero, List.set_cons_succ]; rfl)))
    refine pure_ (i := 12) (N := some 94) (v := ?_) (a' := ?_) #[true, true, true, true, true, true, true, true, true, true, true, true, true, false, false, false, false, false, false, false] rfl rfl (by kernel_rfl) (fun _ _ _ h => h) (Or.inl ⟨by rfl, ?_⟩) ?_ ?_
    rotate_left
    · intro w'
      go_simp
      with_reducible rfl
    rotate_left
    · simp only [Act.put, List.setIfInBounds_toArray, List.set_cons_zero, List.set_cons_succ]
      rfl
    refine one_ (i := 13) (N := some 95) #[true, true, true, true, true, true, true, true, true, true, true, true, true, true, false, false, false, false, false, false] rfl rfl (by kernel_rfl) (by decide) (fun K hK => ?_)
    refine goes_ Tryd.func24 (by kernel_rfl) rfl #[.pointer (some ⟨gk, 0, none⟩)] (by rfl) rfl rfl (by (try simp only [List.map_toArray, List.map_cons, List.map_nil]); first | done | rfl) ?_
    with_reducible refine (HM.out _ g2 c2 pad2 (Lib.hid (hO.at 2 rfl)) (Lib.hid (hO.at 0 rfl))).mono ?_
    rintro e w_ ⟨rfl, hb_⟩
    refine ⟨_, rfl, ?_⟩
    replace hO := Own.call hO hb_
    clear hb_
    refine hK.out _ _ (hO) (fun hS => ?_)
    clear hK K
    refine norm_ (a' := ?_) ?_ ?_
    rotate_left
    · show Act.put _ (some 95) _ = _
      simp only [Act.put, List.setIfInBounds_toArray, List.set_cons_zero, List.set_cons_succ]
      rfl
    refine one_ (i := 14) (N := some 96) #[true, true, true, true, true, true, true, true, true, true, true, true, true, true, true, false, false, false, false, false] rfl rfl (by kernel_rfl) (by decide) (fun K hK => ?_)
    refine goes_ Tryd.func38 (by kernel_rfl) rfl #[.agg #[.string pn, .int .i64 ramp, .slice (some ⟨gs, 0, none⟩) st.length cs], .int .i64 (stage : Int), .int .i64 (ins + 1), .int .i64 mm] (by rfl) rfl rfl (by (try simp only [List.map_toArray, List.map_cons, List.map_nil]); first | done | rfl) ?_
    with_reducible refine (HEn.out _ (Lib.hid (hO.at 4 rfl))).mono ?_
    rintro e w_ ⟨rfl, hb_⟩
    refine ⟨_, rfl, ?_⟩
    replace hO := Own.call hO hb_
    clear hb_
    refine hK.out _ _ (hO) (fun hS => ?_)
    clear hK K
    refine norm_ (a' := ?_) ?_ ?_
    rotate_left
    · show Act.put _ (some 96) _ = _
      simp only [Act.put, List.setIfInBounds_toArray, List.set_cons_zero, List.set_cons_succ]
      rfl
    refine pure_ (i := 15) (N := some 81) (v := ?_) (a' := ?_) #[true, true, true, true, true, true, true, true, true, true, true, true, true, true, true, true, false, false, false, false] rfl rfl (by kernel_rfl) (fun _ _ _ h => h) (Or.inl ⟨by rfl, ?_⟩) ?_ ?_
    rotate_left
    · intro w'
      go_simp
      with_reducible rfl
    rotate_left
    · simp only [Act.put, List.setIfInBounds_toArray, List.set_cons_zero, List.set_cons_succ]
      rfl
    refine pure_ (i := 16) (N := some 97) (v := ?_) (a' := ?_) #[true, true, true, true, true, true, true, true, true, true, true, true, true, true, true, true, true, false, false, false] rfl rfl (by kernel_rfl) (fun _ _ _ h => h) (Or.inl ⟨by rfl, ?_⟩) ?_ ?_
    rotate_left
    · intro w'
      go_simp
      with_reducible rfl
    rotate_left
    · simp only [Act.put, List.setIfInBounds_toArray, List.set_cons_zero, List.set_cons_succ]
      rfl
    refine pure_ (i := 17) (N := some 98) (v := ?_) (a' := ?_) #[true, true, true, true, true, true, true, true, true, true, true, true, true, true, true, true, true, true, false, false] rfl rfl (by kernel_rfl) (fun _ _ _ h => h) (Or.inl ⟨by rfl, ?_⟩) ?_ ?_
    rotate_left
    · intro w'
      go_simp
      with_reducible rfl
    rotate_left
    · simp only [Act.put, List.setIfInBounds_toArray, List.set_cons_zero, List.set_cons_succ]
      rfl
    refine pure_ (i := 18) (N := some 7) (v := ?_) (a' := ?_) #[true, true, true, true, true, true, true, true, true, true, true, true, true, true, true, true, true, true, true, false] rfl rfl (by kernel_rfl) (fun _ _ _ h => h) (Or.inl ⟨by rfl, ?_⟩) ?_ ?_
    rotate_left
    · intro w'
      go_simp
      with_reducible rfl
    rotate_left
    · simp only [Act.put, List.setIfInBounds_toArray, List.set_cons_zero, List.set_cons_succ]
      rfl
    refine pure_ (i := 19) (N := some 8) (v := ?_) (a' := ?_) #[true, true, true, true, true, true, true, true, true, true, true, true, true, true, true, true, true, true, true, true] rfl rfl (by kernel_rfl) (fun _ _ _ h => h) (Or.inl ⟨by rfl, ?_⟩) ?_ ?_
    rotate_left
    · intro w'
      go_simp
      with_reducible rfl
    rotate_left
    · simp only [Act.put, List.setIfInBounds_toArray, List.set_cons_zero, List.set_cons_succ]
      rfl
    refine done_ (by kernel_rfl) ?_
    go_wp2_with (first
    | ((with_reducible refine gate_alloc 3 rfl ?_); refine own_alloc rfl 3 rfl hO _ rfl #[.int .i64 0] (by kernel_rfl) ?_; clear hO; (try clear w_); intro g_ w_ hO)
    | ((with_reducible refine gate_box 3 rfl ?_); refine own_box rfl 3 _ rfl hO _ rfl ?_ ?_ ?_; rotate_left; (focus (first | (go_simp; done) | (go_simp; with_reducible rfl) | rfl)); clear hO; (try clear w_); intro g_ w_ hO; simp only [Value.cells] at hO)
    | ((with_reducible refine gate_load 3 rfl ?_); (first | refine own_load_one rfl 3 _ rfl hO 0 _ _ rfl _ _ rfl _ rfl ?_ ?_ _ Tryd.underlying3 rfl ?_ | refine own_load_one rfl 3 _ rfl hO 1 _ _ rfl _ _ rfl _ rfl ?_ ?_ _ Tryd.underlying3 rfl ?_ | refine own_load_one rfl 3 _ rfl hO 2 _ _ rfl _ _ rfl _ rfl ?_ ?_ _ Tryd.underlying3 rfl ?_); rotate_left; (focus (first | (with_reducible exact hcell_) | (simp only [List.getElem?_toArray, List.getElem?_cons_zero, List.getElem?_cons_succ]; rfl))))
    | ((with_reducible refine gate_store 3 rfl ?_); (first | refine own_store rfl 3 _ _ rfl hO 0 _ _ ?_ rfl ?_ _ _ rfl _ rfl ?_ ?_ ?_ ?_ | refine own_store rfl 3 _ _ rfl hO 1 _ _ ?_ rfl ?_ _ _ rfl _ rfl ?_ ?_ ?_ ?_ | refine own_store rfl 3 _ _ rfl hO 2 _ _ ?_ rfl ?_ _ _ rfl _ rfl ?_ ?_ ?_ ?_); rotate_left; (focus (first | (go_simp; done) | (go_simp; with_reducible rfl) | rfl)); (focus (first | (exact hble_) | kernel_rfl)); (focus kernel_rfl); (focus kernel_rfl); clear hO; (try clear w_); intro w_ hO; (first | (simp only [Value.cells] at hO; rw [hput_] at hO) | simp only [List.set_cons_zero, List.set_cons_succ, putAllA, Value.cells, List.setIfInBounds_toArray] at hO))
    | (go_at_call 21; (with_reducible refine (done_any gk gs g2 cs c2 st.length l.length pn n ramp a0 a1 a2 a3 a4 a5 a6 a7 a8 a9 a10 a11 t' d' ((stage : Int) + 1) 0 (ticks + 1) (held + 1) _ (Lib.hid (hO.at 2 rfl))).mono ?_); rintro e w_ ⟨rfl, hb_⟩; replace hO := Own.call hO hb_; clear hb_)
    )
    go_ret
    refine ⟨g2, c2, pad2, ?_, ?_⟩
    · rw [HTK.out]; first | rfl | exact congrArg (fun b => Ending.returned (Value.bool (!b))) q2.symm
    · rw [HTK.out]
      exact (hO.sub (List.Sublist.cons_cons _ (List.Sublist.cons _ (List.Sublist.refl _)))).reord
  · rw [he] at HEn HTK
    simp only [if_true, Bool.false_eq_true, if_false] at HEn HTK
    clear he
    go_upto_region 12 with (first
  | ((with_reducible refine gate_alloc 3 rfl ?_); refine own_alloc rfl 3 rfl hO _ rfl #[.int .i64 0] (by kernel_rfl) ?_; clear hO; (try clear w_); intro g_ w_ hO)
  | ((with_reducible refine gate_box 3 rfl ?_); refine own_box rfl 3 _ rfl hO _ rfl ?_ ?_ ?_; rotate_left; (focus (first | (go_simp; done) | (go_simp; with_reducible rfl) | rfl)); clear hO; (try clear w_); intro g_ w_ hO; simp only [Value.cells] at hO)
  | ((with_reducible refine gate_load 3 rfl ?_); (first | refine own_load_one rfl 3 _ rfl hO 0 _ _ rfl _ _ rfl _ rfl ?_ ?_ _ Tryd.underlying3 rfl ?_); rotate_left; (focus (first | (with_reducible exact hcell_) | (simp only [List.getElem?_toArray, List.getElem?_cons_zero, List.getElem?_cons_succ]; rfl))))
  | ((with_reducible refine gate_store 3 rfl ?_); (first | refine own_store rfl 3 _ _ rfl hO 0 _ _ ?_ rfl ?_ _ _ rfl _ rfl ?_ ?_ ?_ ?_); rotate_left; (focus (first | (go_simp; done) | (go_simp; with_reducible rfl) | rfl)); (focus (first | (exact hble_) | kernel_rfl)); (focus kernel_rfl); (focus kernel_rfl); clear hO; (try clear w_); intro w_ hO; (first | (simp only [Value.cells] at hO; rw [hput_] at hO) | simp only [List.set_cons_zero, List.set_cons_succ, putAllA, Value.cells, List.setIfInBounds_toArray] at hO))
  | ((with_reducible refine gate_alloc 48 rfl ?_); refine own_alloc rfl 48 rfl hO _ rfl #[.slice none 0 0] (by kernel_rfl) ?_; clear hO; (try clear w_); intro g_ w_ hO)
  | ((with_reducible refine gate_box 48 rfl ?_); refine own_box rfl 48 _ rfl hO _ rfl ?_ ?_ ?_; rotate_left; (focus (first | (go_simp; done) | (go_simp; with_reducible rfl) | rfl)); clear hO; (try clear w_); intro g_ w_ hO; simp only [Value.cells] at hO)
  | ((with_reducible refine gate_load 48 rfl ?_); (first | refine own_load_one rfl 48 _ rfl hO 0 _ _ rfl _ _ rfl _ rfl ?_ ?_ _ Tryd.underlying48 rfl ?_); rotate_left; (focus (first | (with_reducible exact hcell_) | (simp only [List.getElem?_toArray, List.getElem?_cons_zero, List.getElem?_cons_succ]; rfl))))
  | ((with_reducible refine gate_store 48 rfl ?_); (first | refine own_store rfl 48 _ _ rfl hO 0 _ _ ?_ rfl ?_ _ _ rfl _ rfl ?_ ?_ ?_ ?_); rotate_left; (focus (first | (go_simp; done) | (go_simp; with_reducible rfl) | rfl)); (focus (first | (exact hble_) | kernel_rfl)); (focus kernel_rfl); (focus kernel_rfl); clear hO; (try clear w_); intro w_ hO; (first | (simp only [Value.cells] at hO; rw [hput_] at hO) | simp only [List.set_cons_zero, List.set_cons_succ, putAllA, Value.cells, List.setIfInBounds_toArray] at hO))
  | ((with_reducible refine gate_alloc 3 rfl ?_); refine own_alloc rfl 3 rfl hO _ rfl #[.int .i64 0] (by kernel_rfl) ?_; clear hO; (try clear w_); intro g_ w_ hO)
  | ((with_reducible refine gate_box 3 rfl ?_); refine own_box rfl 3 _ rfl hO _ rfl ?_ ?_ ?_; rotate_left; (focus (first | (go_simp; done) | (go_simp; with_reducible rfl) | rfl)); clear hO; (try clear w_); intro g_ w_ hO; simp only [Value.cells] at hO)
  | ((with_reducible refine gate_load 3 rfl ?_); (first | refine own_load_one rfl 3 _ rfl hO 0 _ _ rfl _ _ rfl _ rfl ?_ ?_ _ Tryd.underlying3 rfl ?_ | refine own_load_one rfl 3 _ rfl hO 1 _ _ rfl _ _ rfl _ rfl ?_ ?_ _ Tryd.underlying3 rfl ?_ | refine own_load_one rfl 3 _ rfl hO 2 _ _ rfl _ _ rfl _ rfl ?_ ?_ _ Tryd.underlying3 rfl ?_); rotate_left; (focus (first | (with_reducible exact hcell_) | (simp only [List.getElem?_toArray, List.getElem?_cons_zero, List.getElem?_cons_succ]; rfl))))
  | ((with_reducible refine gate_store 3 rfl ?_); (first | refine own_store rfl 3 _ _ rfl hO 0 _ _ ?_ rfl ?_ _ _ rfl _ rfl ?_ ?_ ?_ ?_ | refine own_store rfl 3 _ _ rfl hO 1 _ _ ?_ rfl ?_ _ _ rfl _ rfl ?_ ?_ ?_ ?_ | refine own_store rfl 3 _ _ rfl hO 2 _ _ ?_ rfl ?_ _ _ rfl _ rfl ?_ ?_ ?_ ?_); rotate_left; (focus (first | (go_simp; done) | (go_simp; with_reducible rfl) | rfl)); (focus (first | (exact hble_) | kernel_rfl)); (focus kernel_rfl); (focus kernel_rfl); clear hO; (try clear w_); intro w_ hO; (first | (simp only [Value.cells] at hO; rw [hput_] at hO) | simp only [List.set_cons_zero, List.set_cons_succ, putAllA, Value.cells, List.setIfInBounds_toArray] at hO))
  | ((with_reducible refine gate_alloc 48 rfl ?_); refine own_alloc rfl 48 rfl hO _ rfl #[.slice none 0 0] (by kernel_rfl) ?_; clear hO; (try clear w_); intro g_ w_ hO)
  | ((with_reducible refine gate_box 48 rfl ?_); refine own_box rfl 48 _ rfl hO _ rfl ?_ ?_ ?_; rotate_left; (focus (first | (go_simp; done) | (go_simp; with_reducible rfl) | rfl)); clear hO; (try clear w_); intro g_ w_ hO; simp only [Value.cells] at hO)
  | ((with_reducible refine gate_load 48 rfl ?_); (first | refine own_load_one rfl 48 _ rfl hO 0 _ _ rfl _ _ rfl _ rfl ?_ ?_ _ Tryd.underlying48 rfl ?_ | refine own_load_one rfl 48 _ rfl hO 1 _ _ rfl _ _ rfl _ rfl ?_ ?_ _ Tryd.underlying48 rfl ?_ | refine own_load_one rfl 48 _ rfl hO 2 _ _ rfl _ _ rfl _ rfl ?_ ?_ _ Tryd.underlying48 rfl ?_); rotate_left; (focus (first | (with_reducible exact hcell_) | (simp only [List.getElem?_toArray, List.getElem?_cons_zero, List.getElem?_cons_succ]; rfl))))
  | ((with_reducible refine gate_store 48 rfl ?_); (first | refine own_store rfl 48 _ _ rfl hO 0 _ _ ?_ rfl ?_ _ _ rfl _ rfl ?_ ?_ ?_ ?_ | refine own_store rfl 48 _ _ rfl hO 1 _ _ ?_ rfl ?_ _ _ rfl _ rfl ?_ ?_ ?_ ?_ | refine own_store rfl 48 _ _ rfl hO 2 _ _ ?_ rfl ?_ _ _ rfl _ rfl ?_ ?_ ?_ ?_); rotate_left; (focus (first | (go_simp; done) | (go_simp; with_reducible rfl) | rfl)); (focus (first | (exact hble_) | kernel_rfl)); (focus kernel_rfl); (focus kernel_rfl); clear hO; (try clear w_); intro w_ hO; (first | (simp only [Value.cells] at hO; rw [hput_] at hO) | simp only [List.set_cons_zero, List.set_cons_succ, putAllA, Value.cells, List.setIfInBounds_toArray] at hO))
    )
    (try simp only [Act.put, List.setIfInBounds_toArray, List.set_cons_zero, List.set_cons_succ])
    refine start_ (n := 20) (S := fun w' => Own W0 ((g2, 53, (flat q4 lN ++ pad2).toArray) :: (g1, 53, (flat q4 (l.map (dryZ a1 a2 a3 t' d' true)) ++ pad1).toArray) :: (gk, 74, #[.string pn, .int .i64 ramp, .slice (some ⟨gs, 0, none⟩) st.length cs, .string n, .int .i64 a0, .int .i64 a1, .int .i64 a2, .int .i64 a3, .int .i64 a4, .int .i64 a5, .int .i64 a6, .int .i64 a7, .int .i64 a8, .int .i64 a9, .int .i64 a10, .int .i64 a11, .slice (some ⟨g2, 0, none⟩) l.length c2, .int .i64 t', .int .i64 d', .int .i64 (stage : Int), .int .i64 (ins + 1), .int .i64 (ticks + 1), .int .i64 (held + 1)]) :: (gi, 53, (flat q4 l ++ pad).toArray) :: (gs, 65, (flat q4 st ++ pads).toArray) :: R) w') (ds := []) #[false, false, false, false, false, false, false, false, false, false, false, false, false, false, false, false, false, false, false, false] (by kernel_rfl) rfl rfl (Own.drew hO) (fun hS => ?_)
    clear hO
    have hO := hS
    refine pure_ (i := 0) (N := some 82) (v := ?_) (a' := ?_) #[true, false, false, false, false, false, false, false, false, false, false, false, false, false, false, false, false, false, false, false] rfl rfl (by kernel_rfl) (fun _ _ _ h => h) (Or.inl ⟨by rfl, ?_⟩) ?_ ?_
    rotate_left
    · intro w'
      go_simp
      with_reducible rfl
    rotate_left
    · simp only [Act.put, List.setIfInBounds_toArray, List.set_cons_zero, List.set_cons_succ]
      rfl
    refine pure_ (i := 1) (N := some 83) (v := ?_) (a' := ?_) #[true, true, false, false, false, false, false, false, false, false, false, false, false, false, false, false, false, false, false, false] rfl rfl (by kernel_rfl) (fun _ _ _ h => h) (Or.inl ⟨by rfl, ?_⟩) ?_ ?_
    rotate_left
    · intro w'
      go_simp
      with_reducible rfl
    rotate_left
    · simp only [Act.put, List.setIfInBounds_toArray, List.set_cons_zero, List.set_cons_succ]
      rfl
    refine pure_ (i := 2) (N := some 84) (v := ?_) (a' := ?_) #[true, true, true, false, false, false, false, false, false, false, false, false, false, false, false, false, false, false, false, false] rfl rfl (by kernel_rfl) (fun _ _ _ h => h) (Or.inl ⟨by rfl, ?_⟩) ?_ ?_
    rotate_left
    · intro w'
      go_simp
      with_reducible rfl
    rotate_left
    · simp only [Act.put, List.setIfInBounds_toArray, List.set_cons_zero, List.set_cons_succ]
      rfl
    first
      | (refine take_ (i := 3) (N := some 85) (a' := ?_) #[true, true, true, true, false, false, false, false, false, false, false, false, false, false, false, false, false, false, false, false] rfl rfl (by kernel_rfl) (fun _ _ _ h => h) (yRow hS ?_ 24 _ rfl 0 _ _ rfl _ _ rfl 3 ?_ ?_ ?_ _ Tryd.underlying24 rfl ?_) hS ?_ ?_; (focus rfl); rotate_left; (focus (first | (with_reducible exact hrow_) | (with_reducible exact hrow2_) | (simp only [Array.toList_extract, List.extract_toArray, List.extract_eq_take_drop, List.drop_zero, List.drop_succ_cons, List.take_succ_cons, List.take_zero, Nat.reduceAdd, Nat.reduceSub, Nat.zero_add, Nat.add_zero, Nat.add_sub_cancel_left, Nat.sub_zero, Nat.sub_self]; rfl))); (focus rfl); (focus kernel_rfl); rotate_left; (focus (simp only [Act.put, List.setIfInBounds_toArray, List.set_cons_zero, List.set_cons_succ]; rfl)))
      | (refine take_ (i := 3) (N := some 85) (a' := ?_) #[true, true, true, true, false, false, false, false, false, false, false, false, false, false, false, false, false, false, false, false] rfl rfl (by kernel_rfl) (fun _ _ _ h => h) (yRow hS ?_ 24 _ rfl 1 _ _ rfl _ _ rfl 3 ?_ ?_ ?_ _ Tryd.underlying24 rfl ?_) hS ?_ ?_; (focus rfl); rotate_left; (focus (first | (with_reducible exact hrow_) | (with_reducible exact hrow2_) | (simp only [Array.toList_extract, List.extract_toArray, List.extract_eq_take_drop, List.drop_zero, List.drop_succ_cons, List.take_succ_cons, List.take_zero, Nat.reduceAdd, Nat.reduceSub, Nat.zero_add, Nat.add_zero, Nat.add_sub_cancel_left, Nat.sub_zero, Nat.sub_self]; rfl))); (focus rfl); (focus kernel_rfl); rotate_left; (focus (simp only [Act.put, List.setIfInBounds_toArray, List.set_cons_zero, List.set_cons_succ]; rfl)))
      | (refine take_ (i := 3) (N := some 85) (a' := ?_) #[true, true, true, true, false, false, false, false, false, false, false, false, false, false, false, false, false, false, false, false] rfl rfl (by kernel_rfl) (fun _ _ _ h => h) (yRow hS ?_ 24 _ rfl 2 _ _ rfl _ _ rfl 3 ?_ ?_ ?_ _ Tryd.underlying24 rfl ?_) hS ?_ ?_; (focus rfl); rotate_left; (focus (first | (with_reducible exact hrow_) | (with_reducible exact hrow2_) | (simp only [Array.toList_extract, List.extract_toArray, List.extract_eq_take_drop, List.drop_zero, List.drop_succ_cons, List.take_succ_cons, List.take_zero, Nat.reduceAdd, Nat.reduceSub, Nat.zero_add, Nat.add_zero, Nat.add_sub_cancel_left, Nat.sub_zero, Nat.sub_self]; rfl))); (focus rfl); (focus kernel_rfl); rotate_left; (focus (simp only [Act.put, List.setIfInBounds_toArray, List.set_cons_zero, List.set_cons_succ]; rfl)))
      | (refine take_ (i := 3) (N := some 85) (a' := ?_) #[true, true, true, true, false, false, false, false, false, false, false, false, false, false, false, false, false, false, false, false] rfl rfl (by kernel_rfl) (fun _ _ _ h => h) (yRow hS ?_ 24 _ rfl 3 _ _ rfl _ _ rfl 3 ?_ ?_ ?_ _ Tryd.underlying24 rfl ?_) hS ?_ ?_; (focus rfl); rotate_left; (focus (first | (with_reducible exact hrow_) | (with_reducible exact hrow2_) | (simp only [Array.toList_extract, List.extract_toArray, List.extract_eq_take_drop, List.drop_zero, List.drop_succ_cons, List.take_succ_cons, List.take_zero, Nat.reduceAdd, Nat.reduceSub, Nat.zero_add, Nat.add_zero, Nat.add_sub_cancel_left, Nat.sub_zero, Nat.sub_self]; rfl))); (focus rfl); (focus kernel_rfl); rotate_left; (focus (simp only [Act.put, List.setIfInBounds_toArray, List.set_cons_zero, List.set_cons_succ]; rfl)))
      | (refine take_ (i := 3) (N := some 85) (a' := ?_) #[true, true, true, true, false, false, false, false, false, false, false, false, false, false, false, false, false, false, false, false] rfl rfl (by kernel_rfl) (fun _ _ _ h => h) (yRow hS ?_ 24 _ rfl 4 _ _ rfl _ _ rfl 3 ?_ ?_ ?_ _ Tryd.underlying24 rfl ?_) hS ?_ ?_; (focus rfl); rotate_left; (focus (first | (with_reducible exact hrow_) | (with_reducible exact hrow2_) | (simp only [Array.toList_extract, List.extract_toArray, List.extract_eq_take_drop, List.drop_zero, List.drop_succ_cons, List.take_succ_cons, List.take_zero, Nat.reduceAdd, Nat.reduceSub, Nat.zero_add, Nat.add_zero, Nat.add_sub_cancel_left, Nat.sub_zero, Nat.sub_self]; rfl))); (focus rfl); (focus kernel_rfl); rotate_left; (focus (simp only [Act.put, List.setIfInBounds_toArray, List.set_cons_zero, List.set_cons_succ]; rfl)))
    refine pure_ (i := 4) (N := some 86) (v := ?_) (a' := ?_) #[true, true, true, true, true, false, false, false, false, false, false, false, false, false, false, false, false, false, false, false] rfl rfl (by kernel_rfl) (fun _ _ _ h => h) (Or.inl ⟨by rfl, ?_⟩) ?_ ?_
    rotate_left
    · intro w'
      go_simp
      with_reducible rfl
    rotate_left
    · simp only [Act.put, List.setIfInBounds_toArray, List.set_cons_zero, List.set_cons_succ]
      rfl
    refine pure_ (i := 5) (N := some 87) (v := ?_) (a' := ?_) #[true, true, true, true, true, true, false, false, false, false, false, false, false, false, false, false, false, false, false, false] rfl rfl (by kernel_rfl) (fun _ _ _ h => h) (Or.inl ⟨by rfl, ?_⟩) ?_ ?_
    rotate_left
    · intro w'
      go_simp
      with_reducible rfl
    rotate_left
    · simp only [Act.put, List.setIfInBounds_toArray, List.set_cons_zero, List.set_cons_succ]
      rfl
    refine pure_ (i := 6) (N := some 88) (v := ?_) (a' := ?_) #[true, true, true, true, true, true, true, false, false, false, false, false, false, false, false, false, false, false, false, false] rfl rfl (by kernel_rfl) (fun _ _ _ h => h) (Or.inl ⟨by rfl, ?_⟩) ?_ ?_
    rotate_left
    · intro w'
      go_simp
      with_reducible rfl
    rotate_left
    · simp only [Act.put, List.setIfInBounds_toArray, List.set_cons_zero, List.set_cons_succ]
      rfl
    first
      | (refine take_ (i := 7) (N := some 89) (a' := ?_) #[true, true, true, true, true, true, true, true, false, false, false, false, false, false, false, false, false, false, false, false] rfl rfl (by kernel_rfl) (fun _ _ _ h => h) (yOne hS ?_ 3 _ rfl 0 _ _ rfl _ _ rfl ?_ ?_ _ Tryd.underlying3 rfl) hS ?_ ?_; (focus rfl); rotate_left; (focus (first | (with_reducible exact hcell_) | (simp only [List.getElem?_toArray, List.getElem?_cons_zero, List.getElem?_cons_succ]; rfl))); rotate_left; (focus (simp only [Act.put, List.setIfInBounds_toArray, List.set_cons_zero, List.set_cons_succ]; rfl)))
      | (refine take_ (i := 7) (N := some 89) (a' := ?_) #[true, true, true, true, true, true, true, true, false, false, false, false, false, false, false, false, false, false, false, false] rfl rfl (by kernel_rfl) (fun _ _ _ h => h) (yOne hS ?_ 3 _ rfl 1 _ _ rfl _ _ rfl ?_ ?_ _ Tryd.underlying3 rfl) hS ?_ ?_; (focus rfl); rotate_left; (focus (first | (with_reducible exact hcell_) | (simp only [List.getElem?_toArray, List.getElem?_cons_zero, List.getElem?_cons_succ]; rfl))); rotate_left; (focus (simp only [Act.put, List.setIfInBounds_toArray, List.set_cons_zero, List.set_cons_succ]; rfl)))
      | (refine take_ (i := 7) (N := some 89) (a' := ?_) #[true, true, true, true, true, true, true, true, false, false, false, false, false, false, false, false, false, false, false, false] rfl rfl (by kernel_rfl) (fun _ _ _ h => h) (yOne hS ?_ 3 _ rfl 2 _ _ rfl _ _ rfl ?_ ?_ _ Tryd.underlying3 rfl) hS ?_ ?_; (focus rfl); rotate_left; (focus (first | (with_reducible exact hcell_) | (simp only [List.getElem?_toArray, List.getElem?_cons_zero, List.getElem?_cons_succ]; rfl))); rotate_left; (focus (simp only [Act.put, List.setIfInBounds_toArray, List.set_cons_zero, List.set_cons_succ]; rfl)))
      | (refine take_ (i := 7) (N := some 89) (a' := ?_) #[true, true, true, true, true, true, true, true, false, false, false, false, false, false, false, false, false, false, false, false] rfl rfl (by kernel_rfl) (fun _ _ _ h => h) (yOne hS ?_ 3 _ rfl 3 _ _ rfl _ _ rfl ?_ ?_ _ Tryd.underlying3 rfl) hS ?_ ?_; (focus rfl); rotate_left; (focus (first | (with_reducible exact hcell_) | (simp only [List.getElem?_toArray, List.getElem?_cons_zero, List.getElem?_cons_succ]; rfl))); rotate_left; (focus (simp only [Act.put, List.setIfInBounds_toArray, List.set_cons_zero, List.set_cons_succ]; rfl)))
      | (refine take_ (i := 7) (N := some 89) (a' := ?_) #[true, true, true, true, true, true, true, true, false, false, false, false, false, false, false, false, false, false, false, false] rfl rfl (by kernel_rfl) (fun _ _ _ h => h) (yOne hS ?_ 3 _ rfl 4 _ _ rfl _ _ rfl ?_ ?_ _ Tryd.underlying3 rfl) hS ?_ ?_; (focus rfl); rotate_left; (focus (first | (with_reducible exact hcell_) | (simp only [List.getElem?_toArray, List.getElem?_cons_zero, List.getElem?_cons_succ]; rfl))); rotate_left; (focus (simp only [Act.put, List.setIfInBounds_toArray, List.set_cons_zero, List.set_cons_succ]; rfl)))
    refine pure_ (i := 8) (N := some 90) (v := ?_) (a' := ?_) #[true, true, true, true, true, true, true, true, true, false, false, false, false, false, false, false, false, false, false, false] rfl rfl (by kernel_rfl) (fun _ _ _ h => h) (Or.inl ⟨by rfl, ?_⟩) ?_ ?_
    rotate_left
    · intro w'
      go_simp
      with_reducible rfl
    rotate_left
    · simp only [Act.put, List.setIfInBounds_toArray, List.set_cons_zero, List.set_cons_succ]
      rfl
    refine pure_ (i := 9) (N := some 91) (v := ?_) (a' := ?_) #[true, true, true, true, true, true, true, true, true, true, false, false, false, false, false, false, false, false, false, false] rfl rfl (by kernel_rfl) (fun _ _ _ h => h) (Or.inl ⟨by rfl, ?_⟩) ?_ ?_
    rotate_left
    · intro w'
      go_simp
      with_reducible rfl
    rotate_left
    · simp only [Act.put, List.setIfInBounds_toArray, List.set_cons_zero, List.set_cons_succ]
      rfl
    refine pure_ (i := 10) (N := some 92) (v := ?_) (a' := ?_) #[true, true, true, true, true, true, true, true, true, true, true, false, false, false, false, false, false, false, false, false] rfl rfl (by kernel_rfl) (fun _ _ _ h => h) (Or.inl ⟨by rfl, ?_⟩) ?_ ?_
    rotate_left
    · intro w'
      go_simp
      with_reducible rfl
    rotate_left
    · simp only [Act.put, List.setIfInBounds_toArray, List.set_cons_zero, List.set_cons_succ]
      rfl
    first
      | (refine take_ (i := 11) (N := some 93) (a' := ?_) #[true, true, true, true, true, true, true, true, true, true, true, true, false, false, false, false, false, false, false, false] rfl rfl (by kernel_rfl) (fun _ _ _ h => h) (yOne hS ?_ 3 _ rfl 0 _ _ rfl _ _ rfl ?_ ?_ _ Tryd.underlying3 rfl) hS ?_ ?_; (focus rfl); rotate_left; (focus (first | (with_reducible exact hcell_) | (simp only [List.getElem?_toArray, List.getElem?_cons_zero, List.getElem?_cons_succ]; rfl))); rotate_left; (focus (simp only [Act.put, List.setIfInBounds_toArray, List.set_cons_zero, List.set_cons_succ]; rfl)))
      | (refine take_ (i := 11) (N := some 93) (a' := ?_) #[true, true, true, true, true, true, true, true, true, true, true, true, false, false, false, false, false, false, false, false] rfl rfl (by kernel_rfl) (fun _ _ _ h => h) (yOne hS ?_ 3 _ rfl 1 _ _ rfl _ _ rfl ?_ ?_ _ Tryd.underlying3 rfl) hS ?_ ?_; (focus rfl); rotate_left; (focus (first | (with_reducible exact hcell_) | (simp only [List.getElem?_toArray, List.getElem?_cons_zero, List.getElem?_cons_succ]; rfl))); rotate_left; (focus (simp only [Act.put, List.setIfInBounds_toArray, List.set_cons_zero, List.set_cons_succ]; rfl)))
      | (refine take_ (i := 11) (N := some 93) (a' := ?_) #[true, true, true, true, true, true, true, true, true, true, true, true, false, false, false, false, false, false, false, false] rfl rfl (by kernel_rfl) (fun _ _ _ h => h) (yOne hS ?_ 3 _ rfl 2 _ _ rfl _ _ rfl ?_ ?_ _ Tryd.underlying3 rfl) hS ?_ ?_; (focus rfl); rotate_left; (focus (first | (with_reducible exact hcell_) | (simp only [List.getElem?_toArray, List.getElem?_cons_zero, List.getElem?_cons_succ]; rfl))); rotate_left; (focus (simp only [Act.put, List.setIfInBounds_toArray, List.set_cons_zero, List.set_cons_succ]; rfl)))
      | (refine take_ (i := 11) (N := some 93) (a' := ?_) #[true, true, true, true, true, true, true, true, true, true, true, true, false, false, false, false, false, false, false, false] rfl rfl (by kernel_rfl) (fun _ _ _ h => h) (yOne hS ?_ 3 _ rfl 3 _ _ rfl _ _ rfl ?_ ?_ _ Tryd.underlying3 rfl) hS ?_ ?_; (focus rfl); rotate_left; (focus (first | (with_reducible exact hcell_) | (simp only [List.getElem?_toArray, List.getElem?_cons_zero, List.getElem?_cons_succ]; rfl))); rotate_left; (focus (simp only [Act.put, List.setIfInBounds_toArray, List.set_cons_zero, List.set_cons_succ]; rfl)))
      | (refine take_ (i := 11) (N := some 93) (a' := ?_) #[true, true, true, true, true, true, true, true, true, true, true, true, false, false, false, false, false, false, false, false] rfl rfl (by kernel_rfl) (fun _ _ _ h => h) (yOne hS ?_ 3 _ rfl 4 _ _ rfl _ _ rfl ?_ ?_ _ Tryd.underlying3 rfl) hS ?_ ?_; (focus rfl); rotate_left; (focus (first | (with_reducible exact hcell_) | (simp only [List.getElem?_toArray, List.getElem?_cons_zero, List.getElem?_cons_succ]; rfl))); rotate_left; (focus (simp only [Act.put, List.setIfInBounds_toArray, List.set_cons_zero, List.set_cons_succ]; rfl)))
    refine pure_ (i := 12) (N := some 94) (v := ?_) (a' := ?_) #[true, true, true, true, true, true, true, true, true, true, true, true, true, false, false, false, false, false, false, false] rfl rfl (by kernel_rfl) (fun _ _ _ h => h) (Or.inl ⟨by rfl, ?_⟩) ?_ ?_
    rotate_left
    · intro w'
      go_simp
      with_reducible rfl
    rotate_left
    · simp only [Act.put, List.setIfInBounds_toArray, List.set_cons_zero, List.set_cons_succ]
      rfl
    refine one_ (i := 13) (N := some 95) #[true, true, true, true, true, true, true, true, true, true, true, true, true, true, false, false, false, false, false, false] rfl rfl (by kernel_rfl) (by decide) (fun K hK => ?_)
    refine goes_ Tryd.func24 (by kernel_rfl) rfl #[.pointer (some ⟨gk, 0, none⟩)] (by rfl) rfl rfl (by (try simp only [List.map_toArray, List.map_cons, List.map_nil]); first | done | rfl) ?_
    with_reducible refine (HM.out _ g2 c2 pad2 (Lib.hid (hO.at 2 rfl)) (Lib.hid (hO.at 0 rfl))).mono ?_
    rintro e w_ ⟨rfl, hb_⟩
    refine ⟨_, rfl, ?_⟩
    replace hO := Own.call hO hb_
    clear hb_
    refine hK.out _ _ (hO) (fun hS => ?_)
    clear hK K
    refine norm_ (a' := ?_) ?_ ?_
    rotate_left
    · show Act.put _ (some 95) _ = _
      simp only [Act.put, List.setIfInBounds_toArray, List.set_cons_zero, List.set_cons_succ]
      rfl
    refine one_ (i := 14) (N := some 96) #[true, true, true, true, true, true, true, true, true, true, true, true, true, true, true, false, false, false, false, false] rfl rfl (by kernel_rfl) (by decide) (fun K hK => ?_)
    refine goes_ Tryd.func38 (by kernel_rfl) rfl #[.agg #[.string pn, .int .i64 ramp, .slice (some ⟨gs, 0, none⟩) st.length cs], .int .i64 (stage : Int), .int .i64 (ins + 1), .int .i64 mm] (by rfl) rfl rfl (by (try simp only [List.map_toArray, List.map_cons, List.map_nil]); first | done | rfl) ?_
    with_reducible refine (HEn.out _ (Lib.hid (hO.at 4 rfl))).mono ?_
    rintro e w_ ⟨rfl, hb_⟩
    refine ⟨_, rfl, ?_⟩
    replace hO := Own.call hO hb_
    clear hb_
    refine hK.out _ _ (hO) (fun hS => ?_)
    clear hK K
    refine norm_ (a' := ?_) ?_ ?_
    rotate_left
    · show Act.put _ (some 96) _ = _
      simp only [Act.put, List.setIfInBounds_toArray, List.set_cons_zero, List.set_cons_succ]
      rfl
    refine pure_ (i := 15) (N := some 81) (v := ?_) (a' := ?_) #[true, true, true, true, true, true, true, true, true, true, true, true, true, true, true, true, false, false, false, false] rfl rfl (by kernel_rfl) (fun _ _ _ h => h) (Or.inl ⟨by rfl, ?_⟩) ?_ ?_
    rotate_left
    · intro w'
      go_simp
      with_reducible rfl
    rotate_left
    · simp only [Act.put, List.setIfInBounds_toArray, List.set_cons_zero, List.set_cons_succ]
      rfl
    refine pure_ (i := 16) (N := some 97) (v := ?_) (a' := ?_) #[true, true, true, true, true, true, true, true, true, true, true, true, true, true, true, true, true, false, false, false] rfl rfl (by kernel_rfl) (fun _ _ _ h => h) (Or.inl ⟨by rfl, ?_⟩) ?_ ?_
    rotate_left
    · intro w'
      go_simp
      with_reducible rfl
    rotate_left
    · simp only [Act.put, List.setIfInBounds_toArray, List.set_cons_zero, List.set_cons_succ]
      rfl
    refine pure_ (i := 17) (N := some 98) (v := ?_) (a' := ?_) #[true, true, true, true, true, true, true, true, true, true, true, true, true, true, true, true, true, true, false, false] rfl rfl (by kernel_rfl) (fun _ _ _ h => h) (Or.inl ⟨by rfl, ?_⟩) ?_ ?_
    rotate_left
    · intro w'
      go_simp
      with_reducible rfl
    rotate_left
    · simp only [Act.put, List.setIfInBounds_toArray, List.set_cons_zero, List.set_cons_succ]
      rfl
    refine pure_ (i := 18) (N := some 7) (v := ?_) (a' := ?_) #[true, true, true, true, true, true, true, true, true, true, true, true, true, true, true, true, true, true, true, false] rfl rfl (by kernel_rfl) (fun _ _ _ h => h) (Or.inl ⟨by rfl, ?_⟩) ?_ ?_
    rotate_left
    · intro w'
      go_simp
      with_reducible rfl
    rotate_left
    · simp only [Act.put, List.setIfInBounds_toArray, List.set_cons_zero, List.set_cons_succ]
      rfl
    refine pure_ (i := 19) (N := some 8) (v := ?_) (a' := ?_) #[true, true, true, true, true, true, true, true, true, true, true, true, true, true, true, true, true, true, true, true] rfl rfl (by kernel_rfl) (fun _ _ _ h => h) (Or.inl ⟨by rfl, ?_⟩) ?_ ?_
    rotate_left
    · intro w'
      go_simp
      with_reducible rfl
    rotate_left
    · simp only [Act.put, List.setIfInBounds_toArray, List.set_cons_zero, List.set_cons_succ]
      rfl
    refine done_ (by kernel_rfl) ?_
    go_wp2_with (first
    | ((with_reducible refine gate_alloc 3 rfl ?_); refine own_alloc rfl 3 rfl hO _ rfl #[.int .i64 0] (by kernel_rfl) ?_; clear hO; (try clear w_); intro g_ w_ hO)
    | ((with_reducible refine gate_box 3 rfl ?_); refine own_box rfl 3 _ rfl hO _ rfl ?_ ?_ ?_; rotate_left; (focus (first | (go_simp; done) | (go_simp; with_reducible rfl) | rfl)); clear hO; (try clear w_); intro g_ w_ hO; simp only [Value.cells] at hO)
    | ((with_reducible refine gate_load 3 rfl ?_); (first | refine own_load_one rfl 3 _ rfl hO 0 _ _ rfl _ _ rfl _ rfl ?_ ?_ _ Tryd.underlying3 rfl ?_ | refine own_load_one rfl 3 _ rfl hO 1 _ _ rfl _ _ rfl _ rfl ?_ ?_ _ Tryd.underlying3 rfl ?_ | refine own_load_one rfl 3 _ rfl hO 2 _ _ rfl _ _ rfl _ rfl ?_ ?_ _ Tryd.underlying3 rfl ?_); rotate_left; (focus (first | (with_reducible exact hcell_) | (simp only [List.getElem?_toArray, List.getElem?_cons_zero, List.getElem?_cons_succ]; rfl))))
    | ((with_reducible refine gate_store 3 rfl ?_); (first | refine own_store rfl 3 _ _ rfl hO 0 _ _ ?_ rfl ?_ _ _ rfl _ rfl ?_ ?_ ?_ ?_ | refine own_store rfl 3 _ _ rfl hO 1 _ _ ?_ rfl ?_ _ _ rfl _ rfl ?_ ?_ ?_ ?_ | refine own_store rfl 3 _ _ rfl hO 2 _ _ ?_ rfl ?_ _ _ rfl _ rfl ?_ ?_ ?_ ?_); rotate_left; (focus (first | (go_simp; done) | (go_simp; with_reducible rfl) | rfl)); (focus (first | (exact hble_) | kernel_rfl)); (focus kernel_rfl); (focus kernel_rfl); clear hO; (try clear w_); intro w_ hO; (first | (simp only [Value.cells] at hO; rw [hput_] at hO) | simp only [List.set_cons_zero, List.set_cons_succ, putAllA, Value.cells, List.setIfInBounds_toArray] at hO))
    | (go_at_call 21; (with_reducible refine (done_any gk gs g2 cs c2 st.length l.length pn n ramp a0 a1 a2 a3 a4 a5 a6 a7 a8 a9 a10 a11 t' d' (stage : Int) (ins + 1) (ticks + 1) (held + 1) _ (Lib.hid (hO.at 2 rfl))).mono ?_); rintro e w_ ⟨rfl, hb_⟩; replace hO := Own.call hO hb_; clear hb_)
    )
    go_ret
    refine ⟨g2, c2, pad2, ?_, ?_⟩
    · rw [HTK.out]; first | rfl | exact congrArg (fun b => Ending.returned (Value.bool (!b))) q2.symm
    · rw [HTK.out]
      exact (hO.sub (List.Sublist.cons_cons _ (List.Sublist.cons _ (List.Sublist.refl _)))).reord
end Go.Proofs.YtkedpokbbogkmaaDoor
