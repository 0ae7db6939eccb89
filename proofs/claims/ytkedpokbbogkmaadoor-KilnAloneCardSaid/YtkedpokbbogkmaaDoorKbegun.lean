/-
  The statements' helpers begun and items.
-/
import Derived.Test.YtkedpokbbogkmaaDoorKapp
import Derived.Test.YtkedpokbbogkmaaDoorKnew
import Derived.Test.YtkedpokbbogkmaaDoorKacc
import Derived.Deep.DeepCutAuto
namespace Go.Proofs.YtkedpokbbogkmaaDoor
open Go.RowKit Go.Proofs.YtkedpokbbogkmaaDoorW.PrintLast
set_option linter.unusedSimpArgs false
set_option linter.unusedVariables false

theorem ritem_info : (Tryd.prog.info? 54).map (fun i => (i.zero, i.size, i.bytes)) = some (some (.agg #[.int .i64 0, .int .i64 0, .int .i64 0, .int .i64 0]), 4, 32) := by kernel_rfl
theorem flat_take (l : List Q4) (k : Nat) (x : Q4) (h : l[k]? = some x) : flat q4 (l.take (k + 1)) = flat q4 (l.take k) ++ q4 x := by
  have ht : l.take (k + 1) = l.take k ++ [x] := by rw [List.take_add_one, h]; rfl
  rw [ht]
  simp [flat]
theorem Acc.repq {w0 w : World} {L e v} {l : List Q4} (h : Acc w0 L e 4 v l.length (flat q4 l) w) : RepQ w v l := by
  rcases h.row.2 with ⟨hv, hn⟩ | ⟨g, cap, cur, hv, _, hg, _, _, _, ht⟩
  · exact .inl ⟨none, 0, hv, List.length_eq_zero_iff.1 hn⟩
  · refine .inr ⟨g, 0, cap, hv, fun j u hj => ?_⟩
    have hb : Blk w g e cur := hg
    rw [Nat.zero_add, hb.cell j]
    rw [← ht, List.getElem?_take] at hj
    split at hj
    · simpa using hj
    · cases hj
theorem NewPost.up {w w2 w' : World} {pn n : ByteArray} {ramp a0 a1 a2 a3 a4 a5 a6 a7 a8 a9 a10 a11 : Int} {st l : List Q4} {e : Ending} {L} (hO : Own w L w2) (h : NewPost w2 pn ramp st n a0 a1 a2 a3 a4 a5 a6 a7 a8 a9 a10 a11 l e w') :
    NewPost w pn ramp st n a0 a1 a2 a3 a4 a5 a6 a7 a8 a9 a10 a11 l e w' := by
  rcases h with ⟨h1, h2, h3⟩ | ⟨h1, gk, gi, ci, pad, gs, cs, pads, h2, h3⟩
  · exact .inl ⟨h1, h2, (hO.call h3).bel⟩
  · exact .inr ⟨h1, gk, gi, ci, pad, gs, cs, pads, h2, (hO.join h3).sub (List.Sublist.cons_cons _ (List.Sublist.cons_cons _ (List.Sublist.cons_cons _ (List.nil_sublist _))))⟩
set_option maxHeartbeats 4000000 in
set_option maxRecDepth 100000 in
theorem begun_any (pn n : ByteArray) (ramp a0 a1 a2 a3 a4 a5 a6 a7 a8 a9 a10 a11 : Int) (vS vI : Value) (st l : List Q4) (w : World) (h2 : Hid (Glob2 w)) (hS : Hid (RepQ w vS st)) (hI : Hid (RepQ w vI l)) (hs : st.length ≤ 1000000) (hl : l.length ≤ 1000000) :
    Calls Tryd.prog 10 #[.agg #[.string pn, .int .i64 ramp, vS, .string n, .int .i64 a0, .int .i64 a1, .int .i64 a2, .int .i64 a3, .int .i64 a4, .int .i64 a5, .int .i64 a6, .int .i64 a7, .int .i64 a8, .int .i64 a9, .int .i64 a10, .int .i64 a11, vI]] w (NewPost w pn ramp st n a0 a1 a2 a3 a4 a5 a6 a7 a8 a9 a10 a11 l) := by
  obtain ⟨vA, vc, hv⟩ : ∃ A c, vI = .slice A l.length c := by
    rcases hI.out with ⟨A, c, rfl, rfl⟩ | ⟨b, o, c, rfl, _⟩
    · exact ⟨_, _, rfl⟩
    · exact ⟨_, _, rfl⟩
  subst hv
  obtain ⟨i0, hi0, hz0, hz1, hz2⟩ := info_parts item_info
  have hO := Own.nil w
  go_enter Tryd.func10, Tryd.ntmps10
  go_wp2_with (first
    | ((with_reducible refine gate_alloc 29 rfl ?_); refine own_alloc rfl 29 rfl hO _ rfl #[.string ⟨#[]⟩, .int .i64 0, .slice none 0 0, .string ⟨#[]⟩, .int .i64 0, .int .i64 0, .int .i64 0, .int .i64 0, .int .i64 0, .int .i64 0, .int .i64 0, .int .i64 0, .int .i64 0, .int .i64 0, .int .i64 0, .int .i64 0, .slice none 0 0] (by kernel_rfl) ?_; clear hO; (try clear w_); intro g_ w_ hO)
    | ((with_reducible refine gate_box 29 rfl ?_); refine own_box rfl 29 _ rfl hO _ rfl ?_ ?_ ?_; rotate_left; (focus (first | (go_simp; done) | (go_simp; with_reducible rfl) | rfl)); clear hO; (try clear w_); intro g_ w_ hO; simp only [Value.cells] at hO)
    | ((with_reducible refine gate_load 29 rfl ?_); (first | refine own_load_row rfl 29 _ rfl hO 0 _ _ rfl _ _ rfl _ rfl 17 ?_ ?_ ?_ _ Tryd.underlying29 rfl ?_ ?_); rotate_left; (focus (first | (with_reducible exact hrow_) | (with_reducible exact hrow2_) | (simp only [Array.toList_extract, List.extract_toArray, List.extract_eq_take_drop, List.drop_zero, List.drop_succ_cons, List.take_succ_cons, List.take_zero, Nat.reduceAdd, Nat.reduceSub, Nat.zero_add, Nat.add_zero, Nat.add_sub_cancel_left, Nat.sub_zero, Nat.sub_self]; rfl))); (focus rfl); (focus kernel_rfl))
    | ((with_reducible refine gate_store 29 rfl ?_); (first | refine own_store rfl 29 _ _ rfl hO 0 _ _ ?_ rfl ?_ _ _ rfl _ rfl ?_ ?_ ?_ ?_); rotate_left; (focus (first | (go_simp; done) | (go_simp; with_reducible rfl) | rfl)); (focus (first | (exact hble_) | kernel_rfl)); (focus kernel_rfl); (focus kernel_rfl); clear hO; (try clear w_); intro w_ hO; (first | (simp only [Value.cells] at hO; rw [hput_] at hO) | simp only [List.set_cons_zero, List.set_cons_succ, putAllA, Value.cells, List.setIfInBounds_toArray] at hO))
    )
  generalize g_ = g1 at *
  go_loopw [5, 4] (fun i v wr => ∃ (k : Nat), k ≤ l.length ∧ i = .int .i64 k ∧ Acc w [(g1, 29, #[.string pn, .int .i64 ramp, vS, .string n, .int .i64 a0, .int .i64 a1, .int .i64 a2, .int .i64 a3, .int .i64 a4, .int .i64 a5, .int .i64 a6, .int .i64 a7, .int .i64 a8, .int .i64 a9, .int .i64 a10, .int .i64 a11, .slice vA l.length vc])] 53 4 v k (flat q4 (l.take k)) wr) (fun i _ _ => l.length - (intOf i).toNat)
  case atStart => exact ⟨0, Nat.zero_le _, rfl, Acc.start hO _ _⟩
  case round =>
    clear hO
    obtain ⟨k, hk, rfl, hA⟩ := hrel
    by_cases hlt : k < l.length
    · obtain ⟨x, hx⟩ : ∃ x, l[k]? = some x := ⟨_, List.getElem?_eq_getElem hlt⟩
      obtain ⟨b, o, hvA, hc⟩ : ∃ b o, vA = some ⟨b, o, none⟩ ∧ Hid (∀ (j : Nat) (u : Value), (flat q4 l)[j]? = some u → w.cell? ⟨b, o + j, none⟩ = some u) := by
        rcases hI.out with ⟨_, _, _, rfl⟩ | ⟨b, o, c, hv, hc⟩
        · simp at hlt
        · injection hv with hv _ _
          exact ⟨b, o, hv, Lib.hid hc⟩
      subst hvA
      have HF := Lib.hid (flat_take l k x hx)
      obtain ⟨th, a, b1, s⟩ := x
      have hr := RepQ.row hc.out k _ hx
      have HR : Hid (w.rangeAt b (o + k * 4 + 1) [.int .i64 a, .int .i64 b1, .int .i64 s]) := Lib.hid (fun j u hj => by
        have := hr (j + 1) u (by simpa [q4] using hj)
        rw [show o + k * 4 + 1 + j = o + k * 4 + (j + 1) by omega]
        exact this)
      have HC : Hid (w.cell? ⟨b, o + k * 4, none⟩ = some (.int .i64 th)) := Lib.hid (hr 0 _ rfl)
      clear hr hx
      have hO := hA.own
      go_upto_region 5 with (first
    | ((with_reducible refine gate_alloc 27 rfl ?_); refine own_alloc rfl 27 rfl hO _ rfl #[.slice none 0 0] (by kernel_rfl) ?_; clear hO; (try clear w_); intro g_ w_ hO)
    | ((with_reducible refine gate_box 27 rfl ?_); refine own_box rfl 27 _ rfl hO _ rfl ?_ ?_ ?_; rotate_left; (focus (first | (go_simp; done) | (go_simp; with_reducible rfl) | rfl)); clear hO; (try clear w_); intro g_ w_ hO; simp only [Value.cells] at hO)
    | ((with_reducible refine gate_load 27 rfl ?_); (first | refine own_load_one rfl 27 _ rfl hO 0 _ _ rfl _ _ rfl _ rfl ?_ ?_ _ Tryd.underlying27 rfl ?_); rotate_left; (focus (first | (with_reducible exact hcell_) | (simp only [List.getElem?_toArray, List.getElem?_cons_zero, List.getElem?_cons_succ]; rfl))))
    | ((with_reducible refine gate_store 27 rfl ?_); (first | refine own_store rfl 27 _ _ rfl hO 0 _ _ ?_ rfl ?_ _ _ rfl _ rfl ?_ ?_ ?_ ?_); rotate_left; (focus (first | (go_simp; done) | (go_simp; with_reducible rfl) | rfl)); (focus (first | (exact hble_) | kernel_rfl)); (focus kernel_rfl); (focus kernel_rfl); clear hO; (try clear w_); intro w_ hO; (first | (simp only [Value.cells] at hO; rw [hput_] at hO) | simp only [List.set_cons_zero, List.set_cons_succ, putAllA, Value.cells, List.setIfInBounds_toArray] at hO))
      )
      (try simp only [Act.put, List.setIfInBounds_toArray, List.set_cons_zero, List.set_cons_succ])
      clear hO
      refine start_ (n := 17) (S := fun w' => Acc w [(g1, 29, #[.string pn, .int .i64 ramp, vS, .string n, .int .i64 a0, .int .i64 a1, .int .i64 a2, .int .i64 a3, .int .i64 a4, .int .i64 a5, .int .i64 a6, .int .i64 a7, .int .i64 a8, .int .i64 a9, .int .i64 a10, .int .i64 a11, .slice (some ⟨b, o, none⟩) l.length vc])] 53 4 u4 k (flat q4 (l.take k)) w') (ds := [15]) #[false, false, false, false, false, false, false, false, false, false, false, false, false, false, false, false, false] (by kernel_rfl) rfl rfl (Acc.drew hA) (fun hS => ?_)
      clear hA
      have hA := hS
      refine pure_ (i := 0) (N := some 13) (v := ?_) (a' := ?_) #[true, false, false, false, false, false, false, false, false, false, false, false, false, false, false, false, false] rfl rfl (by kernel_rfl) (fun _ _ _ h => h) (Or.inl ⟨by rfl, ?_⟩) ?_ ?_
      rotate_left
      · intro w'
        go_simp
        with_reducible rfl
      rotate_left
      · simp only [Act.put, List.setIfInBounds_toArray, List.set_cons_zero, List.set_cons_succ]
        rfl
      refine pure_ (i := 1) (N := some 14) (v := ?_) (a' := ?_) #[true, true, false, false, false, false, false, false, false, false, false, false, false, false, false, false, false] rfl rfl (by kernel_rfl) (fun _ _ _ h => h) (Or.inl ⟨by rfl, ?_⟩) ?_ ?_
      rotate_left
      · intro w'
        go_simp
        with_reducible rfl
      rotate_left
      · simp only [Act.put, List.setIfInBounds_toArray, List.set_cons_zero, List.set_cons_succ]
        rfl
      first
        | (refine take_ (i := 2) (N := some 15) (a' := ?_) #[true, true, true, false, false, false, false, false, false, false, false, false, false, false, false, false, false] rfl rfl (by kernel_rfl) (fun _ _ _ h => h) (yaOne hS ?_ 27 _ rfl 0 _ _ rfl _ _ rfl ?_ ?_ _ Tryd.underlying27 rfl) hS ?_ ?_; (focus rfl); rotate_left; (focus (first | (with_reducible exact hcell_) | (simp only [List.getElem?_toArray, List.getElem?_cons_zero, List.getElem?_cons_succ]; rfl))); rotate_left; (focus (simp only [Act.put, List.setIfInBounds_toArray, List.set_cons_zero, List.set_cons_succ]; rfl)))
        | (refine take_ (i := 2) (N := some 15) (a' := ?_) #[true, true, true, false, false, false, false, false, false, false, false, false, false, false, false, false, false] rfl rfl (by kernel_rfl) (fun _ _ _ h => h) (yrOne hS HC.out ?_ 27 _ rfl rfl _ Tryd.underlying27 rfl) hS ?_ ?_; (focus rfl); rotate_left; (focus (simp only [Act.put, List.setIfInBounds_toArray, List.set_cons_zero, List.set_cons_succ]; rfl)))
      refine pure_ (i := 3) (N := some 16) (v := ?_) (a' := ?_) #[true, true, true, true, false, false, false, false, false, false, false, false, false, false, false, false, false] rfl rfl (by kernel_rfl) (fun _ _ _ h => h) (Or.inl ⟨by rfl, ?_⟩) ?_ ?_
      rotate_left
      · intro w'
        go_simp
        with_reducible rfl
      rotate_left
      · simp only [Act.put, List.setIfInBounds_toArray, List.set_cons_zero, List.set_cons_succ]
        rfl
      refine pure_ (i := 4) (N := some 17) (v := ?_) (a' := ?_) #[true, true, true, true, true, false, false, false, false, false, false, false, false, false, false, false, false] rfl rfl (by kernel_rfl) (fun _ _ _ h => h) (Or.inl ⟨by rfl, ?_⟩) ?_ ?_
      rotate_left
      · intro w'
        go_simp
        with_reducible rfl
      rotate_left
      · simp only [Act.put, List.setIfInBounds_toArray, List.set_cons_zero, List.set_cons_succ]
        rfl
      refine pure_ (i := 5) (N := some 18) (v := ?_) (a' := ?_) #[true, true, true, true, true, true, false, false, false, false, false, false, false, false, false, false, false] rfl rfl (by kernel_rfl) (fun _ _ _ h => h) (Or.inl ⟨by rfl, ?_⟩) ?_ ?_
      rotate_left
      · intro w'
        go_simp
        with_reducible rfl
      rotate_left
      · simp only [Act.put, List.setIfInBounds_toArray, List.set_cons_zero, List.set_cons_succ]
        rfl
      first
        | (refine take_ (i := 6) (N := some 19) (a' := ?_) #[true, true, true, true, true, true, true, false, false, false, false, false, false, false, false, false, false] rfl rfl (by kernel_rfl) (fun _ _ _ h => h) (yaOne hS ?_ 3 _ rfl 0 _ _ rfl _ _ rfl ?_ ?_ _ Tryd.underlying3 rfl) hS ?_ ?_; (focus rfl); rotate_left; (focus (first | (with_reducible exact hcell_) | (simp only [List.getElem?_toArray, List.getElem?_cons_zero, List.getElem?_cons_succ]; rfl))); rotate_left; (focus (simp only [Act.put, List.setIfInBounds_toArray, List.set_cons_zero, List.set_cons_succ]; rfl)))
        | (refine take_ (i := 6) (N := some 19) (a' := ?_) #[true, true, true, true, true, true, true, false, false, false, false, false, false, false, false, false, false] rfl rfl (by kernel_rfl) (fun _ _ _ h => h) (yrOne hS HC.out ?_ 3 _ rfl rfl _ Tryd.underlying3 rfl) hS ?_ ?_; (focus rfl); rotate_left; (focus (simp only [Act.put, List.setIfInBounds_toArray, List.set_cons_zero, List.set_cons_succ]; rfl)))
      refine pure_ (i := 7) (N := some 20) (v := ?_) (a' := ?_) #[true, true, true, true, true, true, true, true, false, false, false, false, false, false, false, false, false] rfl rfl (by kernel_rfl) (fun _ _ _ h => h) (Or.inl ⟨by rfl, ?_⟩) ?_ ?_
      rotate_left
      · intro w'
        go_simp
        with_reducible rfl
      rotate_left
      · simp only [Act.put, List.setIfInBounds_toArray, List.set_cons_zero, List.set_cons_succ]
        rfl
      first
        | (refine take_ (i := 8) (N := some 21) (a' := ?_) #[true, true, true, true, true, true, true, true, true, false, false, false, false, false, false, false, false] rfl rfl (by kernel_rfl) (fun _ _ _ h => h) (yaOne hS ?_ 27 _ rfl 0 _ _ rfl _ _ rfl ?_ ?_ _ Tryd.underlying27 rfl) hS ?_ ?_; (focus rfl); rotate_left; (focus (first | (with_reducible exact hcell_) | (simp only [List.getElem?_toArray, List.getElem?_cons_zero, List.getElem?_cons_succ]; rfl))); rotate_left; (focus (simp only [Act.put, List.setIfInBounds_toArray, List.set_cons_zero, List.set_cons_succ]; rfl)))
        | (refine take_ (i := 8) (N := some 21) (a' := ?_) #[true, true, true, true, true, true, true, true, true, false, false, false, false, false, false, false, false] rfl rfl (by kernel_rfl) (fun _ _ _ h => h) (yrOne hS HC.out ?_ 27 _ rfl rfl _ Tryd.underlying27 rfl) hS ?_ ?_; (focus rfl); rotate_left; (focus (simp only [Act.put, List.setIfInBounds_toArray, List.set_cons_zero, List.set_cons_succ]; rfl)))
      refine pure_ (i := 9) (N := some 22) (v := ?_) (a' := ?_) #[true, true, true, true, true, true, true, true, true, true, false, false, false, false, false, false, false] rfl rfl (by kernel_rfl) (fun _ _ _ h => h) (Or.inl ⟨by rfl, ?_⟩) ?_ ?_
      rotate_left
      · intro w'
        go_simp
        with_reducible rfl
      rotate_left
      · simp only [Act.put, List.setIfInBounds_toArray, List.set_cons_zero, List.set_cons_succ]
        rfl
      refine pure_ (i := 10) (N := some 23) (v := ?_) (a' := ?_) #[true, true, true, true, true, true, true, true, true, true, true, false, false, false, false, false, false] rfl rfl (by kernel_rfl) (fun _ _ _ h => h) (Or.inl ⟨by rfl, ?_⟩) ?_ ?_
      rotate_left
      · intro w'
        go_simp
        with_reducible rfl
      rotate_left
      · simp only [Act.put, List.setIfInBounds_toArray, List.set_cons_zero, List.set_cons_succ]
        rfl
      refine pure_ (i := 11) (N := some 24) (v := ?_) (a' := ?_) #[true, true, true, true, true, true, true, true, true, true, true, true, false, false, false, false, false] rfl rfl (by kernel_rfl) (fun _ _ _ h => h) (Or.inl ⟨by rfl, ?_⟩) ?_ ?_
      rotate_left
      · intro w'
        go_simp
        with_reducible rfl
      rotate_left
      · simp only [Act.put, List.setIfInBounds_toArray, List.set_cons_zero, List.set_cons_succ]
        rfl
      first
        | (refine take_ (i := 12) (N := some 25) (a' := ?_) #[true, true, true, true, true, true, true, true, true, true, true, true, true, false, false, false, false] rfl rfl (by kernel_rfl) (fun _ _ _ h => h) (yaRow hS ?_ 51 _ rfl 0 _ _ rfl _ _ rfl 3 ?_ ?_ ?_ _ Tryd.underlying51 rfl ?_) hS ?_ ?_; (focus rfl); rotate_left; (focus (first | (with_reducible exact hrow_) | (with_reducible exact hrow2_) | (simp only [Array.toList_extract, List.extract_toArray, List.extract_eq_take_drop, List.drop_zero, List.drop_succ_cons, List.take_succ_cons, List.take_zero, Nat.reduceAdd, Nat.reduceSub, Nat.zero_add, Nat.add_zero, Nat.add_sub_cancel_left, Nat.sub_zero, Nat.sub_self]; rfl))); (focus rfl); (focus kernel_rfl); rotate_left; (focus (simp only [Act.put, List.setIfInBounds_toArray, List.set_cons_zero, List.set_cons_succ]; rfl)))
        | (refine take_ (i := 12) (N := some 25) (a' := ?_) #[true, true, true, true, true, true, true, true, true, true, true, true, true, false, false, false, false] rfl rfl (by kernel_rfl) (fun _ _ _ h => h) (yrRow hS HR.out ?_ 51 _ rfl rfl _ Tryd.underlying51 rfl ?_) hS ?_ ?_; (focus rfl); (focus kernel_rfl); rotate_left; (focus (simp only [Act.put, List.setIfInBounds_toArray, List.set_cons_zero, List.set_cons_succ]; rfl)))
      refine pure_ (i := 13) (N := some 26) (v := ?_) (a' := ?_) #[true, true, true, true, true, true, true, true, true, true, true, true, true, true, false, false, false] rfl rfl (by kernel_rfl) (fun _ _ _ h => h) (Or.inl ⟨by rfl, ?_⟩) ?_ ?_
      rotate_left
      · intro w'
        go_simp
        with_reducible rfl
      rotate_left
      · simp only [Act.put, List.setIfInBounds_toArray, List.set_cons_zero, List.set_cons_succ]
        rfl
      refine one_ (i := 14) (N := some 27) #[true, true, true, true, true, true, true, true, true, true, true, true, true, true, true, false, false] rfl rfl (by kernel_rfl) (by decide) (fun K hK => ?_)
      refine rMk (by rfl) rfl 48 53 1 _ rfl hA #[.int .i64 th, .int .i64 a, .int .i64 b1, .int .i64 s] i0 (.agg #[.int .i64 0, .int .i64 0, .int .i64 0, .int .i64 0]) 4 Tryd.underlying48 hi0 hz0 hz1 rfl rfl (by kernel_rfl) ?_
      clear hA
      intro gb w_ hA
      refine hK.out _ _ (hA.sub (List.Sublist.cons _ (List.Sublist.refl _))) (fun hS => ?_)
      clear hK K
      refine norm_ (a' := ?_) ?_ ?_
      rotate_left
      · show Act.put _ (some 27) _ = _
        simp only [Act.put, List.setIfInBounds_toArray, List.set_cons_zero, List.set_cons_succ]
        rfl
      refine last_ (i := 15) (N := some 28) #[true, true, true, true, true, true, true, true, true, true, true, true, true, true, true, true, false] rfl rfl (by kernel_rfl) (by decide) (fun K hK => ?_)
      refine rApp (by rfl) rfl _ _ 48 rfl hA 1 1 rfl rfl i0 (.agg #[.int .i64 0, .int .i64 0, .int .i64 0, .int .i64 0]) 32 Tryd.underlying48 hi0 hz0 hz1 hz2 rfl (by decide) rfl (by simp [Value.oneCell']) (by simp only [maxLen]; omega) (by omega) ?_
      clear hA
      intro v_ w_ hA
      refine hK.out _ _ ?_
      clear hK K
      refine norm_ (a' := ?_) ?_ ?_
      rotate_left
      · show Act.put _ (some 28) _ = _
        simp only [Act.put, List.setIfInBounds_toArray, List.set_cons_zero, List.set_cons_succ]
        rfl
      refine pure_ (i := 16) (N := some 4) (v := ?_) (a' := ?_) #[true, true, true, true, true, true, true, true, true, true, true, true, true, true, true, true, true] rfl rfl (by kernel_rfl) (fun _ _ _ h => h) (Or.inl ⟨by rfl, ?_⟩) ?_ ?_
      rotate_left
      · intro w'
        go_simp
        with_reducible rfl
      rotate_left
      · simp only [Act.put, List.setIfInBounds_toArray, List.set_cons_zero, List.set_cons_succ]
        rfl
      refine done_ (by kernel_rfl) ?_
      go_wp2_with fail
      go_roundw
      case rel => exact ⟨k + 1, by omega, by go_num, by rw [HF.out]; exact hA.sub (List.Sublist.cons _ (List.Sublist.refl _))⟩
      case measure => simp [intOf]; omega
    · obtain rfl : k = l.length := by omega
      rw [List.take_length] at hA
      have HQ := Lib.hid hA.repq
      have hO := hA.own
      clear hA
      go_wp2_with (first
    | ((with_reducible refine gate_alloc 27 rfl ?_); refine own_alloc rfl 27 rfl hO _ rfl #[.slice none 0 0] (by kernel_rfl) ?_; clear hO; (try clear w_); intro g_ w_ hO)
    | ((with_reducible refine gate_box 27 rfl ?_); refine own_box rfl 27 _ rfl hO _ rfl ?_ ?_ ?_; rotate_left; (focus (first | (go_simp; done) | (go_simp; with_reducible rfl) | rfl)); clear hO; (try clear w_); intro g_ w_ hO; simp only [Value.cells] at hO)
    | ((with_reducible refine gate_load 27 rfl ?_); (first | refine own_load_one rfl 27 _ rfl hO 0 _ _ rfl _ _ rfl _ rfl ?_ ?_ _ Tryd.underlying27 rfl ?_); rotate_left; (focus (first | (with_reducible exact hcell_) | (simp only [List.getElem?_toArray, List.getElem?_cons_zero, List.getElem?_cons_succ]; rfl))))
    | ((with_reducible refine gate_store 27 rfl ?_); (first | refine own_store rfl 27 _ _ rfl hO 0 _ _ ?_ rfl ?_ _ _ rfl _ rfl ?_ ?_ ?_ ?_); rotate_left; (focus (first | (go_simp; done) | (go_simp; with_reducible rfl) | rfl)); (focus (first | (exact hble_) | kernel_rfl)); (focus kernel_rfl); (focus kernel_rfl); clear hO; (try clear w_); intro w_ hO; (first | (simp only [Value.cells] at hO; rw [hput_] at hO) | simp only [List.set_cons_zero, List.set_cons_succ, putAllA, Value.cells, List.setIfInBounds_toArray] at hO))
    | ((with_reducible refine gate_alloc 24 rfl ?_); refine own_alloc rfl 24 rfl hO _ rfl #[.string ⟨#[]⟩, .int .i64 0, .slice none 0 0] (by kernel_rfl) ?_; clear hO; (try clear w_); intro g_ w_ hO)
    | ((with_reducible refine gate_box 24 rfl ?_); refine own_box rfl 24 _ rfl hO _ rfl ?_ ?_ ?_; rotate_left; (focus (first | (go_simp; done) | (go_simp; with_reducible rfl) | rfl)); clear hO; (try clear w_); intro g_ w_ hO; simp only [Value.cells] at hO)
    | ((with_reducible refine gate_load 24 rfl ?_); (first | refine own_load_row rfl 24 _ rfl hO 0 _ _ rfl _ _ rfl _ rfl 3 ?_ ?_ ?_ _ Tryd.underlying24 rfl ?_ ?_); rotate_left; (focus (first | (with_reducible exact hrow_) | (with_reducible exact hrow2_) | (simp only [Array.toList_extract, List.extract_toArray, List.extract_eq_take_drop, List.drop_zero, List.drop_succ_cons, List.take_succ_cons, List.take_zero, Nat.reduceAdd, Nat.reduceSub, Nat.zero_add, Nat.add_zero, Nat.add_sub_cancel_left, Nat.sub_zero, Nat.sub_self]; rfl))); (focus rfl); (focus kernel_rfl))
    | ((with_reducible refine gate_store 24 rfl ?_); (first | refine own_store rfl 24 _ _ rfl hO 0 _ _ ?_ rfl ?_ _ _ rfl _ rfl ?_ ?_ ?_ ?_); rotate_left; (focus (first | (go_simp; done) | (go_simp; with_reducible rfl) | rfl)); (focus (first | (exact hble_) | kernel_rfl)); (focus kernel_rfl); (focus kernel_rfl); clear hO; (try clear w_); intro w_ hO; (first | (simp only [Value.cells] at hO; rw [hput_] at hO) | simp only [List.set_cons_zero, List.set_cons_succ, putAllA, Value.cells, List.setIfInBounds_toArray] at hO))
    | ((with_reducible refine gate_alloc 26 rfl ?_); refine own_alloc rfl 26 rfl hO _ rfl #[.string ⟨#[]⟩, .int .i64 0, .int .i64 0, .int .i64 0, .int .i64 0, .int .i64 0, .int .i64 0, .int .i64 0, .int .i64 0, .int .i64 0, .int .i64 0, .int .i64 0, .int .i64 0] (by kernel_rfl) ?_; clear hO; (try clear w_); intro g_ w_ hO)
    | ((with_reducible refine gate_box 26 rfl ?_); refine own_box rfl 26 _ rfl hO _ rfl ?_ ?_ ?_; rotate_left; (focus (first | (go_simp; done) | (go_simp; with_reducible rfl) | rfl)); clear hO; (try clear w_); intro g_ w_ hO; simp only [Value.cells] at hO)
    | ((with_reducible refine gate_load 26 rfl ?_); (first | refine own_load_row rfl 26 _ rfl hO 0 _ _ rfl _ _ rfl _ rfl 13 ?_ ?_ ?_ _ Tryd.underlying26 rfl ?_ ?_); rotate_left; (focus (first | (with_reducible exact hrow_) | (with_reducible exact hrow2_) | (simp only [Array.toList_extract, List.extract_toArray, List.extract_eq_take_drop, List.drop_zero, List.drop_succ_cons, List.take_succ_cons, List.take_zero, Nat.reduceAdd, Nat.reduceSub, Nat.zero_add, Nat.add_zero, Nat.add_sub_cancel_left, Nat.sub_zero, Nat.sub_self]; rfl))); (focus rfl); (focus kernel_rfl))
    | ((with_reducible refine gate_store 26 rfl ?_); (first | refine own_store rfl 26 _ _ rfl hO 0 _ _ ?_ rfl ?_ _ _ rfl _ rfl ?_ ?_ ?_ ?_); rotate_left; (focus (first | (go_simp; done) | (go_simp; with_reducible rfl) | rfl)); (focus (first | (exact hble_) | kernel_rfl)); (focus kernel_rfl); (focus kernel_rfl); clear hO; (try clear w_); intro w_ hO; (first | (simp only [Value.cells] at hO; rw [hput_] at hO) | simp only [List.set_cons_zero, List.set_cons_succ, putAllA, Value.cells, List.setIfInBounds_toArray] at hO))
      )
      refine (new_any pn n ramp a0 a1 a2 a3 a4 a5 a6 a7 a8 a9 a10 a11 vS u4 st l _ (Lib.hid (h2.out.below hO.bel)) (Lib.hid (hS.out.below hO.bel)) HQ hs hl).mono ?_
      rintro e w3 hN
      rcases hN.up hO with ⟨h1, rfl, h3⟩ | ⟨h1, gk, gi, ci, pad, gs, cs, pads, rfl, h3⟩
      · have H1 := Lib.hid h1
        have H3 := Lib.hid h3
        clear h1 h3 hN
        go_wp2
        go_ret2
        exact .inl ⟨H1.out, rfl, H3.out⟩
      · have H1 := Lib.hid h1
        have H3 := Lib.hid h3
        clear h1 h3 hN
        go_wp2
        go_ret2
        exact .inr ⟨H1.out, gk, gi, ci, pad, gs, cs, pads, rfl, H3.out⟩
set_option maxHeartbeats 4000000 in
set_option maxRecDepth 100000 in
theorem items38_any (gk gs gi cs ci ns ni : Nat) (pn n : ByteArray) (ramp a0 a1 a2 a3 a4 a5 a6 a7 a8 a9 a10 a11 t d stage ins ticks held : Int) (l : List Q4) (pad : List Value) (w : World) (h1 : 1 ≤ l.length) (h2 : l.length ≤ 100000) (hni : ni = l.length)
    (HK : Hid (Blk w gk 74 #[.string pn, .int .i64 ramp, .slice (some ⟨gs, 0, none⟩) ns cs, .string n, .int .i64 a0, .int .i64 a1, .int .i64 a2, .int .i64 a3, .int .i64 a4, .int .i64 a5, .int .i64 a6, .int .i64 a7, .int .i64 a8, .int .i64 a9, .int .i64 a10, .int .i64 a11, .slice (some ⟨gi, 0, none⟩) ni ci, .int .i64 t, .int .i64 d, .int .i64 stage, .int .i64 ins, .int .i64 ticks, .int .i64 held])) (HI : Hid (Blk w gi 53 (flat q4 l ++ pad).toArray)) :
    Calls Tryd.prog 22 #[.pointer (some ⟨gk, 0, none⟩)] w fun e w' => ∃ g c pad', e = .returned (.slice (some ⟨g, 0, none⟩) l.length c) ∧ Own w [(g, 54, (flat q4 l ++ pad').toArray)] w' := by
  obtain ⟨i0, hi0, hz0, hz1, hz2⟩ := info_parts ritem_info
  go_enter Tryd.func22, Tryd.ntmps22
  go_wp2_with (go_at_call 16; (with_reducible refine (items_any gk gs gi cs ci ns ni pn n ramp a0 a1 a2 a3 a4 a5 a6 a7 a8 a9 a10 a11 t d stage ins ticks held l pad _ h1 h2 hni HK HI).mono ?_); rintro e w1 ⟨g0, c0, pad0, rfl, hO⟩)
  go_loopw [5, 4] (fun i v wr => ∃ (k : Nat), k ≤ l.length ∧ i = .int .i64 k ∧ Acc w [(g0, 53, (flat q4 l ++ pad0).toArray)] 54 4 v k (flat q4 (l.take k)) wr) (fun i _ _ => l.length - (intOf i).toNat)
  case atStart => exact ⟨0, Nat.zero_le _, rfl, Acc.start hO _ _⟩
  case round =>
    clear hO
    obtain ⟨k, hk, rfl, hA⟩ := hrel
    by_cases hlt : k < l.length
    · obtain ⟨x, hx⟩ : ∃ x, l[k]? = some x := ⟨_, List.getElem?_eq_getElem hlt⟩
      have HF := Lib.hid (flat_take l k x hx)
      obtain ⟨th, a, b1, s⟩ := x
      have hrow_ : ((flat q4 l ++ pad0).toArray.extract (k * 4 + 1) (k * 4 + 1 + 3)).toList = [.int .i64 a, .int .i64 b1, .int .i64 s] := flat_part q4 4 q4_len l pad0 k 1 3 _ hx (by decide)
      have hcell_ : (flat q4 l ++ pad0).toArray[k * 4]? = some (.int .i64 th) := flat_cell q4 4 q4_len l pad0 k 0 _ _ hx rfl
      clear hx
      go_upto_region 6 with fail
      (try simp only [Act.put, List.setIfInBounds_toArray, List.set_cons_zero, List.set_cons_succ])
      refine start_ (n := 15) (S := fun w' => Acc w [(g0, 53, (flat q4 l ++ pad0).toArray)] 54 4 u4 k (flat q4 (l.take k)) w') (ds := [13]) #[false, false, false, false, false, false, false, false, false, false, false, false, false, false, false] (by kernel_rfl) rfl rfl (Acc.drew hA) (fun hS => ?_)
      clear hA
      have hA := hS
      refine pure_ (i := 0) (N := some 14) (v := ?_) (a' := ?_) #[true, false, false, false, false, false, false, false, false, false, false, false, false, false, false] rfl rfl (by kernel_rfl) (fun _ _ _ h => h) (Or.inl ⟨by rfl, ?_⟩) ?_ ?_
      rotate_left
      · intro w'
        go_simp
        with_reducible rfl
      rotate_left
      · simp only [Act.put, List.setIfInBounds_toArray, List.set_cons_zero, List.set_cons_succ]
        rfl
      refine pure_ (i := 1) (N := some 15) (v := ?_) (a' := ?_) #[true, true, false, false, false, false, false, false, false, false, false, false, false, false, false] rfl rfl (by kernel_rfl) (fun _ _ _ h => h) (Or.inl ⟨by rfl, ?_⟩) ?_ ?_
      rotate_left
      · intro w'
        go_simp
        with_reducible rfl
      rotate_left
      · simp only [Act.put, List.setIfInBounds_toArray, List.set_cons_zero, List.set_cons_succ]
        rfl
      refine pure_ (i := 2) (N := some 16) (v := ?_) (a' := ?_) #[true, true, true, false, false, false, false, false, false, false, false, false, false, false, false] rfl rfl (by kernel_rfl) (fun _ _ _ h => h) (Or.inl ⟨by rfl, ?_⟩) ?_ ?_
      rotate_left
      · intro w'
        go_simp
        with_reducible rfl
      rotate_left
      · simp only [Act.put, List.setIfInBounds_toArray, List.set_cons_zero, List.set_cons_succ]
        rfl
      refine pure_ (i := 3) (N := some 17) (v := ?_) (a' := ?_) #[true, true, true, true, false, false, false, false, false, false, false, false, false, false, false] rfl rfl (by kernel_rfl) (fun _ _ _ h => h) (Or.inl ⟨by rfl, ?_⟩) ?_ ?_
      rotate_left
      · intro w'
        go_simp
        with_reducible rfl
      rotate_left
      · simp only [Act.put, List.setIfInBounds_toArray, List.set_cons_zero, List.set_cons_succ]
        rfl
      refine pure_ (i := 4) (N := some 18) (v := ?_) (a' := ?_) #[true, true, true, true, true, false, false, false, false, false, false, false, false, false, false] rfl rfl (by kernel_rfl) (fun _ _ _ h => h) (Or.inl ⟨by rfl, ?_⟩) ?_ ?_
      rotate_left
      · intro w'
        go_simp
        with_reducible rfl
      rotate_left
      · simp only [Act.put, List.setIfInBounds_toArray, List.set_cons_zero, List.set_cons_succ]
        rfl
      first
        | (refine take_ (i := 5) (N := some 19) (a' := ?_) #[true, true, true, true, true, true, false, false, false, false, false, false, false, false, false] rfl rfl (by kernel_rfl) (fun _ _ _ h => h) (yaOne hS ?_ 3 _ rfl 0 _ _ rfl _ _ rfl ?_ ?_ _ Tryd.underlying3 rfl) hS ?_ ?_; (focus rfl); rotate_left; (focus (first | (with_reducible exact hcell_) | (simp only [List.getElem?_toArray, List.getElem?_cons_zero, List.getElem?_cons_succ]; rfl))); rotate_left; (focus (simp only [Act.put, List.setIfInBounds_toArray, List.set_cons_zero, List.set_cons_succ]; rfl)))
      refine pure_ (i := 6) (N := some 20) (v := ?_) (a' := ?_) #[true, true, true, true, true, true, true, false, false, false, false, false, false, false, false] rfl rfl (by kernel_rfl) (fun _ _ _ h => h) (Or.inl ⟨by rfl, ?_⟩) ?_ ?_
      rotate_left
      · intro w'
        go_simp
        with_reducible rfl
      rotate_left
      · simp only [Act.put, List.setIfInBounds_toArray, List.set_cons_zero, List.set_cons_succ]
        rfl
      refine pure_ (i := 7) (N := some 21) (v := ?_) (a' := ?_) #[true, true, true, true, true, true, true, true, false, false, false, false, false, false, false] rfl rfl (by kernel_rfl) (fun _ _ _ h => h) (Or.inl ⟨by rfl, ?_⟩) ?_ ?_
      rotate_left
      · intro w'
        go_simp
        with_reducible rfl
      rotate_left
      · simp only [Act.put, List.setIfInBounds_toArray, List.set_cons_zero, List.set_cons_succ]
        rfl
      refine pure_ (i := 8) (N := some 22) (v := ?_) (a' := ?_) #[true, true, true, true, true, true, true, true, true, false, false, false, false, false, false] rfl rfl (by kernel_rfl) (fun _ _ _ h => h) (Or.inl ⟨by rfl, ?_⟩) ?_ ?_
      rotate_left
      · intro w'
        go_simp
        with_reducible rfl
      rotate_left
      · simp only [Act.put, List.setIfInBounds_toArray, List.set_cons_zero, List.set_cons_succ]
        rfl
      refine pure_ (i := 9) (N := some 23) (v := ?_) (a' := ?_) #[true, true, true, true, true, true, true, true, true, true, false, false, false, false, false] rfl rfl (by kernel_rfl) (fun _ _ _ h => h) (Or.inl ⟨by rfl, ?_⟩) ?_ ?_
      rotate_left
      · intro w'
        go_simp
        with_reducible rfl
      rotate_left
      · simp only [Act.put, List.setIfInBounds_toArray, List.set_cons_zero, List.set_cons_succ]
        rfl
      first
        | (refine take_ (i := 10) (N := some 24) (a' := ?_) #[true, true, true, true, true, true, true, true, true, true, true, false, false, false, false] rfl rfl (by kernel_rfl) (fun _ _ _ h => h) (yaRow hS ?_ 51 _ rfl 0 _ _ rfl _ _ rfl 3 ?_ ?_ ?_ _ Tryd.underlying51 rfl ?_) hS ?_ ?_; (focus rfl); rotate_left; (focus (first | (with_reducible exact hrow_) | (with_reducible exact hrow2_) | (simp only [Array.toList_extract, List.extract_toArray, List.extract_eq_take_drop, List.drop_zero, List.drop_succ_cons, List.take_succ_cons, List.take_zero, Nat.reduceAdd, Nat.reduceSub, Nat.zero_add, Nat.add_zero, Nat.add_sub_cancel_left, Nat.sub_zero, Nat.sub_self]; rfl))); (focus rfl); (focus kernel_rfl); rotate_left; (focus (simp only [Act.put, List.setIfInBounds_toArray, List.set_cons_zero, List.set_cons_succ]; rfl)))
      refine pure_ (i := 11) (N := some 25) (v := ?_) (a' := ?_) #[true, true, true, true, true, true, true, true, true, true, true, true, false, false, false] rfl rfl (by kernel_rfl) (fun _ _ _ h => h) (Or.inl ⟨by rfl, ?_⟩) ?_ ?_
      rotate_left
      · intro w'
        go_simp
        with_reducible rfl
      rotate_left
      · simp only [Act.put, List.setIfInBounds_toArray, List.set_cons_zero, List.set_cons_succ]
        rfl
      refine one_ (i := 12) (N := some 26) #[true, true, true, true, true, true, true, true, true, true, true, true, true, false, false] rfl rfl (by kernel_rfl) (by decide) (fun K hK => ?_)
      refine rMk (by rfl) rfl 27 54 1 _ rfl hA #[.int .i64 th, .int .i64 a, .int .i64 b1, .int .i64 s] i0 (.agg #[.int .i64 0, .int .i64 0, .int .i64 0, .int .i64 0]) 4 Tryd.underlying27 hi0 hz0 hz1 rfl rfl (by kernel_rfl) ?_
      clear hA
      intro gb w_ hA
      refine hK.out _ _ (hA.sub (List.Sublist.cons _ (List.Sublist.refl _))) (fun hS => ?_)
      clear hK K
      refine norm_ (a' := ?_) ?_ ?_
      rotate_left
      · show Act.put _ (some 26) _ = _
        simp only [Act.put, List.setIfInBounds_toArray, List.set_cons_zero, List.set_cons_succ]
        rfl
      refine last_ (i := 13) (N := some 27) #[true, true, true, true, true, true, true, true, true, true, true, true, true, true, false] rfl rfl (by kernel_rfl) (by decide) (fun K hK => ?_)
      refine rApp (by rfl) rfl _ _ 27 rfl hA 1 1 rfl rfl i0 (.agg #[.int .i64 0, .int .i64 0, .int .i64 0, .int .i64 0]) 32 Tryd.underlying27 hi0 hz0 hz1 hz2 rfl (by decide) rfl (by simp [Value.oneCell']) (by simp only [maxLen]; omega) (by omega) ?_
      clear hA
      intro v_ w_ hA
      refine hK.out _ _ ?_
      clear hK K
      refine norm_ (a' := ?_) ?_ ?_
      rotate_left
      · show Act.put _ (some 27) _ = _
        simp only [Act.put, List.setIfInBounds_toArray, List.set_cons_zero, List.set_cons_succ]
        rfl
      refine pure_ (i := 14) (N := some 4) (v := ?_) (a' := ?_) #[true, true, true, true, true, true, true, true, true, true, true, true, true, true, true] rfl rfl (by kernel_rfl) (fun _ _ _ h => h) (Or.inl ⟨by rfl, ?_⟩) ?_ ?_
      rotate_left
      · intro w'
        go_simp
        with_reducible rfl
      rotate_left
      · simp only [Act.put, List.setIfInBounds_toArray, List.set_cons_zero, List.set_cons_succ]
        rfl
      refine done_ (by kernel_rfl) ?_
      go_wp2_with fail
      go_roundw
      case rel => exact ⟨k + 1, by omega, by go_num, by rw [HF.out]; exact hA.sub (List.Sublist.cons _ (List.Sublist.refl _))⟩
      case measure => simp [intOf]; omega
    · obtain rfl : k = l.length := by omega
      rw [List.take_length] at hA
      obtain ⟨g, c, pad', rfl, hO⟩ := hA.blk (by omega)
      go_wp2
      go_ret
      exact ⟨g, c, pad', rfl, hO.sub (List.Sublist.cons_cons _ (List.nil_sublist _))⟩
end Go.Proofs.YtkedpokbbogkmaaDoor
