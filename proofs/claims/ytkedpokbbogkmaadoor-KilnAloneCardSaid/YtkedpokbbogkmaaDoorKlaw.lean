/-
  The statements' guards light and few; a list of lists that came in.
-/
import Derived.Test.YtkedpokbbogkmaaDoorKbegun
import Derived.Deep.DeepCutAuto
namespace Go.Proofs.YtkedpokbbogkmaaDoor
open Go.RowKit Go.Proofs.YtkedpokbbogkmaaDoorW.PrintLast
set_option linter.unusedSimpArgs false
set_option linter.unusedVariables false

/-- A slice that reads as a list of lists of whole numbers. -/
def RepF (w : World) (v : Value) (F : List (List Int)) : Prop := (∃ A c, v = .slice A 0 c ∧ F = []) ∨ ∃ b o c, v = .slice (some ⟨b, o, none⟩) F.length c ∧ ∀ (i : Nat) (f : List Int), F[i]? = some f → ∃ u, w.cell? ⟨b, o + i, none⟩ = some u ∧ RepI w u f
theorem RepF.below {w w' : World} {v : Value} {F : List (List Int)} (h : RepF w v F) (hb : Below w.heap.size w w') : RepF w' v F := by
  rcases h with h | ⟨b, o, c, hv, h⟩
  · exact .inl h
  · refine .inr ⟨b, o, c, hv, fun i f hf => ?_⟩
    obtain ⟨u, h1, h2⟩ := h i f hf
    exact ⟨u, (hb.cell (World.block_lt_of_cell? w _ h1)).trans h1, h2.below hb⟩
theorem RepI.form {w : World} {v : Value} {l : List Int} (h : RepI w v l) : ∃ A c, v = .slice A l.length c := by
  rcases h with ⟨A, c, rfl, rfl⟩ | ⟨b, o, c, rfl, _⟩
  · exact ⟨A, c, rfl⟩
  · exact ⟨_, c, rfl⟩
theorem RepF.form {w : World} {v : Value} {F : List (List Int)} (h : RepF w v F) : ∃ A c, v = .slice A F.length c := by
  rcases h with ⟨A, c, rfl, rfl⟩ | ⟨b, o, c, rfl, _⟩
  · exact ⟨A, c, rfl⟩
  · exact ⟨_, c, rfl⟩
def fewB (F : List (List Int)) : Bool := F.all (fun f => decide (f.length ≤ 10)) && decide (F.length ≤ 60)
set_option maxHeartbeats 2000000 in
set_option maxRecDepth 100000 in
theorem few_any (v : Value) (F : List (List Int)) (w : World) (hF : Hid (RepF w v F)) (hl : F.length ≤ 9223372036854775807) (hlf : Hid (∀ f ∈ F, f.length ≤ 9223372036854775807)) :
    Calls Tryd.prog 13 #[v] w fun e w' => e = .returned (.bool (fewB F)) ∧ Below w.heap.size w w' := by
  obtain ⟨vA, vc, hv⟩ := hF.out.form
  subst hv
  go_enter Tryd.func13, Tryd.ntmps13
  go_wp2
  go_loopw [3] (fun i wr => ∃ k : Nat, k ≤ F.length ∧ i = .int .i64 k ∧ (F.take k).all (fun f => decide (f.length ≤ 10)) = true ∧ Own w [] wr) (fun i _ => F.length - (intOf i).toNat)
  case atStart => exact ⟨0, Nat.zero_le _, rfl, rfl, Own.nil w⟩
  case round =>
    obtain ⟨k, hk, rfl, hall, hO⟩ := hrel
    by_cases hlt : k < F.length
    · obtain ⟨f, hf⟩ : ∃ x, F[k]? = some x := ⟨_, List.getElem?_eq_getElem hlt⟩
      obtain ⟨b, o, hvA, u, hc, hu⟩ : ∃ b o, vA = some ⟨b, o, none⟩ ∧ ∃ u, w.cell? ⟨b, o + k, none⟩ = some u ∧ RepI w u f := by
        rcases hF.out with ⟨_, _, _, rfl⟩ | ⟨b, o, c, hv, hc⟩
        · simp at hlt
        · injection hv with hv _ _
          exact ⟨b, o, hv, hc k f hf⟩
      subst hvA
      obtain ⟨uA, uc, hu⟩ := hu.form
      subst hu
      have hcx := (hO.bel.cell (World.block_lt_of_cell? w _ hc)).trans hc
      have hb := hlf.out f (List.mem_of_getElem? hf)
      have HB : Hid (decide (f.length ≤ 10) = false → fewB F = false) := Lib.hid (fun h => by
        unfold fewB
        rw [show F.all (fun f => decide (f.length ≤ 10)) = false from Bool.eq_false_iff.2 (all_bad hf h)]
        rfl)
      have HA : Hid (decide (f.length ≤ 10) = true → (F.take (k + 1)).all (fun f => decide (f.length ≤ 10)) = true) := Lib.hid (fun h => all_step hf hall h)
      clear hall hf hc
      rcases Decidable.em (f.length ≤ 10) with q | q
      · have q1 : decide ((10 : Int) < (f.length : Int)) = false := decide_eq_false (by omega)
        have HX := Lib.hid (HA.out (decide_eq_true q))
        clear q
        go_wp2
        go_roundw
        case rel => exact ⟨k + 1, by omega, by go_num, HX.out, hO⟩
        case measure => simp [intOf]; omega
      · have q1 : decide ((10 : Int) < (f.length : Int)) = true := decide_eq_true (by omega)
        have HX := Lib.hid (HB.out (decide_eq_false q))
        clear q
        go_wp2
        go_ret
        exact ⟨by rw [HX.out]; rfl, hO.bel⟩
    · obtain rfl : k = F.length := by omega
      rw [List.take_length] at hall
      have HX : Hid (fewB F = decide ((F.length : Int) ≤ 60)) := Lib.hid (by
        unfold fewB
        rw [hall, Bool.true_and]
        congr 1
        exact propext ⟨fun h => by omega, fun h => by omega⟩)
      clear hall
      go_wp2
      go_ret
      exact ⟨by rw [HX.out]; rfl, hO.bel⟩
def lightB (st l : Nat) (pn n : ByteArray) : Bool := (decide ((l : Int) ≤ 30) || (decide ((1024 : Int) < (l : Int)) && decide ((l : Int) < 1100))) && decide ((st : Int) ≤ 20) && decide ((pn.size : Int) ≤ 100) && decide ((n.size : Int) ≤ 100)
set_option maxHeartbeats 4000000 in
set_option maxRecDepth 100000 in
theorem light_any (pn n : ByteArray) (ramp a0 a1 a2 a3 a4 a5 a6 a7 a8 a9 a10 a11 : Int) (sA iA : Option Addr) (ns ni sc ic : Nat) (w : World) :
    Calls Tryd.prog 8 #[.agg #[.string pn, .int .i64 ramp, .slice sA ns sc, .string n, .int .i64 a0, .int .i64 a1, .int .i64 a2, .int .i64 a3, .int .i64 a4, .int .i64 a5, .int .i64 a6, .int .i64 a7, .int .i64 a8, .int .i64 a9, .int .i64 a10, .int .i64 a11, .slice iA ni ic]] w fun e w' => e = .returned (.bool (lightB ns ni pn n)) ∧ Below w.heap.size w w' := by
  unfold lightB
  have hO := Own.nil w
  rcases Bool.eq_false_or_eq_true (decide ((ni : Int) ≤ 30)) with d1 | d1 <;> rcases Bool.eq_false_or_eq_true (decide ((1024 : Int) < (ni : Int))) with d2 | d2 <;> rcases Bool.eq_false_or_eq_true (decide ((ni : Int) < 1100)) with d3 | d3 <;> rcases Bool.eq_false_or_eq_true (decide ((ns : Int) ≤ 20)) with d4 | d4
  all_goals
    rw [d1, d2, d3, d4]
    rcases Bool.eq_false_or_eq_true (decide ((pn.size : Int) ≤ 100)) with d5 | d5
    all_goals
      rw [d5]
      go_enter Tryd.func8, Tryd.ntmps8
      go_wp2_with (first
    | ((with_reducible refine gate_alloc 29 rfl ?_); refine own_alloc rfl 29 rfl hO _ rfl #[.string ⟨#[]⟩, .int .i64 0, .slice none 0 0, .string ⟨#[]⟩, .int .i64 0, .int .i64 0, .int .i64 0, .int .i64 0, .int .i64 0, .int .i64 0, .int .i64 0, .int .i64 0, .int .i64 0, .int .i64 0, .int .i64 0, .int .i64 0, .slice none 0 0] (by kernel_rfl) ?_; clear hO; (try clear w_); intro g_ w_ hO)
    | ((with_reducible refine gate_box 29 rfl ?_); refine own_box rfl 29 _ rfl hO _ rfl ?_ ?_ ?_; rotate_left; (focus (first | (go_simp; done) | (go_simp; with_reducible rfl) | rfl)); clear hO; (try clear w_); intro g_ w_ hO; simp only [Value.cells] at hO)
    | ((with_reducible refine gate_load 29 rfl ?_); (first | refine own_load_row rfl 29 _ rfl hO 0 _ _ rfl _ _ rfl _ rfl 17 ?_ ?_ ?_ _ Tryd.underlying29 rfl ?_ ?_); rotate_left; (focus (first | (with_reducible exact hrow_) | (with_reducible exact hrow2_) | (simp only [Array.toList_extract, List.extract_toArray, List.extract_eq_take_drop, List.drop_zero, List.drop_succ_cons, List.take_succ_cons, List.take_zero, Nat.reduceAdd, Nat.reduceSub, Nat.zero_add, Nat.add_zero, Nat.add_sub_cancel_left, Nat.sub_zero, Nat.sub_self]; rfl))); (focus rfl); (focus kernel_rfl))
    | ((with_reducible refine gate_store 29 rfl ?_); (first | refine own_store rfl 29 _ _ rfl hO 0 _ _ ?_ rfl ?_ _ _ rfl _ rfl ?_ ?_ ?_ ?_); rotate_left; (focus (first | (go_simp; done) | (go_simp; with_reducible rfl) | rfl)); (focus (first | (exact hble_) | kernel_rfl)); (focus kernel_rfl); (focus kernel_rfl); clear hO; (try clear w_); intro w_ hO; (first | (simp only [Value.cells] at hO; rw [hput_] at hO) | simp only [List.set_cons_zero, List.set_cons_succ, putAllA, Value.cells, List.setIfInBounds_toArray] at hO))
    | ((with_reducible refine gate_alloc 27 rfl ?_); refine own_alloc rfl 27 rfl hO _ rfl #[.slice none 0 0] (by kernel_rfl) ?_; clear hO; (try clear w_); intro g_ w_ hO)
    | ((with_reducible refine gate_box 27 rfl ?_); refine own_box rfl 27 _ rfl hO _ rfl ?_ ?_ ?_; rotate_left; (focus (first | (go_simp; done) | (go_simp; with_reducible rfl) | rfl)); clear hO; (try clear w_); intro g_ w_ hO; simp only [Value.cells] at hO)
    | ((with_reducible refine gate_load 27 rfl ?_); (first | refine own_load_one rfl 27 _ rfl hO 0 _ _ rfl _ _ rfl _ rfl ?_ ?_ _ Tryd.underlying27 rfl ?_); rotate_left; (focus (first | (with_reducible exact hcell_) | (simp only [List.getElem?_toArray, List.getElem?_cons_zero, List.getElem?_cons_succ]; rfl))))
    | ((with_reducible refine gate_store 27 rfl ?_); (first | refine own_store rfl 27 _ _ rfl hO 0 _ _ ?_ rfl ?_ _ _ rfl _ rfl ?_ ?_ ?_ ?_); rotate_left; (focus (first | (go_simp; done) | (go_simp; with_reducible rfl) | rfl)); (focus (first | (exact hble_) | kernel_rfl)); (focus kernel_rfl); (focus kernel_rfl); clear hO; (try clear w_); intro w_ hO; (first | (simp only [Value.cells] at hO; rw [hput_] at hO) | simp only [List.set_cons_zero, List.set_cons_succ, putAllA, Value.cells, List.setIfInBounds_toArray] at hO))
    | ((with_reducible refine gate_alloc 22 rfl ?_); refine own_alloc rfl 22 rfl hO _ rfl #[.slice none 0 0] (by kernel_rfl) ?_; clear hO; (try clear w_); intro g_ w_ hO)
    | ((with_reducible refine gate_box 22 rfl ?_); refine own_box rfl 22 _ rfl hO _ rfl ?_ ?_ ?_; rotate_left; (focus (first | (go_simp; done) | (go_simp; with_reducible rfl) | rfl)); clear hO; (try clear w_); intro g_ w_ hO; simp only [Value.cells] at hO)
    | ((with_reducible refine gate_load 22 rfl ?_); (first | refine own_load_one rfl 22 _ rfl hO 0 _ _ rfl _ _ rfl _ rfl ?_ ?_ _ Tryd.underlying22 rfl ?_); rotate_left; (focus (first | (with_reducible exact hcell_) | (simp only [List.getElem?_toArray, List.getElem?_cons_zero, List.getElem?_cons_succ]; rfl))))
    | ((with_reducible refine gate_store 22 rfl ?_); (first | refine own_store rfl 22 _ _ rfl hO 0 _ _ ?_ rfl ?_ _ _ rfl _ rfl ?_ ?_ ?_ ?_); rotate_left; (focus (first | (go_simp; done) | (go_simp; with_reducible rfl) | rfl)); (focus (first | (exact hble_) | kernel_rfl)); (focus kernel_rfl); (focus kernel_rfl); clear hO; (try clear w_); intro w_ hO; (first | (simp only [Value.cells] at hO; rw [hput_] at hO) | simp only [List.set_cons_zero, List.set_cons_succ, putAllA, Value.cells, List.setIfInBounds_toArray] at hO))
    | ((with_reducible refine gate_alloc 9 rfl ?_); refine own_alloc rfl 9 rfl hO _ rfl #[.string ⟨#[]⟩] (by kernel_rfl) ?_; clear hO; (try clear w_); intro g_ w_ hO)
    | ((with_reducible refine gate_box 9 rfl ?_); refine own_box rfl 9 _ rfl hO _ rfl ?_ ?_ ?_; rotate_left; (focus (first | (go_simp; done) | (go_simp; with_reducible rfl) | rfl)); clear hO; (try clear w_); intro g_ w_ hO; simp only [Value.cells] at hO)
    | ((with_reducible refine gate_load 9 rfl ?_); (first | refine own_load_one rfl 9 _ rfl hO 0 _ _ rfl _ _ rfl _ rfl ?_ ?_ _ Tryd.underlying9 rfl ?_); rotate_left; (focus (first | (with_reducible exact hcell_) | (simp only [List.getElem?_toArray, List.getElem?_cons_zero, List.getElem?_cons_succ]; rfl))))
    | ((with_reducible refine gate_store 9 rfl ?_); (first | refine own_store rfl 9 _ _ rfl hO 0 _ _ ?_ rfl ?_ _ _ rfl _ rfl ?_ ?_ ?_ ?_); rotate_left; (focus (first | (go_simp; done) | (go_simp; with_reducible rfl) | rfl)); (focus (first | (exact hble_) | kernel_rfl)); (focus kernel_rfl); (focus kernel_rfl); clear hO; (try clear w_); intro w_ hO; (first | (simp only [Value.cells] at hO; rw [hput_] at hO) | simp only [List.set_cons_zero, List.set_cons_succ, putAllA, Value.cells, List.setIfInBounds_toArray] at hO))
      )
      go_ret
      exact ⟨rfl, hO.bel⟩
end Go.Proofs.YtkedpokbbogkmaaDoor
