/-
  Faults: the climate of the next tick, and whether the fans are off.
-/
import Derived.Test.YtkedpokbbogkmaaDoorKfun
import Derived.Deep.DeepCutAuto
namespace Go.Proofs.YtkedpokbbogkmaaDoor
open Go.RowKit Go.Proofs.YtkedpokbbogkmaaDoorW.PrintLast
set_option linter.unusedSimpArgs false

/-- The tables of kiln and schedule as the program's text lays them. -/
structure Glob2 (w : World) : Prop where
  still : ∃ t fr, w.heap[0]? = some (.cells #[.bool false, .bool false, .bool true, .bool false] t fr)
  limits : ∃ t fr, w.heap[1]? = some (.cells #[.int .i64 0, .int .i64 20000, .int .i64 0, .int .i64 10000, .int .i64 200, .int .i64 1200, .int .i64 0, .int .i64 400] t fr)
theorem Glob2.below {w w' : World} (h : Glob2 w) (hb : Below w.heap.size w w') : Glob2 w' := by
  obtain ⟨⟨t, fr, h1⟩, ⟨t', fr', h2⟩⟩ := h
  exact ⟨⟨t, fr, (hb.block _ (heap_lt h1)).trans h1⟩, ⟨t', fr', (hb.block _ (heap_lt h2)).trans h2⟩⟩
/-- A slice that reads as a list of whole numbers. -/
def RepI (w : World) (v : Value) (l : List Int) : Prop := (∃ A c, v = .slice A 0 c ∧ l = []) ∨ ∃ b o c, v = .slice (some ⟨b, o, none⟩) l.length c ∧ ∀ (j : Nat) (x : Int), l[j]? = some x → w.cell? ⟨b, o + j, none⟩ = some (.int .i64 x)
theorem RepI.below {w w' : World} {v : Value} {l : List Int} (h : RepI w v l) (hb : Below w.heap.size w w') : RepI w' v l := by
  rcases h with h | ⟨b, o, c, hv, h⟩
  · exact .inl h
  · exact .inr ⟨b, o, c, hv, fun j x hj => (hb.cell (World.block_lt_of_cell? w _ (h j x hj))).trans (h j x hj)⟩

theorem Glob2.cells {w : World} (h : Glob2 w) : w.cell? ⟨0, 0, none⟩ = some (.bool false) ∧ w.cell? ⟨0, 1, none⟩ = some (.bool false) ∧ w.cell? ⟨0, 2, none⟩ = some (.bool true) ∧ w.cell? ⟨0, 3, none⟩ = some (.bool false) := by
  obtain ⟨t, fr, hg⟩ := h.still
  refine ⟨?_, ?_, ?_, ?_⟩ <;> simp [World.cell?, hg]
set_option maxHeartbeats 1000000 in
set_option maxRecDepth 100000 in
theorem stills_any (f : Int) (w : World) (h2 : Hid (Glob2 w)) : Calls Tryd.prog 35 #[.int .i64 f] w fun e w' => e = .returned (.bool (f == 2)) ∧ w = w' := by
  obtain ⟨c0, c1, c2, c3⟩ := h2.out.cells
  rcases Decidable.em (0 ≤ f ∧ f < 4) with h | h
  · have : f = 0 ∨ f = 1 ∨ f = 2 ∨ f = 3 := by omega
    rcases this with rfl | rfl | rfl | rfl
    all_goals
      clear h
      go_enter Tryd.func35, Tryd.ntmps35
      go_wp2
      go_ret
      exact ⟨rfl, rfl⟩
  · have q : (f == 2) = false := by rw [beq_eq_false_iff_ne]; omega
    clear c0 c1 c2 c3
    rcases Decidable.em (0 ≤ f) with k1 | k1
    · have k2 : decide (f < 4) = false := decide_eq_false (by omega)
      replace k1 := decide_eq_true k1
      clear h
      go_enter Tryd.func35, Tryd.ntmps35
      go_wp2
      go_ret
      exact ⟨by rw [q]; rfl, rfl⟩
    · replace k1 := decide_eq_false k1
      clear h
      go_enter Tryd.func35, Tryd.ntmps35
      go_wp2
      go_ret
      exact ⟨by rw [q]; rfl, rfl⟩

set_option maxHeartbeats 2000000 in
set_option maxRecDepth 100000 in
/-- The index of the first fault that stills the fans, or -1. -/
theorem findF_any (v : Value) (l : List Int) (w : World) (h2 : Hid (Glob2 w)) (hr : Hid (RepI w v l)) (hl : l.length ≤ 1000000) :
    Calls Tryd.prog 49 #[v, .func (.func 35) #[] #[]] w fun e w' => ∃ r : Int, e = .returned (.int .i64 r) ∧ (decide (0 ≤ r) = l.any (· == 2)) ∧ Below w.heap.size w w' := by
  rcases hr.out with ⟨A, c, rfl, rfl⟩ | ⟨b, o, c, rfl, hc⟩
  · go_enter Tryd.func49, Tryd.ntmps49
    go_wp2
    go_loopw [8] (fun i wr => i = .int .i64 0 ∧ wr = w) (fun _ _ => 0)
    case atStart => exact ⟨rfl, rfl⟩
    case round =>
      obtain ⟨rfl, rfl⟩ := hrel
      go_wp2
      go_ret
      exact ⟨-1, rfl, rfl, Below.refl _ _⟩
  · have hO := Own.nil w
    go_enter Tryd.func49, Tryd.ntmps49
    go_wp2
    go_loopw [8] (fun i wr => ∃ k : Nat, k ≤ l.length ∧ i = .int .i64 k ∧ (l.take k).any (· == 2) = false ∧ Own w [] wr) (fun i _ => l.length - (intOf i).toNat)
    case atStart => exact ⟨0, Nat.zero_le _, rfl, rfl, hO⟩
    case round =>
      clear hO
      obtain ⟨k, hk, rfl, HA, hO⟩ := hrel
      by_cases hlt : k < l.length
      · obtain ⟨x, hx⟩ : ∃ x, l[k]? = some x := ⟨_, List.getElem?_eq_getElem hlt⟩
        have hcx := (hO.bel.cell (World.block_lt_of_cell? w _ (hc k x hx))).trans (hc k x hx)
        have H2 := Lib.hid (h2.out.below hO.bel)
        have hm := List.mem_of_getElem? hx
        have ht : l.take (k + 1) = l.take k ++ [x] := by rw [List.take_add_one, hx]; rfl
        rcases Decidable.em (x = 2) with hq | hq
        · have q1 : (x == 2) = true := by simpa using hq
          have HT : Hid (l.any (· == 2) = true) := Lib.hid (List.any_eq_true.2 ⟨x, hm, q1⟩)
          clear hq hm ht
          go_wp2_with (go_at_call 35; (with_reducible refine (stills_any x _ H2).mono ?_); rintro e w_ ⟨rfl, rfl⟩)
          go_ret
          exact ⟨(k : Int), rfl, by rw [HT.out]; exact decide_eq_true (by omega), hO.bel⟩
        · have q1 : (x == 2) = false := by simpa using hq
          have HT : Hid ((l.take (k + 1)).any (· == 2) = false) := Lib.hid (by rw [ht, List.any_append, HA]; simp [q1])
          clear hq hm ht
          go_wp2_with (go_at_call 35; (with_reducible refine (stills_any x _ H2).mono ?_); rintro e w_ ⟨rfl, rfl⟩)
          go_roundw
          case rel => exact ⟨k + 1, by omega, by go_num, HT.out, hO⟩
          case measure => simp [intOf]; omega
      · obtain rfl : k = l.length := by omega
        rw [List.take_length] at HA
        go_wp2
        go_ret
        exact ⟨-1, rfl, by rw [HA]; rfl, hO.bel⟩
set_option maxHeartbeats 2000000 in
set_option maxRecDepth 100000 in
theorem hasF_any (v : Value) (l : List Int) (w : World) (h2 : Hid (Glob2 w)) (hr : Hid (RepI w v l)) (hl : l.length ≤ 1000000) :
    Calls Tryd.prog 34 #[v, .func (.func 35) #[] #[]] w fun e w' => e = .returned (.bool (l.any (· == 2))) ∧ Below w.heap.size w w' := by
  go_enter Tryd.func34, Tryd.ntmps34
  go_wp2_with (go_at_call 49; (with_reducible refine (findF_any v l _ h2 hr hl).mono ?_); rintro e w_ ⟨r, rfl, hd, hb⟩)
  go_ret
  exact ⟨by rw [← hd]; rfl, hb⟩
end Go.Proofs.YtkedpokbbogkmaaDoor
