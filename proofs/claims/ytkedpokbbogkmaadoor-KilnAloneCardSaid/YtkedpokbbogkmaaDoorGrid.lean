/-
  The contract of curve.CheckGrid at a valid grid.
-/
import Derived.Test.YtkedpokbbogkmaaDoorAt
namespace Go.Proofs.YtkedpokbbogkmaaDoor
open Go.RowKit

def Rows (w : World) (gv : Nat) (rs : List (List Int)) : Prop :=
  ∀ i, i < rs.length → ∃ g c, w.cell? ⟨gv, i, none⟩ = some (.slice (some ⟨g, 0, none⟩) (rs.getD i []).length c) ∧ Ints w g (rs.getD i [])
theorem Ints.below {w w1 : World} {g : Nat} {xs : List Int} (h : Ints w g xs) (hb : Below w.heap.size w w1) : Ints w1 g xs :=
  fun j hj => (hb.cell (World.block_lt_of_cell? w _ (h j hj))).trans (h j hj)
theorem Rows.below {w w1 : World} {g : Nat} {rs : List (List Int)} (h : Rows w g rs) (hb : Below w.heap.size w w1) : Rows w1 g rs := fun i hi => by
  obtain ⟨a, c, h1, h2⟩ := h i hi
  exact ⟨a, c, (hb.cell (World.block_lt_of_cell? w _ h1)).trans h1, h2.below hb⟩
theorem below_new (w : World) (o : Obj) : Below w.heap.size w (w.alloc o) := (Below.refl _ _).alloc (Nat.le_refl _) o

set_option maxHeartbeats 4000000 in
theorem checkGrid_ok (gx cx gy cy gv cv n m : Nat) (xs ys : List Int) (rs : List (List Int)) (w : World) (hx : Hid (Ints w gx xs)) (ax : Hid (Asc xs)) (hy : Hid (Ints w gy ys)) (ay : Hid (Asc ys)) (hr : Hid (Rows w gv rs))
    (ln : Hid (xs.length = n ∧ ys.length = m ∧ rs.length = n)) (hs : Hid (∀ i, i < n → (rs.getD i []).length = m ∧ Small (rs.getD i []))) (n1 : 1 ≤ n) (n16 : n ≤ 16) (m1 : 1 ≤ m) (m16 : m ≤ 16) :
    Calls Tryd.prog 84 #[.agg #[.slice (some ⟨gx, 0, none⟩) n cx, .slice (some ⟨gy, 0, none⟩) m cy, .slice (some ⟨gv, 0, none⟩) n cv]] w fun e w' => e = .returned (.int .i64 0) ∧ Below w.heap.size w w' := by
  obtain ⟨e1, e2, e3⟩ := ln.out
  have hsx := scale_ok gx cx xs
  have hsy := scale_ok gy cy ys
  rw [e1] at hsx
  rw [e2] at hsy
  have HX := Lib.hid (hsx)
  have HY := Lib.hid (hsy)
  have E3 : Hid (rs.length = n) := e3
  clear hsx hsy e1 e2 e3 ln
  have q1 : ((n : Int) == 0) = false := by simp; omega
  have q2 : ((m : Int) == 0) = false := by simp; omega
  have q3 : decide (16 < (n : Int)) = false := by simp; omega
  have q4 : decide (16 < (m : Int)) = false := by simp; omega
  have hbn := below_new w (.cells #[.slice (some ⟨gx, 0, none⟩) n cx, .slice (some ⟨gy, 0, none⟩) m cy, .slice (some ⟨gv, 0, none⟩) n cv] 117)
  have hx1 := Lib.hid (hx.out.below hbn)
  have hy1 := Lib.hid (hy.out.below hbn)
  have hr1 := Lib.hid (hr.out.below hbn)
  have HB := Lib.hid (hbn)
  clear hbn hx hy hr
  go_enter Tryd.func84, Tryd.ntmps84
  go_wp2_with fail
  refine (HX.out _ hx1 ax (by omega)).mono ?_
  rintro e w' ⟨rfl, rfl⟩
  go_wp2_with fail
  refine (HY.out _ hy1 ay (by omega)).mono ?_
  rintro e w' ⟨rfl, rfl⟩
  go_wp2_with fail
  go_loop [51] (fun i => ∃ k : Nat, k ≤ n ∧ i = .int .i64 k) (fun i => n - (intOf i).toNat)
  case atStart => exact ⟨0, Nat.zero_le _, rfl⟩
  case round =>
    obtain ⟨k, hk, rfl⟩ := hrel
    by_cases hlt : k < n
    · obtain ⟨g, c, hc, hi⟩ := hr1.out k (by rw [E3.out]; exact hlt)
      obtain ⟨hl, hsm⟩ := hs.out k hlt
      have HI := Lib.hid (hi)
      have HS := Lib.hid (hsm)
      rw [hl] at hc
      have HL := Lib.hid (hl)
      have q5 : ((m : Int) != (m : Int)) = false := by simp
      clear hi hsm hl
      go_wp2_with fail
      go_loop [63] (fun i => ∃ k : Nat, k ≤ m ∧ i = .int .i64 k) (fun i => m - (intOf i).toNat)
      case atStart => exact ⟨0, Nat.zero_le _, rfl⟩
      case round =>
        obtain ⟨j, hj, rfl⟩ := hrel
        by_cases hjm : j < m
        · have hcj := HI.out j (by rw [HL.out]; exact hjm)
          have hbj := HS.out j (by rw [HL.out]; exact hjm)
          generalize (rs.getD k []).getD j 0 = x at hcj hbj
          go_wp2_with (go_at_call 90; refine (inRange_any _ _ (by omega) (by omega)).mono ?_; rintro e w' ⟨rfl, rfl⟩)
          go_round
          case rel => exact ⟨j + 1, by omega, by go_num⟩
          case measure => simp [intOf]; omega
        · go_wp2
          go_round
          case rel => exact ⟨k + 1, by omega, by go_num⟩
          case measure => simp [intOf]; omega
    · go_wp2
      go_ret
      exact ⟨rfl, HB.out⟩

end Go.Proofs.YtkedpokbbogkmaaDoor
