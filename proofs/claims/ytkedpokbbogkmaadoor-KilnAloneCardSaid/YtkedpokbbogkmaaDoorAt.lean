/-
  The contract of curve.At on valid curves.
-/
import Derived.Test.YtkedpokbbogkmaaDoorCurve
import Derived.Test.YtkedpokbbogkmaaDoorPl
import Derived.RegionTactic
import Derived.ChangeAlike
import Derived.Deep.RegionHeld3
namespace Go.Proofs.YtkedpokbbogkmaaDoor
open Go.RowKit

set_option maxHeartbeats 2000000 in
theorem at_ok (g c : Nat) (xs ys : List Int) (x : Int) (w : World) (hp : Hid (Pts w g xs ys)) (ha : Hid (Asc xs)) (hs : Hid (Small ys)) (h1 : 1 ≤ xs.length) (h16 : xs.length ≤ 16) :
    Calls Tryd.prog 85 #[.slice (some ⟨g, 0, none⟩) xs.length c, .int .i64 x] w fun e w' => e = .returned (.int .i64 (Pl.atZ xs ys x)) ∧ Below w.heap.size w w' := by
  have eg : ∀ args w, (callFunc 93 args).run Tryd.prog w = .ok (.enter 93 args) w := fun _ _ => by kernel_rfl
  have hgl := World.block_lt_of_cell? w _ (hp.out.2 0 (by omega)).1
  go_enter Tryd.func85, Tryd.ntmps85
  go_wp2_with fail
  refine (check_ok g c xs ys _ ?hp ha hs h1 h16).mono ?_
  case hp => exact hp.out.below (((Below.refl _ _).alloc (Nat.le_refl _) _).alloc (by simp) _)
  rintro e w1 ⟨rfl, hb1⟩
  have hmf : ∀ (fn : Fn) (first cap : Array Value) (w : World), (Instr.makeFunc fn first cap).run Tryd.prog w = .ok (.func fn first cap) w := fun _ _ _ _ => rfl
  have hc1 : w1.cell? ⟨w.heap.size, 0, none⟩ = some (.slice (some ⟨g, 0, none⟩) xs.length c) := (hb1.cell (p := ⟨w.heap.size, 0, none⟩) (by simp; omega)).trans (by rw [World.cell?_alloc_past _ _ _ (by simp), World.cell?_alloc_at _ _ _ _ rfl]; rfl)
  have hx1 : w1.cell? ⟨w.heap.size + 1, 0, none⟩ = some (.int .i64 x) := (hb1.cell (p := ⟨w.heap.size + 1, 0, none⟩) (by simp)).trans (by rw [World.cell?_alloc_at _ _ _ _ (by simp)]; rfl)
  have hp1 : Hid (Pts w1 g xs ys) := (hp.out.below (((Below.refl _ _).alloc (Nat.le_refl _) _).alloc (by simp) _)).below hb1
  have hB1 : Hid (Below w.heap.size w w1) := (((Below.refl _ _).alloc (Nat.le_refl _) _).alloc (by simp) _).trans (hb1.mono (by simp; omega))
  clear hb1
  go_wp2_with fail
  refine (search_any 93 #[.pointer (some ⟨w.heap.size, 0, none⟩), .pointer (some ⟨w.heap.size + 1, 0, none⟩)] xs.length (fun i => decide (x ≤ xs.getD i 0)) w1 eg (by omega) ?hm ?hf).mono ?_
  case hm =>
    intro a b hab hb h
    simp only [decide_eq_true_eq] at h ⊢
    obtain ⟨d, rfl⟩ := Nat.exists_eq_add_of_le hab
    exact Int.le_trans h (ha.out.mono d a hb)
  case hf => exact fun i W hi hW => at1_any g c xs.length _ _ i x _ W hi ((hW.cell (World.block_lt_of_cell? w1 _ hc1)).trans hc1) ((hW.cell (World.block_lt_of_cell? w1 _ hx1)).trans hx1) ((hp1.out.below hW).2 i hi).1
  rintro e w2 ⟨k, hk, rfl, hb2⟩
  have hc2 := (hb2.cell (World.block_lt_of_cell? w1 _ hc1)).trans hc1
  have hx2 := (hb2.cell (World.block_lt_of_cell? w1 _ hx1)).trans hx1
  have hp2 : Hid (Pts w2 g xs ys) := hp1.out.below hb2
  have hB2 : Hid (Below w.heap.size w w2) := hB1.out.trans (hb2.mono hB1.out.size)
  have hk' : Hid (Pl.kOf xs x = k) := Pl.kOf_only hk.1 hk.2.1 hk.2.2
  have hkn := hk.1
  clear hb2 hc1 hx1 hp1 hB1 hk eg hmf
  by_cases h0 : k = 0
  · subst h0
    have hy := (hp2.out.2 0 (by omega)).2
    generalize ey : ys.getD 0 0 = y at hy
    have EY : Hid (ys.getD 0 0 = y) := ey
    clear ey
    go_wp2
    go_ret
    exact ⟨ret_int (by unfold Pl.atZ Pl.atI; rw [hk'.out, if_pos rfl, EY.out]), hB2.out⟩
  · by_cases hn : k = xs.length
    · obtain ⟨m, rfl⟩ : ∃ m, k = m + 1 := ⟨k - 1, by omega⟩
      have hy := (hp2.out.2 m (by omega)).2
      generalize ey : ys.getD m 0 = y at hy
      have EY : Hid (ys.getD m 0 = y) := ey
      have HN : Hid (m + 1 = xs.length) := hn
      have e1 : (((m + 1 : Nat) : Int) == 0) = false := by simp; omega
      have e2 : (((m + 1 : Nat) : Int) == (xs.length : Int)) = true := by simp; omega
      clear ey hn
      go_wp2
      go_ret
      exact ⟨ret_int (by unfold Pl.atZ Pl.atI; rw [hk'.out, if_neg (by omega), if_pos HN.out, Nat.add_sub_cancel, EY.out]), hB2.out⟩
    · obtain ⟨m, rfl⟩ : ∃ m, k = m + 1 := ⟨k - 1, by omega⟩
      have ax := (hp2.out.2 m (by omega)).1
      have ay := (hp2.out.2 m (by omega)).2
      have bx := (hp2.out.2 (m + 1) (by omega)).1
      have by_ := (hp2.out.2 (m + 1) (by omega)).2
      have hgt := ha.out.2 m (by omega)
      have r1 := ha.out.1 m (by omega)
      have r2 := ha.out.1 (m + 1) (by omega)
      have r3 := hs.out m (by have := hp2.out.1; omega)
      have r4 := hs.out (m + 1) (by have := hp2.out.1; omega)
      obtain ⟨-, g2, g3⟩ := Pl.kOf_is xs x
      rw [hk'.out] at g2 g3
      have r5 := g2 m (by omega)
      have r6 := g3 (by omega)
      have HV : Hid (Pl.atZ xs ys x = Pl.seg (xs.getD m 0) (ys.getD m 0) (xs.getD (m + 1) 0) (ys.getD (m + 1) 0) x) := by
        show _ = _
        unfold Pl.atZ Pl.atI
        rw [hk'.out, if_neg (by omega), if_neg hn, Nat.add_sub_cancel]
      clear g2 g3 hp hp2 hk' ha hs
      generalize xs.getD m 0 = x0 at ax hgt r1 r5 HV
      generalize ys.getD m 0 = y0 at ay r3 HV
      generalize xs.getD (m + 1) 0 = x1 at bx hgt r2 r6 HV
      generalize ys.getD (m + 1) 0 = y1 at by_ r4 HV
      have e1 : (((m + 1 : Nat) : Int) == 0) = false := by simp; omega
      have e2 : (((m + 1 : Nat) : Int) == (xs.length : Int)) = false := by simp; omega
      have hsg := Pl.seg_bd (lo := -1000000) (hi := 1000000) r5 r6 r3.1 r3.2 r4.1 r4.2
      unfold Pl.seg at hsg
      have hx3 : ∀ o o', ((w2.alloc o).alloc o').cell? ⟨w.heap.size + 1, 0, none⟩ = some (.int .i64 x) := fun o o' => (World.cell?_alloc_past _ _ _ (by have := World.block_lt_of_cell? w2 _ hx2; simp; simp at this; omega)).trans ((World.cell?_alloc_past _ _ _ (World.block_lt_of_cell? w2 _ hx2)).trans hx2)
      have q1 : -2000000 ≤ y1 - y0 := by omega
      have q2 : y1 - y0 ≤ 2000000 := by omega
      have q3 : 0 ≤ x - x0 := by omega
      have q4 : x - x0 ≤ 3000000 := by omega
      have q5 : 1 ≤ x1 - x0 := by omega
      have q6 : x1 - x0 ≤ 3000000 := by omega
      have s1 : IntKind.i64.wrap (y1 - y0) = y1 - y0 := IntWalk.i64_in _ (by omega)
      have s2 : IntKind.i64.wrap (x - x0) = x - x0 := IntWalk.i64_in _ (by omega)
      have s3 : IntKind.i64.wrap (x1 - x0) = x1 - x0 := IntWalk.i64_in _ (by omega)
      have s4 : IntKind.i64.wrap (y0 + (y1 - y0) * (x - x0) / (x1 - x0)) = y0 + (y1 - y0) * (x - x0) / (x1 - x0) := IntWalk.i64_in _ (by omega)
      have nw : IntKind.i64.wrap (m : Int) = (m : Int) := IntWalk.i64_in _ (by omega)
      have nw2 : IntKind.i64.wrap ((m : Int) + 1 - 1) = (m : Int) := by rw [Int.add_sub_cancel]; exact nw
      have b1 : (0 : Int) ≤ (m : Int) := by omega
      have b2 : (m : Int) < (xs.length : Int) := by omega
      have b3 : (0 : Int) ≤ (m : Int) + 1 := by omega
      have b4 : (m : Int) + 1 < (xs.length : Int) := by omega
      have b5 : ((m : Int) + 1).toNat = m + 1 := by omega
      have n1 := World.new_ne w2 _ hc2
      have n2 := World.new_ne w2 _ ax
      have n3 := World.new_ne w2 _ ay
      have n4 := World.new_ne w2 _ bx
      have n5 := World.new_ne w2 _ by_
      go_wp2
      go_region_held3 (fun w' => w'.cell? ⟨w.heap.size, 0, none⟩ = some (.slice (some ⟨g, 0, none⟩) xs.length c) ∧ w'.cell? ⟨g, m * 2, none⟩ = some (.int .i64 x0) ∧ w'.cell? ⟨g, m * 2 + 1, none⟩ = some (.int .i64 y0) ∧ w'.cell? ⟨g, (m + 1) * 2, none⟩ = some (.int .i64 x1) ∧ w'.cell? ⟨g, (m + 1) * 2 + 1, none⟩ = some (.int .i64 y1)) (go_keep) (fail)
      all_goals clear hc2 hx2 ax ay bx by_ n1 n2 n3 n4 n5 b1 b2 b3 b4 b5 nw nw2
      all_goals go_wp2
      all_goals go_quiet ((go_at_call 94; first | exact quiet_left (rise_any _ _ _ _ q1 q2 q3 q4 q5 q6) | exact quiet_add_left (rise_any _ _ _ _ q1 q2 q3 q4 q5 q6)))
      all_goals clear s1 s2 s3 s4
      all_goals go_wp2
      all_goals go_ret
      all_goals exact ⟨ret_int (by rw [HV.out]; rfl), bDrewN (bDrewN ((hB2.out.alloc hB2.out.size _).alloc (by have := hB2.out.size; simp; omega) _) 1) _⟩

theorem at_okN (g c n : Nat) (xs ys : List Int) (x : Int) (w : World) (hp : Hid (Pts w g xs ys)) (ha : Hid (Asc xs)) (hs : Hid (Small ys)) (hn : Hid (xs.length = n)) (h1 : 1 ≤ n) (h16 : n ≤ 16) :
    Calls Tryd.prog 85 #[.slice (some ⟨g, 0, none⟩) n c, .int .i64 x] w fun e w' => e = .returned (.int .i64 (Pl.atZ xs ys x)) ∧ Below w.heap.size w w' := by
  have e := hn.out
  subst e
  exact at_ok g c xs ys x w hp ha hs h1 h16

end Go.Proofs.YtkedpokbbogkmaaDoor
