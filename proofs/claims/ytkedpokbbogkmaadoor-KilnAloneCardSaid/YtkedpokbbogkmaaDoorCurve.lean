/-
  Contracts of curve.inRange, scale, Check, At on valid curves; sort.Search.
-/
import Derived.Test.YtkedpokbbogkmaaDoorUnits
import Derived.LoopTactic
import Derived.Deep.LoopGhost
namespace Go.Proofs.YtkedpokbbogkmaaDoor
open Go.RowKit

theorem inRange_any (n : Int) (w : World) (h0 : -1000000 ≤ n) (h1 : n ≤ 1000000) : Calls Tryd.prog 90 #[.int .i64 n] w fun e w' => e = .returned (.bool true) ∧ w = w' := by
  go_enter Tryd.func90, Tryd.ntmps90
  go_wp2
  go_ret
  exact ⟨rfl, rfl⟩

/-- A slice of integers that can be read. -/
def Ints (w : World) (g : Nat) (xs : List Int) : Prop := ∀ j, j < xs.length → w.cell? ⟨g, j, none⟩ = some (.int .i64 (xs.getD j 0))
def Asc (xs : List Int) : Prop := (∀ j, j < xs.length → -1000000 ≤ xs.getD j 0 ∧ xs.getD j 0 ≤ 1000000) ∧ ∀ j, j + 1 < xs.length → xs.getD j 0 < xs.getD (j + 1) 0

set_option maxHeartbeats 1000000 in
theorem scale_ok (g c : Nat) (xs : List Int) (w : World) (hx : Hid (Ints w g xs)) (ha : Hid (Asc xs)) (hl : xs.length ≤ 100) :
    Calls Tryd.prog 89 #[.slice (some ⟨g, 0, none⟩) xs.length c] w fun e w' => e = .returned (.int .i64 0) ∧ w = w' := by
  go_enter Tryd.func89, Tryd.ntmps89
  go_wp2
  go_loop [7] (fun i => ∃ k : Nat, k ≤ xs.length ∧ i = .int .i64 k) (fun i => xs.length - (intOf i).toNat)
  case atStart => exact ⟨0, Nat.zero_le _, rfl⟩
  case round =>
    obtain ⟨k, hk, rfl⟩ := hrel
    by_cases hlt : k < xs.length
    · have hc := hx.out k hlt
      have hr := ha.out.1 k hlt
      by_cases h0 : k = 0
      · subst h0
        generalize xs.getD 0 0 = x at hc hr
        go_wp2_with (go_at_call 90; refine (inRange_any _ _ (by omega) (by omega)).mono ?_; rintro e w' ⟨rfl, rfl⟩)
        go_round
        case rel => exact ⟨1, by omega, rfl⟩
        case measure => simp [intOf]; omega
      · obtain ⟨m, rfl⟩ : ∃ m, k = m + 1 := ⟨k - 1, by omega⟩
        have hc0 := hx.out m (by omega)
        have hs := ha.out.2 m hlt
        generalize xs.getD (m + 1) 0 = x at hc hr hs
        generalize xs.getD m 0 = y at hc0 hs
        go_wp2_with (go_at_call 90; refine (inRange_any _ _ (by omega) (by omega)).mono ?_; rintro e w' ⟨rfl, rfl⟩)
        go_round
        case rel => exact ⟨m + 2, by omega, by go_num⟩
        case measure => simp [intOf]; omega
    · go_wp2
      go_ret
      exact ⟨rfl, rfl⟩

theorem Asc.mono {xs : List Int} (h : Asc xs) : ∀ (d i : Nat), i + d < xs.length → xs.getD i 0 ≤ xs.getD (i + d) 0 := by
  intro d
  induction d with
  | zero => intro i _; simp
  | succ d ih => intro i hi; have := ih i (by omega); have := h.2 (i + d) (by omega); rw [show i + (d + 1) = i + d + 1 by omega]; omega
theorem bDrewN {B : Nat} {a w : World} (h : Below B a w) (n : Nat) : Below B a (w.drewN n) := ⟨h.os, h.tape, h.output, h.size, h.block⟩
/-- A slice of points that can be read. -/
def Pts (w : World) (g : Nat) (xs ys : List Int) : Prop := ys.length = xs.length ∧ ∀ j, j < xs.length → w.cell? ⟨g, j * 2, none⟩ = some (.int .i64 (xs.getD j 0)) ∧ w.cell? ⟨g, j * 2 + 1, none⟩ = some (.int .i64 (ys.getD j 0))
def Small (ys : List Int) : Prop := ∀ j, j < ys.length → -1000000 ≤ ys.getD j 0 ∧ ys.getD j 0 ≤ 1000000
theorem Pts.below {w w1 : World} {g : Nat} {xs ys : List Int} (h : Pts w g xs ys) (hb : Below w.heap.size w w1) : Pts w1 g xs ys :=
  ⟨h.1, fun j hj => ⟨(hb.cell (World.block_lt_of_cell? w _ (h.2 j hj).1)).trans (h.2 j hj).1, (hb.cell (World.block_lt_of_cell? w _ (h.2 j hj).2)).trans (h.2 j hj).2⟩⟩

set_option maxHeartbeats 2000000 in
theorem check_ok (g c : Nat) (xs ys : List Int) (w : World) (hp : Hid (Pts w g xs ys)) (ha : Hid (Asc xs)) (hs : Hid (Small ys)) (h1 : 1 ≤ xs.length) (h16 : xs.length ≤ 16) :
    Calls Tryd.prog 91 #[.slice (some ⟨g, 0, none⟩) xs.length c] w fun e w' => e = .returned (.int .i64 0) ∧ Below w.heap.size w w' := by
  go_enter Tryd.func91, Tryd.ntmps91
  go_wp2
  go_loopw [15] (fun i wr => ∃ k : Nat, k ≤ xs.length ∧ i = .int .i64 k ∧ Below w.heap.size w wr) (fun i _ => xs.length - (intOf i).toNat)
  case atStart => exact ⟨0, Nat.zero_le _, rfl, Below.refl _ _⟩
  case round =>
    obtain ⟨k, hk, rfl, hb⟩ := hrel
    have hbh : Hid (Below w.heap.size w wr) := hb
    have hsz := hb.size
    by_cases hlt : k < xs.length
    · have hc := ((hp.out.below hb).2 k hlt).1
      have hd := ((hp.out.below hb).2 k hlt).2
      have hr := ha.out.1 k hlt
      have hq := hs.out k (by rw [hp.out.1]; exact hlt)
      by_cases h0 : k = 0
      · subst h0
        generalize xs.getD 0 0 = x at hc hr
        generalize ys.getD 0 0 = y at hd hq
        clear hb
        go_wp2_with (go_at_call 90; refine (inRange_any _ _ (by omega) (by omega)).mono ?_; rintro e w' ⟨rfl, rfl⟩)
        have q0 : decide ((0 : Int) < 0) = false := rfl
        go_quiet (fail)
        go_wp2
        go_roundw
        case rel => exact ⟨1, by omega, rfl, bDrewN (hbh.out.alloc hsz _) _⟩
        case measure => simp [intOf]; omega
      · obtain ⟨m, rfl⟩ : ∃ m, k = m + 1 := ⟨k - 1, by omega⟩
        have hc0 := ((hp.out.below hb).2 m (by omega)).1
        have hs := ha.out.2 m hlt
        generalize xs.getD (m + 1) 0 = x at hc hr hs
        generalize ys.getD (m + 1) 0 = y at hd hq
        generalize xs.getD m 0 = z at hc0 hs
        clear hb
        go_wp2_with (go_at_call 90; refine (inRange_any _ _ (by omega) (by omega)).mono ?_; rintro e w' ⟨rfl, rfl⟩)
        have hgl := World.block_lt_of_cell? wr _ hc0
        have hc1 : (wr.alloc (.cells #[.int .i64 x, .int .i64 y] 126)).cell? ⟨g, m * 2, none⟩ = some (.int .i64 z) := (World.cell?_alloc_past _ _ _ hgl).trans hc0
        go_quiet (fail)
        go_wp2
        go_roundw
        case rel => exact ⟨m + 2, by omega, by go_num, bDrewN (hbh.out.alloc hsz _) _⟩
        case measure => simp [intOf]; omega
    · go_wp2
      go_ret
      exact ⟨rfl, hbh.out⟩

/-- sort.Search of a monotone answer. -/
def Finds (p : Nat → Bool) (n k : Nat) : Prop := k ≤ n ∧ (∀ j, j < k → p j = false) ∧ ∀ j, k ≤ j → j < n → p j = true
theorem search_any (f : Nat) (cb : Array Value) (n : Nat) (p : Nat → Bool) (w : World) (eg : ∀ args w, (callFunc f args).run Tryd.prog w = .ok (.enter f args) w) (hn : n ≤ 1000000) (hm : ∀ a b, a ≤ b → b < n → p a = true → p b = true)
    (hf : ∀ (i : Nat) (W : World), i < n → Below w.heap.size w W → Calls Tryd.prog f (#[.int .i64 i] ++ cb) W fun e w' => e = .returned (.bool (p i)) ∧ Below W.heap.size W w') :
    Calls Tryd.prog 92 #[.int .i64 n, .func (.func f) #[] cb] w fun e w' => ∃ k, Finds p n k ∧ e = .returned (.int .i64 (k : Nat)) ∧ Below w.heap.size w w' := by
  have HF : Aside _ := hf
  have HM : Aside _ := hm
  clear hf hm
  go_enter Tryd.func92, Tryd.ntmps92
  go_wp2
  go_loopw [5, 6] (fun i j wr => ∃ lo hi : Nat, i = .int .i64 lo ∧ j = .int .i64 hi ∧ lo ≤ hi ∧ hi ≤ n ∧ Below w.heap.size w wr ∧ Aside ((∀ t, t < lo → p t = false) ∧ (∀ t, hi ≤ t → t < n → p t = true))) (fun i j _ => (intOf j).toNat - (intOf i).toNat)
  case atStart => exact ⟨0, n, rfl, rfl, Nat.zero_le _, Nat.le_refl _, Below.refl _ _, (⟨fun t ht => absurd ht (Nat.not_lt_zero _), fun t h1 h2 => by omega⟩ : (∀ t, t < 0 → p t = false) ∧ (∀ t, n ≤ t → t < n → p t = true))⟩
  case round =>
    obtain ⟨lo, hi, rfl, rfl, hlh, hin, hb, I⟩ := hrel
    by_cases hlt : lo < hi
    · have hc := HF ((lo + hi) / 2) wr (by omega) hb
      have HB : Hid (Below w.heap.size w wr) := hb
      clear hb
      rw [show (((lo + hi) / 2 : Nat) : Int) = ((lo : Int) + (hi : Int)) / 2 by omega] at hc
      cases hp : p ((lo + hi) / 2) <;> rw [hp] at hc
      · have HP : Aside (p ((lo + hi) / 2) = false) := hp
        clear hp
        go_wp2_with (go_at_fn f; refine hc.mono ?_; rintro e w' ⟨rfl, hb1⟩)
        go_roundw
        case rel => exact ⟨(lo + hi) / 2 + 1, hi, by go_num, rfl, by omega, hin, HB.out.trans (hb1.mono HB.out.size), ⟨(fun t ht => by
          by_cases h : t < lo
          · exact I.out.1 t h
          · cases ht' : p t
            · rfl
            · have := HM.out t ((lo + hi) / 2) (by omega) (by omega) ht'
              rw [HP.out] at this
              cases this), I.out.2⟩⟩
        case measure => simp [intOf]; omega
      · have HP : Aside (p ((lo + hi) / 2) = true) := hp
        clear hp
        go_wp2_with (go_at_fn f; refine hc.mono ?_; rintro e w' ⟨rfl, hb1⟩)
        go_roundw
        case rel => exact ⟨lo, (lo + hi) / 2, rfl, by rw [show ((lo : Int) + (hi : Int)) / 2 = (((lo + hi) / 2 : Nat) : Int) by omega], by omega, by omega, HB.out.trans (hb1.mono HB.out.size), ⟨I.out.1, fun t h1 h2 => HM.out ((lo + hi) / 2) t h1 h2 HP.out⟩⟩
        case measure => simp [intOf]; omega
    · obtain rfl : hi = lo := by omega
      have HB : Hid (Below w.heap.size w wr) := hb
      clear hb
      go_wp2
      go_ret
      exact ⟨hi, ⟨hin, I.out⟩, rfl, HB.out⟩

set_option maxHeartbeats 1000000 in
theorem at1_any (g c n bc bx i : Nat) (x v : Int) (w : World) (hi : i < n) (hcb : w.cell? ⟨bc, 0, none⟩ = some (.slice (some ⟨g, 0, none⟩) n c)) (hx : w.cell? ⟨bx, 0, none⟩ = some (.int .i64 x)) (hv : w.cell? ⟨g, i * 2, none⟩ = some (.int .i64 v)) :
    Calls Tryd.prog 93 (#[.int .i64 i] ++ #[.pointer (some ⟨bc, 0, none⟩), .pointer (some ⟨bx, 0, none⟩)]) w fun e w' => e = .returned (.bool (decide (x ≤ v))) ∧ Below w.heap.size w w' := by
  have hiz : (i : Int) < (n : Int) := by omega
  go_enter Tryd.func93, Tryd.ntmps93
  go_wp2
  go_region
  all_goals go_wp2
  all_goals go_ret
  all_goals exact ⟨rfl, bDrewN (Below.refl _ _) 1⟩

theorem rise_any (a n b : Int) (w : World) (ha : -2000000 ≤ a) (ha' : a ≤ 2000000) (hn : 0 ≤ n) (hn' : n ≤ 3000000) (hb : 1 ≤ b) (hb' : b ≤ 3000000) :
    Calls Tryd.prog 94 #[.int .i64 a, .int .i64 n, .int .i64 b] w fun e w' => e = .returned (.int .i64 (a * n / b)) ∧ w = w' := by
  have h1 : a * n ≤ 2000000 * 3000000 := Int.le_trans (Int.mul_le_mul_of_nonneg_right ha' hn) (Int.mul_le_mul_of_nonneg_left hn' (by omega))
  have h2 : -2000000 * 3000000 ≤ a * n := Int.le_trans (Int.mul_le_mul_of_nonpos_left (by omega) hn') (Int.mul_le_mul_of_nonneg_right ha hn)
  generalize ep : a * n = q at h1 h2 ⊢
  have hw : a * n = q := ep
  by_cases hq : q < 0
  · have e := Int.tdiv_eq_ediv_of_nonneg (a := -q + b - 1) (b := b) (by omega)
    have hdiv : -((-q + b - 1) / b) = q / b := by
      have h3 := Int.mul_ediv_add_emod q b
      have h4 := Int.emod_nonneg q (b := b) (by omega)
      have h5 := Int.emod_lt_of_pos q (b := b) (by omega)
      have : (-q + b - 1) / b = -(q / b) := by
        have h6 : -q + b - 1 = (b - 1 - q % b) + b * (-(q / b)) := by
          have : b * (-(q / b)) = -(b * (q / b)) := by rw [Int.mul_neg]
          omega
        rw [h6, Int.add_mul_ediv_left _ _ (by omega), Int.ediv_eq_zero_of_lt (by omega) (by omega)]
        omega
      omega
    have hd0 : 0 ≤ (-q + b - 1) / b := Int.ediv_nonneg (by omega) (by omega)
    have hd1 : (-q + b - 1) / b ≤ -q + b - 1 := Int.ediv_le_self _ (by omega)
    go_enter Tryd.func94, Tryd.ntmps94
    go_wp2
    go_ret
    exact ⟨rfl, rfl⟩
  · have hq' : decide (q < 0) = false := by simpa using hq
    go_enter Tryd.func94, Tryd.ntmps94
    go_wp2
    go_ret
    exact ⟨rfl, rfl⟩

end Go.Proofs.YtkedpokbbogkmaaDoor
