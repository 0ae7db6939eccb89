/-
  Contracts of units.Clamp, units.Floor (b above 0), moist.speed, bits.Mul64, bits.Div64 (hi = 0), units.Toward (small numbers).
-/
import Derived.Test.YtkedpokbbogkmaaDoorProg
import Derived.WalkKit
import Derived.KernelRfl
import Derived.Below
import Derived.Lib.Hide
import Derived.RowKit3
import Derived.Deep.Draws
import Derived.Deep.QuietTactic
import Derived.BigQuiet
import Derived.RegionTactic
import Derived.WalkLawsBesides
import Derived.WalkSpells
import Derived.Shelf.Bits.Mul64
namespace Go.Proofs.YtkedpokbbogkmaaDoor
open Go.RowKit

def clampZ (n lo hi : Int) : Int := if hi < lo ∨ n < lo then lo else if n ≤ hi then n else hi
theorem quiet_add_left {P : Program} {f : FuncId} {args : Array Value} {w : World} {a n : Nat} {v : Value}
    (h : Calls P f args (w.drewN (a + n)) fun e w' => e = .returned v ∧ w.drewN (a + n) = w') :
    Calls P f args (w.drewN (a + n)) fun e w'' => e = .returned v ∧ ∃ m, w'' = w.drewN (a + m) :=
  h.mono fun _ _ ⟨he, hm⟩ => ⟨he, n, hm.symm⟩
theorem quiet_left {P : Program} {f : FuncId} {args : Array Value} {w : World} {n : Nat} {v : Value}
    (h : Calls P f args (w.drewN n) fun e w' => e = .returned v ∧ w.drewN n = w') : Calls P f args (w.drewN n) fun e w'' => e = .returned v ∧ ∃ m, w'' = w.drewN m :=
  h.mono fun _ _ ⟨he, hm⟩ => ⟨he, n, hm.symm⟩
theorem ret_int {k : IntKind} {a b : Int} (h : a = b) : Ending.returned (.int k a) = .returned (.int k b) := by rw [h]

theorem clamp_any (n lo hi : Int) (w : World) :
    Calls Tryd.prog 48 #[.int .i64 n, .int .i64 lo, .int .i64 hi] w fun e w' => e = .returned (.int .i64 (clampZ n lo hi)) ∧ w = w' := by
  by_cases h1 : hi < lo
  · have h1' : decide (hi < lo) = true := by simpa using h1
    go_enter Tryd.func48, Tryd.ntmps48
    go_wp2
    go_ret
    exact ⟨ret_int (by unfold clampZ; rw [if_pos (.inl h1)]), rfl⟩
  · have h1' : decide (hi < lo) = false := by simpa using h1
    by_cases h2 : n < lo
    · have h2' : decide (n < lo) = true := by simpa using h2
      go_enter Tryd.func48, Tryd.ntmps48
      go_wp2
      go_ret
      exact ⟨ret_int (by unfold clampZ; rw [if_pos (.inr h2)]), rfl⟩
    · have h2' : decide (n < lo) = false := by simpa using h2
      go_enter Tryd.func48, Tryd.ntmps48
      go_wp2
      all_goals go_ret
      all_goals exact ⟨ret_int (by unfold clampZ; rw [if_neg (by omega)]; first | rw [if_pos (by omega)] | rw [if_neg (by omega)]), rfl⟩

theorem clampZ_mid {n lo hi : Int} (h1 : lo ≤ n) (h2 : n ≤ hi) : clampZ n lo hi = n := by
  unfold clampZ; rw [if_neg (by omega), if_pos h2]
theorem clampZ_bd {n lo hi : Int} (h : lo ≤ hi) : lo ≤ clampZ n lo hi ∧ clampZ n lo hi ≤ hi := by
  unfold clampZ; split <;> (try split) <;> omega

theorem floor1_any (a b : Int) (w : World) : Calls Tryd.prog 86 #[.int .i64 a, .int .i64 b] w fun e w' => e = .returned (.bool false) ∧ w = w' := by
  go_enter Tryd.func86, Tryd.ntmps86
  go_wp2
  go_ret
  exact ⟨rfl, rfl⟩

set_option maxHeartbeats 1000000 in
theorem of_any (a b : Int) (w : World) (ha : 0 ≤ a) (ha' : a ≤ 9223372036854775807) (hb : 1 ≤ b) (hb' : b ≤ 9223372036854775807) :
    Calls Tryd.prog 87 #[.agg #[.func (.func 86) #[] #[]], .int .i64 a, .int .i64 b] w fun e w' => e = .returned (.tuple #[.int .i64 (a / b), .bool true]) ∧ Below w.heap.size w w' := by
  have hr0 : 0 ≤ a % b := Int.emod_nonneg _ (by omega)
  have e1 : (b == 0) = false := by simp; omega
  have e2 : decide (b < 0) = false := by simp; omega
  have e3 : (a == -9223372036854775808) = false := by simp; omega
  by_cases hz : a % b = 0
  · have hz' : (a % b != 0) = false := by simp [hz]
    have hdec : Hid (a % b = 0) := hz
    clear hz
    go_enter Tryd.func87, Tryd.ntmps87
    go_wp2
    go_region
    go_wp2
    go_ret2
    exact ⟨rfl, (((Below.refl _ _).alloc (Nat.le_refl _) _)).drew⟩
  · have hz' : (a % b != 0) = true := by simpa using hz
    have hneg : decide (a % b < 0) = false := by simp; omega
    clear hz
    go_enter Tryd.func87, Tryd.ntmps87
    go_wp2
    go_region
    go_wp2
    go_ret2
    exact ⟨rfl, (((Below.refl _ _).alloc (Nat.le_refl _) _)).drew⟩

theorem floor_any (a b : Int) (w : World) (ha : 0 ≤ a) (ha' : a ≤ 9223372036854775807) (hb : 1 ≤ b) (hb' : b ≤ 9223372036854775807) :
    Calls Tryd.prog 81 #[.int .i64 a, .int .i64 b] w fun e w' => e = .returned (.tuple #[.int .i64 (a / b), .bool true]) ∧ Below w.heap.size w w' := by
  go_enter Tryd.func81, Tryd.ntmps81
  go_wp2_with (go_at_call 87; refine (of_any _ _ _ (by omega) (by omega) (by omega) (by omega)).mono ?_; rintro e w' ⟨rfl, hb⟩)
  go_ret2
  exact ⟨rfl, hb⟩

def lays264_ren : Go.Shelf.Ren := ⟨fun | 264 => 77 | n => n, fun | 53 => 111 | 46 => 120 | n => n, fun | n => n⟩
theorem lays264 : Go.Proofs.Lays.n264 Tryd.prog lays264_ren := {
  mixed := by kernel_rfl
  f264 := Tryd.func77.trans (congrArg some (by kernel_rfl))
  t46 := Tryd.underlying120
  a46 := Tryd.isAgg120
  z46 := Tryd.sizeOf120
  v46 := Tryd.zeroValue120
  t53 := Tryd.underlying111
  a53 := Tryd.isAgg111
  z53 := Tryd.sizeOf111
  v53 := Tryd.zeroValue111 }
theorem mul64_any (x y : Int) (h0 : 0 ≤ x) (hx : x ≤ 1000000000) (h0' : 0 ≤ y) (hy : y ≤ 1000000000) (w : World) :
    Calls Tryd.prog 77 #[.int .u64 x, .int .u64 y] w fun e w' => e = .returned (.tuple #[.int .u64 0, .int .u64 (x * y)]) ∧ w = w' := by
  obtain ⟨x, rfl⟩ := Int.eq_ofNat_of_zero_le h0
  obtain ⟨y, rfl⟩ := Int.eq_ofNat_of_zero_le h0'
  have hm : x * y ≤ 1000000000 * 1000000000 := Nat.mul_le_mul (by omega) (by omega)
  refine (Go.Proofs.Any.bits_Mul64 lays264 x y (by omega) (by omega) w).mono ?_
  rintro e w' ⟨rfl, rfl⟩
  have e1 : x * y / 18446744073709551616 = 0 := by omega
  have e2 : x * y % 18446744073709551616 = x * y := by omega
  rw [e1, e2]
  exact ⟨by simp, rfl⟩

theorem div64_any (x y : Int) (h0 : 0 ≤ x) (hx : x ≤ 1000000000000000000) (hy : 1 ≤ y) (hy' : y ≤ 1000000) (w : World) :
    Calls Tryd.prog 78 #[.int .u64 0, .int .u64 x, .int .u64 y] w fun e w' => e = .returned (.tuple #[.int .u64 (x / y), .int .u64 (x % y)]) ∧ ∃ n, w' = w.drewN n := by
  have e1 : (y == 0) = false := by simp; omega
  have e2 : decide (y ≤ 0) = false := by simp; omega
  go_enter Tryd.func78, Tryd.ntmps78
  go_wp2
  go_region
  go_wp2
  go_ret2
  exact ⟨rfl, 1, rfl⟩

theorem speed_any (a b : Int) (w : World) (ha : 0 ≤ a) (ha' : a ≤ 9223372036854775807) (hb : 1 ≤ b) (hb' : b ≤ 9223372036854775807) :
    Calls Tryd.prog 59 #[.int .i64 a, .int .i64 b] w fun e w' => e = .returned (.int .i64 (clampZ (a / b) 1 10000)) ∧ Below w.heap.size w w' := by
  go_enter Tryd.func59, Tryd.ntmps59
  go_wp2_with (first | (go_at_call 81; refine (floor_any _ _ _ (by omega) (by omega) (by omega) (by omega)).mono ?_; rintro e w' ⟨rfl, hb⟩) | (go_at_call 48; refine (clamp_any _ _ _ _).mono ?_; rintro e w' ⟨rfl, rfl⟩))
  go_ret
  exact ⟨rfl, hb⟩

def stepZ (d k : Int) : Int := if d * k / 10000 ≤ 1 then 1 else d * k / 10000
def towardZ (a b k : Int) : Int := if a = b then a else if a < b then a + stepZ (b - a) k else a - stepZ (a - b) k
theorem stepZ_bd {d k : Int} (hd : 1 ≤ d) (hk' : k ≤ 10000) : 1 ≤ stepZ d k ∧ stepZ d k ≤ d := by
  unfold stepZ
  have h : d * k ≤ d * 10000 := Int.mul_le_mul_of_nonneg_left hk' (by omega)
  split <;> omega
theorem towardZ_bd (a b k : Int) (hk' : k ≤ 10000) : (a ≤ towardZ a b k ∧ towardZ a b k ≤ b) ∨ (b ≤ towardZ a b k ∧ towardZ a b k ≤ a) := by
  unfold towardZ
  split
  · omega
  · split
    · have := stepZ_bd (d := b - a) (by omega) hk'; omega
    · have := stepZ_bd (d := a - b) (by omega) hk'; omega

set_option maxHeartbeats 2000000 in
theorem toward_any (a b k : Int) (w : World) (ha : 0 ≤ a) (ha' : a ≤ 1000000) (hb : 0 ≤ b) (hb' : b ≤ 1000000) (hk : 1 ≤ k) (hk' : k ≤ 10000) :
    Calls Tryd.prog 57 #[.int .i64 a, .int .i64 b, .int .i64 k] w fun e w' => e = .returned (.int .i64 (towardZ a b k)) ∧ ∃ n, w' = w.drewN n := by
  have hc := clampZ_mid (n := k) (lo := 0) (hi := 10000) (by omega) hk'
  have k0 : (k == 0) = false := by simp; omega
  by_cases hab : a = b
  · subst hab
    have hc1 : Hid (clampZ k 0 10000 = k) := hc
    clear hc
    go_enter Tryd.func57, Tryd.ntmps57
    go_wp2_with (go_at_call 48; refine (clamp_any _ _ _ _).mono ?_; rintro e w' ⟨rfl, rfl⟩; rw [hc1.out])
    go_ret
    exact ⟨ret_int (by unfold towardZ; rw [if_pos rfl]), 0, rfl⟩
  · have hc1 : Hid (clampZ k 0 10000 = k) := hc
    clear hc
    have eab : (a == b) = false := by simpa using hab
    by_cases hlt : a < b
    · have hm1 : 0 ≤ (b - a) * k := Int.mul_nonneg (by omega) (by omega)
      have hm2 : (b - a) * k ≤ 1000000 * 10000 := Int.mul_le_mul (by omega) hk' (by omega) (by omega)
      have hst := stepZ_bd (d := b - a) (by omega) hk'
      go_enter Tryd.func57, Tryd.ntmps57
      go_wp2_with (first | (go_at_call 48; refine (clamp_any _ _ _ _).mono ?_; rintro e w' ⟨rfl, rfl⟩; rw [hc1.out]) | (go_at_call 77; refine (mul64_any _ _ (by omega) (by omega) (by omega) (by omega) _).mono ?_; rintro e w' ⟨rfl, rfl⟩) | (go_at_call 78; refine (div64_any _ _ (by omega) (by omega) (by omega) (by omega) _).mono ?_; rintro e w' ⟨rfl, n1, rfl⟩))
      all_goals go_ret
      all_goals refine ⟨ret_int ?_, _, rfl⟩
      all_goals (unfold towardZ stepZ; rw [if_neg hab, if_pos hlt]; split <;> omega)
    · have hm1 : 0 ≤ (a - b) * k := Int.mul_nonneg (by omega) (by omega)
      have hm2 : (a - b) * k ≤ 1000000 * 10000 := Int.mul_le_mul (by omega) hk' (by omega) (by omega)
      have hst := stepZ_bd (d := a - b) (by omega) hk'
      have hq : (a - b) * k / 10000 ≤ a - b := by have h : (a - b) * k ≤ (a - b) * 10000 := Int.mul_le_mul_of_nonneg_left hk' (by omega); omega
      have hgt : b < a := by omega
      go_enter Tryd.func57, Tryd.ntmps57
      go_wp2_with (first | (go_at_call 48; refine (clamp_any _ _ _ _).mono ?_; rintro e w' ⟨rfl, rfl⟩; rw [hc1.out]) | (go_at_call 77; refine (mul64_any _ _ (by omega) (by omega) (by omega) (by omega) _).mono ?_; rintro e w' ⟨rfl, rfl⟩) | (go_at_call 78; refine (div64_any _ _ (by omega) (by omega) (by omega) (by omega) _).mono ?_; rintro e w' ⟨rfl, n1, rfl⟩))
      all_goals go_ret
      all_goals refine ⟨ret_int ?_, _, rfl⟩
      all_goals (unfold towardZ stepZ; rw [if_neg hab, if_neg (by omega)]; split <;> omega)

end Go.Proofs.YtkedpokbbogkmaaDoor
