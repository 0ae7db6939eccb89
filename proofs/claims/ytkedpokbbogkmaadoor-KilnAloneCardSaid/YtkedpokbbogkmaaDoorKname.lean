/-
  Names: ident.IsName.
-/
import Derived.Test.YtkedpokbbogkmaaDoorFlat
import Derived.Deep.DeepCutAuto
namespace Go.Proofs.YtkedpokbbogkmaaDoor
open Go.RowKit
set_option linter.unusedSimpArgs false

def bz (s : ByteArray) (k : Nat) : Int := if h : k < s.size then ((s[k]'h).toNat : Int) else 0
theorem bz_at (s : ByteArray) (k : Nat) : ∀ h : k < s.size, ((s[k]'h).toNat : Int) = bz s k := fun h => by simp [bz, h]
theorem bz_bd (s : ByteArray) (k : Nat) : 0 ≤ bz s k ∧ bz s k ≤ 255 := by
  unfold bz
  split
  · rename_i h
    have := (s[k]'h).toNat_lt
    omega
  · omega
def digB (c : Int) : Bool := decide (48 ≤ c) && decide (c ≤ 57)
def okB (c : Int) : Bool := digB c || (c == 95) || (decide (97 ≤ c) && decide (c ≤ 122))
def nameB (s : ByteArray) : Bool := decide (1 ≤ s.size ∧ s.size ≤ 16) && !digB (bz s 0) && !(bz s 0 == 95) && (List.range s.size).all fun k => okB (bz s k)
set_option maxHeartbeats 1000000 in
set_option maxRecDepth 100000 in
theorem digit_any (c : Int) (w : World) : Calls Tryd.prog 60 #[.int .u8 c] w fun e w' => e = .returned (.bool (digB c)) ∧ w = w' := by
  unfold digB
  rcases Bool.eq_false_or_eq_true (decide (48 ≤ c)) with h1 | h1 <;> rcases Bool.eq_false_or_eq_true (decide (c ≤ 57)) with h2 | h2
  all_goals
    rw [h1, h2]
    go_enter Tryd.func60, Tryd.ntmps60
    go_wp2
    go_ret
    exact ⟨rfl, rfl⟩
theorem bytes_none (s : ByteArray) : s.toList.isEmpty = decide (s.size = 0) := by
  rw [ByteArray.toList_eq, Bool.eq_iff_iff, decide_eq_true_iff]
  obtain ⟨⟨l⟩⟩ := s
  show l.isEmpty = true ↔ l.length = 0
  cases l <;> simp
set_option maxHeartbeats 2000000 in
set_option maxRecDepth 100000 in
theorem isName_any (s : ByteArray) (w : World) : Calls Tryd.prog 51 #[.string s] w fun e w' => e = .returned (.bool (nameB s)) ∧ w = w' := by
  have hE := bytes_none s
  rcases Decidable.em (s.size = 0) with h0 | h0
  · have q0 : s.toList.isEmpty = true := by rw [hE]; exact decide_eq_true h0
    have HN : Hid (nameB s = false) := Lib.hid (by
      unfold nameB
      rw [decide_eq_false (by omega : ¬ (1 ≤ s.size ∧ s.size ≤ 16))]
      rfl)
    clear hE h0
    go_enter Tryd.func51, Tryd.ntmps51
    go_wp2
    go_ret
    exact ⟨by rw [HN.out]; rfl, rfl⟩
  · have q0 : s.toList.isEmpty = false := by rw [hE]; exact decide_eq_false h0
    rcases Decidable.em (16 < s.size) with h1 | h1
    · have q1 : decide ((16 : Int) < (s.size : Int)) = true := decide_eq_true (by omega)
      have HN : Hid (nameB s = false) := Lib.hid (by
        unfold nameB
        rw [decide_eq_false (by omega : ¬ (1 ≤ s.size ∧ s.size ≤ 16))]
        rfl)
      clear hE h0 h1
      go_enter Tryd.func51, Tryd.ntmps51
      go_wp2
      go_ret
      exact ⟨by rw [HN.out]; rfl, rfl⟩
    · have q1 : decide ((16 : Int) < (s.size : Int)) = false := decide_eq_false (by omega)
      have hp : 0 < s.size := by omega
      have h16 : s.size ≤ 16 := by omega
      have hx := bz_at s 0
      have HS : Hid (nameB s = (!digB (bz s 0) && !(bz s 0 == 95) && (List.range s.size).all fun k => okB (bz s k))) := Lib.hid (by
        unfold nameB
        rw [decide_eq_true (by omega : 1 ≤ s.size ∧ s.size ≤ 16)]
        rfl)
      generalize hz : bz s 0 = z at hx HS
      have HD : Hid (∀ w, Calls Tryd.prog 60 #[.int .u8 z] w fun e w' => e = .returned (.bool (digB z)) ∧ w = w') := Lib.hid (digit_any z)
      clear hE h0 h1 hz
      rcases Bool.eq_false_or_eq_true (digB z) with d1 | d1
      · rw [d1] at HD HS
        go_enter Tryd.func51, Tryd.ntmps51
        go_wp2_with (go_at_call 60; (with_reducible refine (HD.out _).mono ?_); rintro e w_ ⟨rfl, rfl⟩)
        go_ret
        exact ⟨by rw [HS.out]; rfl, rfl⟩
      · rw [d1] at HD HS
        rcases Bool.eq_false_or_eq_true (z == 95) with d2 | d2
        · rw [d2] at HS
          go_enter Tryd.func51, Tryd.ntmps51
          go_wp2_with (go_at_call 60; (with_reducible refine (HD.out _).mono ?_); rintro e w_ ⟨rfl, rfl⟩)
          go_ret
          exact ⟨by rw [HS.out]; rfl, rfl⟩
        · rw [d2] at HS
          have HS : Hid (nameB s = (List.range s.size).all fun k => okB (bz s k)) := Lib.hid (HS.out.trans (by simp))
          go_enter Tryd.func51, Tryd.ntmps51
          go_wp2_with (go_at_call 60; (with_reducible refine (HD.out _).mono ?_); rintro e w_ ⟨rfl, rfl⟩)
          clear hx hp
          go_loopw [24] (fun i wr => ∃ k : Nat, k ≤ s.size ∧ i = .int .i64 k ∧ Aside (∀ j, j < k → okB (bz s j) = true) ∧ wr = w) (fun i _ => s.size - (intOf i).toNat)
          case atStart => exact ⟨0, Nat.zero_le _, rfl, (fun j hj => absurd hj (Nat.not_lt_zero _) : ∀ j, j < 0 → okB (bz s j) = true), rfl⟩
          case round =>
            obtain ⟨k, hk, rfl, HA, rfl⟩ := hrel
            by_cases hlt : k < s.size
            · have hx := bz_at s k
              have hkz : okB (bz s k) = false → nameB s = false := fun h => by
                rw [HS.out, List.all_eq_false]
                exact ⟨k, List.mem_range.2 hlt, by rw [h]; decide⟩
              have hkn : okB (bz s k) = true → ∀ j, j < k + 1 → okB (bz s j) = true := fun h j hj => by
                by_cases e : j = k
                · rw [e]; exact h
                · exact HA j (by omega)
              generalize bz s k = z at hx hkz hkn
              have KZ := Lib.hid hkz
              have KN := Lib.hid hkn
              have HD : Hid (∀ w, Calls Tryd.prog 60 #[.int .u8 z] w fun e w' => e = .returned (.bool (digB z)) ∧ w = w') := Lib.hid (digit_any z)
              clear hkz hkn
              have eo : okB z = (digB z || (z == 95) || (decide (97 ≤ z) && decide (z ≤ 122))) := rfl
              rw [eo] at KZ KN
              clear eo
              rcases Bool.eq_false_or_eq_true (digB z) with d1 | d1 <;> rcases Bool.eq_false_or_eq_true (z == 95) with d2 | d2 <;> rcases Bool.eq_false_or_eq_true (decide (97 ≤ z)) with d3 | d3 <;> rcases Bool.eq_false_or_eq_true (decide (z ≤ 122)) with d4 | d4
              all_goals
                rw [d1, d2, d3, d4] at KZ KN
                rw [d1] at HD
                have e3 : decide (z < 97) = !(decide (97 ≤ z)) := by by_cases h : 97 ≤ z <;> simp [h] <;> omega
                have e4 : decide (122 < z) = !(decide (z ≤ 122)) := by by_cases h : z ≤ 122 <;> simp [h] <;> omega
                rw [d3] at e3
                rw [d4] at e4
                have e5 : (z != 95) = !(z == 95) := rfl
                rw [d2] at e5
                clear d1 d3 d4
                go_wp2_with (go_at_call 60; (with_reducible refine (HD.out _).mono ?_); rintro e w_ ⟨rfl, rfl⟩)
                first
                  | (go_roundw
                     (case rel => exact ⟨k + 1, by omega, by go_num, KN.out rfl, by first | rfl | trivial⟩)
                     (case measure => simp [intOf]; omega))
                  | (go_ret
                     exact ⟨by rw [KZ.out rfl]; rfl, rfl⟩)
            · obtain rfl : k = s.size := by omega
              have HT : Hid (nameB s = true) := Lib.hid (by
                rw [HS.out, List.all_eq_true]
                exact fun j hj => HA j (List.mem_range.1 hj))
              go_wp2
              go_ret
              exact ⟨by rw [HT.out]; rfl, rfl⟩
end Go.Proofs.YtkedpokbbogkmaaDoor
