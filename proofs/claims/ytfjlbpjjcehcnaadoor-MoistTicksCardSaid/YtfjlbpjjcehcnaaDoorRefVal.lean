/-
  The reference's equilibrium moisture content, as the printed function has it, is the interpolation in the table.
-/
import Derived.Test.YtfjlbpjjcehcnaaDoorPl
import Derived.Test.YtfjlbpjjcehcnaaDoorPTickx5
import Derived.KernelRfl
namespace Go.Proofs.YtfjlbpjjcehcnaaDoor
open Go.RowKit PTick Go.Proofs.YtfjlbpjjcehcnaaDoorW.PrintWords

theorem wrap64_in {n : Int} (h : -9223372036854775808 ≤ n) (h' : n ≤ 9223372036854775807) : wrap64 n = n := by
  unfold wrap64
  omega
theorem rfloor_ok {a b : Int} (ha : -1000000000000000 ≤ a) (ha' : a ≤ 1000000000000000) (hb : 1 ≤ b) (hb' : b ≤ 1000000000) : sawmillref08_floor.f a b = some (a / b) := by
  have hm : Int.tdiv a b * b = a - Int.tmod a b := by
    have := Int.mul_tdiv_add_tmod a b
    rw [Int.mul_comm] at this
    omega
  have h1 : Int.tmod a b < b := Int.tmod_lt_of_pos a (by omega)
  have h2 : -b < Int.tmod a b := by
    have := Int.lt_tmod_of_pos a (show 0 < b by omega)
    omega
  have q1 : Int.natAbs (Int.tdiv a b) ≤ Int.natAbs a := Int.natAbs_tdiv_le_natAbs a b
  have hd : wrap64 (Int.tdiv a b) = Int.tdiv a b := wrap64_in (by omega) (by omega)
  have hp : wrap64 (Int.tdiv a b * b) = Int.tdiv a b * b := wrap64_in (by omega) (by omega)
  have hs : wrap64 (Int.tdiv a b - 1) = Int.tdiv a b - 1 := wrap64_in (by omega) (by omega)
  unfold sawmillref08_floor.f
  rw [if_neg (by omega), hd, hp, hs]
  generalize hq : Int.tdiv a b = q at *
  generalize hr : Int.tmod a b = r at *
  have hqb : q * b = a - r := hm
  split
  · rename_i h
    -- the remainder is below 0
    have hr0 : r < 0 := by omega
    have : a / b = q - 1 := by
      have hx : a = (q - 1) * b + (r + b) := by rw [Int.sub_mul]; omega
      rw [hx, Int.add_comm, Int.add_mul_ediv_right _ _ (by omega), Int.ediv_eq_zero_of_lt (by omega) (by omega)]
      omega
    rw [this]
  · rename_i h
    have hr0 : 0 ≤ r := by omega
    have : a / b = q := by
      have hx : a = q * b + r := by omega
      rw [hx, Int.add_comm, Int.add_mul_ediv_right _ _ (by omega), Int.ediv_eq_zero_of_lt (by omega) (by omega)]
      omega
    rw [this]
theorem rbetween_ok {x0 y0 x1 y1 x : Int} (h0 : x0 < x) (h1 : x ≤ x1) (a0 : -1000 ≤ x0) (a1 : x1 ≤ 2000) (b0 : 0 ≤ y0) (b0' : y0 ≤ 20000) (b1 : 0 ≤ y1) (b1' : y1 ≤ 20000) :
    sawmillref08_Between.f x0 y0 x1 y1 x = some (Pl.seg x0 y0 x1 y1 x) := by
  unfold sawmillref08_Between.f
  have hq : -20000 * 3000 ≤ (y1 - y0) * (x - x0) ∧ (y1 - y0) * (x - x0) ≤ 20000 * 3000 := by
    have e1 : (y1 - y0) * (x - x0) ≤ 20000 * (x - x0) := Int.mul_le_mul_of_nonneg_right (by omega) (by omega)
    have e2 : -20000 * (x - x0) ≤ (y1 - y0) * (x - x0) := Int.mul_le_mul_of_nonneg_right (by omega) (by omega)
    omega
  rw [wrap64_in (n := y1 - y0) (by omega) (by omega), wrap64_in (n := x - x0) (by omega) (by omega), wrap64_in (n := x1 - x0) (by omega) (by omega), wrap64_in (n := (y1 - y0) * (x - x0)) (by omega) (by omega), rfloor_ok (by omega) (by omega) (by omega) (by omega)]
  simp only [Option.bind_some]
  have hb := Pl.seg_bd (x0 := x0) (y0 := y0) (x1 := x1) (y1 := y1) (x := x) (lo := 0) (hi := 20000) h0 h1 b0 b0' b1 b1'
  unfold Pl.seg at hb ⊢
  rw [wrap64_in (by omega) (by omega)]

/-- A point at a place of the list. -/
def rptAt (xs ys : List Int) (i : Nat) : S60 := ⟨xs.getD i 0, ys.getD i 0⟩
theorem rsmall_ok {n : Int} (h : 0 ≤ n) (h' : n ≤ 20000) : sawmillref08_small.f n = some true := by
  unfold sawmillref08_small.f
  rw [if_pos (by omega), decide_eq_true (by omega)]
/-- The points of a row: ascending, small. -/
structure RPts (l : List S60) (xs ys : List Int) : Prop where
  lx : xs.length = l.length
  ly : ys.length = l.length
  at_ : ∀ i : Nat, i < l.length → rd_T60 l (i : Int) = ⟨xs.getD i 0, ys.getD i 0⟩
  up : ∀ i : Nat, 0 < i → i < l.length → xs.getD (i - 1) 0 < xs.getD i 0
  bx : ∀ i : Nat, i < l.length → 0 ≤ xs.getD i 0 ∧ xs.getD i 0 ≤ 2000
  by_ : ∀ i : Nat, i < l.length → 0 ≤ ys.getD i 0 ∧ ys.getD i 0 ≤ 20000
  len : 1 ≤ l.length ∧ l.length ≤ 16
theorem rcheck_l0 {l : List S60} {xs ys : List Int} (H : RPts l xs ys) : ∀ (n i k : Nat), i + n = l.length → 2 * n < k → sawmillref08_Check.l0 k l (i : Int) = some 0
  | 0, i, k, h, hk => by
    obtain ⟨k, rfl⟩ : ∃ m, k = m + 1 := ⟨k - 1, by omega⟩
    simp only [sawmillref08_Check.l0]
    rw [if_neg (by omega)]
  | n + 1, i, k, h, hk => by
    obtain ⟨k, rfl⟩ : ∃ m, k = m + 1 + 1 := ⟨k - 2, by omega⟩
    have hl := H.len
    have ih := rcheck_l0 H n (i + 1) k (by omega) (by omega)
    have ihk := rcheck_l0 H n (i + 1) (k) (by omega) (by omega)
    have bx := H.bx i (by omega)
    have by_ := H.by_ i (by omega)
    have ww : wrap64 ((i : Int) + 1) = ((i + 1 : Nat) : Int) := by rw [wrap64_in (by omega) (by omega)]; omega
    simp only [sawmillref08_Check.l0]
    rw [if_pos (by omega), if_pos (by omega), H.at_ i (by omega)]
    simp only
    rw [rsmall_ok bx.1 (by omega)]
    simp only [Option.bind_some, if_true]
    rw [rsmall_ok by_.1 by_.2]
    simp only [Option.bind_some, Bool.not_true, sawmillref08_Check.j1]
    rw [if_neg (by decide), ww, ih]
    by_cases h0 : (0 : Int) < i
    · have up := H.up i (by omega) (by omega)
      have wm : wrap64 ((i : Int) - 1) = ((i - 1 : Nat) : Int) := by rw [wrap64_in (by omega) (by omega)]; omega
      rw [if_pos h0, if_pos (by omega), if_pos (by omega), wm, if_pos (by omega), if_pos (by omega), H.at_ (i - 1) (by omega), H.at_ i (by omega), if_neg (by simp only; omega)]
    · rw [if_neg h0]
theorem rat_l0 {l : List S60} {xs ys : List Int} (H : RPts l xs ys) (x : Int) : ∀ (n i k : Nat), i + n = l.length → 1 ≤ i → n < k → i ≤ Pl.kOf xs x → sawmillref08_At.l0 k l x (i : Int) = some (Pl.atI xs ys x (Pl.kOf xs x))
  | 0, i, k, h, h1, hk, hx => by
    obtain ⟨k, rfl⟩ : ∃ m, k = m + 1 := ⟨k - 1, by omega⟩
    have hl := H.len
    have hkl := (Pl.kOf_is xs x).1
    have e : Pl.kOf xs x = xs.length := by have := H.lx; omega
    have wm : wrap64 ((l.length : Int) - 1) = ((l.length - 1 : Nat) : Int) := by rw [wrap64_in (by omega) (by omega)]; omega
    simp only [sawmillref08_At.l0]
    rw [if_neg (by omega), wm, if_pos (by omega), if_pos (by omega), H.at_ _ (by omega), e]
    unfold Pl.atI
    rw [if_neg (by have := H.lx; omega), if_pos rfl, H.lx]
  | n + 1, i, k, h, h1, hk, hx => by
    obtain ⟨k, rfl⟩ : ∃ m, k = m + 1 := ⟨k - 1, by omega⟩
    have hl := H.len
    have hlx := H.lx
    obtain ⟨g1, g2, g3⟩ := Pl.kOf_is xs x
    simp only [sawmillref08_At.l0]
    rw [if_pos (by omega), if_pos (by omega), H.at_ i (by omega)]
    by_cases hc : x ≤ xs.getD i 0
    · have e : Pl.kOf xs x = i := by
        rcases Nat.lt_or_ge i (Pl.kOf xs x) with q | q
        · have := g2 i q
          omega
        · omega
      have gp := g2 (i - 1) (by omega)
      have wm : wrap64 ((i : Int) - 1) = ((i - 1 : Nat) : Int) := by rw [wrap64_in (by omega) (by omega)]; omega
      have b1 := H.bx i (by omega)
      have b2 := H.bx (i - 1) (by omega)
      have y1 := H.by_ i (by omega)
      have y2 := H.by_ (i - 1) (by omega)
      rw [if_pos hc, wm, if_pos (by omega), if_pos (by omega), H.at_ (i - 1) (by omega)]
      simp only
      rw [rbetween_ok gp hc (by omega) (by omega) y2.1 y2.2 y1.1 y1.2, e]
      unfold Pl.atI
      rw [if_neg (by omega), if_neg (by omega)]
      rfl
    · have hi : i + 1 ≤ Pl.kOf xs x := by
        rcases Nat.lt_or_ge i (Pl.kOf xs x) with q | q
        · exact q
        · have e : Pl.kOf xs x = i := by omega
          rw [e] at g3
          exact absurd (g3 (by omega)) hc
      have ww : wrap64 ((i : Int) + 1) = ((i + 1 : Nat) : Int) := by rw [wrap64_in (by omega) (by omega)]; omega
      rw [if_neg hc, ww]
      exact rat_l0 H x n (i + 1) k (by omega) (by omega) (by omega) hi
theorem rat_ok {l : List S60} {xs ys : List Int} (H : RPts l xs ys) (x : Int) {k : Nat} (hk : 32 < k) : sawmillref08_At.f k l x = some (Pl.atZ xs ys x) := by
  have hl := H.len
  have hlx := H.lx
  unfold sawmillref08_At.f sawmillref08_Check.f
  have hc : sawmillref08_Check.l0 k l 0 = some 0 := rcheck_l0 H l.length 0 k (by omega) (by omega)
  have h00 : rd_T60 l 0 = ⟨xs.getD 0 0, ys.getD 0 0⟩ := H.at_ 0 (by omega)
  rw [if_neg (by omega), if_neg (by omega), hc]
  simp only [Option.bind_some]
  rw [if_pos trivial, if_pos (by omega), h00]
  obtain ⟨g1, g2, g3⟩ := Pl.kOf_is xs x
  unfold Pl.atZ
  by_cases h0 : x ≤ xs.getD 0 0
  · have e : Pl.kOf xs x = 0 := by
      rcases Nat.eq_zero_or_pos (Pl.kOf xs x) with q | q
      · exact q
      · have := g2 0 q
        omega
    rw [if_pos h0, e]
    rfl
  · have hi : 1 ≤ Pl.kOf xs x := by
      rcases Nat.eq_zero_or_pos (Pl.kOf xs x) with q | q
      · rw [q] at g3
        exact absurd (g3 (by omega)) h0
      · exact q
    rw [if_neg h0]
    exact rat_l0 H x (l.length - 1) 1 k (by omega) (by omega) (by omega) hi
/-- The points of a table's row are as they must be. -/
theorem rpts_of (l : List S60) (xs ys : List Int) (hx : xs.length = l.length) (hy : ys.length = l.length) (hl : l = (xs.zip ys).map fun p => (⟨p.1, p.2⟩ : S60))
    (up : ((List.range l.length).all fun i => i == 0 || decide (xs.getD (i - 1) 0 < xs.getD i 0)) = true) (bx : (xs.all fun x => decide (0 ≤ x) && decide (x ≤ 2000)) = true) (by_ : ∀ y ∈ ys, 0 ≤ y ∧ y ≤ 20000) (len : 1 ≤ l.length ∧ l.length ≤ 16) : RPts l xs ys where
  lx := hx
  ly := hy
  at_ i hi := by
    have h1 : i < xs.length := by omega
    have h2 : i < ys.length := by omega
    subst hl
    have hz : (xs.zip ys)[i]? = some (xs[i], ys[i]) := by
      rw [List.getElem?_eq_getElem (by simp; omega), List.getElem_zip]
    unfold rd_T60
    simp [h1, h2, hz]
  up i h0 hi := by
    have := List.all_eq_true.1 up i (List.mem_range.2 hi)
    simp only [Bool.or_eq_true, beq_iff_eq, decide_eq_true_eq] at this
    omega
  bx i hi := by
    have h1 : i < xs.length := by omega
    have hm : xs.getD i 0 ∈ xs := by
      rw [List.getD_eq_getElem?_getD, List.getElem?_eq_getElem h1]
      exact List.getElem_mem h1
    have := List.all_eq_true.1 bx _ hm
    simpa using this
  by_ i hi := by
    have h1 : i < ys.length := by omega
    have hm : ys.getD i 0 ∈ ys := by
      rw [List.getD_eq_getElem?_getD, List.getElem?_eq_getElem h1]
      exact List.getElem_mem h1
    exact by_ _ hm
  len := len
abbrev RTX : List Int := [200, 400, 600, 800, 1000, 1200]
abbrev RTY : List Int := [0, 20, 50, 100, 200, 300, 400]
abbrev RTV : List (List Int) := [[2800, 2200, 1750, 1250, 750, 480, 390], [2700, 2100, 1650, 1150, 680, 440, 350], [2600, 2000, 1550, 1060, 610, 400, 310], [2500, 1900, 1450, 980, 550, 360, 280], [2400, 1800, 1360, 900, 500, 330, 250], [2300, 1700, 1270, 830, 450, 300, 220]]
def rrow7 (r : List Int) : List S60 := (RTY.zip r).map fun p => (⟨p.1, p.2⟩ : S60)
theorem rrow_ok (r : List Int) (hr : r ∈ RTV) (d : Int) {k : Nat} (hk : 32 < k) : sawmillref08_At.f k (rrow7 r) d = some (Pl.atZ Pl.deps r d) := by
  have hlen : r.length = 7 ∧ ∀ y ∈ r, 0 ≤ y ∧ y ≤ 20000 := by
    have : (RTV.all fun r => decide (r.length = 7) && r.all fun y => decide (0 ≤ y) && decide (y ≤ 20000)) = true := by decide
    have := List.all_eq_true.1 this r hr
    simp only [Bool.and_eq_true, decide_eq_true_eq, List.all_eq_true] at this
    exact this
  have hz : (rrow7 r).length = 7 := by simp [rrow7, hlen.1]
  exact rat_ok (rpts_of (rrow7 r) RTY r (by rw [hz]; rfl) (by rw [hz, hlen.1]) rfl (by rw [hz]; decide) (by decide) hlen.2 (by omega)) d hk
theorem rrow_f (m : Nat) : sawmillref08_Row.f (m + 10) RTX RTY RTV 0 = some (rrow7 [2800, 2200, 1750, 1250, 750, 480, 390]) ∧ sawmillref08_Row.f (m + 10) RTX RTY RTV 1 = some (rrow7 [2700, 2100, 1650, 1150, 680, 440, 350])
    ∧ sawmillref08_Row.f (m + 10) RTX RTY RTV 2 = some (rrow7 [2600, 2000, 1550, 1060, 610, 400, 310]) ∧ sawmillref08_Row.f (m + 10) RTX RTY RTV 3 = some (rrow7 [2500, 1900, 1450, 980, 550, 360, 280])
    ∧ sawmillref08_Row.f (m + 10) RTX RTY RTV 4 = some (rrow7 [2400, 1800, 1360, 900, 500, 330, 250]) ∧ sawmillref08_Row.f (m + 10) RTX RTY RTV 5 = some (rrow7 [2300, 1700, 1270, 830, 450, 300, 220]) :=
  ⟨by kernel_rfl, by kernel_rfl, by kernel_rfl, by kernel_rfl, by kernel_rfl, by kernel_rfl⟩
theorem rgrid_f (m : Nat) : sawmillref08_CheckGrid.f (m + 80) RTX RTY RTV = some 0 := by kernel_rfl
theorem rval_step (m : Nat) (t d : Int) (acc : List S60) (i : Int) (r : List Int) (h0 : 0 ≤ i) (h1 : i < 6) (hrow : sawmillref08_Row.f (m + 40) RTX RTY RTV i = some (rrow7 r)) (hr : r ∈ RTV) (hacc : acc.length < 10) :
    sawmillref08_Value.l0 (m + 41) t d acc i RTX RTY RTV = sawmillref08_Value.l0 (m + 40) t d (acc ++ [⟨rd RTX i, Pl.atZ Pl.deps r d⟩]) (i + 1) RTX RTY RTV := by
  have e : sawmillref08_Value.l0 (m + 41) t d acc i RTX RTY RTV = (if i < (RTX.length : Int) then (if 0 ≤ i then ((sawmillref08_Row.f (m + 40) RTX RTY RTV i).bind fun t195 => ((sawmillref08_At.f (m + 40) t195 d).bind fun t198 => (if acc.length < 8796093022208 then (sawmillref08_Value.l0 (m + 40) t d (acc ++ [(⟨rd RTX i, t198⟩ : S60)]) (wrap64 (i + 1)) RTX RTY RTV) else (none)))) else (none)) else ((sawmillref08_At.f (m + 40) acc t).bind fun t202 => (some t202))) := rfl
  rw [e, if_pos (by show i < 6; exact h1), if_pos h0, hrow]
  simp only [Option.bind_some]
  rw [rrow_ok r hr d (by omega)]
  simp only [Option.bind_some]
  rw [if_pos (by omega), wrap64_in (by omega) (by omega)]
theorem rval_f (n : Nat) (t d : Int) : sawmillref08_Value.f (n + 100) RTX RTY RTV t d = some (Pl.emcZ t d) := by
  unfold sawmillref08_Value.f
  rw [show sawmillref08_CheckGrid.f (n + 100) RTX RTY RTV = some 0 from rgrid_f (n + 20)]
  simp only [Option.bind_some, if_true]
  obtain ⟨q0, q1, q2, q3, q4, q5⟩ : (∀ m, sawmillref08_Row.f (m + 10) RTX RTY RTV 0 = _) ∧ (∀ m, sawmillref08_Row.f (m + 10) RTX RTY RTV 1 = _) ∧ (∀ m, sawmillref08_Row.f (m + 10) RTX RTY RTV 2 = _) ∧ (∀ m, sawmillref08_Row.f (m + 10) RTX RTY RTV 3 = _) ∧ (∀ m, sawmillref08_Row.f (m + 10) RTX RTY RTV 4 = _) ∧ (∀ m, sawmillref08_Row.f (m + 10) RTX RTY RTV 5 = _) :=
    ⟨fun m => (rrow_f m).1, fun m => (rrow_f m).2.1, fun m => (rrow_f m).2.2.1, fun m => (rrow_f m).2.2.2.1, fun m => (rrow_f m).2.2.2.2.1, fun m => (rrow_f m).2.2.2.2.2⟩
  refine (rval_step (n + 59) t d [] 0 _ (by decide) (by decide) (q0 (n + 89)) (by simp) (by simp)).trans ?_
  refine (rval_step (n + 58) t d _ 1 _ (by decide) (by decide) (q1 (n + 88)) (by simp) (by simp)).trans ?_
  refine (rval_step (n + 57) t d _ 2 _ (by decide) (by decide) (q2 (n + 87)) (by simp) (by simp)).trans ?_
  refine (rval_step (n + 56) t d _ 3 _ (by decide) (by decide) (q3 (n + 86)) (by simp) (by simp)).trans ?_
  refine (rval_step (n + 55) t d _ 4 _ (by decide) (by decide) (q4 (n + 85)) (by simp) (by simp)).trans ?_
  refine (rval_step (n + 54) t d _ 5 _ (by decide) (by decide) (q5 (n + 84)) (by simp) (by simp)).trans ?_
  have hb := Pl.rowsAt_bd d
  generalize hl : (([] ++ [(⟨rd RTX 0, Pl.atZ Pl.deps [2800, 2200, 1750, 1250, 750, 480, 390] d⟩ : S60)] ++ [(⟨rd RTX 1, Pl.atZ Pl.deps [2700, 2100, 1650, 1150, 680, 440, 350] d⟩ : S60)] ++ [(⟨rd RTX 2, Pl.atZ Pl.deps [2600, 2000, 1550, 1060, 610, 400, 310] d⟩ : S60)] ++ [(⟨rd RTX 3, Pl.atZ Pl.deps [2500, 1900, 1450, 980, 550, 360, 280] d⟩ : S60)] ++ [(⟨rd RTX 4, Pl.atZ Pl.deps [2400, 1800, 1360, 900, 500, 330, 250] d⟩ : S60)] ++ [(⟨rd RTX 5, Pl.atZ Pl.deps [2300, 1700, 1270, 830, 450, 300, 220] d⟩ : S60)]) : List S60) = l
  have hz : l.length = 6 := by rw [← hl]; rfl
  have hp : RPts l RTX (Pl.rowsAt d) := rpts_of l RTX (Pl.rowsAt d) (by rw [hz]; rfl) (by rw [hz]; rfl) (by rw [← hl]; rfl) (by rw [hz]; decide) (by decide) (fun y hy => by have := hb y hy; omega) (by omega)
  have e : sawmillref08_Value.l0 (n + 54 + 40) t d l (5 + 1) RTX RTY RTV = ((sawmillref08_At.f (n + 93) l t).bind fun t202 => (some t202)) := rfl
  rw [e, rat_ok hp t (by omega)]
  rfl
theorem remc_f (n : Nat) (t d : Int) : sawmillref35_Emc.f (n + 100) t d = some (Pl.emcZ t d) := by
  unfold sawmillref35_Emc.f sawmillref35_Table.f
  simp only [Option.bind_some]
  rw [show sawmillref08_Value.f (n + 100) [200, 400, 600, 800, 1000, 1200] [0, 20, 50, 100, 200, 300, 400] RTV t d = some (Pl.emcZ t d) from rval_f n t d]
  rfl
theorem remc_any (t d : Int) (w : World) : Calls Tryd.prog 28 #[.agg #[.int .i64 t, .int .i64 d]] w fun e w' => e = .returned (.int .i64 (Pl.emcZ t d)) ∧ Below w.heap.size w w' :=
  sawmillref35_Emc.calls 100 t d _ w (remc_f 0 t d)
end Go.Proofs.YtfjlbpjjcehcnaaDoor
