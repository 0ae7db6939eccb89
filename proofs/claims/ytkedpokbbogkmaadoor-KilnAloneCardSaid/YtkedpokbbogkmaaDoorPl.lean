/-
  Plain mathematics: interpolation in a table, the equilibrium moisture content.
-/
import Derived.Below
namespace Go.Proofs.YtkedpokbbogkmaaDoor.Pl

def seg (x0 y0 x1 y1 x : Int) : Int := y0 + (y1 - y0) * (x - x0) / (x1 - x0)
def atI (xs ys : List Int) (x : Int) (k : Nat) : Int :=
  if k = 0 then ys.getD 0 0 else if k = xs.length then ys.getD (k - 1) 0 else seg (xs.getD (k - 1) 0) (ys.getD (k - 1) 0) (xs.getD k 0) (ys.getD k 0) x
def kOf : List Int → Int → Nat
  | [], _ => 0
  | a :: t, x => if x ≤ a then 0 else kOf t x + 1
def atZ (xs ys : List Int) (x : Int) : Int := atI xs ys x (kOf xs x)

def temps : List Int := [200, 400, 600, 800, 1000, 1200]
def deps : List Int := [0, 20, 50, 100, 200, 300, 400]
def conts : List (List Int) := [[2800, 2200, 1750, 1250, 750, 480, 390], [2700, 2100, 1650, 1150, 680, 440, 350], [2600, 2000, 1550, 1060, 610, 400, 310],
  [2500, 1900, 1450, 980, 550, 360, 280], [2400, 1800, 1360, 900, 500, 330, 250], [2300, 1700, 1270, 830, 450, 300, 220]]
def rowsAt (d : Int) : List Int := conts.map fun r => atZ deps r d
def emcZ (t d : Int) : Int := atZ temps (rowsAt d) t

theorem seg_bd {x0 y0 x1 y1 x lo hi : Int} (h0 : x0 < x) (h1 : x ≤ x1) (a0 : lo ≤ y0) (a1 : y0 ≤ hi) (b0 : lo ≤ y1) (b1 : y1 ≤ hi) : lo ≤ seg x0 y0 x1 y1 x ∧ seg x0 y0 x1 y1 x ≤ hi := by
  unfold seg
  have hp : 0 < x1 - x0 := by omega
  by_cases h : y0 ≤ y1
  · have g1 : 0 ≤ (y1 - y0) * (x - x0) / (x1 - x0) := Int.ediv_nonneg (Int.mul_nonneg (by omega) (by omega)) (by omega)
    have g2 : (y1 - y0) * (x - x0) / (x1 - x0) ≤ y1 - y0 := by
      refine Int.ediv_le_of_le_mul hp ?_
      exact Int.mul_le_mul_of_nonneg_left (by omega) (by omega)
    omega
  · have g1 : (y1 - y0) * (x - x0) / (x1 - x0) ≤ 0 := by
      refine Int.ediv_le_of_le_mul hp ?_
      have : (y1 - y0) * (x - x0) ≤ 0 := Int.mul_nonpos_of_nonpos_of_nonneg (by omega) (by omega)
      omega
    have g2 : y1 - y0 ≤ (y1 - y0) * (x - x0) / (x1 - x0) := by
      refine Int.le_ediv_of_mul_le hp ?_
      exact Int.mul_le_mul_of_nonpos_left (by omega) (by omega)
    omega

theorem kOf_is (xs : List Int) (x : Int) : kOf xs x ≤ xs.length ∧ (∀ j, j < kOf xs x → xs.getD j 0 < x) ∧ (kOf xs x < xs.length → x ≤ xs.getD (kOf xs x) 0) := by
  induction xs with
  | nil => simp [kOf]
  | cons a t ih =>
    unfold kOf
    split
    · rename_i h; simp; exact h
    · rename_i h
      obtain ⟨h1, h2, h3⟩ := ih
      refine ⟨by simp; exact h1, fun j hj => ?_, fun hl => ?_⟩
      · cases j with
        | zero => simp; omega
        | succ j => simpa using h2 j (by omega)
      · simpa using h3 (by simpa using hl)
theorem kOf_only {xs : List Int} {x : Int} {k : Nat} (h1 : k ≤ xs.length) (h2 : ∀ j, j < k → decide (x ≤ xs.getD j 0) = false) (h3 : ∀ j, k ≤ j → j < xs.length → decide (x ≤ xs.getD j 0) = true) : kOf xs x = k := by
  obtain ⟨g1, g2, g3⟩ := kOf_is xs x
  rcases Nat.lt_trichotomy (kOf xs x) k with h | h | h
  · have a := h2 _ h
    have b := g3 (by omega)
    simp only [decide_eq_false_iff_not] at a
    omega
  · exact h
  · have a := h3 k (Nat.le_refl _) (by omega)
    have b := g2 k h
    simp only [decide_eq_true_eq] at a
    omega
theorem atZ_bd {xs ys : List Int} {x lo hi : Int} (hl : ys.length = xs.length) (h0 : 0 < xs.length) (hy : ∀ y ∈ ys, lo ≤ y ∧ y ≤ hi) : lo ≤ atZ xs ys x ∧ atZ xs ys x ≤ hi := by
  have hg : ∀ j, j < ys.length → lo ≤ ys.getD j 0 ∧ ys.getD j 0 ≤ hi := fun j hj => by
    rw [List.getD_eq_getElem?_getD, List.getElem?_eq_getElem hj]; exact hy _ (List.getElem_mem hj)
  obtain ⟨g1, g2, g3⟩ := kOf_is xs x
  unfold atZ atI
  split
  · exact hg 0 (by omega)
  · split
    · exact hg _ (by omega)
    · exact seg_bd (g2 _ (by omega)) (g3 (by omega)) (hg _ (by omega)).1 (hg _ (by omega)).2 (hg _ (by omega)).1 (hg _ (by omega)).2
theorem rowsAt_bd (d : Int) : ∀ y ∈ rowsAt d, 220 ≤ y ∧ y ≤ 2800 := by
  intro y hy
  obtain ⟨r, hr, rfl⟩ := List.mem_map.1 hy
  refine atZ_bd ?_ (by decide) ?_
  · exact (show ∀ r ∈ conts, r.length = deps.length by decide) r hr
  · exact (show ∀ r ∈ conts, ∀ y ∈ r, 220 ≤ y ∧ y ≤ 2800 by decide) r hr
theorem emcZ_bd (t d : Int) : 220 ≤ emcZ t d ∧ emcZ t d ≤ 2800 := atZ_bd (by simp [rowsAt, conts, temps]) (by decide) (rowsAt_bd d)

end Go.Proofs.YtkedpokbbogkmaaDoor.Pl
