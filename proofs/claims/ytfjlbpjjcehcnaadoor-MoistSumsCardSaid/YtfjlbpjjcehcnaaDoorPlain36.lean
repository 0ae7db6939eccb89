/-
  Plain facts on what a tick of a cell computes: without the fans, in equilibrium, in a thicker board; the mean; the stress.
-/
import Derived.Test.YtfjlbpjjcehcnaaDoorFacts36
namespace Go.Proofs.YtfjlbpjjcehcnaaDoor
open Go.RowKit

theorem tick_eqs {a b s f sl sf th t d c1 c2 c3 : Int} {fan : Bool} (h : tickZ a b s f sl sf th t d fan = (c1, c2, c3)) :
    (Comp a b s f sl sf th t d ∧ c1 = surfZ a f t d fan ∧ c2 = coreZ b c1 sl t th ∧ c3 = strZ s c1 c2 sf) ∨ (¬ Comp a b s f sl sf th t d ∧ c1 = a ∧ c2 = b ∧ c3 = s) := by
  unfold tickZ at h
  split at h
  · rename_i hc
    obtain ⟨h1, h2⟩ := Prod.mk.inj h
    obtain ⟨h2, h3⟩ := Prod.mk.inj h2
    rw [h1] at h2 h3
    rw [h2] at h3
    exact .inl ⟨hc, h1.symm, h2.symm, h3.symm⟩
  · rename_i hc
    obtain ⟨h1, h2⟩ := Prod.mk.inj h
    obtain ⟨h2, h3⟩ := Prod.mk.inj h2
    exact .inr ⟨hc, h1.symm, h2.symm, h3.symm⟩
theorem gradZ_bd (a b s : Int) : -20000 ≤ gradZ a b s ∧ gradZ a b s ≤ 20000 := by
  unfold gradZ
  split
  · rename_i h
    have := chkZ_zero.1 h
    omega
  · omega
theorem szZ_bd {n : Int} (h : -20000 ≤ n) (h' : n ≤ 20000) : 0 ≤ szZ n ∧ szZ n ≤ 20000 := by
  unfold szZ
  split <;> omega
theorem fans_facts {a b s f sl sf th t d c1 c2 c3 : Int} (h : tickZ a b s f sl sf th t d false = (c1, c2, c3)) :
    c1 = a ∧ szZ (gradZ c1 c2 c3) ≤ szZ (gradZ a b s) := by
  have h0 := h
  rcases tick_eqs h with ⟨hc, h1, h2, h3⟩ | ⟨_, h1, h2, h3⟩
  · have h1 : c1 = a := h1.trans (by simp [surfZ])
    subst h1
    refine ⟨rfl, ?_⟩
    have hk := hc.1
    obtain ⟨f1, _, f3, _⟩ := tick_facts h0 hk
    unfold gradZ
    rw [if_pos f1, if_pos hk]
    unfold Btw at f3
    unfold szZ
    split <;> split <;> omega
  · subst h1; subst h2; subst h3
    exact ⟨rfl, Int.le_refl _⟩
theorem towardZ_self (a k : Int) : towardZ a a k = a := by
  unfold towardZ
  rw [if_pos rfl]
theorem rest_fact (f sl sf th t d : Int) (fan : Bool) : tickZ (Pl.emcZ t d) (Pl.emcZ t d) 0 f sl sf th t d fan = (Pl.emcZ t d, Pl.emcZ t d, 0) := by
  have e := Pl.emcZ_bd t d
  generalize hq : Pl.emcZ t d = q at e
  unfold tickZ
  split
  · rename_i hc
    have hp := hc.2.2
    have hs : surfZ q f t d fan = q := by
      unfold surfZ
      split
      · rw [hq, towardZ_self]
      · rfl
    have hr : coreZ q q sl t th = q := towardZ_self _ _
    rw [hs, hr]
    have : strZ 0 q q sf = 0 := by
      unfold strZ
      split <;> split <;> omega
    rw [this]
  · rfl
theorem ediv_thick {n x y : Int} (hn : 0 ≤ n) (hx : 1 ≤ x) (hxy : x ≤ y) : n / y ≤ n / x := by
  apply Int.le_ediv_of_mul_le (by omega)
  have h1 : 0 ≤ n / y := Int.ediv_nonneg hn (by omega)
  have h2 : n / y * x ≤ n / y * y := Int.mul_le_mul_of_nonneg_left hxy h1
  have h3 : n / y * y ≤ n := Int.ediv_mul_le n (by omega)
  omega
theorem clampZ_le {m n : Int} (h : m ≤ n) : clampZ m 1 10000 ≤ clampZ n 1 10000 := by
  unfold clampZ
  split <;> split <;> (try split) <;> (try split) <;> omega
theorem stepZ_le {d k k' : Int} (hd : 0 ≤ d) (h : k ≤ k') : stepZ d k ≤ stepZ d k' := by
  have h1 : d * k ≤ d * k' := Int.mul_le_mul_of_nonneg_left h hd
  unfold stepZ
  split <;> split <;> omega
/-- A slower core stays farther from its surface, on the same side. -/
theorem towardZ_far {b a k k' : Int} (h : k ≤ k') (hk' : k' ≤ 10000) : szZ (towardZ b a k' - a) ≤ szZ (towardZ b a k - a) := by
  unfold towardZ
  rcases Int.lt_trichotomy b a with hq | hq | hq
  · rw [if_neg (by omega), if_pos hq, if_neg (by omega), if_pos hq]
    have h1 := stepZ_le (d := a - b) (by omega) h
    have h2 := stepZ_bd (d := a - b) (k := k') (by omega) hk'
    unfold szZ
    split <;> split <;> omega
  · rw [if_pos hq, if_pos hq]
    exact Int.le_refl _
  · rw [if_neg (by omega), if_neg (by omega), if_neg (by omega), if_neg (by omega)]
    have h1 := stepZ_le (d := b - a) (by omega) h
    have h2 := stepZ_bd (d := b - a) (k := k') (by omega) hk'
    unfold szZ
    split <;> split <;> omega
theorem thick_facts {a b s f sl sf th m t d x1 x2 x3 y1 y2 y3 : Int} {fan : Bool} (h : tickZ a b s f sl sf th t d fan = (x1, x2, x3)) (h' : tickZ a b s f sl sf (th + m) t d fan = (y1, y2, y3))
    (h1 : 1 ≤ th) (h2 : 0 ≤ m) (h3 : th + m ≤ 600) : x1 = y1 ∧ szZ (gradZ x1 x2 x3) ≤ szZ (gradZ y1 y2 y3) := by
  have g := h
  have g' := h'
  rcases tick_eqs h with ⟨hc, e1, e2, e3⟩ | ⟨hc, e1, e2, e3⟩ <;> rcases tick_eqs h' with ⟨hc', d1, d2, d3⟩ | ⟨hc', d1, d2, d3⟩
  · have hxy : x1 = y1 := e1.trans d1.symm
    subst hxy
    refine ⟨rfl, ?_⟩
    obtain ⟨q1, _⟩ := tick_facts g hc.1
    obtain ⟨q2, _⟩ := tick_facts g' hc'.1
    unfold gradZ
    rw [if_pos q1, if_pos q2, e2, d2]
    obtain ⟨_, he, hp⟩ := hc.nums
    have m0 : 0 ≤ sl * t * 25 := Int.mul_nonneg (Int.mul_nonneg (by omega) (by omega)) (by omega)
    exact towardZ_far (clampZ_le (ediv_thick m0 (by omega) (by omega))) (clampZ_bd (by decide)).2
  · exact absurd ⟨hc.1, hc.2.1, by have := hc.2.2; omega⟩ hc'
  · exact absurd ⟨hc'.1, hc'.2.1, by have := hc'.2.2; omega⟩ hc
  · rw [e1, e2, e3, d1, d2, d3]
    exact ⟨rfl, Int.le_refl _⟩
theorem mean_btw {c1 c2 c3 : Int} (h : chkZ c1 c2 c3 = 0) : Btw (meanZ c1 c2 c3) c1 c2 := by
  unfold meanZ Btw
  rw [if_pos h]
  omega
theorem checks_facts {c1 c2 c3 k : Int} (h : chkZ c1 c2 c3 = 0) (hk : 1 ≤ k) : 0 ≤ checksZ c1 c2 c3 k ∧ 0 ≤ checksZ c1 c2 c3 k * k ∧ checksZ c1 c2 c3 k * k ≤ c3 ∧ c3 - checksZ c1 c2 c3 k * k < k := by
  have hz := chkZ_zero.1 h
  unfold checksZ
  rw [if_pos ⟨h, hk⟩]
  have h0 : 0 ≤ c3 / k := Int.ediv_nonneg (by omega) (by omega)
  have h1 : c3 / k * k ≤ c3 := Int.ediv_mul_le c3 (by omega)
  have h2 : c3 < (c3 / k + 1) * k := Int.lt_ediv_add_one_mul_self c3 (by omega)
  rw [Int.add_mul] at h2
  have h3 : 0 ≤ c3 / k * k := Int.mul_nonneg h0 (by omega)
  omega
theorem sums_fact {a b s f sl sf th t d c1 c2 c3 : Int} {fan : Bool} (h : tickZ a b s f sl sf th t d fan = (c1, c2, c3)) (hk : chkZ a b s = 0) (hn : ¬ (c1 = a ∧ c2 = b ∧ c3 = s)) :
    c3 = (if s + (if 0 ≤ gradZ c1 c2 c3 - sf then gradZ c1 c2 c3 - sf else 0) ≤ 1099511627776 then s + (if 0 ≤ gradZ c1 c2 c3 - sf then gradZ c1 c2 c3 - sf else 0) else 1099511627776) := by
  obtain ⟨q, _⟩ := tick_facts h hk
  rcases tick_eqs h with ⟨_, _, _, h3⟩ | ⟨_, h1, h2, h3⟩
  · have hg : gradZ c1 c2 c3 = c2 - c1 := by
      unfold gradZ
      rw [if_pos q]
    rw [hg]
    exact h3
  · exact absurd ⟨h1, h2, h3⟩ hn
end Go.Proofs.YtfjlbpjjcehcnaaDoor
