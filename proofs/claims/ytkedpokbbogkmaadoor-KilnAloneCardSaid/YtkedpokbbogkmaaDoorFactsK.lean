/-
  Plain facts on what a tick of a cell computes, for the kiln.
-/
import Derived.Test.YtkedpokbbogkmaaDoorTickAny
namespace Go.Proofs.YtkedpokbbogkmaaDoor
open Go.RowKit

def Btw (n a b : Int) : Prop := (a ≤ n ∧ n ≤ b) ∨ (b ≤ n ∧ n ≤ a)
theorem chkZ_cases (a b s : Int) : chkZ a b s = 25 ∨ chkZ a b s = 9 ∨ chkZ a b s = 0 := by
  unfold chkZ
  split
  · exact .inl rfl
  · split
    · exact .inr (.inl rfl)
    · exact .inr (.inr rfl)
theorem chkZ_zero {a b s : Int} : chkZ a b s = 0 ↔ (0 ≤ a ∧ a ≤ 20000 ∧ 0 ≤ b ∧ b ≤ 20000 ∧ 0 ≤ s ∧ s ≤ 1099511627776) := by
  unfold chkZ
  constructor
  · intro h
    split at h
    · omega
    · split at h <;> omega
  · intro h
    rw [if_neg (by omega), if_neg (by omega)]
theorem surf_btw (a fast t d : Int) (fan : Bool) : surfZ a fast t d fan = a ∨ Btw (surfZ a fast t d fan) a (Pl.emcZ t d) := by
  unfold surfZ
  split
  · exact .inr (towardZ_bd _ _ _ (clampZ_bd (by decide)).2)
  · exact .inl rfl
theorem core_btw (b a' slow t thick : Int) : Btw (coreZ b a' slow t thick) b a' := towardZ_bd _ _ _ (clampZ_bd (by decide)).2
theorem str_bd {s a' b' safe : Int} (h0 : 0 ≤ s) (h1 : s ≤ 1099511627776) : s ≤ strZ s a' b' safe ∧ strZ s a' b' safe ≤ 1099511627776 := by
  unfold strZ
  split <;> split <;> omega
theorem tick_not {a b s f sl sf th t d : Int} {fan : Bool} (hk : chkZ a b s ≠ 0) : tickZ a b s f sl sf th t d fan = (a, b, s) := by
  unfold tickZ
  rw [if_neg fun h => hk h.1]
theorem tick_facts {a b s f sl sf th t d c1 c2 c3 : Int} {fan : Bool} (h : tickZ a b s f sl sf th t d fan = (c1, c2, c3)) (hk : chkZ a b s = 0) :
    chkZ c1 c2 c3 = 0 ∧ s ≤ c3 ∧ Btw c2 b c1 ∧ (c1 = a ∨ Btw c1 a (Pl.emcZ t d)) := by
  have hz := chkZ_zero.1 hk
  unfold tickZ at h
  split at h
  · obtain ⟨h1, h2⟩ := Prod.mk.inj h
    obtain ⟨h2, h3⟩ := Prod.mk.inj h2
    have e := Pl.emcZ_bd t d
    have s1 := surf_btw a f t d fan
    rw [h1] at s1 h2 h3
    have s2 := core_btw b c1 sl t th
    rw [h2] at s2 h3
    have s3 := str_bd (a' := c1) (b' := c2) (safe := sf) hz.2.2.2.2.1 hz.2.2.2.2.2
    rw [h3] at s3
    refine ⟨chkZ_zero.2 ?_, s3.1, s2, s1⟩
    unfold Btw at s1 s2
    rcases s1 with rfl | s1 | s1 <;> rcases s2 with s2 | s2 <;> omega
  · obtain ⟨h1, h2⟩ := Prod.mk.inj h
    obtain ⟨h2, h3⟩ := Prod.mk.inj h2
    subst h1; subst h2; subst h3
    refine ⟨hk, Int.le_refl _, ?_, .inl rfl⟩
    unfold Btw
    omega
end Go.Proofs.YtkedpokbbogkmaaDoor
