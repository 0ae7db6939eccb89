/-
  Plain facts for KilnAlone: a board in a kiln whose fans the controller does not stop dries as if it were alone.
-/
import Derived.Test.YtkedpokbbogkmaaDoorLimA
namespace Go.Proofs.YtkedpokbbogkmaaDoor
set_option linter.unusedVariables false
set_option linter.unusedSimpArgs false
open Go.RowKit

theorem goalZ_any {kind out c : Int} {F B : List Int} (h : ∀ q : Int, B.any (· == q) = F.any (· == q)) : goalZ kind out c B = goalZ kind out c F := by
  unfold goalZ
  rw [h]
theorem nextT_any {t tt ramp : Int} {F B : List Int} (h : ∀ q : Int, B.any (· == q) = F.any (· == q)) : nextT t tt ramp B = nextT t tt ramp F := by
  unfold nextT
  rw [goalZ_any h]
theorem nextD_any {t tt ramp : Int} {F B : List Int} (h : ∀ q : Int, B.any (· == q) = F.any (· == q)) : nextD t tt ramp B = nextD t tt ramp F := by
  unfold nextD
  rw [goalZ_any h]
theorem KS.alone {P : KP} {s s1 : KS} {F B : List Int} {a : Nat} {x : Q4} (hB : ∀ q : Int, B.any (· == q) = F.any (· == q)) (hx : s.l[a]? = some x) (h1 : s1.l = [x]) (ht : s.t = s1.t) (hd : s.d = s1.d) (hs : s.stage = s1.stage) (hh : (s.tick P F).held = s.held) :
    (∃ y, (s.tick P F).l[a]? = some y ∧ (s1.tick P B).l = [y]) ∧ (s.tick P F).t = (s1.tick P B).t ∧ (s.tick P F).d = (s1.tick P B).d := by
  have hc : s1.clim P B = s.clim P F := by
    unfold KS.clim
    simp only [ht, hd, hs, nextT_any hB, nextD_any hB]
  have hf : KS.fan B = KS.fan F := by
    unfold KS.fan
    rw [hB]
  have hharm : s.harm P F = false := by
    cases hq : s.harm P F with
    | false => rfl
    | true =>
      have : (if s.harm P F = true then s.held + 1 else s.held) = s.held := hh
      rw [if_pos hq] at this
      omega
  have hd1 : ∀ fan, s1.dried P B fan = [dryZ P.fast P.slow P.safe (s.clim P F).1 (s.clim P F).2 fan x] := fun fan => by
    unfold KS.dried
    rw [h1, hc]
    rfl
  have hdl : ∀ fan, (s.dried P F fan)[a]? = some (dryZ P.fast P.slow P.safe (s.clim P F).1 (s.clim P F).2 fan x) := fun fan => by
    unfold KS.dried
    rw [List.getElem?_map, hx]
    rfl
  have hharm1 : s1.harm P B = false := by
    have h0 := hharm
    unfold KS.harm at h0 ⊢
    rw [hf]
    cases hq : KS.fan F with
    | false => rfl
    | true =>
      rw [hq, Bool.true_and] at h0
      rw [Bool.true_and, hd1, h1]
      refine harmB_false fun j u v hu hv => ?_
      cases hz : steepB P.mg u v with
      | false => rfl
      | true =>
        cases j with
        | zero =>
          cases hu
          cases hv
          rw [harmB_true hx (hdl true) hz] at h0
          cases h0
        | succ j => cases hu
  refine ⟨⟨dryZ P.fast P.slow P.safe (s.clim P F).1 (s.clim P F).2 (KS.fan F) x, ?_, ?_⟩, ?_, ?_⟩
  · show (s.l2 P F)[a]? = _
    unfold KS.l2
    rw [hharm]
    exact hdl _
  · show s1.l2 P B = _
    unfold KS.l2
    rw [hharm1, hf]
    exact hd1 _
  · show (s.clim P F).1 = (s1.clim P B).1
    rw [hc]
  · show (s.clim P F).2 = (s1.clim P B).2
    rw [hc]
/-- A tick, be the kiln done or not. -/
def KS.go (P : KP) (s : KS) (F : List Int) : KS := if s.stage < P.st.length then s.tick P F else s
theorem KS.alone_go {P : KP} {s s1 : KS} {F B : List Int} {a : Nat} {x : Q4} (hB : ∀ q : Int, B.any (· == q) = F.any (· == q)) (hx : s.l[a]? = some x) (h1 : s1.l = [x]) (ht : s.t = s1.t) (hd : s.d = s1.d) (hs : s.stage = s1.stage) (hh : (s.go P F).held = s.held) :
    (∃ y, (s.go P F).l[a]? = some y ∧ (s1.go P B).l = [y]) ∧ (s.go P F).t = (s1.go P B).t ∧ (s.go P F).d = (s1.go P B).d := by
  unfold KS.go at hh ⊢
  rw [← hs]
  split
  · rename_i hlt
    rw [if_pos hlt] at hh
    exact KS.alone hB hx h1 ht hd hs hh
  · exact ⟨⟨x, hx, h1⟩, ht, hd⟩
/-- The faults backwards and each twice. -/
def backK (f : List Int) (k : Nat) : List Int := ((f.drop k).reverse).flatMap fun x => [x, x]
theorem backK_end (f : List Int) : backK f f.length = [] := by
  unfold backK
  rw [List.drop_length]
  rfl
theorem backK_step {f : List Int} {k : Nat} {x : Int} (h : f[k]? = some x) : backK f k = backK f (k + 1) ++ [x, x] := by
  obtain ⟨hk, rfl⟩ := List.getElem?_eq_some_iff.1 h
  unfold backK
  rw [List.drop_eq_getElem_cons hk, List.reverse_cons, List.flatMap_append]
  rfl
theorem dbl_len (l : List Int) : (l.flatMap fun x => [x, x]).length = 2 * l.length := by
  induction l with
  | nil => rfl
  | cons x l ih =>
    rw [List.flatMap_cons, List.length_append, ih, List.length_cons]
    simp
    omega
theorem backK_len (f : List Int) (k : Nat) : (backK f k).length = 2 * (f.length - k) := by
  unfold backK
  rw [dbl_len, List.length_reverse, List.length_drop]
theorem backK_any (f : List Int) (q : Int) : (backK f 0).any (· == q) = f.any (· == q) := by
  unfold backK
  rw [List.drop_zero]
  apply Bool.eq_iff_iff.2
  simp only [List.any_eq_true, List.mem_flatMap, List.mem_reverse]
  constructor
  · rintro ⟨x, ⟨y, hy, hx⟩, he⟩
    have : x = y := by simpa using hx
    exact ⟨y, hy, this ▸ he⟩
  · rintro ⟨x, hx, he⟩
    exact ⟨x, ⟨x, hx, by simp⟩, he⟩
/-- One tick, be the kiln done or not, exactly. -/
theorem goTick {pn n : ByteArray} {ramp a0 a1 a2 a3 a4 a5 a6 a7 a8 a9 a10 a11 : Int} {st l : List Q4} {gk gs gi cs ci ni : Nat} {pad pads : List Value} {s : KS} {k : Nat} {v : Value} {F : List Int} {R : List (Nat × TypeId × Array Value)} {W0 w : World}
    (hG : Hid (Glob W0)) (h2 : Hid (Glob2 W0)) (hr : Hid (∀ w, Own W0 R w → RepI w v F)) (hF : F.length ≤ 1000000) (h1 : 1 ≤ l.length) (hl : l.length ≤ 100000) (hni : ni = l.length) (hst : st.length ≤ 100000) (hk : k ≤ 100000)
    (hss : ∀ x ∈ st, 200 ≤ x.2.2.1 ∧ 0 ≤ x.2.2.2) (hw : 1 ≤ a4 ∧ a4 ≤ 20000 ∧ 200 ≤ a6 ∧ a6 ≤ 1200 ∧ 100 ≤ a7 ∧ a7 ≤ 400) (hI : LInv ⟨ramp, st, a1, a2, a3, a4, a6, a7⟩ l k s)
    (hO : Own W0 ((gk, 74, #[.string pn, .int .i64 ramp, .slice (some ⟨gs, 0, none⟩) st.length cs, .string n, .int .i64 a0, .int .i64 a1, .int .i64 a2, .int .i64 a3, .int .i64 a4, .int .i64 a5, .int .i64 a6, .int .i64 a7, .int .i64 a8, .int .i64 a9, .int .i64 a10, .int .i64 a11, .slice (some ⟨gi, 0, none⟩) ni ci, .int .i64 s.t, .int .i64 s.d, .int .i64 s.stage, .int .i64 s.ins, .int .i64 s.ticks, .int .i64 s.held]) :: (gi, 53, (flat q4 s.l ++ pad).toArray) :: (gs, 65, (flat q4 st ++ pads).toArray) :: R) w) :
    Calls Tryd.prog 14 #[.pointer (some ⟨gk, 0, none⟩), v] w fun e w' => ∃ (b : Bool) (s' : KS) (gi ci : Nat) (pad : List Value), e = .returned (.bool b) ∧ s' = s.go ⟨ramp, st, a1, a2, a3, a4, a6, a7⟩ F ∧ LInv ⟨ramp, st, a1, a2, a3, a4, a6, a7⟩ l (k + 1) s' ∧
      Own W0 ((gk, 74, #[.string pn, .int .i64 ramp, .slice (some ⟨gs, 0, none⟩) st.length cs, .string n, .int .i64 a0, .int .i64 a1, .int .i64 a2, .int .i64 a3, .int .i64 a4, .int .i64 a5, .int .i64 a6, .int .i64 a7, .int .i64 a8, .int .i64 a9, .int .i64 a10, .int .i64 a11, .slice (some ⟨gi, 0, none⟩) ni ci, .int .i64 s'.t, .int .i64 s'.d, .int .i64 s'.stage, .int .i64 s'.ins, .int .i64 s'.ticks, .int .i64 s'.held]) :: (gi, 53, (flat q4 s'.l ++ pad).toArray) :: (gs, 65, (flat q4 st ++ pads).toArray) :: R) w' := by
  subst hni
  have hlen : s.l.length = l.length := hI.wi.len
  rcases Nat.lt_or_ge s.stage st.length with hlt | hge
  · have hi := hI.i0
    have ht := hI.t0
    have hh := hI.h0
    refine (tickK_any gk gs gi cs ci st.length l.length s.stage pn n ramp a0 a1 a2 a3 a4 a5 a6 a7 a8 a9 a10 a11 s.t s.d s.ins s.ticks s.held s.l st pad pads v F R W0 w hG h2 hr hF (by omega) (by omega) hlen.symm hst rfl hlt (Lib.hid hI.wi.valid) (by omega) (by omega) (by omega) ⟨ramp, st, a1, a2, a3, a4, a6, a7⟩ rfl s rfl hO).mono ?_
    rintro e w' ⟨gi', ci', pad', rfl, hO'⟩
    exact ⟨_, s.tick ⟨ramp, st, a1, a2, a3, a4, a6, a7⟩ F, gi', ci', pad', rfl, (if_pos (c := s.stage < st.length) hlt).symm, hI.step hlt hss (by show (0 : Int) ≤ a4; omega) hw.2.2.1 hw.2.2.2.1 hw.2.2.2.2.1 hw.2.2.2.2.2, hO'⟩
  · have he : s.stage = st.length := by have := hI.stg; simp only at this; omega
    refine (rest_any gk gs gi cs ci st.length l.length pn n ramp a0 a1 a2 a3 a4 a5 a6 a7 a8 a9 a10 a11 s.t s.d s.stage s.ins s.ticks s.held v w (Lib.hid (hO.at 0 rfl)) (by rw [he]; exact beq_self_eq_true _)).mono ?_
    rintro e w' ⟨rfl, hb⟩
    exact ⟨false, s, gi, ci, pad, rfl, (if_neg (c := s.stage < st.length) (by omega)).symm, hI.more, hO.call hb⟩
end Go.Proofs.YtkedpokbbogkmaaDoor
