/-
  What a kiln keeps to from tick to tick; what the guards say.
-/
import Derived.Test.YtkedpokbbogkmaaDoorKlaw
import Derived.Test.YtkedpokbbogkmaaDoorKawake
import Derived.Test.YtkedpokbbogkmaaDoorKlimP
import Derived.Deep.DeepCutAuto
namespace Go.Proofs.YtkedpokbbogkmaaDoor
open Go.RowKit Go.Proofs.YtkedpokbbogkmaaDoorW.PrintLast
set_option linter.unusedSimpArgs false
set_option linter.unusedVariables false
attribute [local go_sem] max2_intk min2_intk max_pairk min_pairk

/-- What a schedule and a species that were taken say. -/
theorem sched_stages {pn : ByteArray} {ramp : Int} {st : List Q4} (h : schedZ pn ramp st = 0) : ∀ x ∈ st, 200 ≤ x.2.2.1 ∧ 0 ≤ x.2.2.2 := by
  unfold schedZ at h
  repeat' split at h
  all_goals first | (exfalso; revert h; decide) | skip
  rename_i ha
  intro x hx
  have h1 := List.all_eq_true.1 ha x hx
  unfold stageB stL at h1
  simp at h1
  omega
theorem wood_good {n : ByteArray} {a0 a1 a2 a3 a4 a5 a6 a7 a8 a9 a10 a11 : Int} (h : woodZ n a0 a1 a2 a3 a4 a5 a6 a7 a8 a9 a10 a11 = 0) : 1 ≤ a4 ∧ a4 ≤ 20000 ∧ 200 ≤ a6 ∧ a6 ≤ 1200 ∧ 100 ≤ a7 ∧ a7 ≤ 400 := by
  unfold woodZ at h
  repeat' split at h
  all_goals first | (exfalso; revert h; decide) | skip
  rename_i ha
  have h4 := List.all_eq_true.1 ha _ (List.mem_of_getElem? (i := 4) rfl)
  have h6 := List.all_eq_true.1 ha _ (List.mem_of_getElem? (i := 6) rfl)
  have h7 := List.all_eq_true.1 ha _ (List.mem_of_getElem? (i := 7) rfl)
  unfold rngB at h4 h6 h7
  simp at h4 h6 h7
  omega
theorem new_good {pn n : ByteArray} {ramp a0 a1 a2 a3 a4 a5 a6 a7 a8 a9 a10 a11 : Int} {st l : List Q4} (h : newZ pn ramp st n a0 a1 a2 a3 a4 a5 a6 a7 a8 a9 a10 a11 l = 0) :
    schedZ pn ramp st = 0 ∧ woodZ n a0 a1 a2 a3 a4 a5 a6 a7 a8 a9 a10 a11 = 0 ∧ 1 ≤ l.length ∧ l.length ≤ 1024 ∧ itemsZ l = 0 := by
  unfold newZ at h
  repeat' split at h
  all_goals first | (exfalso; omega) | skip
  rename_i h1 h2 h3 h4
  refine ⟨by omega, by omega, by omega, by omega, h⟩
theorem itemsZ_valid {l : List Q4} (h : itemsZ l = 0) : Valid l := fun x hx => (itemsZ_ok l h x hx).2.2
theorem RepQ.form {w : World} {v : Value} {l : List Q4} (h : RepQ w v l) : ∃ A c, v = .slice A l.length c := by
  rcases h with ⟨A, c, rfl, rfl⟩ | ⟨b, o, c, rfl, _⟩
  · exact ⟨A, c, rfl⟩
  · exact ⟨_, c, rfl⟩
/-- A kiln's state after at most k ticks. -/
structure LInv (P : KP) (l0 : List Q4) (k : Nat) (s : KS) : Prop where
  lim : InLim P s
  wi : Within P.mg l0 s.l
  stg : s.stage ≤ P.st.length
  i0 : 0 ≤ s.ins ∧ s.ins ≤ k
  t0 : 0 ≤ s.ticks ∧ s.ticks ≤ k
  h0 : 0 ≤ s.held ∧ s.held ≤ k
theorem LInv.step {P : KP} {l0 : List Q4} {k : Nat} {s : KS} {F : List Int} (h : LInv P l0 k s) (hs : s.stage < P.st.length) (hst : ∀ x ∈ P.st, 200 ≤ x.2.2.1 ∧ 0 ≤ x.2.2.2) (hmg : 0 ≤ P.mg) (m0 : 200 ≤ P.mt) (m1 : P.mt ≤ 1200) (m2 : 100 ≤ P.md) (m3 : P.md ≤ 400) : LInv P l0 (k + 1) (s.tick P F) where
  lim := KS.inlim h.lim hs (fun x hx => ⟨by have := hst x hx; omega, (hst x hx).2⟩) m0 m1 m2 m3
  wi := KS.within h.wi hmg
  stg := by
    show (if s.ends P F = true then s.stage + 1 else s.stage) ≤ _
    split <;> omega
  i0 := by
    show 0 ≤ (if s.ends P F = true then 0 else s.ins + 1) ∧ (if s.ends P F = true then 0 else s.ins + 1) ≤ _
    have := h.i0
    split <;> omega
  t0 := by
    show 0 ≤ s.ticks + 1 ∧ s.ticks + 1 ≤ _
    have := h.t0
    omega
  h0 := by
    show 0 ≤ (if s.harm P F = true then s.held + 1 else s.held) ∧ (if s.harm P F = true then s.held + 1 else s.held) ≤ _
    have := h.h0
    split <;> omega
theorem LInv.more {P : KP} {l0 : List Q4} {k : Nat} {s : KS} (h : LInv P l0 k s) : LInv P l0 (k + 1) s :=
  ⟨h.lim, h.wi, h.stg, by have := h.i0; omega, by have := h.t0; omega, by have := h.h0; omega⟩
/-- One tick, be the kiln done or not. -/
theorem limTick {pn n : ByteArray} {ramp a0 a1 a2 a3 a4 a5 a6 a7 a8 a9 a10 a11 : Int} {st l : List Q4} {gk gs gi cs ci : Nat} {pad pads : List Value} {s : KS} {k : Nat} {v : Value} {F : List Int} {R : List (Nat × TypeId × Array Value)} {W0 w : World}
    (hG : Hid (Glob W0)) (h2 : Hid (Glob2 W0)) (hr : Hid (RepI W0 v F)) (hF : F.length ≤ 1000000) (h1 : 1 ≤ l.length) (hl : l.length ≤ 100000) (hst : st.length ≤ 100000) (hk : k ≤ 100000)
    (hss : ∀ x ∈ st, 200 ≤ x.2.2.1 ∧ 0 ≤ x.2.2.2) (hw : 1 ≤ a4 ∧ a4 ≤ 20000 ∧ 200 ≤ a6 ∧ a6 ≤ 1200 ∧ 100 ≤ a7 ∧ a7 ≤ 400) (hI : LInv ⟨ramp, st, a1, a2, a3, a4, a6, a7⟩ l k s)
    (hO : Own W0 ((gk, 74, #[.string pn, .int .i64 ramp, .slice (some ⟨gs, 0, none⟩) st.length cs, .string n, .int .i64 a0, .int .i64 a1, .int .i64 a2, .int .i64 a3, .int .i64 a4, .int .i64 a5, .int .i64 a6, .int .i64 a7, .int .i64 a8, .int .i64 a9, .int .i64 a10, .int .i64 a11, .slice (some ⟨gi, 0, none⟩) l.length ci, .int .i64 s.t, .int .i64 s.d, .int .i64 s.stage, .int .i64 s.ins, .int .i64 s.ticks, .int .i64 s.held]) :: (gi, 53, (flat q4 s.l ++ pad).toArray) :: (gs, 65, (flat q4 st ++ pads).toArray) :: R) w) :
    Calls Tryd.prog 14 #[.pointer (some ⟨gk, 0, none⟩), v] w fun e w' => ∃ (b : Bool) (s : KS) (gi ci : Nat) (pad : List Value), e = .returned (.bool b) ∧ LInv ⟨ramp, st, a1, a2, a3, a4, a6, a7⟩ l (k + 1) s ∧
      Own W0 ((gk, 74, #[.string pn, .int .i64 ramp, .slice (some ⟨gs, 0, none⟩) st.length cs, .string n, .int .i64 a0, .int .i64 a1, .int .i64 a2, .int .i64 a3, .int .i64 a4, .int .i64 a5, .int .i64 a6, .int .i64 a7, .int .i64 a8, .int .i64 a9, .int .i64 a10, .int .i64 a11, .slice (some ⟨gi, 0, none⟩) l.length ci, .int .i64 s.t, .int .i64 s.d, .int .i64 s.stage, .int .i64 s.ins, .int .i64 s.ticks, .int .i64 s.held]) :: (gi, 53, (flat q4 s.l ++ pad).toArray) :: (gs, 65, (flat q4 st ++ pads).toArray) :: R) w' := by
  have hlen : s.l.length = l.length := hI.wi.len
  rcases Nat.lt_or_ge s.stage st.length with hlt | hge
  · have hi := hI.i0
    have ht := hI.t0
    have hh := hI.h0
    refine (tickK_any gk gs gi cs ci st.length l.length s.stage pn n ramp a0 a1 a2 a3 a4 a5 a6 a7 a8 a9 a10 a11 s.t s.d s.ins s.ticks s.held s.l st pad pads v F R W0 w hG h2 (Lib.hid fun w h => hr.out.below h.bel) hF (by omega) (by omega) hlen.symm hst rfl hlt (Lib.hid hI.wi.valid) (by omega) (by omega) (by omega) ⟨ramp, st, a1, a2, a3, a4, a6, a7⟩ rfl s rfl hO).mono ?_
    rintro e w' ⟨gi', ci', pad', rfl, hO'⟩
    exact ⟨_, s.tick ⟨ramp, st, a1, a2, a3, a4, a6, a7⟩ F, gi', ci', pad', rfl, hI.step hlt hss (by show (0 : Int) ≤ a4; omega) hw.2.2.1 hw.2.2.2.1 hw.2.2.2.2.1 hw.2.2.2.2.2, hO'⟩
  · have he : s.stage = st.length := by have := hI.stg; simp only at this; omega
    refine (rest_any gk gs gi cs ci st.length l.length pn n ramp a0 a1 a2 a3 a4 a5 a6 a7 a8 a9 a10 a11 s.t s.d s.stage s.ins s.ticks s.held v w (Lib.hid (hO.at 0 rfl)) (by rw [he]; exact beq_self_eq_true _)).mono ?_
    rintro e w' ⟨rfl, hb⟩
    exact ⟨false, s, gi, ci, pad, rfl, hI.more, hO.call hb⟩
theorem light_len {ns ni : Nat} {pn n : ByteArray} (h : lightB ns ni pn n = true) : ns ≤ 20 ∧ ni ≤ 1100 := by
  unfold lightB at h
  simp only [Bool.and_eq_true, Bool.or_eq_true, decide_eq_true_eq] at h
  omega
theorem few_len {F : List (List Int)} (h : fewB F = true) : F.length ≤ 60 ∧ ∀ f ∈ F, f.length ≤ 10 := by
  unfold fewB at h
  simp only [Bool.and_eq_true, decide_eq_true_eq, List.all_eq_true] at h
  exact ⟨h.2, h.1⟩
end Go.Proofs.YtkedpokbbogkmaaDoor
