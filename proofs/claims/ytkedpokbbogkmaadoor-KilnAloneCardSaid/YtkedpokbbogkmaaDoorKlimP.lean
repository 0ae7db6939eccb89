/-
  Plain facts of a kiln's ticks: the climate stays within the limits, no gradient rises above the greater one of the limit and what it was.
-/
import Derived.Test.YtkedpokbbogkmaaDoorKtickD
import Derived.Test.YtkedpokbbogkmaaDoorKapp
namespace Go.Proofs.YtkedpokbbogkmaaDoor
set_option linter.unusedVariables false
set_option linter.unusedSimpArgs false
open Go.RowKit Go.Proofs.YtkedpokbbogkmaaDoorW.PrintLast

section
variable {P : Program}
theorem yoRow {ops : Array Oper} {oi : Oper} {a : Act} {w0 : World} {L} {w1 : World} (_h : Own w0 L w1) {g k : Nat} {vs : List Value} (HR : w0.rangeAt g k vs) (hw : Region.wanted oi (yielded ops a.tmps) = true) (ty : TypeId) (x : Operand) (ho : oi.op = .load ty x)
    (hx : a.eval x = .pointer (some ⟨g, k, none⟩)) (d : TypeDesc) (hu : P.underlying ty = some d) (hr : d.isRow = true) (hs : (P.info? ty).map (·.size) = some vs.length) : YieldsIf P ops (fun w' => Own w0 L w') oi (.agg vs.toArray) a :=
  .inl ⟨hw, fun w hS => run_load_row ty x ho g k hx vs (range_below HR (show Own w0 L w from hS).bel) d hu hr hs⟩
theorem yoOne {ops : Array Oper} {oi : Oper} {a : Act} {w0 : World} {L} {w1 : World} (_h : Own w0 L w1) {g k : Nat} {u : Value} (HC : w0.cell? ⟨g, k, none⟩ = some u) (hw : Region.wanted oi (yielded ops a.tmps) = true) (ty : TypeId) (x : Operand) (ho : oi.op = .load ty x)
    (hx : a.eval x = .pointer (some ⟨g, k, none⟩)) (d : TypeDesc) (hu : P.underlying ty = some d) (hr : d.isRow = false) : YieldsIf P ops (fun w' => Own w0 L w') oi u a :=
  .inl ⟨hw, fun w hS => run_load_one ty x ho g k hx u (((show Own w0 L w from hS).bel.cell (World.block_lt_of_cell? w0 _ HC)).trans HC) d hu hr⟩
end
theorem move_bd {x g ramp hi M : Int} (h0 : 0 ≤ x) (h1 : x ≤ M) (h2 : M ≤ hi) (h3 : 0 ≤ g) (h4 : g ≤ M) : 0 ≤ moveZ x g ramp hi ∧ moveZ x g ramp hi ≤ M := by
  have r := clampZ_bd (n := ramp) (lo := 0) (hi := 1200) (by omega)
  have hx : clampZ x 0 hi = x := clampZ_mid h0 (by omega)
  unfold moveZ
  rw [hx]
  generalize clampZ ramp 0 1200 = r at *
  unfold clampZ
  split <;> (try split) <;> omega
theorem next_bd {x tt ramp kind out hi M : Int} (F : List Int) (h0 : 0 ≤ x) (h1 : x ≤ M) (h2 : M ≤ hi) (ho : 0 ≤ out) (ho' : out ≤ M) (ht : 0 ≤ tt) : 0 ≤ moveZ x (goalZ kind out (clampZ (mnZ tt M) 0 hi) F) ramp hi ∧ moveZ x (goalZ kind out (clampZ (mnZ tt M) 0 hi) F) ramp hi ≤ M := by
  have hm : 0 ≤ mnZ tt M ∧ mnZ tt M ≤ M := by unfold mnZ; split <;> omega
  have hc : clampZ (mnZ tt M) 0 hi = mnZ tt M := clampZ_mid hm.1 (by omega)
  rw [hc]
  refine move_bd h0 h1 h2 ?_ ?_
  · unfold goalZ; split <;> omega
  · unfold goalZ; split <;> omega
theorem still_grad {a b s f sl sf th t d c1 c2 c3 : Int} (h : tickZ a b s f sl sf th t d false = (c1, c2, c3)) (hk : chkZ a b s = 0) : gradZ c1 c2 c3 ≤ gradZ a b s ∨ gradZ c1 c2 c3 ≤ 0 := by
  obtain ⟨q, _, hb, hc⟩ := tick_facts h hk
  have h1 : c1 = a := by
    unfold tickZ at h
    split at h
    · have := (Prod.mk.inj h).1
      simpa [surfZ] using this.symm
    · exact (Prod.mk.inj h).1.symm
  subst h1
  unfold gradZ Btw at *
  rw [if_pos q, if_pos hk]
  omega
/-- What a kiln keeps to: the boards as at first, but for their cells; no gradient above the greater one of the limit and what it was. -/
structure Within (mg : Int) (l0 l : List Q4) : Prop where
  len : l.length = l0.length
  each : ∀ (i : Nat) (x0 x : Q4), l0[i]? = some x0 → l[i]? = some x → x.1 = x0.1 ∧ chkZ x.2.1 x.2.2.1 x.2.2.2 = 0 ∧ (gradQ x ≤ mg ∨ gradQ x ≤ gradQ x0)
theorem Within.start {mg : Int} {l : List Q4} (h : Valid l) : Within mg l l := ⟨rfl, fun i x0 x h0 h1 => by
  obtain rfl : x0 = x := Option.some.inj (h0.symm.trans h1)
  exact ⟨rfl, h _ (List.mem_of_getElem? h1), .inr (Int.le_refl _)⟩⟩
theorem Within.valid {mg : Int} {l0 l : List Q4} (h : Within mg l0 l) : Valid l := fun x hx => by
  obtain ⟨i, hi⟩ := List.mem_iff_getElem?.1 hx
  have hl := (List.getElem?_eq_some_iff.1 hi).1
  obtain ⟨x0, h0⟩ : ∃ x0, l0[i]? = some x0 := ⟨_, List.getElem?_eq_getElem (by rw [← h.len]; exact hl)⟩
  exact (h.each i x0 x h0 hi).2.1
theorem Within.step {mg f s m t d : Int} {l0 l : List Q4} {fan : Bool} (h : Within mg l0 l) (hmg : 0 ≤ mg) (hf : fan = false ∨ harmB mg l (l.map (dryZ f s m t d fan)) = false) : Within mg l0 (l.map (dryZ f s m t d fan)) where
  len := by rw [List.length_map]; exact h.len
  each i x0 x h0 h1 := by
    rw [List.getElem?_map] at h1
    obtain ⟨y, hy, rfl⟩ := Option.map_eq_some_iff.1 h1
    obtain ⟨e1, e2, e3⟩ := h.each i x0 y h0 hy
    obtain ⟨c1, c2, c3, hT⟩ : ∃ c1 c2 c3, tickZ y.2.1 y.2.2.1 y.2.2.2 f s m y.1 t d fan = (c1, c2, c3) := ⟨_, _, _, rfl⟩
    have hd : dryZ f s m t d fan y = (y.1, c1, c2, c3) := by unfold dryZ; rw [hT]
    have hstep : gradQ (dryZ f s m t d fan y) ≤ mg ∨ gradQ (dryZ f s m t d fan y) ≤ gradQ y := by
      rcases hf with rfl | hf
      · have := still_grad hT e2
        rw [hd]
        show gradZ c1 c2 c3 ≤ mg ∨ gradZ c1 c2 c3 ≤ gradZ y.2.1 y.2.2.1 y.2.2.2
        omega
      · have hz : (l.zip (l.map (dryZ f s m t d fan)))[i]? = some (y, dryZ f s m t d fan y) := List.getElem?_zip_eq_some.2 ⟨hy, by rw [List.getElem?_map, hy]; rfl⟩
        have hs : steepB mg y (dryZ f s m t d fan y) = false := by
          unfold harmB at hf
          have := List.any_eq_false.1 hf _ (List.mem_of_getElem? hz)
          simpa using this
        unfold steepB at hs
        rw [Bool.and_eq_false_iff, decide_eq_false_iff_not, decide_eq_false_iff_not] at hs
        omega
    refine ⟨by rw [hd]; exact e1, ?_, ?_⟩
    · rw [hd]
      exact (tick_facts hT e2).1
    · omega
theorem KS.within {P : KP} {s : KS} {F : List Int} {l0 : List Q4} (h : Within P.mg l0 s.l) (hmg : 0 ≤ P.mg) : Within P.mg l0 (s.tick P F).l := by
  show Within P.mg l0 (s.l2 P F)
  unfold KS.l2
  cases hh : s.harm P F with
  | true => exact h.step hmg (.inl rfl)
  | false =>
    simp only [Bool.false_eq_true, if_false]
    unfold KS.harm at hh
    cases hf : KS.fan F with
    | false => exact h.step hmg (.inl rfl)
    | true =>
      rw [hf, Bool.true_and] at hh
      exact h.step hmg (.inr hh)
structure InLim (P : KP) (s : KS) : Prop where
  t0 : 0 ≤ s.t
  t1 : s.t ≤ P.mt
  d0 : 0 ≤ s.d
  d1 : s.d ≤ P.md
theorem KS.inlim {P : KP} {s : KS} {F : List Int} (h : InLim P s) (hs : s.stage < P.st.length) (hst : ∀ x ∈ P.st, 0 ≤ x.2.2.1 ∧ 0 ≤ x.2.2.2) (m0 : 200 ≤ P.mt) (m1 : P.mt ≤ 1200) (m2 : 100 ≤ P.md) (m3 : P.md ≤ 400) : InLim P (s.tick P F) := by
  have hx : P.st.getD s.stage (0, 0, 0, 0) ∈ P.st := by
    rw [List.getD_eq_getElem?_getD, List.getElem?_eq_getElem hs]
    exact List.getElem_mem hs
  have hb := hst _ hx
  have e1 := next_bd (x := s.t) (tt := (P.st.getD s.stage (0, 0, 0, 0)).2.2.1) (ramp := P.ramp) (kind := 1) (out := 200) (hi := 1200) (M := P.mt) F h.t0 h.t1 m1 (by decide) m0 hb.1
  have e2 := next_bd (x := s.d) (tt := (P.st.getD s.stage (0, 0, 0, 0)).2.2.2) (ramp := P.ramp) (kind := 3) (out := 100) (hi := 400) (M := P.md) F h.d0 h.d1 m3 (by decide) m2 hb.2
  exact ⟨e1.1, e1.2, e2.1, e2.2⟩
end Go.Proofs.YtkedpokbbogkmaaDoor
