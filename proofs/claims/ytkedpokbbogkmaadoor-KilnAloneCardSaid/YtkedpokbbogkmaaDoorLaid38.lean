/-
  What the condition on the listed package-level variables gives: the tables of air, kiln and schedule lie where the program reads them.
-/
import Derived.Test.YtkedpokbbogkmaaDoorKfault
import Derived.Test.YtkedpokbbogkmaaDoorRows
import Derived.ProofKit
import Derived.LaidMore
import Derived.OpenShut
namespace Go.Proofs.YtkedpokbbogkmaaDoor
open Go.ChangeShapes Go.WideShapes Go.ChangeAt Go.WideElems Go.RowKit
section
variable {H : Type} {enc : TypeId × Value → H} {P : Program} {w : World} {base : Nat} {spare : Nat → Bool} {held : Bool}
theorem trod_ints {n fuel : Nat} {t e : TypeId} {cs : List Value} {x : DataW H × List MemPlace} {ks : List Int} (ht : P.underlying t = some (.array n e)) (he : P.underlying e = some (.int .i64)) (hc : P.cellsOf e = 1) (hct : P.cellsOf t = n)
    (h : DataW.trod enc P w base spare held fuel t cs = some x) (hx : x.1 = .agg (ks.map fun k => .lit (.int .i64 k))) (hn : ks.length = n) : cs = ks.map (Value.int .i64 ·) := by
  obtain ⟨xs, m, rfl, hx1, hlen, hn3, hel⟩ := DataW.trod_array ht h
  rw [hx1] at hx
  simp only [DataW.agg.injEq] at hx
  apply List.ext_getElem?
  intro i
  by_cases hi : i < n
  · have h0 := hel i hi
    rw [hc, Nat.mul_one] at h0
    have hxi : ∃ y, xs[i]? = some y := ⟨xs[i], List.getElem?_eq_getElem (by omega)⟩
    obtain ⟨y, hy⟩ := hxi
    rw [hy] at h0
    obtain ⟨k, e1, e2, _⟩ := DataW.trod_int he h0
    have hk : (xs.map (·.1))[i]? = (ks.map fun k => (DataW.lit (.int .i64 k) : DataW H))[i]? := by rw [hx]
    rw [List.getElem?_map, hy, List.getElem?_map, List.getElem?_eq_getElem (show i < ks.length by omega)] at hk
    simp [e2] at hk
    have hci : cs[i]? = some (.int .i64 k) := by
      have := congrArg (fun l => l[0]?) e1
      simpa using this
    rw [hci, List.getElem?_map, List.getElem?_eq_getElem (show i < ks.length by omega)]
    simp [hk]
  · rw [List.getElem?_eq_none (by omega), List.getElem?_eq_none (by simp; omega)]
theorem trod_bools {n fuel : Nat} {t e : TypeId} {cs : List Value} {x : DataW H × List MemPlace} {ks : List Bool} (ht : P.underlying t = some (.array n e)) (he : P.underlying e = some .bool) (hc : P.cellsOf e = 1) (hct : P.cellsOf t = n)
    (h : DataW.trod enc P w base spare held fuel t cs = some x) (hx : x.1 = .agg (ks.map fun k => .lit (.bool k))) (hn : ks.length = n) : cs = ks.map (Value.bool ·) := by
  obtain ⟨xs, m, rfl, hx1, hlen, hn3, hel⟩ := DataW.trod_array ht h
  rw [hx1] at hx
  simp only [DataW.agg.injEq] at hx
  apply List.ext_getElem?
  intro i
  by_cases hi : i < n
  · have h0 := hel i hi
    rw [hc, Nat.mul_one] at h0
    have hxi : ∃ y, xs[i]? = some y := ⟨xs[i], List.getElem?_eq_getElem (by omega)⟩
    obtain ⟨y, hy⟩ := hxi
    rw [hy] at h0
    obtain ⟨k, e1, e2⟩ := DataW.trod_bool he h0
    have hk : (xs.map (·.1))[i]? = (ks.map fun k => (DataW.lit (.bool k) : DataW H))[i]? := by rw [hx]
    rw [List.getElem?_map, hy, List.getElem?_map, List.getElem?_eq_getElem (show i < ks.length by omega)] at hk
    simp [e2] at hk
    have hci : cs[i]? = some (.bool k) := by
      have := congrArg (fun l => l[0]?) e1
      simpa using this
    rw [hci, List.getElem?_map, List.getElem?_eq_getElem (show i < ks.length by omega)]
    simp [hk]
  · rw [List.getElem?_eq_none (by rw [hlen, hct]; omega), List.getElem?_eq_none (by simp; omega)]
theorem chunks (m : Nat) : ∀ (n : Nat) (cs : List Value), cs.length = n * m → cs = (List.range n).flatMap fun i => (cs.drop (i * m)).take m := by
  intro n
  induction n with
  | zero => intro cs h; simp at h; simp [h]
  | succ n ih =>
    intro cs h
    rw [List.range_succ_eq_map, List.flatMap_cons, List.flatMap_map]
    have h1 : (cs.drop m).length = n * m := by rw [List.length_drop, h, Nat.succ_mul]; omega
    have := ih (cs.drop m) h1
    simp only [List.drop_drop] at this
    have e : ∀ i, m + i * m = (i + 1) * m := fun i => by rw [Nat.succ_mul]; omega
    simp only [e] at this
    rw [Nat.zero_mul, List.drop_zero]
    conv => lhs; rw [← List.take_append_drop m cs]
    congr 1
end
theorem heap_of_var {P : Program} {w : World} {n : String} {g : Nat} {cs : Array Value} (hg : P.globalNamed n = some g) (h : w.var? P n = some cs) : ∃ t fr, w.heap[g]? = some (.cells cs t fr) := by
  simp only [World.var?, hg, Option.bind_some] at h
  split at h
  · rename_i c t fr heq
    obtain rfl := Option.some.inj h
    exact ⟨t, fr, heq⟩
  · cases h
theorem gTemps : Tryd.prog.globalNamed "sawmill/air.temps" = some 4 := by kernel_rfl
theorem gDeps : Tryd.prog.globalNamed "sawmill/air.depresses" = some 5 := by kernel_rfl
theorem gConts : Tryd.prog.globalNamed "sawmill/air.contents" = some 6 := by kernel_rfl
theorem tTemps : (Tryd.prog.globals[4]?).map (·.type) = some 130 := by kernel_rfl
theorem tDeps : (Tryd.prog.globals[5]?).map (·.type) = some 131 := by kernel_rfl
theorem tConts : (Tryd.prog.globals[6]?).map (·.type) = some 132 := by kernel_rfl
theorem gLimits : Tryd.prog.globalNamed "sawmill/schedule.limits" = some 1 := by kernel_rfl
theorem gStill : Tryd.prog.globalNamed "sawmill/kiln.still" = some 0 := by kernel_rfl
theorem tLimits : (Tryd.prog.globals[1]?).map (·.type) = some 94 := by kernel_rfl
theorem tStill : (Tryd.prog.globals[0]?).map (·.type) = some 77 := by kernel_rfl
def laid5 {H : Type} : List (String × DataW H) := [("sawmill/schedule.limits", Rows.laid_sawmill_schedule_limits), ("sawmill/air.temps", Rows.laid_sawmill_air_temps), ("sawmill/air.depresses", Rows.laid_sawmill_air_depresses), ("sawmill/air.contents", Rows.laid_sawmill_air_contents), ("sawmill/kiln.still", Rows.laid_sawmill_kiln_still)]
set_option maxRecDepth 100000 in
theorem globs_of_laid {W : World} (h : laidMetH Tryd.prog laid5 W) : Glob W ∧ Glob2 W := by
  rw [MakeChecks.laidMetH_plain _ _ _ (by kernel_rfl)] at h
  obtain ⟨ps, ⟨g3, t3, cs3, f3, p3, q3, hg3, ht3, hv3, hd3, ⟨g0, t0, cs0, f0, p0, q0, hg0, ht0, hv0, hd0, ⟨g1, t1, cs1, f1, p1, q1, hg1, ht1, hv1, hd1, ⟨g2, t2, cs2, f2, p2, q2, hg2, ht2, hv2, hd2, ⟨g4, t4, cs4, f4, p4, q4_, hg4, ht4, hv4, hd4, _⟩, _⟩, _⟩, _⟩, _⟩, _, _⟩ := h
  obtain rfl := Option.some.inj (gLimits.symm.trans hg3)
  obtain rfl := Option.some.inj (gStill.symm.trans hg4)
  obtain rfl := Option.some.inj (tLimits.symm.trans ht3)
  obtain rfl := Option.some.inj (tStill.symm.trans ht4)
  have h4 : cs4.toList = [false, false, true, false].map (Value.bool ·) := trod_bools Tryd.underlying77 Tryd.underlying4 (by kernel_rfl) (by kernel_rfl) hd4 rfl rfl
  have c2 : Tryd.prog.cellsOf 93 = 2 := by kernel_rfl
  obtain ⟨ys, m3, rfl, hy3, hlen3, hn3, hel3⟩ := DataW.trod_array Tryd.underlying94 hd3
  simp only [Rows.laid_sawmill_schedule_limits, Prod.mk.injEq, DataW.agg.injEq] at hy3
  have rr : ∀ (i : Nat) (ks : List Int), i < 4 → ks.length = 2 → ([.agg [.lit (.int .i64 0), .lit (.int .i64 20000)], .agg [.lit (.int .i64 0), .lit (.int .i64 10000)], .agg [.lit (.int .i64 200), .lit (.int .i64 1200)], .agg [.lit (.int .i64 0), .lit (.int .i64 400)]] : List (DataW Unit))[i]? = some (.agg (ks.map fun k => .lit (.int .i64 k))) → (cs3.toList.drop (i * 2)).take 2 = ks.map (Value.int .i64 ·) := by
    intro i ks hi hks hk
    have h0 := hel3 i hi
    rw [c2] at h0
    obtain ⟨y, hy⟩ : ∃ y, ys[i]? = some y := ⟨ys[i], List.getElem?_eq_getElem (by omega)⟩
    rw [hy] at h0
    refine trod_ints (ks := ks) Tryd.underlying93 Tryd.underlying3 (by kernel_rfl) c2 h0 ?_ hks
    have e := congrArg (fun l : List (DataW Unit) => l[i]?) hy3.1
    simp only [List.getElem?_map, hy, hk, Option.map_some] at e
    exact (Option.some.inj e).symm
  have l0 := rr 0 [0, 20000] (by decide) rfl rfl
  have l1 := rr 1 [0, 10000] (by decide) rfl rfl
  have l2 := rr 2 [200, 1200] (by decide) rfl rfl
  have l3 := rr 3 [0, 400] (by decide) rfl rfl
  have h3 := chunks 2 4 cs3.toList (hlen3.trans (by kernel_rfl))
  have hr4 : List.range 4 = [0, 1, 2, 3] := rfl
  rw [hr4] at h3
  simp only [List.flatMap_cons, List.flatMap_nil, l0, l1, l2, l3, List.append_nil, List.map_cons, List.map_nil, List.cons_append, List.nil_append] at h3
  obtain ⟨a3, b3, k3⟩ := heap_of_var hg3 hv3
  obtain ⟨a4, b4, k4⟩ := heap_of_var hg4 hv4
  refine ⟨?_, ⟨⟨a4, b4, k4.trans ?_⟩, ⟨a3, b3, k3.trans ?_⟩⟩⟩
  rotate_left
  · rw [show cs4 = cs4.toList.toArray by simp, h4]; rfl
  · rw [show cs3 = cs3.toList.toArray by simp, h3]
  obtain rfl := Option.some.inj (gTemps.symm.trans hg0)
  obtain rfl := Option.some.inj (gDeps.symm.trans hg1)
  obtain rfl := Option.some.inj (gConts.symm.trans hg2)
  obtain rfl := Option.some.inj (tTemps.symm.trans ht0)
  obtain rfl := Option.some.inj (tDeps.symm.trans ht1)
  obtain rfl := Option.some.inj (tConts.symm.trans ht2)
  have c7 : Tryd.prog.cellsOf 131 = 7 := by kernel_rfl
  have h0 : cs0.toList = [200, 400, 600, 800, 1000, 1200].map (Value.int .i64 ·) := trod_ints Tryd.underlying130 Tryd.underlying3 (by kernel_rfl) (by kernel_rfl) hd0 rfl rfl
  have h1 : cs1.toList = [0, 20, 50, 100, 200, 300, 400].map (Value.int .i64 ·) := trod_ints Tryd.underlying131 Tryd.underlying3 (by kernel_rfl) c7 hd1 rfl rfl
  obtain ⟨xs, m, rfl, hx2, hlen, hn, hel⟩ := DataW.trod_array Tryd.underlying132 hd2
  simp only [Rows.laid_sawmill_air_contents, Prod.mk.injEq, DataW.agg.injEq] at hx2
  have r0 : (cs2.toList.drop 0).take 7 = [.int .i64 2800, .int .i64 2200, .int .i64 1750, .int .i64 1250, .int .i64 750, .int .i64 480, .int .i64 390] := by
    have h0 := hel 0 (by decide)
    rw [c7] at h0
    obtain ⟨y, hy⟩ : ∃ y, xs[0]? = some y := ⟨xs[0], List.getElem?_eq_getElem (by omega)⟩
    rw [hy] at h0
    refine trod_ints (ks := [2800, 2200, 1750, 1250, 750, 480, 390]) Tryd.underlying131 Tryd.underlying3 (by kernel_rfl) c7 h0 ?_ rfl
    have e := congrArg (fun l : List (DataW Unit) => l[0]?) hx2.1
    simpa [hy] using e.symm
  have r1 : (cs2.toList.drop 7).take 7 = [.int .i64 2700, .int .i64 2100, .int .i64 1650, .int .i64 1150, .int .i64 680, .int .i64 440, .int .i64 350] := by
    have h0 := hel 1 (by decide)
    rw [c7] at h0
    obtain ⟨y, hy⟩ : ∃ y, xs[1]? = some y := ⟨xs[1], List.getElem?_eq_getElem (by omega)⟩
    rw [hy] at h0
    refine trod_ints (ks := [2700, 2100, 1650, 1150, 680, 440, 350]) Tryd.underlying131 Tryd.underlying3 (by kernel_rfl) c7 h0 ?_ rfl
    have e := congrArg (fun l : List (DataW Unit) => l[1]?) hx2.1
    simpa [hy] using e.symm
  have r2 : (cs2.toList.drop 14).take 7 = [.int .i64 2600, .int .i64 2000, .int .i64 1550, .int .i64 1060, .int .i64 610, .int .i64 400, .int .i64 310] := by
    have h0 := hel 2 (by decide)
    rw [c7] at h0
    obtain ⟨y, hy⟩ : ∃ y, xs[2]? = some y := ⟨xs[2], List.getElem?_eq_getElem (by omega)⟩
    rw [hy] at h0
    refine trod_ints (ks := [2600, 2000, 1550, 1060, 610, 400, 310]) Tryd.underlying131 Tryd.underlying3 (by kernel_rfl) c7 h0 ?_ rfl
    have e := congrArg (fun l : List (DataW Unit) => l[2]?) hx2.1
    simpa [hy] using e.symm
  have r3 : (cs2.toList.drop 21).take 7 = [.int .i64 2500, .int .i64 1900, .int .i64 1450, .int .i64 980, .int .i64 550, .int .i64 360, .int .i64 280] := by
    have h0 := hel 3 (by decide)
    rw [c7] at h0
    obtain ⟨y, hy⟩ : ∃ y, xs[3]? = some y := ⟨xs[3], List.getElem?_eq_getElem (by omega)⟩
    rw [hy] at h0
    refine trod_ints (ks := [2500, 1900, 1450, 980, 550, 360, 280]) Tryd.underlying131 Tryd.underlying3 (by kernel_rfl) c7 h0 ?_ rfl
    have e := congrArg (fun l : List (DataW Unit) => l[3]?) hx2.1
    simpa [hy] using e.symm
  have r4 : (cs2.toList.drop 28).take 7 = [.int .i64 2400, .int .i64 1800, .int .i64 1360, .int .i64 900, .int .i64 500, .int .i64 330, .int .i64 250] := by
    have h0 := hel 4 (by decide)
    rw [c7] at h0
    obtain ⟨y, hy⟩ : ∃ y, xs[4]? = some y := ⟨xs[4], List.getElem?_eq_getElem (by omega)⟩
    rw [hy] at h0
    refine trod_ints (ks := [2400, 1800, 1360, 900, 500, 330, 250]) Tryd.underlying131 Tryd.underlying3 (by kernel_rfl) c7 h0 ?_ rfl
    have e := congrArg (fun l : List (DataW Unit) => l[4]?) hx2.1
    simpa [hy] using e.symm
  have r5 : (cs2.toList.drop 35).take 7 = [.int .i64 2300, .int .i64 1700, .int .i64 1270, .int .i64 830, .int .i64 450, .int .i64 300, .int .i64 220] := by
    have h0 := hel 5 (by decide)
    rw [c7] at h0
    obtain ⟨y, hy⟩ : ∃ y, xs[5]? = some y := ⟨xs[5], List.getElem?_eq_getElem (by omega)⟩
    rw [hy] at h0
    refine trod_ints (ks := [2300, 1700, 1270, 830, 450, 300, 220]) Tryd.underlying131 Tryd.underlying3 (by kernel_rfl) c7 h0 ?_ rfl
    have e := congrArg (fun l : List (DataW Unit) => l[5]?) hx2.1
    simpa [hy] using e.symm
  have h2 : cs2.toList.length = 6 * 7 := hlen.trans (by kernel_rfl)
  have h2 := chunks 7 6 cs2.toList h2
  have hr : List.range 6 = [0, 1, 2, 3, 4, 5] := rfl
  rw [hr] at h2
  simp only [List.flatMap_cons, List.flatMap_nil, Nat.zero_mul, Nat.reduceMul, r0, r1, r2, r3, r4, r5, List.append_nil, List.cons_append, List.nil_append] at h2
  obtain ⟨a0, b0, k0⟩ := heap_of_var hg0 hv0
  obtain ⟨a1, b1, k1⟩ := heap_of_var hg1 hv1
  obtain ⟨a2, b2, k2⟩ := heap_of_var hg2 hv2
  refine ⟨⟨a0, b0, k0.trans ?_⟩, ⟨a1, b1, k1.trans ?_⟩, ⟨a2, b2, k2.trans ?_⟩⟩
  · rw [show cs0 = cs0.toList.toArray by simp, h0]; rfl
  · rw [show cs1 = cs1.toList.toArray by simp, h1]; rfl
  · rw [show cs2 = cs2.toList.toArray by simp, h2]
end Go.Proofs.YtkedpokbbogkmaaDoor
