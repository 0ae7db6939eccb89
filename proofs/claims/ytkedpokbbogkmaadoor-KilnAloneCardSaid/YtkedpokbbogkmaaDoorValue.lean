/-
  The contract of curve.Value at a valid grid.
-/
import Derived.Test.YtkedpokbbogkmaaDoorGrid
import Derived.Laws.Rows
import Derived.Laws.OwnMore
namespace Go.Proofs.YtkedpokbbogkmaaDoor
open Go.RowKit

def Blk (w : World) (g : Nat) (t : TypeId) (cs : Array Value) : Prop := w.heap[g]? = some (.cells cs t (0, 0))
section
variable {w w' : World} {g : Nat} {t : TypeId} {cs : Array Value}
theorem Blk.lt (h : Blk w g t cs) : g < w.heap.size := by
  rcases Nat.lt_or_ge g w.heap.size with hlt | hge
  · exact hlt
  · unfold Blk at h; rw [Array.getElem?_eq_none hge] at h; cases h
theorem Blk.cell (h : Blk w g t cs) (i : Nat) : w.cell? ⟨g, i, none⟩ = cs[i]? := cell_of_row w g i cs t (0, 0) h
theorem Blk.frozen (h : Blk w g t cs) (i : Nat) : w.frozen? ⟨g, i, none⟩ = false := by
  unfold Blk at h
  simp [World.frozen?, h]
theorem Blk.new (w : World) (t : TypeId) (cs : Array Value) : Blk (w.alloc (.cells cs t)) w.heap.size t cs := heap_alloc_new w _
theorem Blk.drewN (h : Blk w g t cs) (n : Nat) : Blk (w.drewN n) g t cs := h
theorem Blk.drew (h : Blk w g t cs) : Blk w.drew g t cs := h
theorem Blk.alloc (h : Blk w g t cs) (o : Obj) : Blk (w.alloc o) g t cs := (Below.heap_alloc w o g h.lt).trans h
theorem Blk.set_ (h : Blk w g t cs) (i : Nat) (u : Value) : Blk (w.setCell ⟨g, i, none⟩ u) g t (cs.setIfInBounds i u) := by
  unfold Blk at h ⊢
  simp [World.setCell, Array.getElem?_modify, h]
theorem Blk.far (h : Blk w g t cs) {p : Addr} (hp : g ≠ p.block) (u : Value) : Blk (w.setCell p u) g t cs := (Below.heap_setCell w p u g hp).trans h
theorem Blk.below {B : Nat} (h : Blk w g t cs) (hb : Below B w w') (hg : g < B) : Blk w' g t cs := (hb.block g hg).trans h
end

def ArrPts (arr : Array Value) (k : Nat) (xs ys : List Int) : Prop := arr.size = 32 ∧ ∀ j, j < k → arr[j * 2]? = some (.int .i64 (xs.getD j 0)) ∧ arr[j * 2 + 1]? = some (.int .i64 (ys.getD j 0))
theorem ArrPts.put {arr : Array Value} {k : Nat} {xs ys : List Int} (h : ArrPts arr k xs ys) (hk : k < 16) :
    ArrPts ((arr.setIfInBounds (k * 2) (.int .i64 (xs.getD k 0))).setIfInBounds (k * 2 + 1) (.int .i64 (ys.getD k 0))) (k + 1) xs ys := by
  obtain ⟨h0, h1⟩ := h
  refine ⟨by simp [h0], fun j hj => ?_⟩
  by_cases e : j = k
  · subst e
    constructor
    · rw [Array.getElem?_setIfInBounds_ne (by omega), Array.getElem?_setIfInBounds_self_of_lt (by omega)]
    · rw [Array.getElem?_setIfInBounds_self_of_lt (by simp; omega)]
  · obtain ⟨a, b⟩ := h1 j (by omega)
    constructor
    · rw [Array.getElem?_setIfInBounds_ne (by omega), Array.getElem?_setIfInBounds_ne (by omega), a]
    · rw [Array.getElem?_setIfInBounds_ne (by omega), Array.getElem?_setIfInBounds_ne (by omega), b]
theorem Blk.pts {w : World} {g : Nat} {t : TypeId} {arr : Array Value} {xs ys : List Int} (h : Blk w g t arr) (ha : ArrPts arr xs.length xs ys) (hl : ys.length = xs.length) : Pts w g xs ys :=
  ⟨hl, fun j hj => ⟨(h.cell _).trans (ha.2 j hj).1, (h.cell _).trans (ha.2 j hj).2⟩⟩

theorem bDrew {B : Nat} {a w : World} (h : Below B a w) : Below B a w.drew := ⟨h.os, h.tape, h.output, h.size, h.block⟩
theorem Pts.drew {w : World} {g : Nat} {xs ys : List Int} (h : Pts w g xs ys) : Pts w.drew g xs ys := h
theorem keepD {w w' : World} {a : Addr} {v : Value} (hb : Below w.drew.heap.size w.drew w') (h : w.cell? a = some v) : w'.cell? a = some v := (hb.cell (World.block_lt_of_cell? w a h)).trans h
theorem Blk.some_ {w : World} {g : Nat} {t : TypeId} {cs : Array Value} (h : Blk w g t cs) (i : Nat) (hi : i < cs.size) : ∃ v, w.cell? ⟨g, i, none⟩ = some v := ⟨cs[i], (h.cell i).trans (Array.getElem?_eq_getElem hi)⟩
set_option maxHeartbeats 4000000 in
theorem value_ok (gx cx gy cy gv cv n m : Nat) (xs ys : List Int) (rs : List (List Int)) (x y : Int) (w : World) (hx : Hid (Ints w gx xs)) (ax : Hid (Asc xs)) (hy : Hid (Ints w gy ys)) (ay : Hid (Asc ys)) (hr : Hid (Rows w gv rs))
    (ln : Hid (xs.length = n ∧ ys.length = m ∧ rs.length = n)) (hs : Hid (∀ i, i < n → (rs.getD i []).length = m ∧ Small (rs.getD i []))) (n1 : 1 ≤ n) (n16 : n ≤ 16) (m1 : 1 ≤ m) (m16 : m ≤ 16) :
    Calls Tryd.prog 79 #[.agg #[.slice (some ⟨gx, 0, none⟩) n cx, .slice (some ⟨gy, 0, none⟩) m cy, .slice (some ⟨gv, 0, none⟩) n cv], .int .i64 x, .int .i64 y] w fun e w' =>
      e = .returned (.int .i64 (Pl.atZ xs (rs.map fun r => Pl.atZ ys r y) x)) ∧ Below w.heap.size w w' := by
  have hbn := below_new w (.cells #[.slice (some ⟨gx, 0, none⟩) n cx, .slice (some ⟨gy, 0, none⟩) m cy, .slice (some ⟨gv, 0, none⟩) n cv] 117)
  have hx1 := Lib.hid (hx.out.below hbn)
  have hy1 := Lib.hid (hy.out.below hbn)
  have hr1 := Lib.hid (hr.out.below hbn)
  have HB := Lib.hid (hbn)
  clear hbn
  go_enter Tryd.func79, Tryd.ntmps79
  go_wp2_with fail
  refine (checkGrid_ok gx cx gy cy gv cv n m xs ys rs _ hx1 ax hy1 ay hr1 ln hs n1 n16 m1 m16).mono ?_
  rintro e w1 ⟨rfl, hb1⟩
  have hB1 : Below w.heap.size w w1 := HB.out.trans (hb1.mono (by simp))
  have hbk : Blk w1 w.heap.size 117 #[.slice (some ⟨gx, 0, none⟩) n cx, .slice (some ⟨gy, 0, none⟩) m cy, .slice (some ⟨gv, 0, none⟩) n cv] := (Blk.new w _ _).below hb1 (by simp)
  have c0 : w1.cell? ⟨w.heap.size, 0, none⟩ = some (.slice (some ⟨gx, 0, none⟩) n cx) := hbk.cell 0
  have c1 : w1.cell? ⟨w.heap.size, 1, none⟩ = some (.slice (some ⟨gy, 0, none⟩) m cy) := hbk.cell 1
  have c2 : w1.cell? ⟨w.heap.size, 2, none⟩ = some (.slice (some ⟨gv, 0, none⟩) n cv) := hbk.cell 2
  have hz := hbk.lt
  have HK := Lib.hid (hbk)
  have H1 := Lib.hid (hB1)
  clear hbk hB1 hb1 hx1 hy1 hr1 HB
  go_wp2_with fail
  go_loopw [19] (fun i wr => ∃ (k : Nat) (arr : Array Value), k ≤ n ∧ i = .int .i64 k ∧ Below w1.heap.size w1 wr ∧ Blk wr w1.heap.size 127 arr ∧ ArrPts arr k xs (rs.map fun r => Pl.atZ ys r y)) (fun i _ => n - (intOf i).toNat)
  case atStart => exact ⟨0, _, Nat.zero_le _, rfl, below_new w1 _, Blk.new w1 _ _, rfl, fun j hj => absurd hj (Nat.not_lt_zero _)⟩
  case round =>
    obtain ⟨k, arr, hk, rfl, hbr, hba, hpt⟩ := hrel
    have d0 := (hbr.cell (World.block_lt_of_cell? w1 _ c0)).trans c0
    have d1 := (hbr.cell (World.block_lt_of_cell? w1 _ c1)).trans c1
    have d2 := (hbr.cell (World.block_lt_of_cell? w1 _ c2)).trans c2
    have lz := hba.lt
    have HBR := Lib.hid (hbr)
    have HBA := Lib.hid (hba)
    have HPT := Lib.hid (hpt)
    have hBw : Below w.heap.size w wr := H1.out.trans (hbr.mono H1.out.size)
    have HBW := Lib.hid (hBw)
    by_cases hlt : k < n
    · obtain ⟨g, c, hc, hi⟩ := (hr.out.below hBw) k (by rw [ln.out.2.2]; exact hlt)
      obtain ⟨hl, hsm⟩ := hs.out k hlt
      rw [hl] at hc
      have hxk := (hx.out.below hBw) k (by rw [ln.out.1]; exact hlt)
      have HI := Lib.hid (hi)
      have HS := Lib.hid (hsm)
      have HL := Lib.hid (hl)
      have HXK := Lib.hid (hxk)
      have HY := Lib.hid (hy.out.below hBw)
      have LY := Lib.hid (ln.out.2.1)
      clear hbr hba hpt hBw hi hsm hl hxk
      obtain ⟨wo, rfl⟩ : ∃ wo : World, wo = wr := ⟨_, rfl⟩
      go_wp2_with fail
      go_loopw [26] (fun i w2 => ∃ (j : Nat) (ar2 : Array Value), j ≤ m ∧ i = .int .i64 j ∧ Below wo.heap.size wo w2 ∧ Blk w2 wo.heap.size 127 ar2 ∧ ArrPts ar2 j ys (rs.getD k [])) (fun i _ => m - (intOf i).toNat)
      case atStart => exact ⟨0, _, Nat.zero_le _, rfl, below_new wo _, Blk.new wo _ _, rfl, fun j hj => absurd hj (Nat.not_lt_zero _)⟩
      case round =>
        obtain ⟨j, ar2, hj, rfl, hb2, hba2, hpt2⟩ := hrel
        have f1 := (hb2.cell (World.block_lt_of_cell? wo _ d1)).trans d1
        have HB2 := Lib.hid (hb2)
        have HBA2 := Lib.hid (hba2)
        have HPT2 := Lib.hid (hpt2)
        by_cases hjm : j < m
        · have hcj := (HI.out.below hb2) j (by rw [HL.out]; exact hjm)
          have hyj := (HY.out.below hb2) j (by rw [LY.out]; exact hjm)
          generalize eu : (rs.getD k []).getD j 0 = u at hcj
          generalize ev : ys.getD j 0 = v at hyj
          have s0 : ∃ o, wr.cell? ⟨wo.heap.size, j * 2, none⟩ = some o := ⟨ar2[j * 2]'(by rw [hpt2.1]; omega), (hba2.cell _).trans (Array.getElem?_eq_getElem _)⟩
          have s1 : ∃ o, wr.cell? ⟨wo.heap.size, j * 2 + 1, none⟩ = some o := ⟨ar2[j * 2 + 1]'(by rw [hpt2.1]; omega), (hba2.cell _).trans (Array.getElem?_eq_getElem _)⟩
          obtain ⟨o0, s0⟩ := s0
          obtain ⟨o1, s1⟩ := s1
          have t0 := hba2.frozen (j * 2)
          have t1 := hba2.frozen (j * 2 + 1)
          have EU := Lib.hid (eu)
          have EV := Lib.hid (ev)
          clear hb2 hba2 hpt2 eu ev
          go_wp2_with fail
          go_roundw
          case rel =>
            refine ⟨j + 1, _, by omega, by go_num, (HB2.out.setCell (by simp) _).setCell (by simp) _, (HBA2.out.set_ _ _).set_ _ _, ?_⟩
            have := HPT2.out.put (by omega)
            rw [EU.out, EV.out] at this
            exact this
          case measure => simp [intOf]; omega
        · obtain rfl : j = m := by omega
          have hP : Pts wr wo.heap.size ys (rs.getD k []) := hba2.pts (by rw [LY.out]; exact hpt2) (by rw [LY.out, HL.out])
          have HP := Lib.hid hP
          clear hP hba2 hpt2
          have e0 := (hb2.cell (World.block_lt_of_cell? wo _ d0)).trans d0
          have eX := (hb2.cell (World.block_lt_of_cell? wo _ (HXK.out))).trans HXK.out
          generalize ex : xs.getD k 0 = u at eX
          have EX := Lib.hid ex
          have hrb := HBA.out.below hb2 lz
          have HRB := Lib.hid hrb
          have i1 : (0 : Int) ≤ (k : Int) := by omega
          have i2 : (k : Int) < (n : Int) := by omega
          have i3 : (k : Int) < 16 := by omega
          have i4 : j ≤ 16 := by omega
          have i5 : (j : Int) ≤ 16 := by omega
          have i6 : (0 : Int) ≤ (j : Int) := by omega
          have hB2 := Lib.hid hb2
          have hrz := hrb.lt
          have hsz2 := HPT.out.1
          have ne1 : w.heap.size ≠ w1.heap.size := by omega
          have ne2 : gx ≠ w1.heap.size := by have := World.block_lt_of_cell? w _ (hx.out k (by rw [ln.out.1]; exact hlt)); have := hz; simp at *; omega
          have ne3 : w1.heap.size ≠ w.heap.size := ne1.symm
          have ne4 : w1.heap.size ≠ gx := ne2.symm
          clear hb2 ex
          go_wp2_with fail
          go_region_held3 (fun w' => w'.cell? ⟨w.heap.size, 0, none⟩ = some (.slice (some ⟨gx, 0, none⟩) n cx) ∧ w'.cell? ⟨gx, k, none⟩ = some (.int .i64 u)) (first | exact ⟨keepD hb3 e0, keepD hb3 eX⟩ | go_keep)
            ((go_at_call 85; with_reducible refine (at_okN wo.heap.size 16 j ys (rs.getD k []) y _ (Lib.hid HP.out.drew) ay HS LY m1 m16).mono ?_; rintro e w3 ⟨rfl, hb3⟩; have HR3 := Lib.hid (HRB.out.drew.below hb3 (by simpa using hrz)); obtain ⟨o0, g0⟩ := HR3.out.some_ (k * 2) (by rw [hsz2]; omega); obtain ⟨o1, g1⟩ := HR3.out.some_ (k * 2 + 1) (by rw [hsz2]; omega); have t0 := HR3.out.frozen (k * 2); have t1 := HR3.out.frozen (k * 2 + 1)))
          have hW2 := Lib.hid (HBR.out.trans (hB2.out.mono HBR.out.size))
          have hv : (rs.map fun r => Pl.atZ ys r y).getD k 0 = Pl.atZ ys (rs.getD k []) y := by
            have h3 : k < rs.length := by rw [ln.out.2.2]; exact hlt
            simp [List.getD_eq_getElem?_getD, List.getElem?_eq_getElem h3]
          have HV := Lib.hid hv
          clear hv
          go_wp2
          go_roundw
          case rel =>
            refine ⟨k + 1, _, by omega, by go_num, (((bDrew hW2.out).trans (hb3.mono (bDrew hW2.out).size)).setCell (by simp) _).setCell (by simp) _, (HR3.out.set_ _ _).set_ _ _, ?_⟩
            have := HPT.out.put (k := k) (by omega)
            rw [HV.out, EX.out] at this
            exact this
          case measure => simp [intOf]; omega
    · obtain rfl : k = n := by omega
      have hP : Pts wr w1.heap.size xs (rs.map fun r => Pl.atZ ys r y) := hba.pts (by rw [ln.out.1]; exact hpt) (by rw [List.length_map, ln.out.1, ln.out.2.2])
      have HP := Lib.hid hP
      have hS : Small (rs.map fun r => Pl.atZ ys r y) := by
        intro i hi
        rw [List.length_map] at hi
        have hi' : i < k := by rw [← ln.out.2.2]; exact hi
        obtain ⟨h1, h2⟩ := hs.out i hi'
        rw [show (rs.map fun r => Pl.atZ ys r y).getD i 0 = Pl.atZ ys (rs.getD i []) y by simp [List.getD_eq_getElem?_getD, List.getElem?_eq_getElem hi]]
        refine Pl.atZ_bd (by rw [h1, ln.out.2.1]) (by rw [ln.out.2.1]; exact m1) (fun v hv => ?_)
        obtain ⟨q, hq, rfl⟩ := List.getElem_of_mem hv
        have := h2 q hq
        rwa [List.getD_eq_getElem?_getD, List.getElem?_eq_getElem hq] at this
      have HS := Lib.hid hS
      have i5 : (k : Int) ≤ 16 := by omega
      have LX := Lib.hid ln.out.1
      clear hP hS hbr hba hpt hBw
      go_wp2_with ((go_at_call 85; with_reducible refine (at_okN w1.heap.size 16 k xs _ x _ HP ax HS LX n1 n16).mono ?_; rintro e w3 ⟨rfl, hb3⟩))
      go_ret
      exact ⟨rfl, HBW.out.trans (hb3.mono HBW.out.size)⟩

end Go.Proofs.YtkedpokbbogkmaaDoor
