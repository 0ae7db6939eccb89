/-
  The contract of air.Table: the three slices of the table, out of the three package variables.
-/
import Derived.Test.YtkedpokbbogkmaaDoorValue
import Derived.OwnWalk
import Derived.Maps.AppendAt
import Derived.Deep.AppendLies
namespace Go.Proofs.YtkedpokbbogkmaaDoor
open Go.RowKit

/-- The tables as the program's text lays them. -/
structure Glob (w : World) : Prop where
  temps : ∃ t fr, w.heap[4]? = some (.cells #[.int .i64 200, .int .i64 400, .int .i64 600, .int .i64 800, .int .i64 1000, .int .i64 1200] t fr)
  deps : ∃ t fr, w.heap[5]? = some (.cells #[.int .i64 0, .int .i64 20, .int .i64 50, .int .i64 100, .int .i64 200, .int .i64 300, .int .i64 400] t fr)
  conts : ∃ t fr, w.heap[6]? = some (.cells #[.int .i64 2800, .int .i64 2200, .int .i64 1750, .int .i64 1250, .int .i64 750, .int .i64 480, .int .i64 390, .int .i64 2700, .int .i64 2100, .int .i64 1650, .int .i64 1150, .int .i64 680, .int .i64 440, .int .i64 350, .int .i64 2600, .int .i64 2000, .int .i64 1550, .int .i64 1060, .int .i64 610, .int .i64 400, .int .i64 310, .int .i64 2500, .int .i64 1900, .int .i64 1450, .int .i64 980, .int .i64 550, .int .i64 360, .int .i64 280, .int .i64 2400, .int .i64 1800, .int .i64 1360, .int .i64 900, .int .i64 500, .int .i64 330, .int .i64 250, .int .i64 2300, .int .i64 1700, .int .i64 1270, .int .i64 830, .int .i64 450, .int .i64 300, .int .i64 220] t fr)
set_option maxRecDepth 100000 in
theorem heap_lt {w : World} {g : Nat} {o : Obj} (h : w.heap[g]? = some o) : g < w.heap.size := (Array.getElem?_eq_some_iff.1 h).1
set_option maxRecDepth 100000 in
theorem Glob.below {w w1 : World} (h : Glob w) (hb : Below w.heap.size w w1) : Glob w1 := by
  obtain ⟨⟨a, b, h1⟩, ⟨c, d, h2⟩, ⟨e, f, h3⟩⟩ := h
  exact ⟨⟨a, b, (hb.block _ (heap_lt h1)).trans h1⟩, ⟨c, d, (hb.block _ (heap_lt h2)).trans h2⟩, ⟨e, f, (hb.block _ (heap_lt h3)).trans h3⟩⟩

set_option maxRecDepth 100000 in
theorem Glob.drew {w : World} (h : Glob w) : Glob w.drew := ⟨h.temps, h.deps, h.conts⟩
set_option maxRecDepth 100000 in
theorem idx_t (k : Nat) (hk : k < 6) : ∀ w, (Instr.index 130 (.agg #[.int .i64 200, .int .i64 400, .int .i64 600, .int .i64 800, .int .i64 1000, .int .i64 1200]) (.int .i64 k)).run Tryd.prog w = .ok (.int .i64 (Pl.temps.getD k 0)) w := by
  match k, hk with
  | 0, _ | 1, _ | 2, _ | 3, _ | 4, _ | 5, _ => exact fun _ => by kernel_rfl
set_option maxRecDepth 100000 in
theorem idx_d (k : Nat) (hk : k < 7) : ∀ w, (Instr.index 131 (.agg #[.int .i64 0, .int .i64 20, .int .i64 50, .int .i64 100, .int .i64 200, .int .i64 300, .int .i64 400]) (.int .i64 k)).run Tryd.prog w = .ok (.int .i64 (Pl.deps.getD k 0)) w := by
  match k, hk with
  | 0, _ | 1, _ | 2, _ | 3, _ | 4, _ | 5, _ | 6, _ => exact fun _ => by kernel_rfl
set_option maxRecDepth 100000 in
theorem idx_c (k : Nat) (hk : k < 6) : ∃ a b c d e f g : Int, Pl.conts.getD k [] = [a, b, c, d, e, f, g] ∧
    ∀ w, (Instr.index 132 (.agg #[.int .i64 2800, .int .i64 2200, .int .i64 1750, .int .i64 1250, .int .i64 750, .int .i64 480, .int .i64 390, .int .i64 2700, .int .i64 2100, .int .i64 1650, .int .i64 1150, .int .i64 680, .int .i64 440, .int .i64 350, .int .i64 2600, .int .i64 2000, .int .i64 1550, .int .i64 1060, .int .i64 610, .int .i64 400, .int .i64 310, .int .i64 2500, .int .i64 1900, .int .i64 1450, .int .i64 980, .int .i64 550, .int .i64 360, .int .i64 280, .int .i64 2400, .int .i64 1800, .int .i64 1360, .int .i64 900, .int .i64 500, .int .i64 330, .int .i64 250, .int .i64 2300, .int .i64 1700, .int .i64 1270, .int .i64 830, .int .i64 450, .int .i64 300, .int .i64 220]) (.int .i64 k)).run Tryd.prog w = .ok (.agg #[.int .i64 a, .int .i64 b, .int .i64 c, .int .i64 d, .int .i64 e, .int .i64 f, .int .i64 g]) w := by
  match k, hk with
  | 0, _ | 1, _ | 2, _ | 3, _ | 4, _ | 5, _ => exact ⟨_, _, _, _, _, _, _, rfl, fun _ => by kernel_rfl⟩
set_option maxRecDepth 100000 in
theorem idx_r (a b c d e f g : Int) (k : Nat) (hk : k < 7) : ∀ w, (Instr.index 131 (.agg #[.int .i64 a, .int .i64 b, .int .i64 c, .int .i64 d, .int .i64 e, .int .i64 f, .int .i64 g]) (.int .i64 k)).run Tryd.prog w = .ok (.int .i64 ([a, b, c, d, e, f, g].getD k 0)) w := by
  match k, hk with
  | 0, _ | 1, _ | 2, _ | 3, _ | 4, _ | 5, _ | 6, _ => exact fun _ => by kernel_rfl

set_option maxRecDepth 100000 in
theorem int_info : (Tryd.prog.info? 3).map (fun i => (i.zero, i.size, i.bytes)) = some (some (.int .i64 0), 1, 8) := by kernel_rfl
set_option maxRecDepth 100000 in
theorem ints_info : (Tryd.prog.info? 46).map (fun i => (i.zero, i.size, i.bytes)) = some (some (.slice none 0 0), 1, 24) := by kernel_rfl

set_option maxRecDepth 100000 in
theorem own_nil (W : World) (base : Nat) (e : TypeId) (size : Nat) : W.ownsRow base e size (.slice none 0 0) 0 [] := ⟨by simp, .inl ⟨rfl, rfl⟩⟩
set_option maxRecDepth 100000 in
/-- A step of a loop that appends to a field of the block bg: what is so before the store. -/
theorem app_step {Wg wr w1 : World} {bg n : Nat} {e t : TypeId} {cs : Array Value} {o : Obj} {v v' x : Value} {xs : List Value} (hg : Wg.grownBy wr (some bg)) (hlt : bg < Wg.heap.size) (hb : Blk wr bg t cs)
    (hown : wr.ownsRow Wg.heap.size e 1 v n xs) (hgr : (wr.alloc o).grownBy w1 v.ownBlock) (hown' : w1.ownsRow Wg.heap.size e 1 v' (n + 1) (xs ++ [x])) (i : Nat) :
    Blk w1 bg t cs ∧ Wg.grownBy (w1.setCell ⟨bg, i, none⟩ v') (some bg) ∧ Blk (w1.setCell ⟨bg, i, none⟩ v') bg t (cs.setIfInBounds i v') ∧ (w1.setCell ⟨bg, i, none⟩ v').ownsRow Wg.heap.size e 1 v' (n + 1) (xs ++ [x]) := by
  have hne : ∀ j, j < Wg.heap.size → some j ≠ v.ownBlock := fun j hj h => by have := (hown.lt j h.symm).1; omega
  have hs := hg.size
  have hb1 : Blk w1 bg t cs := (hgr.block bg (by simp; omega) (hne bg hlt)).trans (hb.alloc o)
  have hg1 : Wg.grownBy w1 (some bg) := ⟨hgr.os.trans hg.os, hgr.tape.trans hg.tape, hgr.output.trans hg.output, by have := hgr.size; simp at this; omega, fun k hk hn => by
    rw [hgr.block k (by simp; omega) (hne k hk), ← hg.block k hk hn]
    exact Below.heap_alloc wr o k (by omega)⟩
  refine ⟨hb1, ⟨hg1.os, hg1.tape, hg1.output, by simpa [World.setCell] using hg1.size, fun k hk hn => ?_⟩, hb1.set_ _ _, ownsRow_setCell_below hown' hlt _⟩
  exact (Below.heap_setCell w1 _ _ k (by rintro rfl; exact hn rfl)).trans (hg1.block k hk hn)
set_option maxRecDepth 100000 in
theorem Ints.own {w : World} {base n : Nat} {e : TypeId} {v : Value} {xs : List Int} (h : w.ownsRow base e 1 v n (xs.map (Value.int .i64))) (hn : 0 < n) :
    ∃ g c, v = .slice (some ⟨g, 0, none⟩) n c ∧ base ≤ g ∧ g < w.heap.size ∧ Ints w g xs := by
  obtain ⟨g, cap, rfl, _, hlt⟩ := h.form hn
  refine ⟨g, cap, rfl, (h.lt g rfl).1, hlt, fun j hj => ?_⟩
  have hl := h.1
  rw [List.length_map] at hl
  rw [h.cellAt j (by omega)]
  simp [List.getElem?_map, List.getD_eq_getElem?_getD, List.getElem?_eq_getElem hj]
set_option maxRecDepth 100000 in
theorem Ints.grown {w w1 : World} {g : Nat} {xs : List Int} {row : Option Nat} (h : Ints w g xs) (hg : w.grownBy w1 row) (hne : some g ≠ row) : Ints w1 g xs :=
  fun j hj => hg.cell (h j hj) hne
set_option maxRecDepth 100000 in
theorem Ints.far {w : World} {g : Nat} {xs : List Int} (h : Ints w g xs) {p : Addr} (hn : g ≠ p.block) (u : Value) : Ints (w.setCell p u) g xs :=
  fun j hj => (World.cell?_setCell_other w p ⟨g, j, none⟩ u (fun e => hn (by first | rw [← e] | rw [e]))).trans (h j hj)
set_option maxRecDepth 100000 in
theorem take_step (l : List Int) (k : Nat) (hk : k < l.length) (x : Int) (hx : l.getD k 0 = x) : (l.take (k + 1)).map (Value.int .i64) = (l.take k).map (Value.int .i64) ++ [.int .i64 x] := by
  rw [List.take_add_one, List.getElem?_eq_getElem hk]
  rw [List.getD_eq_getElem?_getD, List.getElem?_eq_getElem hk] at hx
  simp at hx
  simp [hx]

set_option maxRecDepth 100000 in
theorem only_below {w a b : World} {bg : Nat} (h : Below w.heap.size w a) (hb : w.heap.size ≤ bg) (hg : a.grownBy b (some bg)) : Below w.heap.size w b := h.grown hg h.size (fun k hk => by cases hk; exact hb)
def RowsOf (w : World) (sl : List Value) (k : Nat) : Prop :=
  ∀ i, i < k → ∃ g c, sl[i]? = some (.slice (some ⟨g, 0, none⟩) 7 c) ∧ g < w.heap.size ∧ Ints w g (Pl.conts.getD i []) ∧ w.cell? ⟨g, 0, none⟩ = some (.int .i64 ((Pl.conts.getD i []).getD 0 0))
set_option maxRecDepth 100000 in
theorem RowsOf.below {w w1 : World} {sl : List Value} {k : Nat} (h : RowsOf w sl k) (hb : Below w.heap.size w w1) : RowsOf w1 sl k := fun i hi => by
  obtain ⟨g, c, h1, h2, h3, h4⟩ := h i hi
  exact ⟨g, c, h1, Nat.lt_of_lt_of_le h2 hb.size, h3.below hb, (hb.cell (p := ⟨g, 0, none⟩) h2).trans h4⟩
set_option maxRecDepth 100000 in
theorem only_of_below {a w : World} (h : Below a.heap.size a w) (row : Option Nat) : a.grownBy w row := ⟨h.os, h.tape, h.output, h.size, fun i hi _ => h.block i hi⟩
set_option maxRecDepth 100000 in
theorem grown_then_below {a b c : World} {row : Option Nat} (h : a.grownBy b row) (k : Below b.heap.size b c) : a.grownBy c row :=
  ⟨k.os.trans h.os, k.tape.trans h.tape, k.output.trans h.output, Nat.le_trans h.size k.size, fun i hi hn => (k.block i (Nat.lt_of_lt_of_le hi h.size)).trans (h.block i hi hn)⟩
set_option maxRecDepth 100000 in
theorem rows_step {W w2 w1 : World} {bg k g8 c8 g' c' : Nat} {t e : TypeId} {b c v : Value} {o : Obj} {sl : List Value} {r : List Int} {gx nx cx : Nat} (hr : RowsOf w2 sl k) (h8 : Ints w2 g8 r) (l8 : g8 < w2.heap.size) (hrow : Pl.conts.getD k [] = r)
    (hb : Blk w2 bg t #[.slice (some ⟨gx, 0, none⟩) nx cx, b, c]) (ho : w2.ownsRow W.heap.size e 1 v k sl) (hgr : (w2.alloc o).grownBy w1 v.ownBlock) (h0 : k = 0 → v = .slice none 0 0) (h7 : r.length = 7) :
    RowsOf (w1.setCell ⟨bg, 2, none⟩ (.slice (some ⟨g', 0, none⟩) (k + 1) c')) (sl ++ [.slice (some ⟨g8, 0, none⟩) 7 c8]) (k + 1) := by
  have hsl := ho.1
  have key : ∀ (g : Nat) (x : Int), g < w2.heap.size → w2.cell? ⟨g, 0, none⟩ = some (.int .i64 x) → (w1.setCell ⟨bg, 2, none⟩ (.slice (some ⟨g', 0, none⟩) (k + 1) c')).heap[g]? = w2.heap[g]? := by
    intro g x hg hx
    have n1 : g ≠ bg := by
      rintro rfl
      have := hb.cell 0
      rw [hx] at this
      simp at this
    have n2 : some g ≠ v.ownBlock := by
      intro hv
      rcases Nat.eq_zero_or_pos k with hk | h0
      · rw [h0 hk] at hv
        simp [Value.ownBlock] at hv
      · have := ho.cells hv.symm 0
        obtain ⟨q, cq, h1, _⟩ := hr 0 h0
        have h2 := this _ h1
        rw [show (⟨g, 0, none⟩ : Addr).add 0 = ⟨g, 0, none⟩ from by simp [Addr.add]] at h2
        rw [hx] at h2
        simp at h2
    refine (Below.heap_setCell w1 _ _ g (by simpa using n1)).trans ((hgr.block g (by simp; omega) n2).trans (Below.heap_alloc w2 o g hg))
  have hc8 : w2.cell? ⟨g8, 0, none⟩ = some (.int .i64 (r.getD 0 0)) := h8 0 (by omega)
  have hsz : w2.heap.size ≤ (w1.setCell ⟨bg, 2, none⟩ (.slice (some ⟨g', 0, none⟩) (k + 1) c')).heap.size := by have := hgr.size; simp [World.setCell] at this ⊢; omega
  intro i hi
  by_cases e : i = k
  · subst e
    have hk := key g8 _ l8 hc8
    refine ⟨g8, c8, by rw [List.getElem?_append_right (by omega)]; simp [hsl], by omega, ?_, ?_⟩
    · rw [hrow]; exact fun j hj => (World.cell?_of_block (a := ⟨g8, j, none⟩) hk).trans (h8 j hj)
    · rw [hrow]; exact (World.cell?_of_block (a := ⟨g8, 0, none⟩) hk).trans hc8
  · obtain ⟨g, c, h1, h2, h3, h4⟩ := hr i (by omega)
    have hk := key g _ h2 h4
    exact ⟨g, c, by rw [List.getElem?_append_left (by omega)]; exact h1, by omega, fun j hj => (World.cell?_of_block (a := ⟨g, j, none⟩) hk).trans (h3 j hj), (World.cell?_of_block (a := ⟨g, 0, none⟩) hk).trans h4⟩
set_option maxRecDepth 100000 in
set_option maxHeartbeats 4000000 in
theorem table_any (w : World) (hG : Hid (Glob w)) :
    Calls Tryd.prog 80 #[] w fun e w' => ∃ gx cx gy cy gv cv, e = .returned (.agg #[.slice (some ⟨gx, 0, none⟩) 6 cx, .slice (some ⟨gy, 0, none⟩) 7 cy, .slice (some ⟨gv, 0, none⟩) 6 cv]) ∧
      Ints w' gx Pl.temps ∧ Ints w' gy Pl.deps ∧ Rows w' gv Pl.conts ∧ Below w.heap.size w w' := by
  obtain ⟨i0, hi0, hz0, hz1, hz2⟩ := info_parts int_info
  obtain ⟨j0, hj0, jz0, jz1, jz2⟩ := info_parts ints_info
  have hW : Below w.heap.size w ((w.alloc (.cells #[.slice none 0 0, .slice none 0 0, .slice none 0 0] 117)).alloc (.cells #[.slice none 0 0, .slice none 0 0, .slice none 0 0] 117)) := ((Below.refl _ _).alloc (Nat.le_refl _) _).alloc (by simp) _
  have HW := Lib.hid hW
  obtain ⟨⟨ta, tb, h1⟩, ⟨tc, td, h2⟩, ⟨te, tf, h3⟩⟩ := hG.out.below hW
  have hb0 : Blk ((w.alloc (.cells #[.slice none 0 0, .slice none 0 0, .slice none 0 0] 117)).alloc (.cells #[.slice none 0 0, .slice none 0 0, .slice none 0 0] 117)) (w.heap.size + 1) 117 #[.slice none 0 0, .slice none 0 0, .slice none 0 0] := by
    have := Blk.new (w.alloc (.cells #[.slice none 0 0, .slice none 0 0, .slice none 0 0] 117)) 117 #[.slice none 0 0, .slice none 0 0, .slice none 0 0]
    simpa using this
  have HB0 := Lib.hid hb0
  have hbr : Blk ((w.alloc (.cells #[.slice none 0 0, .slice none 0 0, .slice none 0 0] 117)).alloc (.cells #[.slice none 0 0, .slice none 0 0, .slice none 0 0] 117)) w.heap.size 117 #[.slice none 0 0, .slice none 0 0, .slice none 0 0] := (Blk.new w 117 #[.slice none 0 0, .slice none 0 0, .slice none 0 0]).alloc _
  have HBR := Lib.hid hbr
  clear hW h2 h3 hb0 hbr
  go_enter Tryd.func80, Tryd.ntmps80
  go_wp2_with (refine wpList_load_row rfl 130 _ rfl 4 rfl ta _ tb _ h1 Tryd.underlying130 rfl (by kernel_rfl) ?_)
  clear h1
  have hz : w.heap.size + 1 < ((w.alloc (.cells #[.slice none 0 0, .slice none 0 0, .slice none 0 0] 117)).alloc (.cells #[.slice none 0 0, .slice none 0 0, .slice none 0 0] 117)).heap.size := by simp
  generalize hWg : (w.alloc (.cells #[.slice none 0 0, .slice none 0 0, .slice none 0 0] 117)).alloc (.cells #[.slice none 0 0, .slice none 0 0, .slice none 0 0] 117) = Wg at *
  clear hWg
  go_loopw [12] (fun i wr => ∃ (k : Nat) (v : Value), k ≤ 6 ∧ i = .int .i64 k ∧ Wg.grownBy wr (some (w.heap.size + 1)) ∧ Blk wr (w.heap.size + 1) 117 #[v, .slice none 0 0, .slice none 0 0] ∧ wr.ownsRow Wg.heap.size 3 1 v k ((Pl.temps.take k).map (Value.int .i64))) (fun i _ => 6 - (intOf i).toNat)
  case atStart => exact ⟨0, _, by omega, rfl, World.grownBy.refl _ _, HB0.out, own_nil _ _ _ _⟩
  case round =>
    obtain ⟨k, v, hk, rfl, hg, hb, hown⟩ := hrel
    have hc0 : wr.cell? ⟨w.heap.size + 1, 0, none⟩ = some v := hb.cell 0
    have HG := Lib.hid hg
    have HB := Lib.hid hb
    have HO := Lib.hid hown
    have hsz := hg.size
    by_cases hlt : k < 6
    · have hid := idx_t k hlt
      generalize hx : Pl.temps.getD k 0 = x at hid
      have HX := Lib.hid hx
      clear hg hb hx
      go_wp2_with (first
        | (at_builtin; go_loud (refine wpList_append_own_at _ rfl _ _ 46 rfl Wg.heap.size 3 i0 (.int .i64 0) 1 8 Tryd.underlying46 hi0 hz0 hz1 hz2 rfl (by decide) v k _ rfl (HO.out.alloc _) ⟨wr.heap.size, 0, none⟩ 1 1 [.int .i64 x] rfl rfl (cell_one_new _ _ _) (by simp [Value.oneCell']) (by simp only [maxLen]; omega) (by omega) (by simp; omega) ?_); intro v' w1 hown' hgrow _ _; obtain ⟨g', c', rfl, _, _⟩ := hown'.form (by omega); obtain ⟨p1, p2, p3, p4⟩ := app_step HG.out hz HB.out HO.out hgrow hown' 0; have s0 : w1.cell? ⟨w.heap.size + 1, 0, none⟩ = some v := p1.cell 0; have s1 := p1.frozen 0; have P2 := Lib.hid p2; have P3 := Lib.hid p3; have P4 := Lib.hid p4; clear p1 p2 p3 p4 hown' hgrow))
      go_roundw
      case rel => exact ⟨k + 1, _, by omega, by go_num, P2.out, P3.out, by rw [take_step Pl.temps k hlt x HX.out]; exact P4.out⟩
      case measure => simp [intOf]; omega
    · obtain rfl : k = 6 := by omega
      obtain ⟨gx, cx, rfl, bx1, bx2, hIx⟩ := Ints.own hown (by omega)
      have HIx := Lib.hid hIx
      have HB' := Lib.hid (only_below HW.out (Nat.le_succ _) hg)
      have HGX := Lib.hid hg
      clear hIx hown HO hg hb
      obtain ⟨WX, rfl⟩ : ∃ WX : World, WX = wr := ⟨_, rfl⟩
      obtain ⟨_, ⟨tc, td, h2⟩, _⟩ := hG.out.below HB'.out
      have hzx : w.heap.size + 1 < WX.heap.size := by omega
      have nx : gx ≠ w.heap.size + 1 := by omega
      have nx0 : gx ≠ w.heap.size := by omega
      clear hsz bx1
      go_wp2_with (refine wpList_load_row rfl 131 _ rfl 5 rfl tc _ td _ h2 Tryd.underlying131 rfl (by kernel_rfl) ?_)
      clear h2
      go_loopw [23] (fun i wr => ∃ (k : Nat) (v : Value), k ≤ 7 ∧ i = .int .i64 k ∧ WX.grownBy wr (some (w.heap.size + 1)) ∧ Blk wr (w.heap.size + 1) 117 #[.slice (some ⟨gx, 0, none⟩) 6 cx, v, .slice none 0 0] ∧ wr.ownsRow WX.heap.size 3 1 v k ((Pl.deps.take k).map (Value.int .i64))) (fun i _ => 7 - (intOf i).toNat)
      case atStart => exact ⟨0, _, by omega, rfl, World.grownBy.refl _ _, HB.out, own_nil _ _ _ _⟩
      case round =>
        clear hc0
        obtain ⟨k, v, hk, rfl, hg, hb, hown⟩ := hrel
        have hc0 : wr.cell? ⟨w.heap.size + 1, 1, none⟩ = some v := hb.cell 1
        have HG := Lib.hid hg
        have HBk := Lib.hid hb
        have HO := Lib.hid hown
        have hsz := hg.size
        by_cases hlt : k < 7
        · have hid := idx_d k hlt
          generalize hx : Pl.deps.getD k 0 = x at hid
          have HX := Lib.hid hx
          clear hg hb hx
          go_wp2_with (first
            | (at_builtin; go_loud (refine wpList_append_own_at _ rfl _ _ 46 rfl WX.heap.size 3 i0 (.int .i64 0) 1 8 Tryd.underlying46 hi0 hz0 hz1 hz2 rfl (by decide) v k _ rfl (HO.out.alloc _) ⟨wr.heap.size, 0, none⟩ 1 1 [.int .i64 x] rfl rfl (cell_one_new _ _ _) (by simp [Value.oneCell']) (by simp only [maxLen]; omega) (by omega) (by simp; omega) ?_); intro v' w1 hown' hgrow _ _; obtain ⟨g', c', rfl, _, _⟩ := hown'.form (by omega); obtain ⟨p1, p2, p3, p4⟩ := app_step HG.out hzx HBk.out HO.out hgrow hown' 1; have s0 : w1.cell? ⟨w.heap.size + 1, 1, none⟩ = some v := p1.cell 1; have s1 := p1.frozen 1; have P2 := Lib.hid p2; have P3 := Lib.hid p3; have P4 := Lib.hid p4; clear p1 p2 p3 p4 hown' hgrow))
          go_roundw
          case rel => exact ⟨k + 1, _, by omega, by go_num, P2.out, P3.out, by rw [take_step Pl.deps k hlt x HX.out]; exact P4.out⟩
          case measure => simp [intOf]; omega
        · obtain rfl : k = 7 := by omega
          obtain ⟨gy, cy, rfl, by1, by2, hIy⟩ := Ints.own hown (by omega)
          have HIy := Lib.hid hIy
          have HIx2 := Lib.hid (HIx.out.grown hg (by simp; omega))
          have HB2 := Lib.hid (only_below HB'.out (Nat.le_succ _) hg)
          have HGY := Lib.hid hg
          clear hIy hown HO hg hb
          obtain ⟨WY, rfl⟩ : ∃ WY : World, WY = wr := ⟨_, rfl⟩
          obtain ⟨_, _, ⟨te, tf, h3⟩⟩ := hG.out.below HB2.out
          have hzy : w.heap.size + 1 < WY.heap.size := by omega
          have ny : gy ≠ w.heap.size + 1 := by omega
          have ny0 : gy ≠ w.heap.size := by omega
          have bx3 : gx < WY.heap.size := by omega
          clear hsz by1 bx2 hc0
          go_wp2_with (refine wpList_load_row rfl 132 _ rfl 6 rfl te _ tf _ h3 Tryd.underlying132 rfl (by kernel_rfl) ?_)
          clear h3
          go_loopw [34] (fun i wr => ∃ (k : Nat) (v : Value) (sl : List Value), k ≤ 6 ∧ i = .int .i64 k ∧ WY.grownBy wr (some (w.heap.size + 1)) ∧ Blk wr (w.heap.size + 1) 117 #[.slice (some ⟨gx, 0, none⟩) 6 cx, .slice (some ⟨gy, 0, none⟩) 7 cy, v] ∧ wr.ownsRow WY.heap.size 46 1 v k sl ∧ RowsOf wr sl k ∧ (k = 0 → v = .slice none 0 0)) (fun i _ => 6 - (intOf i).toNat)
          case atStart => exact ⟨0, _, [], by omega, rfl, World.grownBy.refl _ _, HBk.out, own_nil _ _ _ _, (fun i hi => absurd hi (Nat.not_lt_zero _)), (fun _ => rfl)⟩
          case round =>
            obtain ⟨k, v, sl, hk, rfl, hg, hb, hown, hrows, hnl⟩ := hrel
            have HNL := Lib.hid hnl
            clear hnl
            have hsz := hg.size
            by_cases hlt : k < 6
            · obtain ⟨a0, a1, a2, a3, a4, a5, a6, hrow, hid⟩ := idx_c k hlt
              have HROW := Lib.hid hrow
              have hidr := idx_r a0 a1 a2 a3 a4 a5 a6
              have HG := Lib.hid hg
              have HBv := Lib.hid hb
              have HO := Lib.hid hown
              have HR := Lib.hid hrows
              have HIDR := Lib.hid hidr
              clear hg hb hown hrows hrow hidr
              obtain ⟨WR, rfl⟩ : ∃ WR : World, WR = wr := ⟨_, rfl⟩
              go_wp2
              have hq : WR.heap.size + 1 = (WR.alloc (.cells #[.int .i64 a0, .int .i64 a1, .int .i64 a2, .int .i64 a3, .int .i64 a4, .int .i64 a5, .int .i64 a6] 131)).heap.size := by simp
              have hWRb := below_new WR (.cells #[.int .i64 a0, .int .i64 a1, .int .i64 a2, .int .i64 a3, .int .i64 a4, .int .i64 a5, .int .i64 a6] 131)
              generalize (WR.alloc (.cells #[.int .i64 a0, .int .i64 a1, .int .i64 a2, .int .i64 a3, .int .i64 a4, .int .i64 a5, .int .i64 a6] 131)) = W1 at hq hWRb
              have hq' : WR.heap.size < W1.heap.size := by omega
              have HWRb := Lib.hid hWRb
              clear hq hWRb
              go_loopw [8, 38] (fun l i w2 => ∃ j : Nat, j ≤ 7 ∧ i = .int .i64 j ∧ Below W1.heap.size W1 w2 ∧ w2.ownsRow W1.heap.size 3 1 l j (([a0, a1, a2, a3, a4, a5, a6].take j).map (Value.int .i64))) (fun _ i _ => 7 - (intOf i).toNat)
              case atStart => exact ⟨0, by omega, rfl, Below.refl _ _, own_nil _ _ _ _⟩
              case round =>
                rename_i l _
                obtain ⟨j, hj, rfl, hb2, ho2⟩ := hrel
                have hsz2 := hb2.size
                have HB2' := Lib.hid hb2
                have HO2 := Lib.hid ho2
                by_cases hjl : j < 7
                · have hir := HIDR.out j hjl
                  generalize hx : [a0, a1, a2, a3, a4, a5, a6].getD j 0 = x at hir
                  have HX := Lib.hid hx
                  clear hb2 ho2 hx
                  go_wp2_with (first
                    | (at_builtin; go_loud (refine wpList_append_own_at _ rfl _ _ 46 rfl W1.heap.size 3 i0 (.int .i64 0) 1 8 Tryd.underlying46 hi0 hz0 hz1 hz2 rfl (by decide) _ j _ rfl (HO2.out.alloc _) ⟨wr.heap.size, 0, none⟩ 1 1 [.int .i64 x] rfl rfl (cell_one_new _ _ _) (by simp [Value.oneCell']) (by simp only [maxLen]; omega) (by omega) (by simp; omega) ?_); intro v' w1 hown' hgrow _ _; obtain ⟨g', c', rfl, _, _⟩ := hown'.form (by omega); have hbb := (HB2'.out.alloc hsz2 _).grown hgrow (by simp; omega) (fun q hq => (HO2.out.lt q hq).1); have HBB := Lib.hid hbb; have HO3 := Lib.hid hown'; clear hown' hgrow hbb))
                  go_roundw
                  case rel => exact ⟨j + 1, by omega, by go_num, HBB.out, by rw [take_step [a0, a1, a2, a3, a4, a5, a6] j hjl x HX.out]; exact HO3.out⟩
                  case measure => simp [intOf]; omega
                · obtain rfl : j = 7 := by omega
                  obtain ⟨g8, c8, rfl, b8, b8', hI8⟩ := Ints.own ho2 (by omega)
                  have HI8 := Lib.hid hI8
                  have hWW := HWRb.out.trans (hb2.mono (by omega))
                  have HWW := Lib.hid hWW
                  have hbv := HBv.out.below hWW HBv.out.lt
                  have HBv2 := Lib.hid hbv
                  have c2 : wr.cell? ⟨w.heap.size + 1, 2, none⟩ = some v := hbv.cell 2
                  have HO4 := Lib.hid (HO.out.kept (only_of_below hWW none) (by cases h : v.ownBlock with | none => exact .inl rfl | some q => exact .inr (by simp)))
                  have HG4 := Lib.hid (grown_then_below HG.out hWW)
                  have HR4 := Lib.hid (HR.out.below hWW)
                  have hsz4 := HG4.out.size
                  have z1 : ∀ u ∈ [Value.slice (some ⟨g8, 0, none⟩) 7 c8], u.oneCell' = true := by intro u hu; simp at hu; subst hu; rfl
                  have z2 : k + 1 ≤ maxLen := by simp only [maxLen]; omega
                  have z3 : (k + 1) * 24 ≤ 140737488355328 := by omega
                  clear hI8 ho2 HO2 hb2 HB2' hWW hbv HIDR hid
                  go_wp2_with (first
                    | (at_builtin; go_loud (refine wpList_append_own_at _ rfl _ _ 43 rfl WY.heap.size 46 j0 (.slice none 0 0) 1 24 Tryd.underlying43 hj0 jz0 jz1 jz2 rfl (by decide) v k _ rfl (HO4.out.alloc _) ⟨wr.heap.size, 0, none⟩ 1 1 [.slice (some ⟨g8, 0, none⟩) 7 c8] rfl rfl ?c1 z1 z2 z3 ?c2 ?_); (case c1 => exact (cell_one_new _ _ _)); (case c2 => simp; omega); intro v' w1 hown' hgrow _ _; obtain ⟨g', c', rfl, _, _⟩ := hown'.form (by omega); have HP := Lib.hid (app_step HG4.out hzy HBv2.out HO4.out hgrow hown' 2); have s0 : w1.cell? ⟨w.heap.size + 1, 2, none⟩ = some v := HP.out.1.cell 2; have s1 := HP.out.1.frozen 2; have HR5 := Lib.hid (rows_step (c8 := c8) (g' := g') (c' := c') HR4.out HI8.out b8' HROW.out HBv2.out HO4.out hgrow HNL.out rfl); clear hown' hgrow))
                  go_roundw
                  case rel => exact ⟨k + 1, _, _, by omega, by go_num, HP.out.2.1, HP.out.2.2.1, HP.out.2.2.2, HR5.out, (fun h => absurd h (Nat.succ_ne_zero k))⟩
                  case measure => simp [intOf]; omega
            · obtain rfl : k = 6 := by omega
              obtain ⟨gv, cv, rfl, bv1, bv2⟩ := hown.form (by omega)
              have HR := Lib.hid hrows
              have HO := Lib.hid hown
              have k0 : wr.cell? ⟨w.heap.size + 1, 0, none⟩ = some (.slice (some ⟨gx, 0, none⟩) 6 cx) := hb.cell 0
              have k1 : wr.cell? ⟨w.heap.size + 1, 1, none⟩ = some (.slice (some ⟨gy, 0, none⟩) 7 cy) := hb.cell 1
              have k2 : wr.cell? ⟨w.heap.size + 1, 2, none⟩ = some (.slice (some ⟨gv, 0, none⟩) 6 cv) := hb.cell 2
              have r0 : Blk wr w.heap.size 117 #[.slice none 0 0, .slice none 0 0, .slice none 0 0] := (hg.block _ (by omega) (by simp)).trans ((HGY.out.block _ (by omega) (by simp)).trans ((HGX.out.block _ (by omega) (by simp)).trans HBR.out))
              have rc0 : wr.cell? ⟨w.heap.size, 0, none⟩ = some (.slice none 0 0) := r0.cell 0
              have rc1 : wr.cell? ⟨w.heap.size, 1, none⟩ = some (.slice none 0 0) := r0.cell 1
              have rc2 : wr.cell? ⟨w.heap.size, 2, none⟩ = some (.slice none 0 0) := r0.cell 2
              have rf0 := r0.frozen 0
              have rf1 := r0.frozen 1
              have rf2 := r0.frozen 2
              have R0 := Lib.hid r0
              have HIx3 := Lib.hid (HIx2.out.grown hg (by simp; omega))
              have HIy3 := Lib.hid (HIy.out.grown hg (by simp; omega))
              have HBF := Lib.hid (only_below HB2.out (Nat.le_succ _) hg)
              have gl := (hown.lt gv rfl).1
              have HRf := Lib.hid hrows
              have HOf := Lib.hid hown
              clear hg hb hown hrows r0 HO HR HNL
              go_wp2
              have hfin : Blk (((wr.setCell ⟨w.heap.size, 0, none⟩ (.slice (some ⟨gx, 0, none⟩) 6 cx)).setCell ⟨w.heap.size, 1, none⟩ (.slice (some ⟨gy, 0, none⟩) 7 cy)).setCell ⟨w.heap.size, 2, none⟩ (.slice (some ⟨gv, 0, none⟩) 6 cv)) w.heap.size 117 #[.slice (some ⟨gx, 0, none⟩) 6 cx, .slice (some ⟨gy, 0, none⟩) 7 cy, .slice (some ⟨gv, 0, none⟩) 6 cv] := by
                simpa using ((R0.out.set_ 0 (.slice (some ⟨gx, 0, none⟩) 6 cx)).set_ 1 (.slice (some ⟨gy, 0, none⟩) 7 cy)).set_ 2 (.slice (some ⟨gv, 0, none⟩) 6 cv)
              refine bodyPost_ret (results_cell_row Tryd.results80 _ _ w.heap.size 117 _ (0, 0) _ rfl hfin Tryd.underlying117 rfl (by kernel_rfl)) rfl ⟨gx, cx, gy, cy, gv, cv, rfl, ?_, ?_, ?_, ((HBF.out.setCell (Nat.le_refl _) _).setCell (Nat.le_refl _) _).setCell (Nat.le_refl _) _⟩
              · exact ((HIx3.out.far nx0 _).far nx0 _).far nx0 _
              · exact ((HIy3.out.far ny0 _).far ny0 _).far ny0 _
              · refine fun i hi => ?_
                obtain ⟨g, c, h1, h2, h3, h4⟩ := HRf.out i hi
                have ng : g ≠ w.heap.size := by
                  rintro rfl
                  rw [R0.out.cell 0] at h4
                  simp at h4
                have hv := HOf.out.cellAt i (by have : Pl.conts.length = 6 := rfl; omega)
                rw [h1] at hv
                have e7 : (Pl.conts.getD i []).length = 7 := by
                  match i, hi with
                  | 0, _ | 1, _ | 2, _ | 3, _ | 4, _ | 5, _ => rfl
                rw [e7]
                have nv : gv ≠ w.heap.size := by omega
                have nv0 : (⟨w.heap.size, 2, none⟩ : Addr) ≠ ⟨gv, i, none⟩ := fun e => nv (by injection e with e1; exact e1.symm)
                have nv1 : (⟨w.heap.size, 1, none⟩ : Addr) ≠ ⟨gv, i, none⟩ := fun e => nv (by injection e with e1; exact e1.symm)
                have nv2 : (⟨w.heap.size, 0, none⟩ : Addr) ≠ ⟨gv, i, none⟩ := fun e => nv (by injection e with e1; exact e1.symm)
                exact ⟨g, c, by rw [World.cell?_setCell_other _ _ _ _ nv0, World.cell?_setCell_other _ _ _ _ nv1, World.cell?_setCell_other _ _ _ _ nv2]; exact hv, ((h3.far ng _).far ng _).far ng _⟩

set_option maxRecDepth 100000 in
theorem table_ok (w : World) (hG : Glob w) : Calls Tryd.prog 80 #[] w fun e w' => ∃ gx cx gy cy gv cv, e = .returned (.agg #[.slice (some ⟨gx, 0, none⟩) 6 cx, .slice (some ⟨gy, 0, none⟩) 7 cy, .slice (some ⟨gv, 0, none⟩) 6 cv]) ∧
      Ints w' gx Pl.temps ∧ Ints w' gy Pl.deps ∧ Rows w' gv Pl.conts ∧ Below w.heap.size w w' := table_any w (Lib.hid hG)

end Go.Proofs.YtkedpokbbogkmaaDoor
