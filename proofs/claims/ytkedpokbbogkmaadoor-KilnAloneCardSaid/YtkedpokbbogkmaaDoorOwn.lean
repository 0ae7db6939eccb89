/-
  The blocks that a function owns, and steps of a region that leave the world a letter.
-/
import Derived.Test.YtkedpokbbogkmaaDoorMem
import Derived.Test.YtkedpokbbogkmaaDoorWLast
import Derived.Great.Walk
namespace Go.Proofs.YtkedpokbbogkmaaDoor
open Go.RowKit Go.Proofs.YtkedpokbbogkmaaDoorW.PrintLast

structure Own (w0 : World) (L : List (Nat × TypeId × Array Value)) (w : World) : Prop where
  blk : ∀ x ∈ L, Blk w x.1 x.2.1 x.2.2
  dif : (L.map (·.1)).Nodup
  low : ∀ x ∈ L, w0.heap.size ≤ x.1
  bel : Below w0.heap.size w0 w

theorem Own.nil (w : World) : Own w [] w := ⟨fun _ h => (by cases h), List.nodup_nil, fun _ h => (by cases h), Below.refl _ _⟩
theorem Own.new {w0 w : World} {L} (h : Own w0 L w) (t : TypeId) (cs : Array Value) : Own w0 ((w.heap.size, t, cs) :: L) (w.alloc (.cells cs t)) where
  blk x hx := by
    rcases List.mem_cons.1 hx with rfl | hx
    · exact Blk.new _ _ _
    · exact (h.blk x hx).alloc _
  dif := by
    refine List.nodup_cons.2 ⟨fun hm => ?_, h.dif⟩
    obtain ⟨x, hx, he⟩ := List.mem_map.1 hm
    have := (h.blk x hx).lt
    simp only at he
    omega
  low x hx := by
    rcases List.mem_cons.1 hx with rfl | hx
    · exact h.bel.size
    · exact h.low x hx
  bel := h.bel.alloc h.bel.size _
theorem Own.call {w0 w w' : World} {L} (h : Own w0 L w) (hb : Below w.heap.size w w') : Own w0 L w' :=
  ⟨fun x hx => (h.blk x hx).below hb (h.blk x hx).lt, h.dif, h.low, h.bel.trans (hb.mono h.bel.size)⟩
theorem Own.drew {w0 w : World} {L} (h : Own w0 L w) : Own w0 L w.drew := ⟨fun x hx => (h.blk x hx).drew, h.dif, h.low, h.bel.drew⟩
theorem Own.at {w0 w : World} {L} (h : Own w0 L w) (i : Nat) {g : Nat} {t : TypeId} {cs : Array Value} (hi : L[i]? = some (g, t, cs)) : Blk w g t cs := h.blk (g, t, cs) (List.mem_of_getElem? hi)
theorem Own.upd {w0 w w' : World} {L} (h : Own w0 L w) (i : Nat) {g : Nat} {t : TypeId} {cs cs' : Array Value} (hi : L[i]? = some (g, t, cs)) (hb : Blk w' g t cs') (hg : w.grownBy w' (some g)) : Own w0 (L.set i (g, t, cs')) w' := by
  have hil : i < L.length := (List.getElem?_eq_some_iff.1 hi).1
  have hm : (L.set i (g, t, cs')).map (·.1) = L.map (·.1) := by
    rw [List.map_set]
    apply List.ext_getElem?
    intro j
    by_cases hj : i = j
    · subst hj
      rw [List.getElem?_set_self (by simpa using hil), List.getElem?_map, hi]; rfl
    · rw [List.getElem?_set_ne hj]
  refine ⟨fun x hx => ?_, by rw [hm]; exact h.dif, fun x hx => ?_, below_grown h.bel h.bel.size (h.low (g, t, cs) (List.mem_of_getElem? hi)) hg⟩
  · obtain ⟨j, hj⟩ := List.mem_iff_getElem?.1 hx
    by_cases hij : i = j
    · subst hij
      rw [List.getElem?_set_self hil] at hj
      cases hj
      exact hb
    · rw [List.getElem?_set_ne hij] at hj
      have hxm := List.mem_of_getElem? hj
      refine (h.blk x hxm).grown hg (fun he => ?_)
      have hjl : j < L.length := (List.getElem?_eq_some_iff.1 hj).1
      apply hij
      have hn := h.dif
      have e1 : (L.map (·.1))[i]'(by simpa using hil) = g := by simp [(List.getElem?_eq_some_iff.1 hi).2]
      have e2 : (L.map (·.1))[j]'(by simpa using hjl) = g := by simp [(List.getElem?_eq_some_iff.1 hj).2]; simpa using he
      rcases Nat.lt_trichotomy i j with hlt | he | hlt
      · exact absurd (e1.trans e2.symm) (List.pairwise_iff_getElem.1 hn i j (by simpa using hil) (by simpa using hjl) hlt)
      · exact he
      · exact absurd (e2.trans e1.symm) (List.pairwise_iff_getElem.1 hn j i (by simpa using hjl) (by simpa using hil) hlt)
  · have : x.1 ∈ L.map (·.1) := by rw [← hm]; exact List.mem_map_of_mem hx
    obtain ⟨y, hy, he⟩ := List.mem_map.1 this
    rw [← he]; exact h.low y hy
theorem size_setCells (g : Nat) (vs : List Value) : ∀ (w : World) (o : Nat), (w.setCells g o vs).heap.size = w.heap.size := by
  induction vs with
  | nil => intros; rfl
  | cons v vs ih => intro w o; exact (ih _ _).trans (by simp [World.setCell])
theorem Own.put {w0 w : World} {L} (h : Own w0 L w) (i : Nat) {g : Nat} {t : TypeId} {cs : Array Value} (hi : L[i]? = some (g, t, cs)) (o : Nat) (vs : List Value) : Own w0 (L.set i (g, t, putAllA cs o vs)) (w.setCells g o vs) :=
  h.upd i hi ((h.at i hi).putAll vs o) (grown_setCells g vs w o)
theorem Own.rangeAt {w0 w : World} {L} (h : Own w0 L w) (i : Nat) {g : Nat} {t : TypeId} {cs : Array Value} (hi : L[i]? = some (g, t, cs)) (o : Nat) (vs : List Value) (hv : (cs.extract o (o + vs.length)).toList = vs) : w.rangeAt g o vs := by
  have := World.rangeAt_of_block (h.at i hi) o vs.length
  rw [hv] at this
  exact this
section
variable {P : Program}
theorem run_storeVar_any (w : World) (b o : Nat) (ty : TypeId) (v : Value) (ht : w.there b o v.cells.size) (hi : (P.info? ty).map (·.size) = some v.cells.size) (h1 : v.cells.all (·.oneCell') = true) :
    (storeVar ty ⟨b, o, none⟩ v).run P w = .ok () (w.setCells b o v.cells.toList) := by
  have := run_storeCells_cells (P := P) b o v.cells.toList 0 w (fun j hj => by simpa using (ht j (by simpa using hj)).1) (fun j hj => by simpa using (ht j (by simpa using hj)).2)
    (fun u hu => (Array.all_eq_true_iff_forall_mem.1 h1) u (by simpa using hu))
  cases hq : P.info? ty with
  | none => simp [hq] at hi
  | some i =>
    have hs : v.cells.size = i.size := by simp [hq] at hi; omega
    simp only [Nat.add_zero] at this
    simp [storeVar, sizeOf, typeInfo, hq, hs, this]
theorem run_store_any {oi : Oper} {a : Act} {w : World} (ty : TypeId) (x y : Operand) (ho : oi.op = .store ty x y) (b o : Nat) (v : Value) (hx : a.eval x = .pointer (some ⟨b, o, none⟩)) (hy : a.eval y = v)
    (ht : w.there b o v.cells.size) (hi : (P.info? ty).map (·.size) = some v.cells.size) (h1 : v.cells.all (·.oneCell') = true) :
    (execOp a.eval oi).run P w = .ok .skip (w.setCells b o v.cells.toList) := by
  unfold execOp
  simp only [ho, hx, hy, Instr.storeAt, Instr.sureAddr, Sem.run_bind, Sem.run_pure, Result.andThen_ok, run_storeVar_any w b o ty v ht hi h1]
def zeroOf (P : Program) (t : TypeId) : Option (Array Value) := match P.info? t with
  | some i => match i.zero with
    | some z => some z.cells
    | none => none
  | none => none
theorem run_alloc_any {oi : Oper} {a : Act} {w : World} (t : TypeId) (ho : oi.op = .alloc t) (cs : Array Value) (hz : zeroOf P t = some cs) :
    (execOp a.eval oi).run P w = .ok (.value (.pointer (some ⟨w.heap.size, 0, none⟩))) (w.alloc (.cells cs t)) := by
  unfold zeroOf at hz
  cases hq : P.info? t with
  | none => simp [hq] at hz
  | some i =>
    cases hz' : i.zero with
    | none => simp [hq, hz'] at hz
    | some z =>
      simp [hq, hz'] at hz
      unfold execOp
      simp [ho, Instr.alloc, zeroValue, typeInfo, newVar, newRow, newObj, hq, hz', hz]
      rfl
theorem run_box_any {oi : Oper} {a : Act} {w : World} (t : TypeId) (x : Operand) (ho : oi.op = .box t x) (v : Value) (hx : a.eval x = v) :
    (execOp a.eval oi).run P w = .ok (.value (.pointer (some ⟨w.heap.size, 0, none⟩))) (w.alloc (.cells v.cells t)) := by
  unfold execOp
  simp [ho, hx, Instr.box, newVar, newRow, newObj]
  rfl
theorem run_load_one {oi : Oper} {a : Act} {w : World} (ty : TypeId) (x : Operand) (ho : oi.op = .load ty x) (b o : Nat) (hx : a.eval x = .pointer (some ⟨b, o, none⟩)) (v : Value) (hv : w.cell? ⟨b, o, none⟩ = some v)
    (d : TypeDesc) (hu : P.underlying ty = some d) (hd : d.isRow = false) : (execOp a.eval oi).run P w = .ok (.value v) w := by
  unfold execOp
  cases d <;> simp_all [Instr.loadAt, Instr.sureAddr, loadVar, isAgg, underlying, TypeDesc.isRow]
theorem run_load_row {oi : Oper} {a : Act} {w : World} (ty : TypeId) (x : Operand) (ho : oi.op = .load ty x) (b o : Nat) (hx : a.eval x = .pointer (some ⟨b, o, none⟩)) (vs : List Value) (hr : w.rangeAt b o vs)
    (d : TypeDesc) (hu : P.underlying ty = some d) (hd : d.isRow = true) (hi : (P.info? ty).map (·.size) = some vs.length) : (execOp a.eval oi).run P w = .ok (.value (.agg vs.toArray)) w := by
  unfold execOp
  simp only [ho, hx, Instr.loadAt, Instr.sureAddr, Sem.run_bind, Sem.run_pure, Result.andThen_ok, run_loadVar_mid w b o ty vs d hr hu hd hi]
theorem Own.sub {w0 w : World} {L L'} (h : Own w0 L w) (hs : L'.Sublist L) : Own w0 L' w :=
  ⟨fun x hx => h.blk x (hs.subset hx), List.Nodup.sublist (hs.map _) h.dif, fun x hx => h.low x (hs.subset hx), h.bel⟩
theorem Own.swap {w0 w : World} {x y} {L} (h : Own w0 (x :: y :: L) w) : Own w0 (y :: x :: L) w := by
  refine ⟨fun z hz => h.blk z (by simp only [List.mem_cons] at *; rcases hz with h | h | h <;> simp [h]), ?_, fun z hz => h.low z (by simp only [List.mem_cons] at *; rcases hz with h | h | h <;> simp [h]), h.bel⟩
  have := h.dif
  simp only [List.map_cons, List.nodup_cons, List.mem_cons, not_or] at this ⊢
  exact ⟨⟨fun he => this.1.1 he.symm, this.2.1⟩, this.1.2, this.2.2⟩
theorem Own.there {w0 w : World} {L} (h : Own w0 L w) (i : Nat) {g : Nat} {t : TypeId} {cs : Array Value} (hi : L[i]? = some (g, t, cs)) (o n : Nat) (hn : (o + n).ble cs.size = true) : w.there g o n := fun j hj => by
  have hn := Nat.le_of_ble_eq_true hn
  have hb := h.at i hi
  exact ⟨by rw [hb.cell (o + j), Array.getElem?_eq_getElem (by omega)]; rfl, hb.frozen _⟩
/-! ### Arms at a plain region's list -/
theorem wpList_run_w {ops : Array Oper} {rest : List Oper} {o : Oper} {a : Act} {w : World} {Q : Exit → Act → World → Prop} (hw : Region.wanted o (yielded ops a.tmps) = true) (dst : Option Tmp) (hdst : o.dst = dst)
    (v : Value) (w' : World) (hrun : (execOp a.eval o).run P w = .ok (.value v) w') (h : wpList P ops Q rest (a.put dst v) w') : wpList P ops Q (o :: rest) a w := by
  subst hdst
  refine wpList_step fun K hK => ?_
  rw [if_pos hw]
  unfold Oper.wp
  rw [hrun, Oper.upon_value]
  exact hK _ _ h
theorem own_alloc {ops : Array Oper} {rest : List Oper} {o : Oper} {a : Act} {w : World} {Q : Exit → Act → World → Prop} (hw : Region.wanted o (yielded ops a.tmps) = true) (t : TypeId) (ho : o.op = .alloc t) {w0 : World} {L} (H : Own w0 L w)
    (dst : Option Tmp) (hd : o.dst = dst) (cs : Array Value) (hz : zeroOf P t = some cs)
    (h : ∀ g w', Own w0 ((g, t, cs) :: L) w' → wpList P ops Q rest (a.put dst (.pointer (some ⟨g, 0, none⟩))) w') : wpList P ops Q (o :: rest) a w :=
  wpList_run_w hw dst hd _ _ (run_alloc_any t ho cs hz) (h _ _ (H.new t cs))
theorem own_box {ops : Array Oper} {rest : List Oper} {o : Oper} {a : Act} {w : World} {Q : Exit → Act → World → Prop} (hw : Region.wanted o (yielded ops a.tmps) = true) (t : TypeId) (x : Operand) (ho : o.op = .box t x) {w0 : World} {L} (H : Own w0 L w)
    (dst : Option Tmp) (hd : o.dst = dst) (v : Value) (hx : a.eval x = v)
    (h : ∀ g w', Own w0 ((g, t, v.cells) :: L) w' → wpList P ops Q rest (a.put dst (.pointer (some ⟨g, 0, none⟩))) w') : wpList P ops Q (o :: rest) a w :=
  wpList_run_w hw dst hd _ _ (run_box_any t x ho v hx) (h _ _ (H.new t v.cells))
theorem own_store {ops : Array Oper} {rest : List Oper} {o : Oper} {a : Act} {w : World} {Q : Exit → Act → World → Prop} (hw : Region.wanted o (yielded ops a.tmps) = true) (ty : TypeId) (x y : Operand) (ho : o.op = .store ty x y) {w0 : World} {L} (H : Own w0 L w)
    (i g k : Nat) (v : Value) (hx : a.eval x = .pointer (some ⟨g, k, none⟩)) (hy : a.eval y = v) (t : TypeId) (cs : Array Value) (hi : L[i]? = some (g, t, cs)) (dst : Option Tmp) (hd : o.dst = dst)
    (hs : (k + v.cells.size).ble cs.size = true) (hs' : (P.info? ty).map (·.size) = some v.cells.size) (h1 : v.cells.all (·.oneCell') = true)
    (h : ∀ w', Own w0 (L.set i (g, t, putAllA cs k v.cells.toList)) w' → wpList P ops Q rest (a.put dst undef) w') : wpList P ops Q (o :: rest) a w := by
  subst hd
  refine wpList_step fun K hK => ?_
  rw [if_pos hw]
  unfold Oper.wp
  rw [run_store_any ty x y ho g k v hx hy (H.there i hi k _ hs) hs' h1]
  exact hK _ _ (h _ (H.put i hi k _))
theorem own_load_row {ops : Array Oper} {rest : List Oper} {o : Oper} {a : Act} {w : World} {Q : Exit → Act → World → Prop} (hw : Region.wanted o (yielded ops a.tmps) = true) (ty : TypeId) (x : Operand) (ho : o.op = .load ty x) {w0 : World} {L} (H : Own w0 L w)
    (i g k : Nat) (hx : a.eval x = .pointer (some ⟨g, k, none⟩)) (t : TypeId) (cs : Array Value) (hi : L[i]? = some (g, t, cs)) (dst : Option Tmp) (hd : o.dst = dst) (n : Nat) (vs : List Value)
    (hv : (cs.extract k (k + n)).toList = vs) (hn : vs.length = n) (d : TypeDesc) (hu : P.underlying ty = some d) (hr : d.isRow = true) (hs : (P.info? ty).map (·.size) = some vs.length)
    (h : wpList P ops Q rest (a.put dst (.agg vs.toArray)) w) : wpList P ops Q (o :: rest) a w := by
  subst hn
  exact wpList_run_w hw dst hd _ _ (run_load_row ty x ho g k hx vs (H.rangeAt i hi k vs hv) d hu hr hs) h
theorem own_load_one {ops : Array Oper} {rest : List Oper} {o : Oper} {a : Act} {w : World} {Q : Exit → Act → World → Prop} (hw : Region.wanted o (yielded ops a.tmps) = true) (ty : TypeId) (x : Operand) (ho : o.op = .load ty x) {w0 : World} {L} (H : Own w0 L w)
    (i g k : Nat) (hx : a.eval x = .pointer (some ⟨g, k, none⟩)) (t : TypeId) (cs : Array Value) (hi : L[i]? = some (g, t, cs)) (dst : Option Tmp) (hd : o.dst = dst) (v : Value)
    (hv : cs[k]? = some v) (d : TypeDesc) (hu : P.underlying ty = some d) (hr : d.isRow = false)
    (h : wpList P ops Q rest (a.put dst v) w) : wpList P ops Q (o :: rest) a w :=
  wpList_run_w hw dst hd _ _ (run_load_one ty x ho g k hx v (((H.at i hi).cell k).trans hv) d hu hr) h
/-! ### The same in a region that draws its order -/
theorem rAlloc {Q : Exit → Act → World → Prop} {ops : Array Oper} {oi : Oper} {N : Option Tmp} {a : Act} {w : World} {K : Act → World → Prop} (hw : Region.wanted oi (yielded ops a.tmps) = true) (hN : oi.dst = N) (t : TypeId) (ho : oi.op = .alloc t) {w0 : World} {L} (H : Own w0 L w)
    (cs : Array Value) (hz : zeroOf P t = some cs) (h : ∀ g w', Own w0 ((g, t, cs) :: L) w' → K (a.put N (.pointer (some ⟨g, 0, none⟩))) w') :
    if Region.wanted oi (yielded ops a.tmps) = true then Oper.wp P oi a w K Q else K (a.put N undef) w :=
  value_ hw hN (run_alloc_any t ho cs hz) (h _ _ (H.new t cs))
theorem rStore {Q : Exit → Act → World → Prop} {ops : Array Oper} {oi : Oper} {a : Act} {w : World} {K : Act → World → Prop} (hw : Region.wanted oi (yielded ops a.tmps) = true) (hN : oi.dst = none) (ty : TypeId) (x y : Operand) (ho : oi.op = .store ty x y) {w0 : World} {L} (H : Own w0 L w)
    (i g k : Nat) (v : Value) (hx : a.eval x = .pointer (some ⟨g, k, none⟩)) (hy : a.eval y = v) (t : TypeId) (cs : Array Value) (hi : L[i]? = some (g, t, cs))
    (hs : (k + v.cells.size).ble cs.size = true) (hs' : (P.info? ty).map (·.size) = some v.cells.size) (h1 : v.cells.all (·.oneCell') = true)
    (h : ∀ w', Own w0 (L.set i (g, t, putAllA cs k v.cells.toList)) w' → K a w') :
    if Region.wanted oi (yielded ops a.tmps) = true then Oper.wp P oi a w K Q else K (a.put none undef) w :=
  skip_ hw hN (run_store_any ty x y ho g k v hx hy (H.there i hi k _ hs) hs' h1) (h _ (H.put i hi k _))
theorem yRow {ops : Array Oper} {oi : Oper} {a : Act} {w0 : World} {L} {w1 : World} (_h : Own w0 L w1) (hw : Region.wanted oi (yielded ops a.tmps) = true) (ty : TypeId) (x : Operand) (ho : oi.op = .load ty x)
    (i g k : Nat) (hx : a.eval x = .pointer (some ⟨g, k, none⟩)) (t : TypeId) (cs : Array Value) (hi : L[i]? = some (g, t, cs)) (n : Nat) (vs : List Value)
    (hv : (cs.extract k (k + n)).toList = vs) (hn : vs.length = n) (d : TypeDesc) (hu : P.underlying ty = some d) (hr : d.isRow = true) (hs : (P.info? ty).map (·.size) = some vs.length) : YieldsIf P ops (fun w' => Own w0 L w') oi (.agg vs.toArray) a := by
  subst hn
  exact .inl ⟨hw, fun w hS => run_load_row ty x ho g k hx vs ((show Own w0 L w from hS).rangeAt i hi k vs hv) d hu hr hs⟩
theorem yOne {ops : Array Oper} {oi : Oper} {a : Act} {w0 : World} {L} {w1 : World} (_h : Own w0 L w1) (hw : Region.wanted oi (yielded ops a.tmps) = true) (ty : TypeId) (x : Operand) (ho : oi.op = .load ty x)
    (i g k : Nat) (hx : a.eval x = .pointer (some ⟨g, k, none⟩)) (t : TypeId) (cs : Array Value) (hi : L[i]? = some (g, t, cs)) (v : Value) (hv : cs[k]? = some v) (d : TypeDesc) (hu : P.underlying ty = some d) (hr : d.isRow = false) :
    YieldsIf P ops (fun w' => Own w0 L w') oi v a := .inl ⟨hw, fun w hS => run_load_one ty x ho g k hx v ((((show Own w0 L w from hS).at i hi).cell k).trans hv) d hu hr⟩
theorem blk_load_row {ops : Array Oper} {rest : List Oper} {o : Oper} {a : Act} {w : World} {Q : Exit → Act → World → Prop} (hw : Region.wanted o (yielded ops a.tmps) = true) (ty : TypeId) (x : Operand) (ho : o.op = .load ty x) {g : Nat} {t : TypeId} {cs : Array Value} (H : Blk w g t cs)
    (k : Nat) (hx : a.eval x = .pointer (some ⟨g, k, none⟩)) (dst : Option Tmp) (hd : o.dst = dst) (n : Nat) (vs : List Value)
    (hv : (cs.extract k (k + n)).toList = vs) (hn : vs.length = n) (d : TypeDesc) (hu : P.underlying ty = some d) (hr : d.isRow = true) (hs : (P.info? ty).map (·.size) = some vs.length)
    (h : wpList P ops Q rest (a.put dst (.agg vs.toArray)) w) : wpList P ops Q (o :: rest) a w := by
  subst hn
  have hra := World.rangeAt_of_block H k vs.length
  rw [hv] at hra
  exact wpList_run_w hw dst hd _ _ (run_load_row ty x ho g k hx vs hra d hu hr hs) h
theorem blk_load_one {ops : Array Oper} {rest : List Oper} {o : Oper} {a : Act} {w : World} {Q : Exit → Act → World → Prop} (hw : Region.wanted o (yielded ops a.tmps) = true) (ty : TypeId) (x : Operand) (ho : o.op = .load ty x) {g : Nat} {t : TypeId} {cs : Array Value} (H : Blk w g t cs)
    (k : Nat) (hx : a.eval x = .pointer (some ⟨g, k, none⟩)) (dst : Option Tmp) (hd : o.dst = dst) (v : Value)
    (hv : cs[k]? = some v) (d : TypeDesc) (hu : P.underlying ty = some d) (hr : d.isRow = false)
    (h : wpList P ops Q rest (a.put dst v) w) : wpList P ops Q (o :: rest) a w :=
  wpList_run_w hw dst hd _ _ (run_load_one ty x ho g k hx v ((H.cell k).trans hv) d hu hr) h
theorem ysRow {ops : Array Oper} {oi : Oper} {a : Act} {w0 : World} {L} {w1 : World} (_h : Own w0 L w1) {g : Nat} {t : TypeId} {cs : Array Value} (HS : Blk w0 g t cs) (hw : Region.wanted oi (yielded ops a.tmps) = true) (ty : TypeId) (x : Operand) (ho : oi.op = .load ty x)
    (k : Nat) (hx : a.eval x = .pointer (some ⟨g, k, none⟩)) (n : Nat) (vs : List Value)
    (hv : (cs.extract k (k + n)).toList = vs) (hn : vs.length = n) (d : TypeDesc) (hu : P.underlying ty = some d) (hr : d.isRow = true) (hs : (P.info? ty).map (·.size) = some vs.length) : YieldsIf P ops (fun w' => Own w0 L w') oi (.agg vs.toArray) a := by
  subst hn
  refine .inl ⟨hw, fun w hS => run_load_row ty x ho g k hx vs ?_ d hu hr hs⟩
  have hra := World.rangeAt_of_block (HS.below (show Own w0 L w from hS).bel HS.lt) k vs.length
  rw [hv] at hra
  exact hra
theorem ysOne {ops : Array Oper} {oi : Oper} {a : Act} {w0 : World} {L} {w1 : World} (_h : Own w0 L w1) {g : Nat} {t : TypeId} {cs : Array Value} (HS : Blk w0 g t cs) (hw : Region.wanted oi (yielded ops a.tmps) = true) (ty : TypeId) (x : Operand) (ho : oi.op = .load ty x)
    (k : Nat) (hx : a.eval x = .pointer (some ⟨g, k, none⟩)) (v : Value) (hv : cs[k]? = some v) (d : TypeDesc) (hu : P.underlying ty = some d) (hr : d.isRow = false) :
    YieldsIf P ops (fun w' => Own w0 L w') oi v a := .inl ⟨hw, fun w hS => run_load_one ty x ho g k hx v (((HS.below (show Own w0 L w from hS).bel HS.lt).cell k).trans hv) d hu hr⟩
theorem rBox {Q : Exit → Act → World → Prop} {ops : Array Oper} {oi : Oper} {N : Option Tmp} {a : Act} {w : World} {K : Act → World → Prop} (hw : Region.wanted oi (yielded ops a.tmps) = true) (hN : oi.dst = N) (t : TypeId) (x : Operand) (ho : oi.op = .box t x) {w0 : World} {L} (H : Own w0 L w)
    (v : Value) (hx : a.eval x = v) (h : ∀ g w', Own w0 ((g, t, v.cells) :: L) w' → K (a.put N (.pointer (some ⟨g, 0, none⟩))) w') :
    if Region.wanted oi (yielded ops a.tmps) = true then Oper.wp P oi a w K Q else K (a.put N undef) w :=
  value_ hw hN (run_box_any t x ho v hx) (h _ _ (H.new t v.cells))
theorem gate_load {ops : Array Oper} {rest : List Oper} {o : Oper} {a : Act} {w : World} {Q : Exit → Act → World → Prop} (ty : TypeId) {x : Operand} (_ : o.op = .load ty x) (h : wpList P ops Q (o :: rest) a w) : wpList P ops Q (o :: rest) a w := h
theorem gate_alloc {ops : Array Oper} {rest : List Oper} {o : Oper} {a : Act} {w : World} {Q : Exit → Act → World → Prop} (ty : TypeId) (_ : o.op = .alloc ty) (h : wpList P ops Q (o :: rest) a w) : wpList P ops Q (o :: rest) a w := h
theorem gate_box {ops : Array Oper} {rest : List Oper} {o : Oper} {a : Act} {w : World} {Q : Exit → Act → World → Prop} (ty : TypeId) {x : Operand} (_ : o.op = .box ty x) (h : wpList P ops Q (o :: rest) a w) : wpList P ops Q (o :: rest) a w := h
theorem gate_store {ops : Array Oper} {rest : List Oper} {o : Oper} {a : Act} {w : World} {Q : Exit → Act → World → Prop} (ty : TypeId) {x y : Operand} (_ : o.op = .store ty x y) (h : wpList P ops Q (o :: rest) a w) : wpList P ops Q (o :: rest) a w := h
end
end Go.Proofs.YtkedpokbbogkmaaDoor
