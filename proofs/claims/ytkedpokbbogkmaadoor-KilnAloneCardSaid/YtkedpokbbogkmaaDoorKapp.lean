/-
  A slice that a loop appends to, beside owned blocks; regions that build one element and append it.
-/
import Derived.Test.YtkedpokbbogkmaaDoorKreps
import Derived.Test.YtkedpokbbogkmaaDoorWLast
import Derived.Great.BuildSlice
namespace Go.Proofs.YtkedpokbbogkmaaDoor
open Go.RowKit Go.Proofs.YtkedpokbbogkmaaDoorW.PrintLast

structure Acc (w0 : World) (L : List (Nat × TypeId × Array Value)) (e : TypeId) (sz : Nat) (v : Value) (n : Nat) (xs : List Value) (w : World) : Prop where
  own : Own w0 L w
  row : w.ownsRow w0.heap.size e sz v n xs
  ne : ∀ x ∈ L, v.ownBlock ≠ some x.1
theorem ownsRow_drew {w : World} {base : Nat} {e : TypeId} {sz n : Nat} {v : Value} {xs : List Value} (h : w.ownsRow base e sz v n xs) : w.drew.ownsRow base e sz v n xs := h
theorem Acc.drew {w0 w : World} {L e sz v n xs} (h : Acc w0 L e sz v n xs w) : Acc w0 L e sz v n xs w.drew := ⟨h.own.drew, ownsRow_drew h.row, h.ne⟩
theorem Acc.start {w0 w : World} {L} (h : Own w0 L w) (e : TypeId) (sz : Nat) : Acc w0 L e sz (.slice none 0 0) 0 [] w := ⟨h, World.ownsRow_nil w _ e sz, fun _ _ => by simp [Value.ownBlock]⟩
theorem Acc.new {w0 w : World} {L e sz v n xs} (h : Acc w0 L e sz v n xs w) (t : TypeId) (cs : Array Value) : Acc w0 ((w.heap.size, t, cs) :: L) e sz v n xs (w.alloc (.cells cs t)) where
  own := h.own.new t cs
  row := h.row.alloc _
  ne x hx := by
    rcases List.mem_cons.1 hx with rfl | hx
    · intro hv
      have := (h.row.lt _ hv).2
      simp at this
    · exact h.ne x hx
theorem Acc.sub {w0 w : World} {L L' e sz v n xs} (h : Acc w0 L e sz v n xs w) (hs : L'.Sublist L) : Acc w0 L' e sz v n xs w := ⟨h.own.sub hs, h.row, fun x hx => h.ne x (hs.subset hx)⟩
/-- Appending what lies in the first block. -/
theorem Acc.app {P : Program} {w0 w : World} {L e sz v n xs} {gb : Nat} {news : List Value} (h : Acc w0 ((gb, e, news.toArray) :: L) e sz v n xs w) (t ty : TypeId) (i : TypeInfo) (z : Value) (bytes m c : Nat) (ht : P.underlying t = some (.slice e)) (hi : P.info? e = some i) (hz : i.zero = some z)
    (hsize : i.size = sz) (hby : i.bytes = bytes) (hzs : z.cells.size = sz) (hsz : 0 < sz) (hl : news.length = m * sz) (h1 : ∀ u ∈ news, u.oneCell' = true) (h63 : n + m ≤ maxLen) (hbytes : (n + m) * bytes ≤ 140737488355328) :
    ∃ v' w', (Builtin.append_ #[t, t] ty #[v, .slice (some ⟨gb, 0, none⟩) m c]).run P w = .ok v' w' ∧ Acc w0 ((gb, e, news.toArray) :: L) e sz v' (n + m) (xs ++ news) w' := by
  have hb : Blk w gb e news.toArray := h.own.at 0 rfl
  obtain ⟨v', w', hr, hown, hg, _, hat⟩ := run_append_own_at (P := P) (w := w) w0.heap.size t ty e i z sz bytes ht hi hz hsize hby hzs hsz v n xs h.row ⟨gb, 0, none⟩ m c news hl (fun j u hj => by
    rw [show (⟨gb, 0, none⟩ : Addr).add j = ⟨gb, j, none⟩ by cases j <;> simp [Addr.add]]
    have := hb.cell j
    rw [List.getElem?_toArray, hj] at this
    exact this) h1 h63 hbytes h.own.bel.size
  refine ⟨v', w', hr, ⟨⟨fun x hx => ?_, h.own.dif, h.own.low, h.own.bel.grown hg h.own.bel.size (fun k hk => (h.row.lt k hk).1)⟩, hown, fun x hx hv => ?_⟩⟩
  · exact (hg.block x.1 (h.own.blk x hx).lt (fun e => h.ne x hx e.symm)).trans (h.own.blk x hx)
  · rcases hat with q | q
    · rw [q] at hv
      exact h.ne x hx hv
    · rw [q] at hv
      injection hv with hv
      have := (h.own.blk x hx).lt
      omega
theorem Acc.blk {w0 w : World} {L e sz v n xs} (h : Acc w0 L e sz v n xs w) (hn : 0 < n) : ∃ g c pad, v = .slice (some ⟨g, 0, none⟩) n c ∧ Own w0 ((g, e, (xs ++ pad).toArray) :: L) w := by
  obtain ⟨g, c, pad, rfl, _, _, hg, hb⟩ := row_blk h.row hn
  refine ⟨g, c, pad, rfl, ⟨fun x hx => ?_, ?_, fun x hx => ?_, h.own.bel⟩⟩
  · rcases List.mem_cons.1 hx with rfl | hx
    · exact hb
    · exact h.own.blk x hx
  · simp only [List.map_cons, List.nodup_cons]
    refine ⟨fun hm => ?_, h.own.dif⟩
    obtain ⟨x, hx, he⟩ := List.mem_map.1 hm
    exact h.ne x hx (by simp [Value.ownBlock, he])
  · rcases List.mem_cons.1 hx with rfl | hx
    · exact hg
    · exact h.own.low x hx
section
variable {P : Program}
theorem rApp {Q : Exit → Act → World → Prop} {ops : Array Oper} {oi : Oper} {N : Option Tmp} {a : Act} {w : World} {K : Act → World → Prop} (hw : Region.wanted oi (yielded ops a.tmps) = true) (hN : oi.dst = N) (s x : Operand) (t : TypeId)
    (ho : oi.op = .call { callee := .builtin .append, args := #[s, x], argTypes := #[t, t] }) {w0 : World} {L e sz v n xs} {gb : Nat} {news : List Value} (h : Acc w0 ((gb, e, news.toArray) :: L) e sz v n xs w) (m c : Nat) (hs : a.eval s = v) (hx : a.eval x = .slice (some ⟨gb, 0, none⟩) m c)
    (i : TypeInfo) (z : Value) (bytes : Nat) (ht : P.underlying t = some (.slice e)) (hi : P.info? e = some i) (hz : i.zero = some z)
    (hsize : i.size = sz) (hby : i.bytes = bytes) (hzs : z.cells.size = sz) (hsz : 0 < sz) (hl : news.length = m * sz) (h1 : ∀ u ∈ news, u.oneCell' = true) (h63 : n + m ≤ maxLen) (hbytes : (n + m) * bytes ≤ 140737488355328)
    (hk : ∀ v' w', Acc w0 ((gb, e, news.toArray) :: L) e sz v' (n + m) (xs ++ news) w' → K (a.put N v') w') :
    if Region.wanted oi (yielded ops a.tmps) = true then Oper.wp P oi a w K Q else K (a.put N undef) w := by
  obtain ⟨v', w', hr, hA⟩ := h.app (P := P) t oi.type i z bytes m c ht hi hz hsize hby hzs hsz hl h1 h63 hbytes
  refine value_ (v := v') (w1 := w') hw hN ?_ (hk _ _ hA)
  unfold execOp
  simp only [ho, resolve, invoke, builtin, Sem.run_bind, Sem.run_pure, Result.andThen_ok, List.map_toArray, List.map_cons, List.map_nil, hs, hx, hr]
theorem rMk {Q : Exit → Act → World → Prop} {ops : Array Oper} {oi : Oper} {N : Option Tmp} {a : Act} {w : World} {K : Act → World → Prop} (hw : Region.wanted oi (yielded ops a.tmps) = true) (hN : oi.dst = N) (t e : TypeId) (len : Nat) (parts : Array (Nat × Operand)) (ho : oi.op = .buildSlice t len parts)
    {w0 : World} {L e' sz' v n xs} (h : Acc w0 L e' sz' v n xs w) (cells : Array Value) (ie : TypeInfo) (z : Value) (sz : Nat)
    (hu : P.underlying t = some (.slice e)) (hie : P.info? e = some ie) (hz : ie.zero = some z) (hsz : ie.size = sz) (hsmall : (len * sz).ble 1000 = true) (hpos : Nat.beq (len * sz) 0 = false)
    (hf : Instr.fill (fun i => some (i * sz, sz)) ((Array.range (len * sz)).map (z.cells[· % z.cells.size]!)) (parts.map fun (i, x) => (i, a.eval x)).toList = some cells)
    (hk : ∀ g w', Acc w0 ((g, e, cells) :: L) e' sz' v n xs w' → K (a.put N (.slice (some ⟨g, 0, none⟩) len len)) w') :
    if Region.wanted oi (yielded ops a.tmps) = true then Oper.wp P oi a w K Q else K (a.put N undef) w := by
  subst hsz
  refine value_ hw hN ?_ (hk _ _ (h.new e cells))
  unfold execOp
  have h1 : ¬ len * ie.size > 2 ^ 24 := by
    have := Nat.le_of_ble_eq_true hsmall
    omega
  have h2 : ¬ len * ie.size = 0 := by
    intro hh
    rw [hh] at hpos
    cases hpos
  simp only [ho, Sem.run_bind, run_buildSlice w t e len _ cells ie z hu hie hz h1 h2 hf, Result.andThen_ok, Sem.run_pure]
theorem yaRow {ops : Array Oper} {oi : Oper} {a : Act} {w0 : World} {L e sz v n xs} {w1 : World} (_h : Acc w0 L e sz v n xs w1) (hw : Region.wanted oi (yielded ops a.tmps) = true) (ty : TypeId) (x : Operand) (ho : oi.op = .load ty x)
    (i g k : Nat) (hx : a.eval x = .pointer (some ⟨g, k, none⟩)) (t : TypeId) (cs : Array Value) (hi : L[i]? = some (g, t, cs)) (n' : Nat) (vs : List Value)
    (hv : (cs.extract k (k + n')).toList = vs) (hn : vs.length = n') (d : TypeDesc) (hu : P.underlying ty = some d) (hr : d.isRow = true) (hs : (P.info? ty).map (·.size) = some vs.length) : YieldsIf P ops (fun w' => Acc w0 L e sz v n xs w') oi (.agg vs.toArray) a := by
  subst hn
  exact .inl ⟨hw, fun w hS => run_load_row ty x ho g k hx vs ((show Acc w0 L e sz v n xs w from hS).own.rangeAt i hi k vs hv) d hu hr hs⟩
theorem yaOne {ops : Array Oper} {oi : Oper} {a : Act} {w0 : World} {L e sz v n xs} {w1 : World} (_h : Acc w0 L e sz v n xs w1) (hw : Region.wanted oi (yielded ops a.tmps) = true) (ty : TypeId) (x : Operand) (ho : oi.op = .load ty x)
    (i g k : Nat) (hx : a.eval x = .pointer (some ⟨g, k, none⟩)) (t : TypeId) (cs : Array Value) (hi : L[i]? = some (g, t, cs)) (u : Value) (hv : cs[k]? = some u) (d : TypeDesc) (hu : P.underlying ty = some d) (hr : d.isRow = false) :
    YieldsIf P ops (fun w' => Acc w0 L e sz v n xs w') oi u a := .inl ⟨hw, fun w hS => run_load_one ty x ho g k hx u ((((show Acc w0 L e sz v n xs w from hS).own.at i hi).cell k).trans hv) d hu hr⟩
theorem yrRow {ops : Array Oper} {oi : Oper} {a : Act} {w0 : World} {L e sz v n xs} {w1 : World} (_h : Acc w0 L e sz v n xs w1) {g k : Nat} {vs : List Value} (HR : w0.rangeAt g k vs) (hw : Region.wanted oi (yielded ops a.tmps) = true) (ty : TypeId) (x : Operand) (ho : oi.op = .load ty x)
    (hx : a.eval x = .pointer (some ⟨g, k, none⟩)) (d : TypeDesc) (hu : P.underlying ty = some d) (hr : d.isRow = true) (hs : (P.info? ty).map (·.size) = some vs.length) : YieldsIf P ops (fun w' => Acc w0 L e sz v n xs w') oi (.agg vs.toArray) a :=
  .inl ⟨hw, fun w hS => run_load_row ty x ho g k hx vs (range_below HR (show Acc w0 L e sz v n xs w from hS).own.bel) d hu hr hs⟩
theorem yrOne {ops : Array Oper} {oi : Oper} {a : Act} {w0 : World} {L e sz v n xs} {w1 : World} (_h : Acc w0 L e sz v n xs w1) {g k : Nat} {u : Value} (HC : w0.cell? ⟨g, k, none⟩ = some u) (hw : Region.wanted oi (yielded ops a.tmps) = true) (ty : TypeId) (x : Operand) (ho : oi.op = .load ty x)
    (hx : a.eval x = .pointer (some ⟨g, k, none⟩)) (d : TypeDesc) (hu : P.underlying ty = some d) (hr : d.isRow = false) : YieldsIf P ops (fun w' => Acc w0 L e sz v n xs w') oi u a :=
  .inl ⟨hw, fun w hS => run_load_one ty x ho g k hx u (((show Acc w0 L e sz v n xs w from hS).own.bel.cell (World.block_lt_of_cell? w0 _ HC)).trans HC) d hu hr⟩
end
end Go.Proofs.YtkedpokbbogkmaaDoor
