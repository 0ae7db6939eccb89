/-
  More on owned blocks: another order of the list, loads of one cell that came in.
-/
import Derived.Test.YtkedpokbbogkmaaDoorKlimP
namespace Go.Proofs.YtkedpokbbogkmaaDoor
open Go.RowKit Go.Proofs.YtkedpokbbogkmaaDoorW.PrintLast

theorem Own.perm {w0 w : World} {L L'} (h : Own w0 L w) (hp : L'.Perm L) : Own w0 L' w :=
  ⟨fun x hx => h.blk x (hp.mem_iff.1 hx), (hp.map _).nodup_iff.2 h.dif, fun x hx => h.low x (hp.mem_iff.1 hx), h.bel⟩
theorem Own.rot2 {w0 w : World} {a b x y z} {L} (h : Own w0 (a :: b :: x :: y :: z :: L) w) : Own w0 (x :: y :: z :: a :: b :: L) w :=
  h.perm (List.Perm.append_right L (List.perm_append_comm (l₁ := [x, y, z]) (l₂ := [a, b])))
theorem Own.rot3 {w0 w : World} {a b c x y z} {L} (h : Own w0 (a :: b :: c :: x :: y :: z :: L) w) : Own w0 (x :: y :: z :: a :: b :: c :: L) w :=
  h.perm (List.Perm.append_right L (List.perm_append_comm (l₁ := [x, y, z]) (l₂ := [a, b, c])))
theorem RepQ.blkn {w : World} {g c n : Nat} {T : TypeId} {l : List Q4} {pad : List Value} (hn : n = l.length) (H : Blk w g T (flat q4 l ++ pad).toArray) : RepQ w (.slice (some ⟨g, 0, none⟩) n c) l := hn ▸ RepQ.blk H
section
variable {P : Program}
theorem cell_load_one {ops : Array Oper} {rest : List Oper} {o : Oper} {a : Act} {w : World} {Q : Exit → Act → World → Prop} (hw : Region.wanted o (yielded ops a.tmps) = true) (ty : TypeId) (x : Operand) (ho : o.op = .load ty x) {g k : Nat} {u : Value} (hc : w.cell? ⟨g, k, none⟩ = some u)
    (hx : a.eval x = .pointer (some ⟨g, k, none⟩)) (dst : Option Tmp) (hd : o.dst = dst) (d : TypeDesc) (hu : P.underlying ty = some d) (hr : d.isRow = false)
    (h : wpList P ops Q rest (a.put dst u) w) : wpList P ops Q (o :: rest) a w :=
  wpList_run_w hw dst hd _ _ (run_load_one ty x ho g k hx u hc d hu hr) h
end
end Go.Proofs.YtkedpokbbogkmaaDoor
