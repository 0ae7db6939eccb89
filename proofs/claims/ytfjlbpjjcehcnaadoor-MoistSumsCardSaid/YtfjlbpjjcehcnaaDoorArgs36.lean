/-
  Arguments without pointers: they read alike in every world; and a board's cells.
-/
import Derived.Test.YtfjlbpjjcehcnaaDoorLaid36
import Derived.Below
import Derived.ChangeSame
import Derived.Lib.SmallJoins
namespace Go.Proofs.YtfjlbpjjcehcnaaDoor
open Go.ChangeShapes Go.WideShapes Go.ChangeAt Go.WideElems Go.RowKit

/-- A type of numbers, truth values, strings, structs and arrays alone. -/
def flatT (P : Program) : Nat → TypeId → Bool
  | 0, _ => false
  | n + 1, t => match P.underlying t with
    | some (.int _) => true
    | some .bool => true
    | some .string => true
    | some (.struct fs) => fs.toList.all fun f => flatT P n f.type
    | some (.array _ e) => flatT P n e
    | _ => false
section
variable {H : Type} {enc : TypeId × Value → H} {P : Program}
theorem mapM_congr' {α β : Type} {f g : α → Option β} : ∀ {l : List α}, (∀ x ∈ l, f x = g x) → l.mapM f = l.mapM g
  | [], _ => rfl
  | x :: l, h => by
    rw [List.mapM_cons, List.mapM_cons, h x (by simp), mapM_congr' (l := l) fun y hy => h y (by simp [hy])]
theorem mapM_all {α β : Type} {f : α → Option β} {p : β → Prop} : ∀ {l : List α} {ys : List β}, l.mapM f = some ys → (∀ x ∈ l, ∀ y, f x = some y → p y) → ∀ y ∈ ys, p y
  | [], ys, h, _ => by
    simp at h; subst h; simp
  | x :: l, ys, h, hp => by
    rw [List.mapM_cons] at h
    simp only [Option.bind_eq_bind, Option.bind_eq_some_iff] at h
    obtain ⟨y, hy, zs, hz, he⟩ := h
    simp at he
    subst he
    intro u hu
    rcases List.mem_cons.1 hu with rfl | hu
    · exact hp x (by simp) _ hy
    · exact mapM_all hz (fun x hx => hp x (by simp [hx])) u hu
theorem trod_flat {w w' : World} {base base' : Nat} {sp sp' : Nat → Bool} {hd hd' : Bool} : ∀ (m fuel : Nat) (t : TypeId) (cs : List Value), flatT P m t = true →
    DataW.trod enc P w base sp hd fuel t cs = DataW.trod enc P w' base' sp' hd' fuel t cs ∧ ∀ x, DataW.trod enc P w base sp hd fuel t cs = some x → x.2 = [] := by
  intro m
  induction m with
  | zero => intro fuel t cs h; simp [flatT] at h
  | succ m ih =>
    intro fuel t cs h
    cases fuel with
    | zero => exact ⟨rfl, fun x hx => by simp [DataW.trod] at hx⟩
    | succ fuel =>
      unfold flatT at h
      split at h
      · rename_i k hu
        refine ⟨by unfold DataW.trod; rw [hu]; split <;> simp_all, fun x hx => ?_⟩
        obtain ⟨_, _, hx, _⟩ := DataW.trod_int hu hx
        rw [hx]
      · rename_i hu
        refine ⟨by unfold DataW.trod; rw [hu]; split <;> simp_all, fun x hx => ?_⟩
        obtain ⟨_, _, hx⟩ := DataW.trod_bool hu hx
        rw [hx]
      · rename_i hu
        refine ⟨by unfold DataW.trod; rw [hu]; split <;> simp_all, fun x hx => ?_⟩
        obtain ⟨_, _, hx, _⟩ := DataW.trod_string hu hx
        rw [hx]
      · rename_i fs hu
        have hf : ∀ f ∈ fs.toList, flatT P m f.type = true := List.all_eq_true.1 h
        have e : fs.toList.mapM (fun f => DataW.trod enc P w base sp hd fuel f.type ((cs.drop f.offset).take (P.cellsOf f.type))) = fs.toList.mapM (fun f => DataW.trod enc P w' base' sp' hd' fuel f.type ((cs.drop f.offset).take (P.cellsOf f.type))) :=
          mapM_congr' fun f hm => (ih fuel f.type _ (hf f hm)).1
        refine ⟨?_, fun x hx => ?_⟩
        · unfold DataW.trod
          rw [hu]
          split <;> simp_all
        · obtain ⟨xs, n, hn, rfl, hl, hs, hel⟩ := DataW.trod_struct hu hx
          obtain rfl : fuel = n := by omega
          simp only [List.flatMap_eq_nil_iff]
          intro y hy
          obtain ⟨i, hi⟩ := List.mem_iff_getElem?.1 hy
          have hil : i < fs.size := by rw [← hs]; exact (List.getElem?_eq_some_iff.1 hi).1
          have := hel i fs[i] (Array.getElem?_eq_getElem hil)
          rw [hi] at this
          exact (ih fuel _ _ (hf _ (by simp))).2 _ this
      · rename_i k e' hu
        have e : (List.range k).mapM (fun i => DataW.trod enc P w base sp hd fuel e' ((cs.drop (i * P.cellsOf e')).take (P.cellsOf e'))) = (List.range k).mapM (fun i => DataW.trod enc P w' base' sp' hd' fuel e' ((cs.drop (i * P.cellsOf e')).take (P.cellsOf e'))) :=
          mapM_congr' fun i hm => (ih fuel e' _ h).1
        refine ⟨?_, fun x hx => ?_⟩
        · unfold DataW.trod
          rw [hu]
          split <;> simp_all
        · obtain ⟨xs, n, hn, rfl, hl, hs, hel⟩ := DataW.trod_array hu hx
          obtain rfl : fuel = n := by omega
          simp only [List.flatMap_eq_nil_iff]
          intro y hy
          obtain ⟨i, hi⟩ := List.mem_iff_getElem?.1 hy
          have hil : i < k := by rw [← hs]; exact (List.getElem?_eq_some_iff.1 hi).1
          have := hel i hil
          rw [hi] at this
          exact (ih fuel _ _ h).2 _ this
      · cases h
theorem Trod_flat {w w' : World} {base base' : Nat} {sp sp' : Nat → Bool} {hd hd' : Bool} {t : TypeId} {v : Value} {d : DataW H} {ps : List MemPlace} (m : Nat) (hf : flatT P m t = true) (h : DataW.Trod enc P w base sp hd t v d ps) :
    ps = [] ∧ DataW.Trod enc P w' base' sp' hd' t v d [] := by
  obtain ⟨fuel, h⟩ := h
  have h1 := trod_flat (enc := enc) (w := w) (w' := w') (base := base) (base' := base') (sp := sp) (sp' := sp') (hd := hd) (hd' := hd') m fuel t v.cells.toList hf
  have h2 := h1.2 _ h
  simp only at h2
  subst h2
  exact ⟨rfl, fuel, h1.1 ▸ h⟩
end
end Go.Proofs.YtfjlbpjjcehcnaaDoor
