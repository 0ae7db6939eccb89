/-
  A tick of a kiln.
-/
import Derived.Test.YtkedpokbbogkmaaDoorKsched
import Derived.Test.YtkedpokbbogkmaaDoorFactsK
import Derived.Deep.DeepCutAuto
namespace Go.Proofs.YtkedpokbbogkmaaDoor
set_option linter.unusedVariables false
set_option linter.unusedSimpArgs false
open Go.RowKit Go.Proofs.YtkedpokbbogkmaaDoorW.PrintLast
set_option linter.unusedSimpArgs false

/-- Every cell of the boards is valid. -/
def Valid (l : List Q4) : Prop := ∀ x ∈ l, chkZ x.2.1 x.2.2.1 x.2.2.2 = 0
theorem Valid.wet {l : List Q4} (h : Valid l) : Wet l := fun x hx => by
  have := chkZ_zero.1 (h x hx)
  omega
theorem Valid.dry {l : List Q4} (h : Valid l) (f s m t d : Int) (fan : Bool) : Valid (l.map (dryZ f s m t d fan)) := fun y hy => by
  obtain ⟨x, hx, rfl⟩ := List.mem_map.1 hy
  obtain ⟨c1, c2, c3, hT⟩ : ∃ c1 c2 c3, tickZ x.2.1 x.2.2.1 x.2.2.2 f s m x.1 t d fan = (c1, c2, c3) := ⟨_, _, _, rfl⟩
  have := (tick_facts hT (h x hx)).1
  unfold dryZ
  simp only
  rw [hT]
  exact this
/-- What of a kiln changes. -/
structure KS where
  l : List Q4
  t : Int
  d : Int
  stage : Nat
  ins : Int
  ticks : Int
  held : Int
/-- What of a kiln stays: the schedule's ramp and stages, the species' numbers. -/
structure KP where
  ramp : Int
  st : List Q4
  fast : Int
  slow : Int
  safe : Int
  mg : Int
  mt : Int
  md : Int
def KS.clim (P : KP) (s : KS) (F : List Int) : Int × Int :=
  let x := P.st.getD s.stage (0, 0, 0, 0)
  (nextT s.t (mnZ x.2.2.1 P.mt) P.ramp F, nextD s.d (mnZ x.2.2.2 P.md) P.ramp F)
def KS.fan (F : List Int) : Bool := !(F.any (· == 2))
def KS.dried (P : KP) (s : KS) (F : List Int) (fan : Bool) : List Q4 := s.l.map (dryZ P.fast P.slow P.safe (s.clim P F).1 (s.clim P F).2 fan)
def KS.harm (P : KP) (s : KS) (F : List Int) : Bool := KS.fan F && harmB P.mg s.l (s.dried P F true)
def KS.l2 (P : KP) (s : KS) (F : List Int) : List Q4 := if s.harm P F = true then s.dried P F false else s.dried P F (KS.fan F)
def KS.ends (P : KP) (s : KS) (F : List Int) : Bool := endsB (P.st.getD s.stage (0, 0, 0, 0)) (s.ins + 1) (meanK (s.l2 P F))
def KS.tick (P : KP) (s : KS) (F : List Int) : KS where
  l := s.l2 P F
  t := (s.clim P F).1
  d := (s.clim P F).2
  stage := if s.ends P F = true then s.stage + 1 else s.stage
  ins := if s.ends P F = true then 0 else s.ins + 1
  ticks := s.ticks + 1
  held := if s.harm P F = true then s.held + 1 else s.held
theorem Own.tail {w0 w : World} {x} {L} (h : Own w0 (x :: L) w) : Own w0 L w := h.sub (List.Sublist.cons _ (List.Sublist.refl _))
theorem Own.reord {w0 w : World} {x y z} {L} (h : Own w0 (x :: y :: z :: L) w) : Own w0 (y :: x :: L) w :=
  (h.sub (List.Sublist.cons_cons _ (List.Sublist.cons_cons _ (List.Sublist.cons _ (List.Sublist.refl _))))).swap

end Go.Proofs.YtkedpokbbogkmaaDoor
