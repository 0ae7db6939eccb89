/-
  A tick of a kiln, whole.
-/
import Derived.Test.YtkedpokbbogkmaaDoorKtickA
import Derived.Test.YtkedpokbbogkmaaDoorKtickB
import Derived.Test.YtkedpokbbogkmaaDoorKtickC
namespace Go.Proofs.YtkedpokbbogkmaaDoor
set_option linter.unusedVariables false
set_option linter.unusedSimpArgs false
open Go.RowKit

theorem tickK_any (gk gs gi cs ci ns ni stage : Nat) (pn n : ByteArray) (ramp a0 a1 a2 a3 a4 a5 a6 a7 a8 a9 a10 a11 t d ins ticks held : Int) (l st : List Q4) (pad pads : List Value) (v : Value) (F : List Int) (R : List (Nat × TypeId × Array Value)) (W0 w : World)
    (hG : Hid (Glob W0)) (h2 : Hid (Glob2 W0)) (hr : Hid (∀ w, Own W0 R w → RepI w v F)) (hF : F.length ≤ 1000000) (h1 : 1 ≤ l.length) (hl : l.length ≤ 100000) (hni : ni = l.length) (hst : st.length ≤ 100000) (hns : ns = st.length) (hlt : stage < st.length)
    (hV : Hid (Valid l)) (b1 : 0 ≤ ins ∧ ins ≤ 1000000) (b2 : 0 ≤ ticks ∧ ticks ≤ 1000000) (b3 : 0 ≤ held ∧ held ≤ 1000000)
    (P : KP) (hP : P = ⟨ramp, st, a1, a2, a3, a4, a6, a7⟩) (s : KS) (hs : s = ⟨l, t, d, stage, ins, ticks, held⟩)
    (hO : Own W0 ((gk, 74, #[.string pn, .int .i64 ramp, .slice (some ⟨gs, 0, none⟩) ns cs, .string n, .int .i64 a0, .int .i64 a1, .int .i64 a2, .int .i64 a3, .int .i64 a4, .int .i64 a5, .int .i64 a6, .int .i64 a7, .int .i64 a8, .int .i64 a9, .int .i64 a10, .int .i64 a11, .slice (some ⟨gi, 0, none⟩) ni ci, .int .i64 t, .int .i64 d, .int .i64 stage, .int .i64 ins, .int .i64 ticks, .int .i64 held]) :: (gi, 53, (flat q4 l ++ pad).toArray) :: (gs, 65, (flat q4 st ++ pads).toArray) :: R) w) :
    Calls Tryd.prog 14 #[.pointer (some ⟨gk, 0, none⟩), v] w fun e w' => ∃ gi ci pad, e = .returned (.bool (!(((s.tick P F).stage : Int) == (ns : Int)))) ∧
      Own W0 ((gk, 74, #[.string pn, .int .i64 ramp, .slice (some ⟨gs, 0, none⟩) ns cs, .string n, .int .i64 a0, .int .i64 a1, .int .i64 a2, .int .i64 a3, .int .i64 a4, .int .i64 a5, .int .i64 a6, .int .i64 a7, .int .i64 a8, .int .i64 a9, .int .i64 a10, .int .i64 a11, .slice (some ⟨gi, 0, none⟩) ni ci, .int .i64 (s.tick P F).t, .int .i64 (s.tick P F).d, .int .i64 (s.tick P F).stage, .int .i64 (s.tick P F).ins, .int .i64 (s.tick P F).ticks, .int .i64 (s.tick P F).held]) :: (gi, 53, (flat q4 (s.tick P F).l ++ pad).toArray) :: (gs, 65, (flat q4 st ++ pads).toArray) :: R) w' := by
  rcases Bool.eq_false_or_eq_true (F.any (· == 2)) with hfb | hfb
  · exact tickK_A gk gs gi cs ci ns ni stage pn n ramp a0 a1 a2 a3 a4 a5 a6 a7 a8 a9 a10 a11 t d ins ticks held l st pad pads v F R W0 w hG h2 hr hF h1 hl hni hst hns hlt hV b1 b2 b3 P hP s hs hfb hO
  · rcases Bool.eq_false_or_eq_true (s.harm P F) with hh | hh
    · exact tickK_B gk gs gi cs ci ns ni stage pn n ramp a0 a1 a2 a3 a4 a5 a6 a7 a8 a9 a10 a11 t d ins ticks held l st pad pads v F R W0 w hG h2 hr hF h1 hl hni hst hns hlt hV b1 b2 b3 P hP s hs hfb hh hO
    · exact tickK_C gk gs gi cs ci ns ni stage pn n ramp a0 a1 a2 a3 a4 a5 a6 a7 a8 a9 a10 a11 t d ins ticks held l st pad pads v F R W0 w hG h2 hr hF h1 hl hni hst hns hlt hV b1 b2 b3 P hP s hs hfb hh hO
end Go.Proofs.YtkedpokbbogkmaaDoor
