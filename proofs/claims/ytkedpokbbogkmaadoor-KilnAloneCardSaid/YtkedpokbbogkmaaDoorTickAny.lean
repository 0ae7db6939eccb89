/-
  The contract of moist.Tick, whole.
-/
import Derived.Test.YtkedpokbbogkmaaDoorTick
namespace Go.Proofs.YtkedpokbbogkmaaDoor
open Go.RowKit

def tickZ (a b s fast slow safe thick t d : Int) (fan : Bool) : Int × Int × Int :=
  if Comp a b s fast slow safe thick t d then (surfZ a fast t d fan, coreZ b (surfZ a fast t d fan) slow t thick, strZ s (surfZ a fast t d fan) (coreZ b (surfZ a fast t d fan) slow t thick) safe) else (a, b, s)
abbrev vCell (c : Int × Int × Int) : Value := .agg #[.int .i64 c.1, .int .i64 c.2.1, .int .i64 c.2.2]
theorem tick_any (a b s : Int) (n : ByteArray) (a0 a1 a2 a3 a4 a5 a6 a7 a8 a9 a10 a11 thick t d : Int) (fan : Bool) (w : World) (hG : Hid (Glob w)) :
    Calls Tryd.prog 50 #[.agg #[.int .i64 a, .int .i64 b, .int .i64 s], .agg #[.string n, .int .i64 a0, .int .i64 a1, .int .i64 a2, .int .i64 a3, .int .i64 a4, .int .i64 a5, .int .i64 a6, .int .i64 a7, .int .i64 a8, .int .i64 a9, .int .i64 a10, .int .i64 a11], .int .i64 thick, .agg #[.int .i64 t, .int .i64 d], .bool fan] w fun e w' => e = .returned (vCell (tickZ a b s a1 a2 a3 thick t d fan)) ∧ Below w.heap.size w w' := by
  by_cases hc : Comp a b s a1 a2 a3 thick t d
  · cases fan
    · refine (tick_still a b s n a0 a1 a2 a3 a4 a5 a6 a7 a8 a9 a10 a11 thick t d w hc).mono fun e w' h => ⟨?_, h.2⟩
      rw [h.1, tickZ, if_pos hc]
      simp [surfZ]
    · refine (tick_fan a b s n a0 a1 a2 a3 a4 a5 a6 a7 a8 a9 a10 a11 thick t d w hG hc).mono fun e w' h => ⟨?_, h.2⟩
      rw [h.1, tickZ, if_pos hc]
  · refine (tick_no a b s n a0 a1 a2 a3 a4 a5 a6 a7 a8 a9 a10 a11 thick t d fan w hc).mono fun e w' h => ⟨?_, h.2⟩
    rw [h.1, tickZ, if_neg hc]

end Go.Proofs.YtkedpokbbogkmaaDoor
