/-
  Contracts of the reference's Check, Green, Mean, Gradient and Checks.
-/
import Derived.Test.YtkedpokbbogkmaaDoorMoist
namespace Go.Proofs.YtkedpokbbogkmaaDoor
open Go.RowKit

theorem rcheck_any (a b s : Int) (w : World) :
    Calls Tryd.prog 28 #[.agg #[.int .i64 a, .int .i64 b, .int .i64 s]] w fun e w' => e = .returned (.int .i64 (chkZ a b s)) ∧ Below w.heap.size w w' := by
  go_enter Tryd.func28, Tryd.ntmps28
  go_wp2
  all_goals go_ret
  all_goals refine ⟨ret_int ?_, below_new _ _⟩
  all_goals (unfold chkZ; split <;> (try split) <;> first | rfl | omega)

end Go.Proofs.YtkedpokbbogkmaaDoor
