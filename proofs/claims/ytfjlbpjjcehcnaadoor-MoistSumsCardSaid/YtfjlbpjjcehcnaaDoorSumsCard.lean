/-
  THE TIED CARD OF MoistSums: for every board the law returns true, the board reads as it did; the three tables of package air are those of the program's text.
-/
import Derived.Test.YtfjlbpjjcehcnaaDoorSumsRow
import Derived.Test.YtfjlbpjjcehcnaaDoorTie
import Derived.Test.YtfjlbpjjcehcnaaDoorCards
import Derived.SevenTiedAt
namespace Go.Proofs.YtfjlbpjjcehcnaaDoor
open Go

theorem moistSumsCard_holds : Rows.MoistSumsCardSaid :=
  Claim7.holds_tied_plain_at .later [] [.data, .data, .data] true (true, "7a5d9f5bf1e4aa45365c4180b19c0061867f0c09446e736fc9dca4f7f9431777") false
    moistSums_holds (fun _ h => by cases h) (by kernel_rfl) (fun _ h => by cases h) moistSums_row_tie rfl ⟨rfl, rfl⟩ (by kernel_rfl) rfl
    (fun f fn hf hfn => by
      obtain rfl : f = 8 := Option.some.inj ((show Tryd.prog.funcNamed "sawmill/sawmilllaw36.MoistSums" = some 8 by kernel_rfl).symm.trans hf) |>.symm
      obtain rfl : fn = Tryd.f8 := (Option.some.inj (Tryd.func8.symm.trans hfn)).symm
      exact ⟨by kernel_rfl, fun j t ht => by
        rw [Tryd.params8] at ht
        have hm : t ∈ [29] := by simpa using Array.mem_of_getElem? ht
        have hall : ([29].all fun u => !Tryd.prog.wantsStandIn u) = true := by kernel_rfl
        exact (show Tryd.prog.wantsStandIn t = false by simpa using List.all_eq_true.1 hall t hm)⟩)
    (by kernel_rfl)
end Go.Proofs.YtfjlbpjjcehcnaaDoor
