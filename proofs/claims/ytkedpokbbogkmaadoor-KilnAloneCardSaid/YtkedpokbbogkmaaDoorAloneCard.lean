/-
  THE TIED CARD OF KilnAlone: for every input the law returns true, the input reads as it did; the tables of the packages air, kiln and schedule are those of the program's text.
-/
import Derived.Test.YtkedpokbbogkmaaDoorAloneRow
import Derived.Test.YtkedpokbbogkmaaDoorTie
import Derived.Test.YtkedpokbbogkmaaDoorCards
import Derived.SevenTiedAt
namespace Go.Proofs.YtkedpokbbogkmaaDoor
set_option linter.unusedVariables false
set_option linter.unusedSimpArgs false
open Go

set_option maxRecDepth 100000 in
theorem kilnAloneCard_holds : Rows.KilnAloneCardSaid :=
  Claim7.holds_tied_plain_at .later [] [.data, .data, .data, .data, .data] true (true, "9eaffc5cc21f678d548be8536823ffa55f5dc18f4e1252b547511c5de4fb1401") false
    kilnAlone_holds (fun _ h => by cases h) (by kernel_rfl) (fun _ h => by cases h) kilnAlone_row_tie rfl ⟨rfl, rfl⟩ (by kernel_rfl) rfl
    (fun f fn hf hfn => by
      obtain rfl : f = 6 := Option.some.inj ((show Tryd.prog.funcNamed "sawmill/sawmilllaw38.KilnAlone" = some 6 by kernel_rfl).symm.trans hf) |>.symm
      obtain rfl : fn = Tryd.f6 := (Option.some.inj (Tryd.func6.symm.trans hfn)).symm
      exact ⟨by kernel_rfl, fun j t ht => by
        rw [Tryd.params6] at ht
        have hm : t ∈ [29, 5, 43] := by simpa using Array.mem_of_getElem? ht
        have hall : ([29, 5, 43].all fun u => !Tryd.prog.wantsStandIn u) = true := by kernel_rfl
        exact (show Tryd.prog.wantsStandIn t = false by simpa using List.all_eq_true.1 hall t hm)⟩)
    (by kernel_rfl)
end Go.Proofs.YtkedpokbbogkmaaDoor
