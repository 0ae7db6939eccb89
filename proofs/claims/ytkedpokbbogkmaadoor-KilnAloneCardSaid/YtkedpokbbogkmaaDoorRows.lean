/-
  NARROWER THAN 'FOR EVERY INPUT', by the rows' own cells (each row's printed sentence says how): KilnBegins: laid · KilnLimits: laid · KilnCounts: laid · KilnAlone: laid · KilnNone: laid.
  DERIVED. THE GIVEN ROWS OF THIS SEAT. 5 by the template 'for every input the law returns true; each argument reads behind the call as it read before'; 0 by the template 'total and deterministic' (their statements: YtkedpokbbogkmaaDoorTotals.lean).
  GIVEN WITH THE SEED: the statements are not yours to turn. If you find one false, say at which input.
  Laid BY PROGRAM, IN A SANDBOX (cutbox-rows.mjs): the forced cells as the released guide's own fill.sh prints them over the translation 67ea9c9460b91038… (all of the seat's roots in one cut). By AI agents, Wed Nov 11 2026. No macro, syntax, notation, axiom, sorry.
-/
import Derived.Test.YtkedpokbbogkmaaDoorChecked
import GoSem.Claim
import GoSem.ClaimJoined
import GoSem.ClaimMapViews
import Derived.JoinedTies
import Derived.KernelRfl
namespace Go.Proofs.YtkedpokbbogkmaaDoor
/- THE CELL 'sum', in the pinned program and in every row, IS THE sha256 OF THE DUMP (.gsa) THAT YtkedpokbbogkmaaDoorProg.lean LOADS. Nothing in Lean hashes anything: it is a label: what it is worth is what the hold of that sum in a sandbox is worth. -/
noncomputable def Tryd.pinned : Pinned := { name := "ytkedpokbbogkmaadoor", sum := "67ea9c9460b9103861e562462138960973af8bcab9d7fb9aab3310fca29e57c1", checked := Tryd.checked }
namespace Rows
def none {H : Type} : Left H := { results := [], args := [] }

/- WHAT THE LISTED PACKAGE-LEVEL VARIABLES READ AS WHEN THE CALL BEGINS. Each datum BY PROGRAM (the guide's laid-datum.mjs) off the statement by which the dump's own 'gosem.cut.vars' lays the variable. In a bare row this is a premise. The card (YtkedpokbbogkmaaDoorCards.lean) ties it to the program's text. -/
def laid_sawmill_schedule_limits {H : Type} : DataW H := .agg [.agg [.lit (.int .i64 0), .lit (.int .i64 20000)], .agg [.lit (.int .i64 0), .lit (.int .i64 10000)], .agg [.lit (.int .i64 200), .lit (.int .i64 1200)], .agg [.lit (.int .i64 0), .lit (.int .i64 400)]]
def laid_sawmill_air_temps {H : Type} : DataW H := .agg [.lit (.int .i64 200), .lit (.int .i64 400), .lit (.int .i64 600), .lit (.int .i64 800), .lit (.int .i64 1000), .lit (.int .i64 1200)]
def laid_sawmill_air_depresses {H : Type} : DataW H := .agg [.lit (.int .i64 0), .lit (.int .i64 20), .lit (.int .i64 50), .lit (.int .i64 100), .lit (.int .i64 200), .lit (.int .i64 300), .lit (.int .i64 400)]
def laid_sawmill_air_contents {H : Type} : DataW H := .agg [.agg [.lit (.int .i64 2800), .lit (.int .i64 2200), .lit (.int .i64 1750), .lit (.int .i64 1250), .lit (.int .i64 750), .lit (.int .i64 480), .lit (.int .i64 390)], .agg [.lit (.int .i64 2700), .lit (.int .i64 2100), .lit (.int .i64 1650), .lit (.int .i64 1150), .lit (.int .i64 680), .lit (.int .i64 440), .lit (.int .i64 350)], .agg [.lit (.int .i64 2600), .lit (.int .i64 2000), .lit (.int .i64 1550), .lit (.int .i64 1060), .lit (.int .i64 610), .lit (.int .i64 400), .lit (.int .i64 310)], .agg [.lit (.int .i64 2500), .lit (.int .i64 1900), .lit (.int .i64 1450), .lit (.int .i64 980), .lit (.int .i64 550), .lit (.int .i64 360), .lit (.int .i64 280)], .agg [.lit (.int .i64 2400), .lit (.int .i64 1800), .lit (.int .i64 1360), .lit (.int .i64 900), .lit (.int .i64 500), .lit (.int .i64 330), .lit (.int .i64 250)], .agg [.lit (.int .i64 2300), .lit (.int .i64 1700), .lit (.int .i64 1270), .lit (.int .i64 830), .lit (.int .i64 450), .lit (.int .i64 300), .lit (.int .i64 220)]]
def laid_sawmill_kiln_still {H : Type} : DataW H := .agg [.lit (.bool false), .lit (.bool false), .lit (.bool true), .lit (.bool false)]

/-- 'sawmilllaw38.KilnBegins': WHATEVER THE INPUT: true; the input reads as it did. -/
def kilnBeginsSpec : ChangeSpec := { name := "kilnBegins", fn := fun _ => fun
  | [d] => { results := [.lit (.bool true)], args := [d] }
  | _ => none }
def kilnBeginsRow : OpenClaim := { program := "ytkedpokbbogkmaadoor", sum := "67ea9c9460b9103861e562462138960973af8bcab9d7fb9aab3310fca29e57c1", func := "sawmill/sawmilllaw38.KilnBegins", spec := "kilnBegins", unfollowed := true, recurses := true, named := ["sawmill/schedule.limits", "sawmill/kiln.still", "sawmill/air.temps", "sawmill/air.depresses", "sawmill/air.contents", "math/bits.divideError", "math/bits.overflowError"], apart := false, laid := [("sawmill/schedule.limits", laid_sawmill_schedule_limits), ("sawmill/air.temps", laid_sawmill_air_temps), ("sawmill/air.depresses", laid_sawmill_air_depresses), ("sawmill/air.contents", laid_sawmill_air_contents), ("sawmill/kiln.still", laid_sawmill_kiln_still)] }
def KilnBeginsSaid : Prop := kilnBeginsRow.holds Tryd.pinned (OpenSpec.ofChange kilnBeginsSpec)

/-- ITS FALSE NEIGHBOUR: 'it returns false'. Refute it at one input. -/
def kilnBeginsWrong : ChangeSpec := { name := "kilnBegins", fn := fun _ => fun
  | [d] => { results := [.lit (.bool false)], args := [d] }
  | _ => none }
def KilnBeginsWrongFalsely : Prop := kilnBeginsRow.holds Tryd.pinned (OpenSpec.ofChange kilnBeginsWrong)

/-- 'sawmilllaw38.KilnLimits': WHATEVER THE INPUT: true; the input reads as it did. -/
def kilnLimitsSpec : ChangeSpec := { name := "kilnLimits", fn := fun _ => fun
  | [d1, d2] => { results := [.lit (.bool true)], args := [d1, d2] }
  | _ => none }
def kilnLimitsRow : OpenClaim := { program := "ytkedpokbbogkmaadoor", sum := "67ea9c9460b9103861e562462138960973af8bcab9d7fb9aab3310fca29e57c1", func := "sawmill/sawmilllaw38.KilnLimits", spec := "kilnLimits", unfollowed := true, recurses := true, named := ["sawmill/schedule.limits", "sawmill/kiln.still", "sawmill/air.temps", "sawmill/air.depresses", "sawmill/air.contents", "math/bits.divideError", "math/bits.overflowError"], apart := false, laid := [("sawmill/schedule.limits", laid_sawmill_schedule_limits), ("sawmill/air.temps", laid_sawmill_air_temps), ("sawmill/air.depresses", laid_sawmill_air_depresses), ("sawmill/air.contents", laid_sawmill_air_contents), ("sawmill/kiln.still", laid_sawmill_kiln_still)] }
def KilnLimitsSaid : Prop := kilnLimitsRow.holds Tryd.pinned (OpenSpec.ofChange kilnLimitsSpec)

/-- ITS FALSE NEIGHBOUR: 'it returns false'. Refute it at one input. -/
def kilnLimitsWrong : ChangeSpec := { name := "kilnLimits", fn := fun _ => fun
  | [d1, d2] => { results := [.lit (.bool false)], args := [d1, d2] }
  | _ => none }
def KilnLimitsWrongFalsely : Prop := kilnLimitsRow.holds Tryd.pinned (OpenSpec.ofChange kilnLimitsWrong)

/-- 'sawmilllaw38.KilnCounts': WHATEVER THE INPUT: true; the input reads as it did. -/
def kilnCountsSpec : ChangeSpec := { name := "kilnCounts", fn := fun _ => fun
  | [d1, d2] => { results := [.lit (.bool true)], args := [d1, d2] }
  | _ => none }
def kilnCountsRow : OpenClaim := { program := "ytkedpokbbogkmaadoor", sum := "67ea9c9460b9103861e562462138960973af8bcab9d7fb9aab3310fca29e57c1", func := "sawmill/sawmilllaw38.KilnCounts", spec := "kilnCounts", unfollowed := true, recurses := true, named := ["sawmill/schedule.limits", "sawmill/kiln.still", "sawmill/air.temps", "sawmill/air.depresses", "sawmill/air.contents", "math/bits.divideError", "math/bits.overflowError"], apart := false, laid := [("sawmill/schedule.limits", laid_sawmill_schedule_limits), ("sawmill/air.temps", laid_sawmill_air_temps), ("sawmill/air.depresses", laid_sawmill_air_depresses), ("sawmill/air.contents", laid_sawmill_air_contents), ("sawmill/kiln.still", laid_sawmill_kiln_still)] }
def KilnCountsSaid : Prop := kilnCountsRow.holds Tryd.pinned (OpenSpec.ofChange kilnCountsSpec)

/-- ITS FALSE NEIGHBOUR: 'it returns false'. Refute it at one input. -/
def kilnCountsWrong : ChangeSpec := { name := "kilnCounts", fn := fun _ => fun
  | [d1, d2] => { results := [.lit (.bool false)], args := [d1, d2] }
  | _ => none }
def KilnCountsWrongFalsely : Prop := kilnCountsRow.holds Tryd.pinned (OpenSpec.ofChange kilnCountsWrong)

/-- 'sawmilllaw38.KilnAlone': WHATEVER THE INPUT: true; the input reads as it did. -/
def kilnAloneSpec : ChangeSpec := { name := "kilnAlone", fn := fun _ => fun
  | [d1, d2, d3] => { results := [.lit (.bool true)], args := [d1, d2, d3] }
  | _ => none }
def kilnAloneRow : OpenClaim := { program := "ytkedpokbbogkmaadoor", sum := "67ea9c9460b9103861e562462138960973af8bcab9d7fb9aab3310fca29e57c1", func := "sawmill/sawmilllaw38.KilnAlone", spec := "kilnAlone", unfollowed := true, recurses := true, named := ["sawmill/schedule.limits", "sawmill/kiln.still", "sawmill/air.temps", "sawmill/air.depresses", "sawmill/air.contents", "math/bits.divideError", "math/bits.overflowError"], apart := false, laid := [("sawmill/schedule.limits", laid_sawmill_schedule_limits), ("sawmill/air.temps", laid_sawmill_air_temps), ("sawmill/air.depresses", laid_sawmill_air_depresses), ("sawmill/air.contents", laid_sawmill_air_contents), ("sawmill/kiln.still", laid_sawmill_kiln_still)] }
def KilnAloneSaid : Prop := kilnAloneRow.holds Tryd.pinned (OpenSpec.ofChange kilnAloneSpec)

/-- ITS FALSE NEIGHBOUR: 'it returns false'. Refute it at one input. -/
def kilnAloneWrong : ChangeSpec := { name := "kilnAlone", fn := fun _ => fun
  | [d1, d2, d3] => { results := [.lit (.bool false)], args := [d1, d2, d3] }
  | _ => none }
def KilnAloneWrongFalsely : Prop := kilnAloneRow.holds Tryd.pinned (OpenSpec.ofChange kilnAloneWrong)

/-- 'sawmilllaw38.KilnNone': WHATEVER THE INPUT: true; the input reads as it did. -/
def kilnNoneSpec : ChangeSpec := { name := "kilnNone", fn := fun _ => fun
  | [d] => { results := [.lit (.bool true)], args := [d] }
  | _ => none }
def kilnNoneRow : OpenClaim := { program := "ytkedpokbbogkmaadoor", sum := "67ea9c9460b9103861e562462138960973af8bcab9d7fb9aab3310fca29e57c1", func := "sawmill/sawmilllaw38.KilnNone", spec := "kilnNone", unfollowed := true, recurses := true, named := ["sawmill/kiln.still", "sawmill/air.temps", "sawmill/air.depresses", "sawmill/air.contents", "math/bits.divideError", "math/bits.overflowError", "sawmill/schedule.limits"], apart := false, laid := [("sawmill/schedule.limits", laid_sawmill_schedule_limits), ("sawmill/air.temps", laid_sawmill_air_temps), ("sawmill/air.depresses", laid_sawmill_air_depresses), ("sawmill/air.contents", laid_sawmill_air_contents), ("sawmill/kiln.still", laid_sawmill_kiln_still)] }
def KilnNoneSaid : Prop := kilnNoneRow.holds Tryd.pinned (OpenSpec.ofChange kilnNoneSpec)

/-- ITS FALSE NEIGHBOUR: 'it returns false'. Refute it at one input. -/
def kilnNoneWrong : ChangeSpec := { name := "kilnNone", fn := fun _ => fun
  | [d] => { results := [.lit (.bool false)], args := [d] }
  | _ => none }
def KilnNoneWrongFalsely : Prop := kilnNoneRow.holds Tryd.pinned (OpenSpec.ofChange kilnNoneWrong)

/- THE SECOND FORM. 'bulk': how many values and letters a reading holds, each counted each time it is reached (what is shared counts as often as it is met; a slice's spare places count too). A statement '..UptoSaid' is the law's where the arguments, and the package variables that the reading takes, are together of bulk at most 1048576: NARROWER than '..Said'. Prove '..Said' where nothing that the law and all that it calls make is longer than what came in: it says more and counts as full. Else prove '..UptoSaid'. A law counts once. -/
mutual
def uptoBulk {H : Type} : DataW H → Nat
  | .lit (.string bytes) => bytes.length + 1
  | .lit _ => 1
  | .nil => 1
  | .ptr d => uptoBulk d + 1
  | .slice elems spare => uptoBulkAll elems + uptoBulkAll spare + 1
  | .agg parts => uptoBulkAll parts + 1
  | .iface _ d => uptoBulk d + 1
  | .map entries => uptoBulkEntries entries + 1
  | .held _ => 1
def uptoBulkAll {H : Type} : List (DataW H) → Nat
  | [] => 0
  | d :: r => uptoBulk d + uptoBulkAll r
def uptoBulkEntries {H : Type} : List (Lit × DataW H) → Nat
  | [] => 0
  | x :: r => uptoBulkEntry x + uptoBulkEntries r
def uptoBulkEntry {H : Type} : Lit × DataW H → Nat
  | (.string bytes, d) => bytes.length + uptoBulk d + 1
  | (_, d) => uptoBulk d + 1
 end
def uptoSmall : (H : Type) → List (DataW H) → Bool := fun _ ds => decide (uptoBulkAll ds ≤ 1048576)
def OpenSpec.upto (s : _root_.Go.ChangeSpec) : _root_.Go.OpenSpec := { _root_.Go.OpenSpec.ofChange s with cond := some uptoSmall }

/-- 'sawmilllaw38.KilnBegins', WHERE WHAT IT READS IS OF BULK AT MOST 1048576: true; the input reads as it did. -/
def kilnBeginsUptoRow : OpenClaim := { program := "ytkedpokbbogkmaadoor", sum := "67ea9c9460b9103861e562462138960973af8bcab9d7fb9aab3310fca29e57c1", func := "sawmill/sawmilllaw38.KilnBegins", spec := "kilnBegins", unfollowed := true, recurses := true, named := ["sawmill/schedule.limits", "sawmill/kiln.still", "sawmill/air.temps", "sawmill/air.depresses", "sawmill/air.contents", "math/bits.divideError", "math/bits.overflowError"], apart := false, laid := [("sawmill/schedule.limits", laid_sawmill_schedule_limits), ("sawmill/air.temps", laid_sawmill_air_temps), ("sawmill/air.depresses", laid_sawmill_air_depresses), ("sawmill/air.contents", laid_sawmill_air_contents), ("sawmill/kiln.still", laid_sawmill_kiln_still)], narrowed := true }
def KilnBeginsUptoSaid : Prop := kilnBeginsUptoRow.holds Tryd.pinned (OpenSpec.upto kilnBeginsSpec)

/-- 'sawmilllaw38.KilnLimits', WHERE WHAT IT READS IS OF BULK AT MOST 1048576: true; the input reads as it did. -/
def kilnLimitsUptoRow : OpenClaim := { program := "ytkedpokbbogkmaadoor", sum := "67ea9c9460b9103861e562462138960973af8bcab9d7fb9aab3310fca29e57c1", func := "sawmill/sawmilllaw38.KilnLimits", spec := "kilnLimits", unfollowed := true, recurses := true, named := ["sawmill/schedule.limits", "sawmill/kiln.still", "sawmill/air.temps", "sawmill/air.depresses", "sawmill/air.contents", "math/bits.divideError", "math/bits.overflowError"], apart := false, laid := [("sawmill/schedule.limits", laid_sawmill_schedule_limits), ("sawmill/air.temps", laid_sawmill_air_temps), ("sawmill/air.depresses", laid_sawmill_air_depresses), ("sawmill/air.contents", laid_sawmill_air_contents), ("sawmill/kiln.still", laid_sawmill_kiln_still)], narrowed := true }
def KilnLimitsUptoSaid : Prop := kilnLimitsUptoRow.holds Tryd.pinned (OpenSpec.upto kilnLimitsSpec)

/-- 'sawmilllaw38.KilnCounts', WHERE WHAT IT READS IS OF BULK AT MOST 1048576: true; the input reads as it did. -/
def kilnCountsUptoRow : OpenClaim := { program := "ytkedpokbbogkmaadoor", sum := "67ea9c9460b9103861e562462138960973af8bcab9d7fb9aab3310fca29e57c1", func := "sawmill/sawmilllaw38.KilnCounts", spec := "kilnCounts", unfollowed := true, recurses := true, named := ["sawmill/schedule.limits", "sawmill/kiln.still", "sawmill/air.temps", "sawmill/air.depresses", "sawmill/air.contents", "math/bits.divideError", "math/bits.overflowError"], apart := false, laid := [("sawmill/schedule.limits", laid_sawmill_schedule_limits), ("sawmill/air.temps", laid_sawmill_air_temps), ("sawmill/air.depresses", laid_sawmill_air_depresses), ("sawmill/air.contents", laid_sawmill_air_contents), ("sawmill/kiln.still", laid_sawmill_kiln_still)], narrowed := true }
def KilnCountsUptoSaid : Prop := kilnCountsUptoRow.holds Tryd.pinned (OpenSpec.upto kilnCountsSpec)

/-- 'sawmilllaw38.KilnAlone', WHERE WHAT IT READS IS OF BULK AT MOST 1048576: true; the input reads as it did. -/
def kilnAloneUptoRow : OpenClaim := { program := "ytkedpokbbogkmaadoor", sum := "67ea9c9460b9103861e562462138960973af8bcab9d7fb9aab3310fca29e57c1", func := "sawmill/sawmilllaw38.KilnAlone", spec := "kilnAlone", unfollowed := true, recurses := true, named := ["sawmill/schedule.limits", "sawmill/kiln.still", "sawmill/air.temps", "sawmill/air.depresses", "sawmill/air.contents", "math/bits.divideError", "math/bits.overflowError"], apart := false, laid := [("sawmill/schedule.limits", laid_sawmill_schedule_limits), ("sawmill/air.temps", laid_sawmill_air_temps), ("sawmill/air.depresses", laid_sawmill_air_depresses), ("sawmill/air.contents", laid_sawmill_air_contents), ("sawmill/kiln.still", laid_sawmill_kiln_still)], narrowed := true }
def KilnAloneUptoSaid : Prop := kilnAloneUptoRow.holds Tryd.pinned (OpenSpec.upto kilnAloneSpec)

/-- 'sawmilllaw38.KilnNone', WHERE WHAT IT READS IS OF BULK AT MOST 1048576: true; the input reads as it did. -/
def kilnNoneUptoRow : OpenClaim := { program := "ytkedpokbbogkmaadoor", sum := "67ea9c9460b9103861e562462138960973af8bcab9d7fb9aab3310fca29e57c1", func := "sawmill/sawmilllaw38.KilnNone", spec := "kilnNone", unfollowed := true, recurses := true, named := ["sawmill/kiln.still", "sawmill/air.temps", "sawmill/air.depresses", "sawmill/air.contents", "math/bits.divideError", "math/bits.overflowError", "sawmill/schedule.limits"], apart := false, laid := [("sawmill/schedule.limits", laid_sawmill_schedule_limits), ("sawmill/air.temps", laid_sawmill_air_temps), ("sawmill/air.depresses", laid_sawmill_air_depresses), ("sawmill/air.contents", laid_sawmill_air_contents), ("sawmill/kiln.still", laid_sawmill_kiln_still)], narrowed := true }
def KilnNoneUptoSaid : Prop := kilnNoneUptoRow.holds Tryd.pinned (OpenSpec.upto kilnNoneSpec)

end Rows
end Go.Proofs.YtkedpokbbogkmaaDoor
