/-
  NARROWER THAN 'FOR EVERY INPUT', by the rows' own cells (each row's printed sentence says how): MoistTicks: laid · MoistMeans: laid · MoistBounds: laid · MoistFans: laid · MoistThick: laid · MoistSums: laid.
  DERIVED. THE GIVEN ROWS OF THIS SEAT. 6 by the template 'for every input the law returns true; each argument reads behind the call as it read before'; 0 by the template 'total and deterministic' (their statements: YtfjlbpjjcehcnaaDoorTotals.lean).
  GIVEN WITH THE SEED: the statements are not yours to turn. If you find one false, say at which input.
  Laid BY PROGRAM, IN A SANDBOX (cutbox-rows.mjs): the forced cells as the released guide's own fill.sh prints them over the translation 3eb28866b129ef8f… (all of the seat's roots in one cut). By AI agents, Wed Nov 11 2026. No macro, syntax, notation, axiom, sorry.
-/
import Derived.Test.YtfjlbpjjcehcnaaDoorChecked
import GoSem.Claim
import GoSem.ClaimJoined
import GoSem.ClaimMapViews
import Derived.JoinedTies
import Derived.KernelRfl
namespace Go.Proofs.YtfjlbpjjcehcnaaDoor
/- THE CELL 'sum', in the pinned program and in every row, IS THE sha256 OF THE DUMP (.gsa) THAT YtfjlbpjjcehcnaaDoorProg.lean LOADS. Nothing in Lean hashes anything: it is a label: what it is worth is what the hold of that sum in a sandbox is worth. -/
noncomputable def Tryd.pinned : Pinned := { name := "ytfjlbpjjcehcnaadoor", sum := "3eb28866b129ef8f35d5bc34d0025faf6c85fd720c10f9e5ae94ae979f0749a5", checked := Tryd.checked }
namespace Rows
def none {H : Type} : Left H := { results := [], args := [] }

/- WHAT THE LISTED PACKAGE-LEVEL VARIABLES READ AS WHEN THE CALL BEGINS. Each datum BY PROGRAM (the guide's laid-datum.mjs) off the statement by which the dump's own 'gosem.cut.vars' lays the variable. In a bare row this is a premise. The card (YtfjlbpjjcehcnaaDoorCards.lean) ties it to the program's text. -/
def laid_sawmill_air_temps {H : Type} : DataW H := .agg [.lit (.int .i64 200), .lit (.int .i64 400), .lit (.int .i64 600), .lit (.int .i64 800), .lit (.int .i64 1000), .lit (.int .i64 1200)]
def laid_sawmill_air_depresses {H : Type} : DataW H := .agg [.lit (.int .i64 0), .lit (.int .i64 20), .lit (.int .i64 50), .lit (.int .i64 100), .lit (.int .i64 200), .lit (.int .i64 300), .lit (.int .i64 400)]
def laid_sawmill_air_contents {H : Type} : DataW H := .agg [.agg [.lit (.int .i64 2800), .lit (.int .i64 2200), .lit (.int .i64 1750), .lit (.int .i64 1250), .lit (.int .i64 750), .lit (.int .i64 480), .lit (.int .i64 390)], .agg [.lit (.int .i64 2700), .lit (.int .i64 2100), .lit (.int .i64 1650), .lit (.int .i64 1150), .lit (.int .i64 680), .lit (.int .i64 440), .lit (.int .i64 350)], .agg [.lit (.int .i64 2600), .lit (.int .i64 2000), .lit (.int .i64 1550), .lit (.int .i64 1060), .lit (.int .i64 610), .lit (.int .i64 400), .lit (.int .i64 310)], .agg [.lit (.int .i64 2500), .lit (.int .i64 1900), .lit (.int .i64 1450), .lit (.int .i64 980), .lit (.int .i64 550), .lit (.int .i64 360), .lit (.int .i64 280)], .agg [.lit (.int .i64 2400), .lit (.int .i64 1800), .lit (.int .i64 1360), .lit (.int .i64 900), .lit (.int .i64 500), .lit (.int .i64 330), .lit (.int .i64 250)], .agg [.lit (.int .i64 2300), .lit (.int .i64 1700), .lit (.int .i64 1270), .lit (.int .i64 830), .lit (.int .i64 450), .lit (.int .i64 300), .lit (.int .i64 220)]]

/-- 'sawmilllaw36.MoistTicks': WHATEVER THE INPUT: true; the input reads as it did. -/
def moistTicksSpec : ChangeSpec := { name := "moistTicks", fn := fun _ => fun
  | [d] => { results := [.lit (.bool true)], args := [d] }
  | _ => none }
def moistTicksRow : OpenClaim := { program := "ytfjlbpjjcehcnaadoor", sum := "3eb28866b129ef8f35d5bc34d0025faf6c85fd720c10f9e5ae94ae979f0749a5", func := "sawmill/sawmilllaw36.MoistTicks", spec := "moistTicks", unfollowed := true, recurses := true, named := ["sawmill/air.temps", "sawmill/air.depresses", "sawmill/air.contents", "math/bits.divideError", "math/bits.overflowError"], apart := false, laid := [("sawmill/air.temps", laid_sawmill_air_temps), ("sawmill/air.depresses", laid_sawmill_air_depresses), ("sawmill/air.contents", laid_sawmill_air_contents)] }
def MoistTicksSaid : Prop := moistTicksRow.holds Tryd.pinned (OpenSpec.ofChange moistTicksSpec)

/-- ITS FALSE NEIGHBOUR: 'it returns false'. Refute it at one input. -/
def moistTicksWrong : ChangeSpec := { name := "moistTicks", fn := fun _ => fun
  | [d] => { results := [.lit (.bool false)], args := [d] }
  | _ => none }
def MoistTicksWrongFalsely : Prop := moistTicksRow.holds Tryd.pinned (OpenSpec.ofChange moistTicksWrong)

/-- 'sawmilllaw36.MoistMeans': WHATEVER THE INPUT: true; the input reads as it did. -/
def moistMeansSpec : ChangeSpec := { name := "moistMeans", fn := fun _ => fun
  | [d1, d2] => { results := [.lit (.bool true)], args := [d1, d2] }
  | _ => none }
def moistMeansRow : OpenClaim := { program := "ytfjlbpjjcehcnaadoor", sum := "3eb28866b129ef8f35d5bc34d0025faf6c85fd720c10f9e5ae94ae979f0749a5", func := "sawmill/sawmilllaw36.MoistMeans", spec := "moistMeans", unfollowed := true, recurses := true, named := ["sawmill/air.temps", "sawmill/air.depresses", "sawmill/air.contents", "math/bits.divideError", "math/bits.overflowError"], apart := false, laid := [("sawmill/air.temps", laid_sawmill_air_temps), ("sawmill/air.depresses", laid_sawmill_air_depresses), ("sawmill/air.contents", laid_sawmill_air_contents)] }
def MoistMeansSaid : Prop := moistMeansRow.holds Tryd.pinned (OpenSpec.ofChange moistMeansSpec)

/-- ITS FALSE NEIGHBOUR: 'it returns false'. Refute it at one input. -/
def moistMeansWrong : ChangeSpec := { name := "moistMeans", fn := fun _ => fun
  | [d1, d2] => { results := [.lit (.bool false)], args := [d1, d2] }
  | _ => none }
def MoistMeansWrongFalsely : Prop := moistMeansRow.holds Tryd.pinned (OpenSpec.ofChange moistMeansWrong)

/-- 'sawmilllaw36.MoistBounds': WHATEVER THE INPUT: true; the input reads as it did. -/
def moistBoundsSpec : ChangeSpec := { name := "moistBounds", fn := fun _ => fun
  | [d] => { results := [.lit (.bool true)], args := [d] }
  | _ => none }
def moistBoundsRow : OpenClaim := { program := "ytfjlbpjjcehcnaadoor", sum := "3eb28866b129ef8f35d5bc34d0025faf6c85fd720c10f9e5ae94ae979f0749a5", func := "sawmill/sawmilllaw36.MoistBounds", spec := "moistBounds", unfollowed := true, recurses := true, named := ["sawmill/air.temps", "sawmill/air.depresses", "sawmill/air.contents", "math/bits.divideError", "math/bits.overflowError"], apart := false, laid := [("sawmill/air.temps", laid_sawmill_air_temps), ("sawmill/air.depresses", laid_sawmill_air_depresses), ("sawmill/air.contents", laid_sawmill_air_contents)] }
def MoistBoundsSaid : Prop := moistBoundsRow.holds Tryd.pinned (OpenSpec.ofChange moistBoundsSpec)

/-- ITS FALSE NEIGHBOUR: 'it returns false'. Refute it at one input. -/
def moistBoundsWrong : ChangeSpec := { name := "moistBounds", fn := fun _ => fun
  | [d] => { results := [.lit (.bool false)], args := [d] }
  | _ => none }
def MoistBoundsWrongFalsely : Prop := moistBoundsRow.holds Tryd.pinned (OpenSpec.ofChange moistBoundsWrong)

/-- 'sawmilllaw36.MoistFans': WHATEVER THE INPUT: true; the input reads as it did. -/
def moistFansSpec : ChangeSpec := { name := "moistFans", fn := fun _ => fun
  | [d] => { results := [.lit (.bool true)], args := [d] }
  | _ => none }
def moistFansRow : OpenClaim := { program := "ytfjlbpjjcehcnaadoor", sum := "3eb28866b129ef8f35d5bc34d0025faf6c85fd720c10f9e5ae94ae979f0749a5", func := "sawmill/sawmilllaw36.MoistFans", spec := "moistFans", unfollowed := true, recurses := true, named := ["sawmill/air.temps", "sawmill/air.depresses", "sawmill/air.contents", "math/bits.divideError", "math/bits.overflowError"], apart := false, laid := [("sawmill/air.temps", laid_sawmill_air_temps), ("sawmill/air.depresses", laid_sawmill_air_depresses), ("sawmill/air.contents", laid_sawmill_air_contents)] }
def MoistFansSaid : Prop := moistFansRow.holds Tryd.pinned (OpenSpec.ofChange moistFansSpec)

/-- ITS FALSE NEIGHBOUR: 'it returns false'. Refute it at one input. -/
def moistFansWrong : ChangeSpec := { name := "moistFans", fn := fun _ => fun
  | [d] => { results := [.lit (.bool false)], args := [d] }
  | _ => none }
def MoistFansWrongFalsely : Prop := moistFansRow.holds Tryd.pinned (OpenSpec.ofChange moistFansWrong)

/-- 'sawmilllaw36.MoistThick': WHATEVER THE INPUT: true; the input reads as it did. -/
def moistThickSpec : ChangeSpec := { name := "moistThick", fn := fun _ => fun
  | [d1, d2] => { results := [.lit (.bool true)], args := [d1, d2] }
  | _ => none }
def moistThickRow : OpenClaim := { program := "ytfjlbpjjcehcnaadoor", sum := "3eb28866b129ef8f35d5bc34d0025faf6c85fd720c10f9e5ae94ae979f0749a5", func := "sawmill/sawmilllaw36.MoistThick", spec := "moistThick", unfollowed := true, recurses := true, named := ["sawmill/air.temps", "sawmill/air.depresses", "sawmill/air.contents", "math/bits.divideError", "math/bits.overflowError"], apart := false, laid := [("sawmill/air.temps", laid_sawmill_air_temps), ("sawmill/air.depresses", laid_sawmill_air_depresses), ("sawmill/air.contents", laid_sawmill_air_contents)] }
def MoistThickSaid : Prop := moistThickRow.holds Tryd.pinned (OpenSpec.ofChange moistThickSpec)

/-- ITS FALSE NEIGHBOUR: 'it returns false'. Refute it at one input. -/
def moistThickWrong : ChangeSpec := { name := "moistThick", fn := fun _ => fun
  | [d1, d2] => { results := [.lit (.bool false)], args := [d1, d2] }
  | _ => none }
def MoistThickWrongFalsely : Prop := moistThickRow.holds Tryd.pinned (OpenSpec.ofChange moistThickWrong)

/-- 'sawmilllaw36.MoistSums': WHATEVER THE INPUT: true; the input reads as it did. -/
def moistSumsSpec : ChangeSpec := { name := "moistSums", fn := fun _ => fun
  | [d] => { results := [.lit (.bool true)], args := [d] }
  | _ => none }
def moistSumsRow : OpenClaim := { program := "ytfjlbpjjcehcnaadoor", sum := "3eb28866b129ef8f35d5bc34d0025faf6c85fd720c10f9e5ae94ae979f0749a5", func := "sawmill/sawmilllaw36.MoistSums", spec := "moistSums", unfollowed := true, recurses := true, named := ["sawmill/air.temps", "sawmill/air.depresses", "sawmill/air.contents", "math/bits.divideError", "math/bits.overflowError"], apart := false, laid := [("sawmill/air.temps", laid_sawmill_air_temps), ("sawmill/air.depresses", laid_sawmill_air_depresses), ("sawmill/air.contents", laid_sawmill_air_contents)] }
def MoistSumsSaid : Prop := moistSumsRow.holds Tryd.pinned (OpenSpec.ofChange moistSumsSpec)

/-- ITS FALSE NEIGHBOUR: 'it returns false'. Refute it at one input. -/
def moistSumsWrong : ChangeSpec := { name := "moistSums", fn := fun _ => fun
  | [d] => { results := [.lit (.bool false)], args := [d] }
  | _ => none }
def MoistSumsWrongFalsely : Prop := moistSumsRow.holds Tryd.pinned (OpenSpec.ofChange moistSumsWrong)

/- THE SECOND FORM. 'bulk': how many values and letters a reading holds, each counted each time it is reached (what is shared counts as often as it is met; a slice's spare places count too). A statement '..UptoSaid' is the law's where the arguments, and the package variables that the reading takes, are together of bulk at most 1048576: NARROWER than '..Said'. Prove '..Said' where nothing that the law and all that it calls make is longer than what came in: it says more and counts as full. Else prove '..UptoSaid'. A law counts once. -/
mutual
def uptoBulk {H : Type} : DataW H → Nat
  | .lit (.string bytes) => bytes.length + 1
  | .lit _ => 1
  | .nil => 1
  | .ptr d => uptoBulk d + 1
  | .slice elems spare => uptoBulkAll elems + uptoBulkAll spare + 1
  | .agg parts => uptoBulkAll parts + 1
  | .iface _ d => uptoBulk d + 1
  | .map entries => uptoBulkEntries entries + 1
  | .held _ => 1
def uptoBulkAll {H : Type} : List (DataW H) → Nat
  | [] => 0
  | d :: r => uptoBulk d + uptoBulkAll r
def uptoBulkEntries {H : Type} : List (Lit × DataW H) → Nat
  | [] => 0
  | x :: r => uptoBulkEntry x + uptoBulkEntries r
def uptoBulkEntry {H : Type} : Lit × DataW H → Nat
  | (.string bytes, d) => bytes.length + uptoBulk d + 1
  | (_, d) => uptoBulk d + 1
 end
def uptoSmall : (H : Type) → List (DataW H) → Bool := fun _ ds => decide (uptoBulkAll ds ≤ 1048576)
def OpenSpec.upto (s : _root_.Go.ChangeSpec) : _root_.Go.OpenSpec := { _root_.Go.OpenSpec.ofChange s with cond := some uptoSmall }

/-- 'sawmilllaw36.MoistTicks', WHERE WHAT IT READS IS OF BULK AT MOST 1048576: true; the input reads as it did. -/
def moistTicksUptoRow : OpenClaim := { program := "ytfjlbpjjcehcnaadoor", sum := "3eb28866b129ef8f35d5bc34d0025faf6c85fd720c10f9e5ae94ae979f0749a5", func := "sawmill/sawmilllaw36.MoistTicks", spec := "moistTicks", unfollowed := true, recurses := true, named := ["sawmill/air.temps", "sawmill/air.depresses", "sawmill/air.contents", "math/bits.divideError", "math/bits.overflowError"], apart := false, laid := [("sawmill/air.temps", laid_sawmill_air_temps), ("sawmill/air.depresses", laid_sawmill_air_depresses), ("sawmill/air.contents", laid_sawmill_air_contents)], narrowed := true }
def MoistTicksUptoSaid : Prop := moistTicksUptoRow.holds Tryd.pinned (OpenSpec.upto moistTicksSpec)

/-- 'sawmilllaw36.MoistMeans', WHERE WHAT IT READS IS OF BULK AT MOST 1048576: true; the input reads as it did. -/
def moistMeansUptoRow : OpenClaim := { program := "ytfjlbpjjcehcnaadoor", sum := "3eb28866b129ef8f35d5bc34d0025faf6c85fd720c10f9e5ae94ae979f0749a5", func := "sawmill/sawmilllaw36.MoistMeans", spec := "moistMeans", unfollowed := true, recurses := true, named := ["sawmill/air.temps", "sawmill/air.depresses", "sawmill/air.contents", "math/bits.divideError", "math/bits.overflowError"], apart := false, laid := [("sawmill/air.temps", laid_sawmill_air_temps), ("sawmill/air.depresses", laid_sawmill_air_depresses), ("sawmill/air.contents", laid_sawmill_air_contents)], narrowed := true }
def MoistMeansUptoSaid : Prop := moistMeansUptoRow.holds Tryd.pinned (OpenSpec.upto moistMeansSpec)

/-- 'sawmilllaw36.MoistBounds', WHERE WHAT IT READS IS OF BULK AT MOST 1048576: true; the input reads as it did. -/
def moistBoundsUptoRow : OpenClaim := { program := "ytfjlbpjjcehcnaadoor", sum := "3eb28866b129ef8f35d5bc34d0025faf6c85fd720c10f9e5ae94ae979f0749a5", func := "sawmill/sawmilllaw36.MoistBounds", spec := "moistBounds", unfollowed := true, recurses := true, named := ["sawmill/air.temps", "sawmill/air.depresses", "sawmill/air.contents", "math/bits.divideError", "math/bits.overflowError"], apart := false, laid := [("sawmill/air.temps", laid_sawmill_air_temps), ("sawmill/air.depresses", laid_sawmill_air_depresses), ("sawmill/air.contents", laid_sawmill_air_contents)], narrowed := true }
def MoistBoundsUptoSaid : Prop := moistBoundsUptoRow.holds Tryd.pinned (OpenSpec.upto moistBoundsSpec)

/-- 'sawmilllaw36.MoistFans', WHERE WHAT IT READS IS OF BULK AT MOST 1048576: true; the input reads as it did. -/
def moistFansUptoRow : OpenClaim := { program := "ytfjlbpjjcehcnaadoor", sum := "3eb28866b129ef8f35d5bc34d0025faf6c85fd720c10f9e5ae94ae979f0749a5", func := "sawmill/sawmilllaw36.MoistFans", spec := "moistFans", unfollowed := true, recurses := true, named := ["sawmill/air.temps", "sawmill/air.depresses", "sawmill/air.contents", "math/bits.divideError", "math/bits.overflowError"], apart := false, laid := [("sawmill/air.temps", laid_sawmill_air_temps), ("sawmill/air.depresses", laid_sawmill_air_depresses), ("sawmill/air.contents", laid_sawmill_air_contents)], narrowed := true }
def MoistFansUptoSaid : Prop := moistFansUptoRow.holds Tryd.pinned (OpenSpec.upto moistFansSpec)

/-- 'sawmilllaw36.MoistThick', WHERE WHAT IT READS IS OF BULK AT MOST 1048576: true; the input reads as it did. -/
def moistThickUptoRow : OpenClaim := { program := "ytfjlbpjjcehcnaadoor", sum := "3eb28866b129ef8f35d5bc34d0025faf6c85fd720c10f9e5ae94ae979f0749a5", func := "sawmill/sawmilllaw36.MoistThick", spec := "moistThick", unfollowed := true, recurses := true, named := ["sawmill/air.temps", "sawmill/air.depresses", "sawmill/air.contents", "math/bits.divideError", "math/bits.overflowError"], apart := false, laid := [("sawmill/air.temps", laid_sawmill_air_temps), ("sawmill/air.depresses", laid_sawmill_air_depresses), ("sawmill/air.contents", laid_sawmill_air_contents)], narrowed := true }
def MoistThickUptoSaid : Prop := moistThickUptoRow.holds Tryd.pinned (OpenSpec.upto moistThickSpec)

/-- 'sawmilllaw36.MoistSums', WHERE WHAT IT READS IS OF BULK AT MOST 1048576: true; the input reads as it did. -/
def moistSumsUptoRow : OpenClaim := { program := "ytfjlbpjjcehcnaadoor", sum := "3eb28866b129ef8f35d5bc34d0025faf6c85fd720c10f9e5ae94ae979f0749a5", func := "sawmill/sawmilllaw36.MoistSums", spec := "moistSums", unfollowed := true, recurses := true, named := ["sawmill/air.temps", "sawmill/air.depresses", "sawmill/air.contents", "math/bits.divideError", "math/bits.overflowError"], apart := false, laid := [("sawmill/air.temps", laid_sawmill_air_temps), ("sawmill/air.depresses", laid_sawmill_air_depresses), ("sawmill/air.contents", laid_sawmill_air_contents)], narrowed := true }
def MoistSumsUptoSaid : Prop := moistSumsUptoRow.holds Tryd.pinned (OpenSpec.upto moistSumsSpec)

end Rows
end Go.Proofs.YtfjlbpjjcehcnaaDoor
