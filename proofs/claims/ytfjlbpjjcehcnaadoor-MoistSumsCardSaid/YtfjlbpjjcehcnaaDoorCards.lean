/-
  DERIVED. GIVEN WITH THE SEED: THE CARDS: each row of YtfjlbpjjcehcnaaDoorRows.lean that lists a variable, with what it lists TIED to the program's text (the seventh form; the later family's looks); each row that meets fmt, with fmt's text TOLD by the authors' own Lean function (tested against real Go, not proved from fmt's source: count such statements apart). THE CARD IS WHAT COUNTS. Prove the row's statement (the work); the ties are given (YtfjlbpjjcehcnaaDoorTie.lean); close each card by the builder's one call (the guide's Derived/Test/ToyasCard.lean, 'card_holds'). Laid BY PROGRAM, IN A SANDBOX (cutbox-door.mjs). By AI agents, Wed Nov 11 2026. No macro, syntax, notation, axiom, sorry.
-/
import Derived.Test.YtfjlbpjjcehcnaaDoorRows
import GoSem.ClaimSeven
namespace Go.Proofs.YtfjlbpjjcehcnaaDoor
namespace Rows

/-- THE TIED CARD OF 'sawmilllaw36.MoistTicks'. -/
def moistTicksCard : Claim7 := { stood := { row := moistTicksRow, standIns := [], harness := (true, "7a5d9f5bf1e4aa45365c4180b19c0061867f0c09446e736fc9dca4f7f9431777"), looks := false }, kinds := [], alts := [], laidByText := true, laidKinds := [.data, .data, .data], laidTests := true, laidLooks := .later }
def MoistTicksCardSaid : Prop := Claim7.holds Tryd.pinned (.plain (OpenSpec.ofChange moistTicksSpec)) moistTicksCard

/-- THE TIED CARD OF 'sawmilllaw36.MoistMeans'. -/
def moistMeansCard : Claim7 := { stood := { row := moistMeansRow, standIns := [], harness := (true, "7a5d9f5bf1e4aa45365c4180b19c0061867f0c09446e736fc9dca4f7f9431777"), looks := false }, kinds := [], alts := [], laidByText := true, laidKinds := [.data, .data, .data], laidTests := true, laidLooks := .later }
def MoistMeansCardSaid : Prop := Claim7.holds Tryd.pinned (.plain (OpenSpec.ofChange moistMeansSpec)) moistMeansCard

/-- THE TIED CARD OF 'sawmilllaw36.MoistBounds'. -/
def moistBoundsCard : Claim7 := { stood := { row := moistBoundsRow, standIns := [], harness := (true, "7a5d9f5bf1e4aa45365c4180b19c0061867f0c09446e736fc9dca4f7f9431777"), looks := false }, kinds := [], alts := [], laidByText := true, laidKinds := [.data, .data, .data], laidTests := true, laidLooks := .later }
def MoistBoundsCardSaid : Prop := Claim7.holds Tryd.pinned (.plain (OpenSpec.ofChange moistBoundsSpec)) moistBoundsCard

/-- THE TIED CARD OF 'sawmilllaw36.MoistFans'. -/
def moistFansCard : Claim7 := { stood := { row := moistFansRow, standIns := [], harness := (true, "7a5d9f5bf1e4aa45365c4180b19c0061867f0c09446e736fc9dca4f7f9431777"), looks := false }, kinds := [], alts := [], laidByText := true, laidKinds := [.data, .data, .data], laidTests := true, laidLooks := .later }
def MoistFansCardSaid : Prop := Claim7.holds Tryd.pinned (.plain (OpenSpec.ofChange moistFansSpec)) moistFansCard

/-- THE TIED CARD OF 'sawmilllaw36.MoistThick'. -/
def moistThickCard : Claim7 := { stood := { row := moistThickRow, standIns := [], harness := (true, "7a5d9f5bf1e4aa45365c4180b19c0061867f0c09446e736fc9dca4f7f9431777"), looks := false }, kinds := [], alts := [], laidByText := true, laidKinds := [.data, .data, .data], laidTests := true, laidLooks := .later }
def MoistThickCardSaid : Prop := Claim7.holds Tryd.pinned (.plain (OpenSpec.ofChange moistThickSpec)) moistThickCard

/-- THE TIED CARD OF 'sawmilllaw36.MoistSums'. -/
def moistSumsCard : Claim7 := { stood := { row := moistSumsRow, standIns := [], harness := (true, "7a5d9f5bf1e4aa45365c4180b19c0061867f0c09446e736fc9dca4f7f9431777"), looks := false }, kinds := [], alts := [], laidByText := true, laidKinds := [.data, .data, .data], laidTests := true, laidLooks := .later }
def MoistSumsCardSaid : Prop := Claim7.holds Tryd.pinned (.plain (OpenSpec.ofChange moistSumsSpec)) moistSumsCard

/-- THE SECOND FORM's CARD OF 'sawmilllaw36.MoistTicks'. -/
def moistTicksUptoCard : Claim7 := { stood := { row := moistTicksUptoRow, standIns := [], harness := (true, "7a5d9f5bf1e4aa45365c4180b19c0061867f0c09446e736fc9dca4f7f9431777"), looks := false }, kinds := [], alts := [], laidByText := true, laidKinds := [.data, .data, .data], laidTests := true, laidLooks := .later }
def MoistTicksUptoCardSaid : Prop := Claim7.holds Tryd.pinned (.plain (OpenSpec.upto moistTicksSpec)) moistTicksUptoCard

/-- THE SECOND FORM's CARD OF 'sawmilllaw36.MoistMeans'. -/
def moistMeansUptoCard : Claim7 := { stood := { row := moistMeansUptoRow, standIns := [], harness := (true, "7a5d9f5bf1e4aa45365c4180b19c0061867f0c09446e736fc9dca4f7f9431777"), looks := false }, kinds := [], alts := [], laidByText := true, laidKinds := [.data, .data, .data], laidTests := true, laidLooks := .later }
def MoistMeansUptoCardSaid : Prop := Claim7.holds Tryd.pinned (.plain (OpenSpec.upto moistMeansSpec)) moistMeansUptoCard

/-- THE SECOND FORM's CARD OF 'sawmilllaw36.MoistBounds'. -/
def moistBoundsUptoCard : Claim7 := { stood := { row := moistBoundsUptoRow, standIns := [], harness := (true, "7a5d9f5bf1e4aa45365c4180b19c0061867f0c09446e736fc9dca4f7f9431777"), looks := false }, kinds := [], alts := [], laidByText := true, laidKinds := [.data, .data, .data], laidTests := true, laidLooks := .later }
def MoistBoundsUptoCardSaid : Prop := Claim7.holds Tryd.pinned (.plain (OpenSpec.upto moistBoundsSpec)) moistBoundsUptoCard

/-- THE SECOND FORM's CARD OF 'sawmilllaw36.MoistFans'. -/
def moistFansUptoCard : Claim7 := { stood := { row := moistFansUptoRow, standIns := [], harness := (true, "7a5d9f5bf1e4aa45365c4180b19c0061867f0c09446e736fc9dca4f7f9431777"), looks := false }, kinds := [], alts := [], laidByText := true, laidKinds := [.data, .data, .data], laidTests := true, laidLooks := .later }
def MoistFansUptoCardSaid : Prop := Claim7.holds Tryd.pinned (.plain (OpenSpec.upto moistFansSpec)) moistFansUptoCard

/-- THE SECOND FORM's CARD OF 'sawmilllaw36.MoistThick'. -/
def moistThickUptoCard : Claim7 := { stood := { row := moistThickUptoRow, standIns := [], harness := (true, "7a5d9f5bf1e4aa45365c4180b19c0061867f0c09446e736fc9dca4f7f9431777"), looks := false }, kinds := [], alts := [], laidByText := true, laidKinds := [.data, .data, .data], laidTests := true, laidLooks := .later }
def MoistThickUptoCardSaid : Prop := Claim7.holds Tryd.pinned (.plain (OpenSpec.upto moistThickSpec)) moistThickUptoCard

/-- THE SECOND FORM's CARD OF 'sawmilllaw36.MoistSums'. -/
def moistSumsUptoCard : Claim7 := { stood := { row := moistSumsUptoRow, standIns := [], harness := (true, "7a5d9f5bf1e4aa45365c4180b19c0061867f0c09446e736fc9dca4f7f9431777"), looks := false }, kinds := [], alts := [], laidByText := true, laidKinds := [.data, .data, .data], laidTests := true, laidLooks := .later }
def MoistSumsUptoCardSaid : Prop := Claim7.holds Tryd.pinned (.plain (OpenSpec.upto moistSumsSpec)) moistSumsUptoCard
end Rows
end Go.Proofs.YtfjlbpjjcehcnaaDoor
