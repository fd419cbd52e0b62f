/-
  DERIVED. GIVEN WITH THE SEED: THE CARDS: each row of YtemginpenfhkkaaGreatDoorRows.lean that lists a variable, with what it lists TIED to the program's text (the seventh form; the later family's looks); each row that meets fmt, with fmt's text TOLD by the authors' own Lean function (tested against real Go, not proved from fmt's source: count such statements apart). THE CARD IS WHAT COUNTS. Prove the row's statement (the work); the ties are given (YtemginpenfhkkaaGreatDoorTie.lean); close each card by the builder's one call (the guide's Derived/Test/ToyasCard.lean, 'card_holds'). Laid BY PROGRAM, IN A SANDBOX (cutbox-door.mjs). By AI agents, Wed Nov 11 2026. No macro, syntax, notation, axiom, sorry.
-/
import Derived.Test.YtemginpenfhkkaaGreatDoorRows
import GoSem.ClaimSeven
namespace Go.Proofs.YtemginpenfhkkaaGreatDoor
namespace Rows

/-- THE TIED CARD OF 'talismanlaw05.GroupChecks'. -/
def groupChecksCard : Claim7 := { stood := { row := groupChecksRow, standIns := [], harness := (true, "0bc9430c3fd4ed99a8fa0e0f6a03279a655becb705f64068ca3a8d31c247051f"), looks := false }, kinds := [], alts := [], laidByText := true, laidKinds := [.data, .data, .data], laidTests := true, laidLooks := .later }
def GroupChecksCardSaid : Prop := Claim7.holds Tryz.pinned (.plain (OpenSpec.ofChange groupChecksSpec)) groupChecksCard

/-- THE TIED CARD OF 'talismanlaw05.GroupClosures'. -/
def groupClosuresCard : Claim7 := { stood := { row := groupClosuresRow, standIns := [], harness := (true, "0bc9430c3fd4ed99a8fa0e0f6a03279a655becb705f64068ca3a8d31c247051f"), looks := false }, kinds := [], alts := [], laidByText := true, laidKinds := [.data, .data, .data], laidTests := true, laidLooks := .later }
def GroupClosuresCardSaid : Prop := Claim7.holds Tryz.pinned (.plain (OpenSpec.ofChange groupClosuresSpec)) groupClosuresCard

/-- THE TIED CARD OF 'talismanlaw05.GroupAutomorphisms'. -/
def groupAutomorphismsCard : Claim7 := { stood := { row := groupAutomorphismsRow, standIns := [], harness := (true, "0bc9430c3fd4ed99a8fa0e0f6a03279a655becb705f64068ca3a8d31c247051f"), looks := false }, kinds := [], alts := [], laidByText := true, laidKinds := [.data, .data, .data], laidTests := true, laidLooks := .later }
def GroupAutomorphismsCardSaid : Prop := Claim7.holds Tryz.pinned (.plain (OpenSpec.ofChange groupAutomorphismsSpec)) groupAutomorphismsCard

/-- THE TIED CARD OF 'talismanlaw05.GroupCounts'. -/
def groupCountsCard : Claim7 := { stood := { row := groupCountsRow, standIns := [], harness := (true, "0bc9430c3fd4ed99a8fa0e0f6a03279a655becb705f64068ca3a8d31c247051f"), looks := false }, kinds := [], alts := [], laidByText := true, laidKinds := [.data, .data, .data], laidTests := true, laidLooks := .later }
def GroupCountsCardSaid : Prop := Claim7.holds Tryz.pinned (.plain (OpenSpec.ofChange groupCountsSpec)) groupCountsCard

/-- THE TIED CARD OF 'talismanlaw05.GroupCosets'. -/
def groupCosetsCard : Claim7 := { stood := { row := groupCosetsRow, standIns := [], harness := (true, "0bc9430c3fd4ed99a8fa0e0f6a03279a655becb705f64068ca3a8d31c247051f"), looks := false }, kinds := [], alts := [], laidByText := true, laidKinds := [.data, .data, .data], laidTests := true, laidLooks := .later }
def GroupCosetsCardSaid : Prop := Claim7.holds Tryz.pinned (.plain (OpenSpec.ofChange groupCosetsSpec)) groupCosetsCard

/-- THE TIED CARD OF 'talismanlaw05.GroupColours'. -/
def groupColoursCard : Claim7 := { stood := { row := groupColoursRow, standIns := [], harness := (true, "0bc9430c3fd4ed99a8fa0e0f6a03279a655becb705f64068ca3a8d31c247051f"), looks := false }, kinds := [], alts := [], laidByText := true, laidKinds := [.data, .data, .data], laidTests := true, laidLooks := .later }
def GroupColoursCardSaid : Prop := Claim7.holds Tryz.pinned (.plain (OpenSpec.ofChange groupColoursSpec)) groupColoursCard

/-- THE TIED CARD OF 'talismanlaw05.GroupSymmetries'. -/
def groupSymmetriesCard : Claim7 := { stood := { row := groupSymmetriesRow, standIns := [], harness := (true, "0bc9430c3fd4ed99a8fa0e0f6a03279a655becb705f64068ca3a8d31c247051f"), looks := false }, kinds := [], alts := [], laidByText := true, laidKinds := [.data, .data, .data], laidTests := true, laidLooks := .later }
def GroupSymmetriesCardSaid : Prop := Claim7.holds Tryz.pinned (.plain (OpenSpec.ofChange groupSymmetriesSpec)) groupSymmetriesCard

/-- THE TIED CARD OF 'talismanlaw05.GroupSquares'. -/
def groupSquaresCard : Claim7 := { stood := { row := groupSquaresRow, standIns := [], harness := (true, "0bc9430c3fd4ed99a8fa0e0f6a03279a655becb705f64068ca3a8d31c247051f"), looks := false }, kinds := [], alts := [], laidByText := true, laidKinds := [.data, .data, .data], laidTests := true, laidLooks := .later }
def GroupSquaresCardSaid : Prop := Claim7.holds Tryz.pinned (.plain (OpenSpec.ofChange groupSquaresSpec)) groupSquaresCard

/-- THE TIED CARD OF 'talismanlaw05.GroupKeeps'. -/
def groupKeepsCard : Claim7 := { stood := { row := groupKeepsRow, standIns := [], harness := (true, "0bc9430c3fd4ed99a8fa0e0f6a03279a655becb705f64068ca3a8d31c247051f"), looks := false }, kinds := [], alts := [], laidByText := true, laidKinds := [.data, .data, .data], laidTests := true, laidLooks := .later }
def GroupKeepsCardSaid : Prop := Claim7.holds Tryz.pinned (.plain (OpenSpec.ofChange groupKeepsSpec)) groupKeepsCard

/-- THE TIED CARD OF 'talismanlaw05.GroupOrbits'. -/
def groupOrbitsCard : Claim7 := { stood := { row := groupOrbitsRow, standIns := [], harness := (true, "0bc9430c3fd4ed99a8fa0e0f6a03279a655becb705f64068ca3a8d31c247051f"), looks := false }, kinds := [], alts := [], laidByText := true, laidKinds := [.data, .data, .data], laidTests := true, laidLooks := .later }
def GroupOrbitsCardSaid : Prop := Claim7.holds Tryz.pinned (.plain (OpenSpec.ofChange groupOrbitsSpec)) groupOrbitsCard

/-- THE TIED CARD OF 'talismanlaw05.GroupLagrange'. -/
def groupLagrangeCard : Claim7 := { stood := { row := groupLagrangeRow, standIns := [], harness := (true, "0bc9430c3fd4ed99a8fa0e0f6a03279a655becb705f64068ca3a8d31c247051f"), looks := false }, kinds := [], alts := [], laidByText := true, laidKinds := [.data, .data, .data], laidTests := true, laidLooks := .later }
def GroupLagrangeCardSaid : Prop := Claim7.holds Tryz.pinned (.plain (OpenSpec.ofChange groupLagrangeSpec)) groupLagrangeCard

/-- THE TIED CARD OF 'talismanlaw05.GroupActs'. -/
def groupActsCard : Claim7 := { stood := { row := groupActsRow, standIns := [], harness := (true, "0bc9430c3fd4ed99a8fa0e0f6a03279a655becb705f64068ca3a8d31c247051f"), looks := false }, kinds := [], alts := [], laidByText := true, laidKinds := [.data, .data, .data], laidTests := true, laidLooks := .later }
def GroupActsCardSaid : Prop := Claim7.holds Tryz.pinned (.plain (OpenSpec.ofChange groupActsSpec)) groupActsCard

/-- THE TIED CARD OF 'talismanlaw05.GroupSystems'. -/
def groupSystemsCard : Claim7 := { stood := { row := groupSystemsRow, standIns := [], harness := (true, "0bc9430c3fd4ed99a8fa0e0f6a03279a655becb705f64068ca3a8d31c247051f"), looks := false }, kinds := [], alts := [], laidByText := true, laidKinds := [.data, .data, .data], laidTests := true, laidLooks := .later }
def GroupSystemsCardSaid : Prop := Claim7.holds Tryz.pinned (.plain (OpenSpec.ofChange groupSystemsSpec)) groupSystemsCard

/-- THE TIED CARD OF 'talismanlaw05.GroupSames'. -/
def groupSamesCard : Claim7 := { stood := { row := groupSamesRow, standIns := [], harness := (true, "0bc9430c3fd4ed99a8fa0e0f6a03279a655becb705f64068ca3a8d31c247051f"), looks := false }, kinds := [], alts := [], laidByText := true, laidKinds := [.data, .data, .data], laidTests := true, laidLooks := .later }
def GroupSamesCardSaid : Prop := Claim7.holds Tryz.pinned (.plain (OpenSpec.ofChange groupSamesSpec)) groupSamesCard

/-- THE TIED CARD OF 'talismanlaw05.GroupImages'. -/
def groupImagesCard : Claim7 := { stood := { row := groupImagesRow, standIns := [], harness := (true, "0bc9430c3fd4ed99a8fa0e0f6a03279a655becb705f64068ca3a8d31c247051f"), looks := false }, kinds := [], alts := [], laidByText := true, laidKinds := [.data, .data, .data], laidTests := true, laidLooks := .later }
def GroupImagesCardSaid : Prop := Claim7.holds Tryz.pinned (.plain (OpenSpec.ofChange groupImagesSpec)) groupImagesCard

/-- THE SECOND FORM's CARD OF 'talismanlaw05.GroupChecks'. -/
def groupChecksUptoCard : Claim7 := { stood := { row := groupChecksUptoRow, standIns := [], harness := (true, "0bc9430c3fd4ed99a8fa0e0f6a03279a655becb705f64068ca3a8d31c247051f"), looks := false }, kinds := [], alts := [], laidByText := true, laidKinds := [.data, .data, .data], laidTests := true, laidLooks := .later }
def GroupChecksUptoCardSaid : Prop := Claim7.holds Tryz.pinned (.plain (OpenSpec.upto groupChecksSpec)) groupChecksUptoCard

/-- THE SECOND FORM's CARD OF 'talismanlaw05.GroupClosures'. -/
def groupClosuresUptoCard : Claim7 := { stood := { row := groupClosuresUptoRow, standIns := [], harness := (true, "0bc9430c3fd4ed99a8fa0e0f6a03279a655becb705f64068ca3a8d31c247051f"), looks := false }, kinds := [], alts := [], laidByText := true, laidKinds := [.data, .data, .data], laidTests := true, laidLooks := .later }
def GroupClosuresUptoCardSaid : Prop := Claim7.holds Tryz.pinned (.plain (OpenSpec.upto groupClosuresSpec)) groupClosuresUptoCard

/-- THE SECOND FORM's CARD OF 'talismanlaw05.GroupAutomorphisms'. -/
def groupAutomorphismsUptoCard : Claim7 := { stood := { row := groupAutomorphismsUptoRow, standIns := [], harness := (true, "0bc9430c3fd4ed99a8fa0e0f6a03279a655becb705f64068ca3a8d31c247051f"), looks := false }, kinds := [], alts := [], laidByText := true, laidKinds := [.data, .data, .data], laidTests := true, laidLooks := .later }
def GroupAutomorphismsUptoCardSaid : Prop := Claim7.holds Tryz.pinned (.plain (OpenSpec.upto groupAutomorphismsSpec)) groupAutomorphismsUptoCard

/-- THE SECOND FORM's CARD OF 'talismanlaw05.GroupCounts'. -/
def groupCountsUptoCard : Claim7 := { stood := { row := groupCountsUptoRow, standIns := [], harness := (true, "0bc9430c3fd4ed99a8fa0e0f6a03279a655becb705f64068ca3a8d31c247051f"), looks := false }, kinds := [], alts := [], laidByText := true, laidKinds := [.data, .data, .data], laidTests := true, laidLooks := .later }
def GroupCountsUptoCardSaid : Prop := Claim7.holds Tryz.pinned (.plain (OpenSpec.upto groupCountsSpec)) groupCountsUptoCard

/-- THE SECOND FORM's CARD OF 'talismanlaw05.GroupCosets'. -/
def groupCosetsUptoCard : Claim7 := { stood := { row := groupCosetsUptoRow, standIns := [], harness := (true, "0bc9430c3fd4ed99a8fa0e0f6a03279a655becb705f64068ca3a8d31c247051f"), looks := false }, kinds := [], alts := [], laidByText := true, laidKinds := [.data, .data, .data], laidTests := true, laidLooks := .later }
def GroupCosetsUptoCardSaid : Prop := Claim7.holds Tryz.pinned (.plain (OpenSpec.upto groupCosetsSpec)) groupCosetsUptoCard

/-- THE SECOND FORM's CARD OF 'talismanlaw05.GroupColours'. -/
def groupColoursUptoCard : Claim7 := { stood := { row := groupColoursUptoRow, standIns := [], harness := (true, "0bc9430c3fd4ed99a8fa0e0f6a03279a655becb705f64068ca3a8d31c247051f"), looks := false }, kinds := [], alts := [], laidByText := true, laidKinds := [.data, .data, .data], laidTests := true, laidLooks := .later }
def GroupColoursUptoCardSaid : Prop := Claim7.holds Tryz.pinned (.plain (OpenSpec.upto groupColoursSpec)) groupColoursUptoCard

/-- THE SECOND FORM's CARD OF 'talismanlaw05.GroupSymmetries'. -/
def groupSymmetriesUptoCard : Claim7 := { stood := { row := groupSymmetriesUptoRow, standIns := [], harness := (true, "0bc9430c3fd4ed99a8fa0e0f6a03279a655becb705f64068ca3a8d31c247051f"), looks := false }, kinds := [], alts := [], laidByText := true, laidKinds := [.data, .data, .data], laidTests := true, laidLooks := .later }
def GroupSymmetriesUptoCardSaid : Prop := Claim7.holds Tryz.pinned (.plain (OpenSpec.upto groupSymmetriesSpec)) groupSymmetriesUptoCard

/-- THE SECOND FORM's CARD OF 'talismanlaw05.GroupSquares'. -/
def groupSquaresUptoCard : Claim7 := { stood := { row := groupSquaresUptoRow, standIns := [], harness := (true, "0bc9430c3fd4ed99a8fa0e0f6a03279a655becb705f64068ca3a8d31c247051f"), looks := false }, kinds := [], alts := [], laidByText := true, laidKinds := [.data, .data, .data], laidTests := true, laidLooks := .later }
def GroupSquaresUptoCardSaid : Prop := Claim7.holds Tryz.pinned (.plain (OpenSpec.upto groupSquaresSpec)) groupSquaresUptoCard

/-- THE SECOND FORM's CARD OF 'talismanlaw05.GroupKeeps'. -/
def groupKeepsUptoCard : Claim7 := { stood := { row := groupKeepsUptoRow, standIns := [], harness := (true, "0bc9430c3fd4ed99a8fa0e0f6a03279a655becb705f64068ca3a8d31c247051f"), looks := false }, kinds := [], alts := [], laidByText := true, laidKinds := [.data, .data, .data], laidTests := true, laidLooks := .later }
def GroupKeepsUptoCardSaid : Prop := Claim7.holds Tryz.pinned (.plain (OpenSpec.upto groupKeepsSpec)) groupKeepsUptoCard

/-- THE SECOND FORM's CARD OF 'talismanlaw05.GroupOrbits'. -/
def groupOrbitsUptoCard : Claim7 := { stood := { row := groupOrbitsUptoRow, standIns := [], harness := (true, "0bc9430c3fd4ed99a8fa0e0f6a03279a655becb705f64068ca3a8d31c247051f"), looks := false }, kinds := [], alts := [], laidByText := true, laidKinds := [.data, .data, .data], laidTests := true, laidLooks := .later }
def GroupOrbitsUptoCardSaid : Prop := Claim7.holds Tryz.pinned (.plain (OpenSpec.upto groupOrbitsSpec)) groupOrbitsUptoCard

/-- THE SECOND FORM's CARD OF 'talismanlaw05.GroupLagrange'. -/
def groupLagrangeUptoCard : Claim7 := { stood := { row := groupLagrangeUptoRow, standIns := [], harness := (true, "0bc9430c3fd4ed99a8fa0e0f6a03279a655becb705f64068ca3a8d31c247051f"), looks := false }, kinds := [], alts := [], laidByText := true, laidKinds := [.data, .data, .data], laidTests := true, laidLooks := .later }
def GroupLagrangeUptoCardSaid : Prop := Claim7.holds Tryz.pinned (.plain (OpenSpec.upto groupLagrangeSpec)) groupLagrangeUptoCard

/-- THE SECOND FORM's CARD OF 'talismanlaw05.GroupActs'. -/
def groupActsUptoCard : Claim7 := { stood := { row := groupActsUptoRow, standIns := [], harness := (true, "0bc9430c3fd4ed99a8fa0e0f6a03279a655becb705f64068ca3a8d31c247051f"), looks := false }, kinds := [], alts := [], laidByText := true, laidKinds := [.data, .data, .data], laidTests := true, laidLooks := .later }
def GroupActsUptoCardSaid : Prop := Claim7.holds Tryz.pinned (.plain (OpenSpec.upto groupActsSpec)) groupActsUptoCard

/-- THE SECOND FORM's CARD OF 'talismanlaw05.GroupSystems'. -/
def groupSystemsUptoCard : Claim7 := { stood := { row := groupSystemsUptoRow, standIns := [], harness := (true, "0bc9430c3fd4ed99a8fa0e0f6a03279a655becb705f64068ca3a8d31c247051f"), looks := false }, kinds := [], alts := [], laidByText := true, laidKinds := [.data, .data, .data], laidTests := true, laidLooks := .later }
def GroupSystemsUptoCardSaid : Prop := Claim7.holds Tryz.pinned (.plain (OpenSpec.upto groupSystemsSpec)) groupSystemsUptoCard

/-- THE SECOND FORM's CARD OF 'talismanlaw05.GroupSames'. -/
def groupSamesUptoCard : Claim7 := { stood := { row := groupSamesUptoRow, standIns := [], harness := (true, "0bc9430c3fd4ed99a8fa0e0f6a03279a655becb705f64068ca3a8d31c247051f"), looks := false }, kinds := [], alts := [], laidByText := true, laidKinds := [.data, .data, .data], laidTests := true, laidLooks := .later }
def GroupSamesUptoCardSaid : Prop := Claim7.holds Tryz.pinned (.plain (OpenSpec.upto groupSamesSpec)) groupSamesUptoCard

/-- THE SECOND FORM's CARD OF 'talismanlaw05.GroupImages'. -/
def groupImagesUptoCard : Claim7 := { stood := { row := groupImagesUptoRow, standIns := [], harness := (true, "0bc9430c3fd4ed99a8fa0e0f6a03279a655becb705f64068ca3a8d31c247051f"), looks := false }, kinds := [], alts := [], laidByText := true, laidKinds := [.data, .data, .data], laidTests := true, laidLooks := .later }
def GroupImagesUptoCardSaid : Prop := Claim7.holds Tryz.pinned (.plain (OpenSpec.upto groupImagesSpec)) groupImagesUptoCard
end Rows
end Go.Proofs.YtemginpenfhkkaaGreatDoor
