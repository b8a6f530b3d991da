/-
  DERIVED. GIVEN WITH THE SEED: THE CARDS: each row of YtbjlfobjngogkaaGreatDoorRows.lean that lists a variable, with what it lists TIED to the program's text (the seventh form; the later family's looks); each row that meets fmt, with fmt's text TOLD by the authors' own Lean function (tested against real Go, not proved from fmt's source: count such statements apart). THE CARD IS WHAT COUNTS. Prove the row's statement (the work); the ties are given (YtbjlfobjngogkaaGreatDoorTie.lean); close each card by the builder's one call (the guide's Derived/Test/ToyasCard.lean, 'card_holds'). Laid BY PROGRAM, IN A SANDBOX (cutbox-door.mjs). By AI agents, Wed Nov 11 2026. No macro, syntax, notation, axiom, sorry.
-/
import Derived.Test.YtbjlfobjngogkaaGreatDoorRows
import GoSem.ClaimSeven
namespace Go.Proofs.YtbjlfobjngogkaaGreatDoor
namespace Rows

/-- THE TIED CARD OF 'reparteetop.TopProgressAll'. -/
def topProgressAllCard : Claim7 := { stood := { row := topProgressAllRow, standIns := [], harness := (true, "974deadaf4ac8455c9528ae81dd7111879cbb49a83b1dcf5784c7a19710e45aa"), looks := true }, kinds := [], alts := [], laidByText := true, laidKinds := [.pinned, .data, .sentinel, .sentinel, .data, .data, .data], laidTests := true, laidLooks := .later }
def TopProgressAllCardSaid : Prop := Claim7.holds Tryz.pinned (.plain (OpenSpec.ofChange topProgressAllSpec)) topProgressAllCard

/-- THE TIED CARD OF 'reparteetop.TopDrainsAll'. -/
def topDrainsAllCard : Claim7 := { stood := { row := topDrainsAllRow, standIns := [], harness := (true, "974deadaf4ac8455c9528ae81dd7111879cbb49a83b1dcf5784c7a19710e45aa"), looks := true }, kinds := [], alts := [], laidByText := true, laidKinds := [.pinned, .data, .sentinel, .sentinel, .data, .data, .data], laidTests := true, laidLooks := .later }
def TopDrainsAllCardSaid : Prop := Claim7.holds Tryz.pinned (.plain (OpenSpec.ofChange topDrainsAllSpec)) topDrainsAllCard

/-- THE TIED CARD OF 'reparteetop.TopSendsAll'. -/
def topSendsAllCard : Claim7 := { stood := { row := topSendsAllRow, standIns := [], harness := (true, "974deadaf4ac8455c9528ae81dd7111879cbb49a83b1dcf5784c7a19710e45aa"), looks := true }, kinds := [], alts := [], laidByText := true, laidKinds := [.pinned, .data, .sentinel, .sentinel, .data, .data, .data], laidTests := true, laidLooks := .later }
def TopSendsAllCardSaid : Prop := Claim7.holds Tryz.pinned (.plain (OpenSpec.ofChange topSendsAllSpec)) topSendsAllCard

/-- THE TIED CARD OF 'reparteetop.TopAloneAll'. -/
def topAloneAllCard : Claim7 := { stood := { row := topAloneAllRow, standIns := [], harness := (true, "974deadaf4ac8455c9528ae81dd7111879cbb49a83b1dcf5784c7a19710e45aa"), looks := true }, kinds := [], alts := [], laidByText := true, laidKinds := [.pinned, .data, .sentinel, .sentinel, .data, .data, .data], laidTests := true, laidLooks := .later }
def TopAloneAllCardSaid : Prop := Claim7.holds Tryz.pinned (.plain (OpenSpec.ofChange topAloneAllSpec)) topAloneAllCard

/-- THE TIED CARD OF 'reparteetop.TopWaitsAll'. -/
def topWaitsAllCard : Claim7 := { stood := { row := topWaitsAllRow, standIns := [], harness := (true, "974deadaf4ac8455c9528ae81dd7111879cbb49a83b1dcf5784c7a19710e45aa"), looks := true }, kinds := [], alts := [], laidByText := true, laidKinds := [.pinned, .data, .sentinel, .sentinel, .data, .data, .data], laidTests := true, laidLooks := .later }
def TopWaitsAllCardSaid : Prop := Claim7.holds Tryz.pinned (.plain (OpenSpec.ofChange topWaitsAllSpec)) topWaitsAllCard

/-- THE TIED CARD OF 'reparteetop.TopBoundedAll'. -/
def topBoundedAllCard : Claim7 := { stood := { row := topBoundedAllRow, standIns := [], harness := (true, "974deadaf4ac8455c9528ae81dd7111879cbb49a83b1dcf5784c7a19710e45aa"), looks := true }, kinds := [], alts := [], laidByText := true, laidKinds := [.pinned, .data, .sentinel, .sentinel, .data, .data, .data], laidTests := true, laidLooks := .later }
def TopBoundedAllCardSaid : Prop := Claim7.holds Tryz.pinned (.plain (OpenSpec.ofChange topBoundedAllSpec)) topBoundedAllCard

/-- THE SECOND FORM's CARD OF 'reparteetop.TopProgressAll'. -/
def topProgressAllUptoCard : Claim7 := { stood := { row := topProgressAllUptoRow, standIns := [], harness := (true, "974deadaf4ac8455c9528ae81dd7111879cbb49a83b1dcf5784c7a19710e45aa"), looks := true }, kinds := [], alts := [], laidByText := true, laidKinds := [.pinned, .data, .sentinel, .sentinel, .data, .data, .data], laidTests := true, laidLooks := .later }
def TopProgressAllUptoCardSaid : Prop := Claim7.holds Tryz.pinned (.plain (OpenSpec.upto topProgressAllSpec)) topProgressAllUptoCard

/-- THE SECOND FORM's CARD OF 'reparteetop.TopDrainsAll'. -/
def topDrainsAllUptoCard : Claim7 := { stood := { row := topDrainsAllUptoRow, standIns := [], harness := (true, "974deadaf4ac8455c9528ae81dd7111879cbb49a83b1dcf5784c7a19710e45aa"), looks := true }, kinds := [], alts := [], laidByText := true, laidKinds := [.pinned, .data, .sentinel, .sentinel, .data, .data, .data], laidTests := true, laidLooks := .later }
def TopDrainsAllUptoCardSaid : Prop := Claim7.holds Tryz.pinned (.plain (OpenSpec.upto topDrainsAllSpec)) topDrainsAllUptoCard

/-- THE SECOND FORM's CARD OF 'reparteetop.TopSendsAll'. -/
def topSendsAllUptoCard : Claim7 := { stood := { row := topSendsAllUptoRow, standIns := [], harness := (true, "974deadaf4ac8455c9528ae81dd7111879cbb49a83b1dcf5784c7a19710e45aa"), looks := true }, kinds := [], alts := [], laidByText := true, laidKinds := [.pinned, .data, .sentinel, .sentinel, .data, .data, .data], laidTests := true, laidLooks := .later }
def TopSendsAllUptoCardSaid : Prop := Claim7.holds Tryz.pinned (.plain (OpenSpec.upto topSendsAllSpec)) topSendsAllUptoCard

/-- THE SECOND FORM's CARD OF 'reparteetop.TopAloneAll'. -/
def topAloneAllUptoCard : Claim7 := { stood := { row := topAloneAllUptoRow, standIns := [], harness := (true, "974deadaf4ac8455c9528ae81dd7111879cbb49a83b1dcf5784c7a19710e45aa"), looks := true }, kinds := [], alts := [], laidByText := true, laidKinds := [.pinned, .data, .sentinel, .sentinel, .data, .data, .data], laidTests := true, laidLooks := .later }
def TopAloneAllUptoCardSaid : Prop := Claim7.holds Tryz.pinned (.plain (OpenSpec.upto topAloneAllSpec)) topAloneAllUptoCard

/-- THE SECOND FORM's CARD OF 'reparteetop.TopWaitsAll'. -/
def topWaitsAllUptoCard : Claim7 := { stood := { row := topWaitsAllUptoRow, standIns := [], harness := (true, "974deadaf4ac8455c9528ae81dd7111879cbb49a83b1dcf5784c7a19710e45aa"), looks := true }, kinds := [], alts := [], laidByText := true, laidKinds := [.pinned, .data, .sentinel, .sentinel, .data, .data, .data], laidTests := true, laidLooks := .later }
def TopWaitsAllUptoCardSaid : Prop := Claim7.holds Tryz.pinned (.plain (OpenSpec.upto topWaitsAllSpec)) topWaitsAllUptoCard

/-- THE SECOND FORM's CARD OF 'reparteetop.TopBoundedAll'. -/
def topBoundedAllUptoCard : Claim7 := { stood := { row := topBoundedAllUptoRow, standIns := [], harness := (true, "974deadaf4ac8455c9528ae81dd7111879cbb49a83b1dcf5784c7a19710e45aa"), looks := true }, kinds := [], alts := [], laidByText := true, laidKinds := [.pinned, .data, .sentinel, .sentinel, .data, .data, .data], laidTests := true, laidLooks := .later }
def TopBoundedAllUptoCardSaid : Prop := Claim7.holds Tryz.pinned (.plain (OpenSpec.upto topBoundedAllSpec)) topBoundedAllUptoCard
end Rows
end Go.Proofs.YtbjlfobjngogkaaGreatDoor
