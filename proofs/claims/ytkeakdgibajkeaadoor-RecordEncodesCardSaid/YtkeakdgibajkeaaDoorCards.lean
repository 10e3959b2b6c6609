/-
  DERIVED. GIVEN WITH THE SEED: THE CARDS: each row of YtkeakdgibajkeaaDoorRows.lean that lists a variable, with what it lists TIED to the program's text (the seventh form; the later family's looks); each row that meets fmt, with fmt's text TOLD by the authors' own Lean function (tested against real Go, not proved from fmt's source: count such statements apart). THE CARD IS WHAT COUNTS. Prove the row's statement (the work); the ties are given (YtkeakdgibajkeaaDoorTie.lean); close each card by the builder's one call (the guide's Derived/Test/ToyasCard.lean, 'card_holds'). Laid BY PROGRAM, IN A SANDBOX (cutbox-door.mjs). By AI agents, Wed Nov 11 2026. No macro, syntax, notation, axiom, sorry.
-/
import Derived.Test.YtkeakdgibajkeaaDoorRows
import GoSem.ClaimSeven
namespace Go.Proofs.YtkeakdgibajkeaaDoor
namespace Rows

/-- THE TIED CARD OF 'testimonylaw.RecordEncodes'. -/
def recordEncodesCard : Claim7 := { stood := { row := recordEncodesRow, standIns := [], harness := (true, "d23a844226e7fa73d322c3b4ae5bb873683d3f872581a020bdb61638403d2392"), looks := true }, kinds := [], alts := [], laidByText := true, laidKinds := [.handle], laidTests := true, laidLooks := .later }
def RecordEncodesCardSaid : Prop := Claim7.holds Tryd.pinned (.plain (OpenSpec.ofChange recordEncodesSpec)) recordEncodesCard

/-- THE TIED CARD OF 'testimonylaw.NetLinks'. -/
def netLinksCard : Claim7 := { stood := { row := netLinksRow, standIns := [], harness := (true, "d23a844226e7fa73d322c3b4ae5bb873683d3f872581a020bdb61638403d2392"), looks := true }, kinds := [], alts := [], laidByText := true, laidKinds := [.handle], laidTests := true, laidLooks := .later }
def NetLinksCardSaid : Prop := Claim7.holds Tryd.pinned (.plain (OpenSpec.ofChange netLinksSpec)) netLinksCard

/-- THE TIED CARD OF 'testimonylaw.RecordDecodes'. -/
def recordDecodesCard : Claim7 := { stood := { row := recordDecodesRow, standIns := [], harness := (true, "d23a844226e7fa73d322c3b4ae5bb873683d3f872581a020bdb61638403d2392"), looks := true }, kinds := [], alts := [], laidByText := true, laidKinds := [.handle], laidTests := true, laidLooks := .later }
def RecordDecodesCardSaid : Prop := Claim7.holds Tryd.pinned (.plain (OpenSpec.ofChange recordDecodesSpec)) recordDecodesCard

/-- THE TIED CARD OF 'testimonylaw.NetPlays'. -/
def netPlaysCard : Claim7 := { stood := { row := netPlaysRow, standIns := [], harness := (true, "d23a844226e7fa73d322c3b4ae5bb873683d3f872581a020bdb61638403d2392"), looks := true }, kinds := [], alts := [], laidByText := true, laidKinds := [.handle], laidTests := true, laidLooks := .later }
def NetPlaysCardSaid : Prop := Claim7.holds Tryd.pinned (.plain (OpenSpec.ofChange netPlaysSpec)) netPlaysCard

/-- THE TIED CARD OF 'testimonylaw.RecordLogs'. -/
def recordLogsCard : Claim7 := { stood := { row := recordLogsRow, standIns := [], harness := (true, "d23a844226e7fa73d322c3b4ae5bb873683d3f872581a020bdb61638403d2392"), looks := true }, kinds := [], alts := [], laidByText := true, laidKinds := [.handle], laidTests := true, laidLooks := .later }
def RecordLogsCardSaid : Prop := Claim7.holds Tryd.pinned (.plain (OpenSpec.ofChange recordLogsSpec)) recordLogsCard

/-- THE SECOND FORM's CARD OF 'testimonylaw.RecordEncodes'. -/
def recordEncodesUptoCard : Claim7 := { stood := { row := recordEncodesUptoRow, standIns := [], harness := (true, "d23a844226e7fa73d322c3b4ae5bb873683d3f872581a020bdb61638403d2392"), looks := true }, kinds := [], alts := [], laidByText := true, laidKinds := [.handle], laidTests := true, laidLooks := .later }
def RecordEncodesUptoCardSaid : Prop := Claim7.holds Tryd.pinned (.plain (OpenSpec.upto recordEncodesSpec)) recordEncodesUptoCard

/-- THE SECOND FORM's CARD OF 'testimonylaw.NetLinks'. -/
def netLinksUptoCard : Claim7 := { stood := { row := netLinksUptoRow, standIns := [], harness := (true, "d23a844226e7fa73d322c3b4ae5bb873683d3f872581a020bdb61638403d2392"), looks := true }, kinds := [], alts := [], laidByText := true, laidKinds := [.handle], laidTests := true, laidLooks := .later }
def NetLinksUptoCardSaid : Prop := Claim7.holds Tryd.pinned (.plain (OpenSpec.upto netLinksSpec)) netLinksUptoCard

/-- THE SECOND FORM's CARD OF 'testimonylaw.RecordDecodes'. -/
def recordDecodesUptoCard : Claim7 := { stood := { row := recordDecodesUptoRow, standIns := [], harness := (true, "d23a844226e7fa73d322c3b4ae5bb873683d3f872581a020bdb61638403d2392"), looks := true }, kinds := [], alts := [], laidByText := true, laidKinds := [.handle], laidTests := true, laidLooks := .later }
def RecordDecodesUptoCardSaid : Prop := Claim7.holds Tryd.pinned (.plain (OpenSpec.upto recordDecodesSpec)) recordDecodesUptoCard

/-- THE SECOND FORM's CARD OF 'testimonylaw.NetPlays'. -/
def netPlaysUptoCard : Claim7 := { stood := { row := netPlaysUptoRow, standIns := [], harness := (true, "d23a844226e7fa73d322c3b4ae5bb873683d3f872581a020bdb61638403d2392"), looks := true }, kinds := [], alts := [], laidByText := true, laidKinds := [.handle], laidTests := true, laidLooks := .later }
def NetPlaysUptoCardSaid : Prop := Claim7.holds Tryd.pinned (.plain (OpenSpec.upto netPlaysSpec)) netPlaysUptoCard

/-- THE SECOND FORM's CARD OF 'testimonylaw.RecordLogs'. -/
def recordLogsUptoCard : Claim7 := { stood := { row := recordLogsUptoRow, standIns := [], harness := (true, "d23a844226e7fa73d322c3b4ae5bb873683d3f872581a020bdb61638403d2392"), looks := true }, kinds := [], alts := [], laidByText := true, laidKinds := [.handle], laidTests := true, laidLooks := .later }
def RecordLogsUptoCardSaid : Prop := Claim7.holds Tryd.pinned (.plain (OpenSpec.upto recordLogsSpec)) recordLogsUptoCard
end Rows
end Go.Proofs.YtkeakdgibajkeaaDoor
