/-
  DERIVED. GIVEN WITH THE SEED: THE CARDS: each row of YtdndcccdbaahpaaDoorRows.lean that lists a variable, with what it lists TIED to the program's text (the seventh form; the later family's looks); each row that meets fmt, with fmt's text TOLD by the authors' own Lean function (tested against real Go, not proved from fmt's source: count such statements apart). THE CARD IS WHAT COUNTS. Prove the row's statement (the work); the ties are given (YtdndcccdbaahpaaDoorTie.lean); close each card by the builder's one call (the guide's Derived/Test/ToyasCard.lean, 'card_holds'). Laid BY PROGRAM, IN A SANDBOX (cutbox-door.mjs). By AI agents, Wed Nov 11 2026. No macro, syntax, notation, axiom, sorry.
-/
import Derived.Test.YtdndcccdbaahpaaDoorRows
import GoSem.ClaimSeven
namespace Go.Proofs.YtdndcccdbaahpaaDoor
namespace Rows

/-- THE TIED CARD OF 'testimonylaw.EventJudges'. -/
def eventJudgesCard : Claim7 := { stood := { row := eventJudgesRow, standIns := [], harness := (true, "f66a4d0ea50cee0787aefe5c8110f578aaefbbdb2d6cedaa34ccae36187c0715"), looks := true }, kinds := [], alts := [], laidByText := true, laidKinds := [.handle], laidTests := true, laidLooks := .later }
def EventJudgesCardSaid : Prop := Claim7.holds Tryd.pinned (.plain (OpenSpec.ofChange eventJudgesSpec)) eventJudgesCard

/-- THE TIED CARD OF 'testimonylaw.ModelSteps'. -/
def modelStepsCard : Claim7 := { stood := { row := modelStepsRow, standIns := [], harness := (true, "f66a4d0ea50cee0787aefe5c8110f578aaefbbdb2d6cedaa34ccae36187c0715"), looks := true }, kinds := [], alts := [], laidByText := true, laidKinds := [.data], laidTests := true, laidLooks := .later }
def ModelStepsCardSaid : Prop := Claim7.holds Tryd.pinned (.plain (OpenSpec.ofChange modelStepsSpec)) modelStepsCard

/-- THE TIED CARD OF 'testimonylaw.EventOps'. -/
def eventOpsCard : Claim7 := { stood := { row := eventOpsRow, standIns := [], harness := (true, "f66a4d0ea50cee0787aefe5c8110f578aaefbbdb2d6cedaa34ccae36187c0715"), looks := true }, kinds := [], alts := [], laidByText := true, laidKinds := [.handle, .data], laidTests := true, laidLooks := .later }
def EventOpsCardSaid : Prop := Claim7.holds Tryd.pinned (.plain (OpenSpec.ofChange eventOpsSpec)) eventOpsCard

/-- THE TIED CARD OF 'testimonylaw.ModelRuns'. -/
def modelRunsCard : Claim7 := { stood := { row := modelRunsRow, standIns := [], harness := (true, "f66a4d0ea50cee0787aefe5c8110f578aaefbbdb2d6cedaa34ccae36187c0715"), looks := true }, kinds := [], alts := [], laidByText := true, laidKinds := [.data], laidTests := true, laidLooks := .later }
def ModelRunsCardSaid : Prop := Claim7.holds Tryd.pinned (.plain (OpenSpec.ofChange modelRunsSpec)) modelRunsCard

/-- THE TIED CARD OF 'testimonylaw.QueueFinds'. -/
def queueFindsCard : Claim7 := { stood := { row := queueFindsRow, standIns := [], harness := (true, "f66a4d0ea50cee0787aefe5c8110f578aaefbbdb2d6cedaa34ccae36187c0715"), looks := true }, kinds := [], alts := [], laidByText := true, laidKinds := [.handle], laidTests := true, laidLooks := .later }
def QueueFindsCardSaid : Prop := Claim7.holds Tryd.pinned (.plain (OpenSpec.ofChange queueFindsSpec)) queueFindsCard

/-- THE TIED CARD OF 'testimonylaw.CausalAhead'. -/
def causalAheadCard : Claim7 := { stood := { row := causalAheadRow, standIns := [], harness := (true, "f66a4d0ea50cee0787aefe5c8110f578aaefbbdb2d6cedaa34ccae36187c0715"), looks := true }, kinds := [], alts := [], laidByText := true, laidKinds := [.handle], laidTests := true, laidLooks := .later }
def CausalAheadCardSaid : Prop := Claim7.holds Tryd.pinned (.plain (OpenSpec.ofChange causalAheadSpec)) causalAheadCard

/-- THE SECOND FORM's CARD OF 'testimonylaw.EventJudges'. -/
def eventJudgesUptoCard : Claim7 := { stood := { row := eventJudgesUptoRow, standIns := [], harness := (true, "f66a4d0ea50cee0787aefe5c8110f578aaefbbdb2d6cedaa34ccae36187c0715"), looks := true }, kinds := [], alts := [], laidByText := true, laidKinds := [.handle], laidTests := true, laidLooks := .later }
def EventJudgesUptoCardSaid : Prop := Claim7.holds Tryd.pinned (.plain (OpenSpec.upto eventJudgesSpec)) eventJudgesUptoCard

/-- THE SECOND FORM's CARD OF 'testimonylaw.ModelSteps'. -/
def modelStepsUptoCard : Claim7 := { stood := { row := modelStepsUptoRow, standIns := [], harness := (true, "f66a4d0ea50cee0787aefe5c8110f578aaefbbdb2d6cedaa34ccae36187c0715"), looks := true }, kinds := [], alts := [], laidByText := true, laidKinds := [.data], laidTests := true, laidLooks := .later }
def ModelStepsUptoCardSaid : Prop := Claim7.holds Tryd.pinned (.plain (OpenSpec.upto modelStepsSpec)) modelStepsUptoCard

/-- THE SECOND FORM's CARD OF 'testimonylaw.EventOps'. -/
def eventOpsUptoCard : Claim7 := { stood := { row := eventOpsUptoRow, standIns := [], harness := (true, "f66a4d0ea50cee0787aefe5c8110f578aaefbbdb2d6cedaa34ccae36187c0715"), looks := true }, kinds := [], alts := [], laidByText := true, laidKinds := [.handle, .data], laidTests := true, laidLooks := .later }
def EventOpsUptoCardSaid : Prop := Claim7.holds Tryd.pinned (.plain (OpenSpec.upto eventOpsSpec)) eventOpsUptoCard

/-- THE SECOND FORM's CARD OF 'testimonylaw.ModelRuns'. -/
def modelRunsUptoCard : Claim7 := { stood := { row := modelRunsUptoRow, standIns := [], harness := (true, "f66a4d0ea50cee0787aefe5c8110f578aaefbbdb2d6cedaa34ccae36187c0715"), looks := true }, kinds := [], alts := [], laidByText := true, laidKinds := [.data], laidTests := true, laidLooks := .later }
def ModelRunsUptoCardSaid : Prop := Claim7.holds Tryd.pinned (.plain (OpenSpec.upto modelRunsSpec)) modelRunsUptoCard

/-- THE SECOND FORM's CARD OF 'testimonylaw.QueueFinds'. -/
def queueFindsUptoCard : Claim7 := { stood := { row := queueFindsUptoRow, standIns := [], harness := (true, "f66a4d0ea50cee0787aefe5c8110f578aaefbbdb2d6cedaa34ccae36187c0715"), looks := true }, kinds := [], alts := [], laidByText := true, laidKinds := [.handle], laidTests := true, laidLooks := .later }
def QueueFindsUptoCardSaid : Prop := Claim7.holds Tryd.pinned (.plain (OpenSpec.upto queueFindsSpec)) queueFindsUptoCard

/-- THE SECOND FORM's CARD OF 'testimonylaw.CausalAhead'. -/
def causalAheadUptoCard : Claim7 := { stood := { row := causalAheadUptoRow, standIns := [], harness := (true, "f66a4d0ea50cee0787aefe5c8110f578aaefbbdb2d6cedaa34ccae36187c0715"), looks := true }, kinds := [], alts := [], laidByText := true, laidKinds := [.handle], laidTests := true, laidLooks := .later }
def CausalAheadUptoCardSaid : Prop := Claim7.holds Tryd.pinned (.plain (OpenSpec.upto causalAheadSpec)) causalAheadUptoCard
end Rows
end Go.Proofs.YtdndcccdbaahpaaDoor
