/-
  NARROWER THAN 'FOR EVERY INPUT', by the rows' own cells (each row's printed sentence says how): EventJudges: laid · ModelSteps: laid · EventOps: laid · ModelRuns: laid · QueueFinds: laid · CausalAhead: laid.
  DERIVED. THE GIVEN ROWS OF THIS SEAT. 6 by the template 'for every input the law returns true; each argument reads behind the call as it read before'; 0 by the template 'total and deterministic' (their statements: YtdndcccdbaahpaaDoorTotals.lean).
  GIVEN WITH THE SEED: the statements are not yours to turn. If you find one false, say at which input.
  Laid BY PROGRAM, IN A SANDBOX (cutbox-rows.mjs): the forced cells as the released guide's own fill.sh prints them over the translation 8d33d3c93de70494… (all of the seat's roots in one cut). By AI agents, Wed Nov 11 2026. No macro, syntax, notation, axiom, sorry.
-/
import Derived.Test.YtdndcccdbaahpaaDoorChecked
import GoSem.Claim
import GoSem.ClaimJoined
import GoSem.ClaimMapViews
import Derived.JoinedTies
import Derived.KernelRfl
namespace Go.Proofs.YtdndcccdbaahpaaDoor
/- THE CELL 'sum', in the pinned program and in every row, IS THE sha256 OF THE DUMP (.gsa) THAT YtdndcccdbaahpaaDoorProg.lean LOADS. Nothing in Lean hashes anything: it is a label: what it is worth is what the hold of that sum in a sandbox is worth. -/
noncomputable def Tryd.pinned : Pinned := { name := "ytdndcccdbaahpaadoor", sum := "8d33d3c93de70494229bdf4e59acbfd40000c7d20675b531f7f8cb40bea664d6", checked := Tryd.checked }
namespace Rows
def none {H : Type} : Left H := { results := [], args := [] }

/- WHAT THE LISTED PACKAGE-LEVEL VARIABLES READ AS WHEN THE CALL BEGINS. Each datum BY PROGRAM (the guide's laid-datum.mjs) off the statement by which the dump's own 'gosem.cut.vars' lays the variable. In a bare row this is a premise. The card (YtdndcccdbaahpaaDoorCards.lean) ties it to the program's text. -/
def laid_errors_errorType {H : Type} : DataW H := .iface "internal/reflectlite.rtype" (.agg [.ptr (.lit (.string [101, 114, 114, 111, 114]))])
def laid_testimony_model_knows {H : Type} : DataW H := .agg [.lit (.int .i64 0), .lit (.int .i64 14), .lit (.int .i64 48), .lit (.int .i64 448), .lit (.int .i64 1536), .lit (.int .i64 1536), .lit (.int .i64 6144)]
def laid_testimony_testimonyref_Fine {H : Type} : DataW H := .agg [.lit (.int .i64 0), .lit (.int .i64 (-1))]

/-- 'testimonylaw.EventJudges': WHATEVER THE INPUT: true; the input reads as it did. -/
def eventJudgesSpec : ChangeSpec := { name := "eventJudges", fn := fun _ => fun
  | [d] => { results := [.lit (.bool true)], args := [d] }
  | _ => none }
def eventJudgesRow : OpenClaim := { program := "ytdndcccdbaahpaadoor", sum := "8d33d3c93de70494229bdf4e59acbfd40000c7d20675b531f7f8cb40bea664d6", func := "testimony/testimonylaw.EventJudges", spec := "eventJudges", inPlace := ["internal/reflectlite.ValueOf", "(internal/reflectlite.Value).Type", "(internal/reflectlite.Value).IsNil", "internal/reflectlite.TypeOf", "(internal/reflectlite.Value).Elem", "(internal/reflectlite.Value).Set"], unfollowed := true, recurses := true, named := ["errors.errorType"], plainKeys := false, apart := false, laid := [("errors.errorType", laid_errors_errorType)] }
def EventJudgesSaid : Prop := eventJudgesRow.holds Tryd.pinned (OpenSpec.ofChange eventJudgesSpec)

/-- ITS FALSE NEIGHBOUR: 'it returns false'. Refute it at one input. -/
def eventJudgesWrong : ChangeSpec := { name := "eventJudges", fn := fun _ => fun
  | [d] => { results := [.lit (.bool false)], args := [d] }
  | _ => none }
def EventJudgesWrongFalsely : Prop := eventJudgesRow.holds Tryd.pinned (OpenSpec.ofChange eventJudgesWrong)

/-- 'testimonylaw.ModelSteps': WHATEVER THE INPUT: true; the input reads as it did. -/
def modelStepsSpec : ChangeSpec := { name := "modelSteps", fn := fun _ => fun
  | [d1, d2, d3, d4, d5] => { results := [.lit (.bool true)], args := [d1, d2, d3, d4, d5] }
  | _ => none }
def modelStepsRow : OpenClaim := { program := "ytdndcccdbaahpaadoor", sum := "8d33d3c93de70494229bdf4e59acbfd40000c7d20675b531f7f8cb40bea664d6", func := "testimony/testimonylaw.ModelSteps", spec := "modelSteps", inPlace := ["slices.overlaps[int]"], named := ["testimony/model.knows"], plainKeys := false, apart := false, laid := [("testimony/model.knows", laid_testimony_model_knows)] }
def ModelStepsSaid : Prop := modelStepsRow.holds Tryd.pinned (OpenSpec.ofChange modelStepsSpec)

/-- ITS FALSE NEIGHBOUR: 'it returns false'. Refute it at one input. -/
def modelStepsWrong : ChangeSpec := { name := "modelSteps", fn := fun _ => fun
  | [d1, d2, d3, d4, d5] => { results := [.lit (.bool false)], args := [d1, d2, d3, d4, d5] }
  | _ => none }
def ModelStepsWrongFalsely : Prop := modelStepsRow.holds Tryd.pinned (OpenSpec.ofChange modelStepsWrong)

/-- 'testimonylaw.EventOps': WHATEVER THE INPUT: true; the input reads as it did. -/
def eventOpsSpec : ChangeSpec := { name := "eventOps", fn := fun _ => fun
  | [d] => { results := [.lit (.bool true)], args := [d] }
  | _ => none }
def eventOpsRow : OpenClaim := { program := "ytdndcccdbaahpaadoor", sum := "8d33d3c93de70494229bdf4e59acbfd40000c7d20675b531f7f8cb40bea664d6", func := "testimony/testimonylaw.EventOps", spec := "eventOps", inPlace := ["internal/reflectlite.ValueOf", "(internal/reflectlite.Value).Type", "(internal/reflectlite.Value).IsNil", "internal/reflectlite.TypeOf", "(internal/reflectlite.Value).Elem", "(internal/reflectlite.Value).Set"], unfollowed := true, recurses := true, named := ["testimony/testimonyref.Fine", "errors.errorType"], plainKeys := false, apart := false, laid := [("errors.errorType", laid_errors_errorType), ("testimony/testimonyref.Fine", laid_testimony_testimonyref_Fine)] }
def EventOpsSaid : Prop := eventOpsRow.holds Tryd.pinned (OpenSpec.ofChange eventOpsSpec)

/-- ITS FALSE NEIGHBOUR: 'it returns false'. Refute it at one input. -/
def eventOpsWrong : ChangeSpec := { name := "eventOps", fn := fun _ => fun
  | [d] => { results := [.lit (.bool false)], args := [d] }
  | _ => none }
def EventOpsWrongFalsely : Prop := eventOpsRow.holds Tryd.pinned (OpenSpec.ofChange eventOpsWrong)

/-- 'testimonylaw.ModelRuns': WHATEVER THE INPUT: true; the input reads as it did. -/
def modelRunsSpec : ChangeSpec := { name := "modelRuns", fn := fun _ => fun
  | [d1, d2, d3] => { results := [.lit (.bool true)], args := [d1, d2, d3] }
  | _ => none }
def modelRunsRow : OpenClaim := { program := "ytdndcccdbaahpaadoor", sum := "8d33d3c93de70494229bdf4e59acbfd40000c7d20675b531f7f8cb40bea664d6", func := "testimony/testimonylaw.ModelRuns", spec := "modelRuns", inPlace := ["slices.overlaps[int]"], named := ["testimony/model.knows"], plainKeys := false, apart := false, laid := [("testimony/model.knows", laid_testimony_model_knows)] }
def ModelRunsSaid : Prop := modelRunsRow.holds Tryd.pinned (OpenSpec.ofChange modelRunsSpec)

/-- ITS FALSE NEIGHBOUR: 'it returns false'. Refute it at one input. -/
def modelRunsWrong : ChangeSpec := { name := "modelRuns", fn := fun _ => fun
  | [d1, d2, d3] => { results := [.lit (.bool false)], args := [d1, d2, d3] }
  | _ => none }
def ModelRunsWrongFalsely : Prop := modelRunsRow.holds Tryd.pinned (OpenSpec.ofChange modelRunsWrong)

/-- 'testimonylaw.QueueFinds': WHATEVER THE INPUT: true; the input reads as it did. -/
def queueFindsSpec : ChangeSpec := { name := "queueFinds", fn := fun _ => fun
  | [d] => { results := [.lit (.bool true)], args := [d] }
  | _ => none }
def queueFindsRow : OpenClaim := { program := "ytdndcccdbaahpaadoor", sum := "8d33d3c93de70494229bdf4e59acbfd40000c7d20675b531f7f8cb40bea664d6", func := "testimony/testimonylaw.QueueFinds", spec := "queueFinds", inPlace := ["internal/reflectlite.ValueOf", "(internal/reflectlite.Value).Type", "(internal/reflectlite.Value).IsNil", "internal/reflectlite.TypeOf", "(internal/reflectlite.Value).Elem", "(internal/reflectlite.Value).Set"], unfollowed := true, recurses := true, named := ["errors.errorType"], plainKeys := false, apart := false, laid := [("errors.errorType", laid_errors_errorType)] }
def QueueFindsSaid : Prop := queueFindsRow.holds Tryd.pinned (OpenSpec.ofChange queueFindsSpec)

/-- ITS FALSE NEIGHBOUR: 'it returns false'. Refute it at one input. -/
def queueFindsWrong : ChangeSpec := { name := "queueFinds", fn := fun _ => fun
  | [d] => { results := [.lit (.bool false)], args := [d] }
  | _ => none }
def QueueFindsWrongFalsely : Prop := queueFindsRow.holds Tryd.pinned (OpenSpec.ofChange queueFindsWrong)

/-- 'testimonylaw.CausalAhead': WHATEVER THE INPUT: true; the input reads as it did. -/
def causalAheadSpec : ChangeSpec := { name := "causalAhead", fn := fun _ => fun
  | [d] => { results := [.lit (.bool true)], args := [d] }
  | _ => none }
def causalAheadRow : OpenClaim := { program := "ytdndcccdbaahpaadoor", sum := "8d33d3c93de70494229bdf4e59acbfd40000c7d20675b531f7f8cb40bea664d6", func := "testimony/testimonylaw.CausalAhead", spec := "causalAhead", inPlace := ["internal/reflectlite.ValueOf", "(internal/reflectlite.Value).Type", "(internal/reflectlite.Value).IsNil", "internal/reflectlite.TypeOf", "(internal/reflectlite.Value).Elem", "(internal/reflectlite.Value).Set"], unfollowed := true, recurses := true, named := ["errors.errorType"], plainKeys := false, apart := false, laid := [("errors.errorType", laid_errors_errorType)] }
def CausalAheadSaid : Prop := causalAheadRow.holds Tryd.pinned (OpenSpec.ofChange causalAheadSpec)

/-- ITS FALSE NEIGHBOUR: 'it returns false'. Refute it at one input. -/
def causalAheadWrong : ChangeSpec := { name := "causalAhead", fn := fun _ => fun
  | [d] => { results := [.lit (.bool false)], args := [d] }
  | _ => none }
def CausalAheadWrongFalsely : Prop := causalAheadRow.holds Tryd.pinned (OpenSpec.ofChange causalAheadWrong)

/- THE SECOND FORM. 'bulk': how many values and letters a reading holds, each counted each time it is reached (what is shared counts as often as it is met; a slice's spare places count too). A statement '..UptoSaid' is the law's where the arguments, and the package variables that the reading takes, are together of bulk at most 1048576: NARROWER than '..Said'. Prove '..Said' where nothing that the law and all that it calls make is longer than what came in: it says more and counts as full. Else prove '..UptoSaid'. A law counts once. -/
mutual
def uptoBulk {H : Type} : DataW H → Nat
  | .lit (.string bytes) => bytes.length + 1
  | .lit _ => 1
  | .nil => 1
  | .ptr d => uptoBulk d + 1
  | .slice elems spare => uptoBulkAll elems + uptoBulkAll spare + 1
  | .agg parts => uptoBulkAll parts + 1
  | .iface _ d => uptoBulk d + 1
  | .map entries => uptoBulkEntries entries + 1
  | .held _ => 1
def uptoBulkAll {H : Type} : List (DataW H) → Nat
  | [] => 0
  | d :: r => uptoBulk d + uptoBulkAll r
def uptoBulkEntries {H : Type} : List (Lit × DataW H) → Nat
  | [] => 0
  | x :: r => uptoBulkEntry x + uptoBulkEntries r
def uptoBulkEntry {H : Type} : Lit × DataW H → Nat
  | (.string bytes, d) => bytes.length + uptoBulk d + 1
  | (_, d) => uptoBulk d + 1
 end
def uptoSmall : (H : Type) → List (DataW H) → Bool := fun _ ds => decide (uptoBulkAll ds ≤ 1048576)
def OpenSpec.upto (s : _root_.Go.ChangeSpec) : _root_.Go.OpenSpec := { _root_.Go.OpenSpec.ofChange s with cond := some uptoSmall }

/-- 'testimonylaw.EventJudges', WHERE WHAT IT READS IS OF BULK AT MOST 1048576: true; the input reads as it did. -/
def eventJudgesUptoRow : OpenClaim := { program := "ytdndcccdbaahpaadoor", sum := "8d33d3c93de70494229bdf4e59acbfd40000c7d20675b531f7f8cb40bea664d6", func := "testimony/testimonylaw.EventJudges", spec := "eventJudges", inPlace := ["internal/reflectlite.ValueOf", "(internal/reflectlite.Value).Type", "(internal/reflectlite.Value).IsNil", "internal/reflectlite.TypeOf", "(internal/reflectlite.Value).Elem", "(internal/reflectlite.Value).Set"], unfollowed := true, recurses := true, named := ["errors.errorType"], plainKeys := false, apart := false, laid := [("errors.errorType", laid_errors_errorType)], narrowed := true }
def EventJudgesUptoSaid : Prop := eventJudgesUptoRow.holds Tryd.pinned (OpenSpec.upto eventJudgesSpec)

/-- 'testimonylaw.ModelSteps', WHERE WHAT IT READS IS OF BULK AT MOST 1048576: true; the input reads as it did. -/
def modelStepsUptoRow : OpenClaim := { program := "ytdndcccdbaahpaadoor", sum := "8d33d3c93de70494229bdf4e59acbfd40000c7d20675b531f7f8cb40bea664d6", func := "testimony/testimonylaw.ModelSteps", spec := "modelSteps", inPlace := ["slices.overlaps[int]"], named := ["testimony/model.knows"], plainKeys := false, apart := false, laid := [("testimony/model.knows", laid_testimony_model_knows)], narrowed := true }
def ModelStepsUptoSaid : Prop := modelStepsUptoRow.holds Tryd.pinned (OpenSpec.upto modelStepsSpec)

/-- 'testimonylaw.EventOps', WHERE WHAT IT READS IS OF BULK AT MOST 1048576: true; the input reads as it did. -/
def eventOpsUptoRow : OpenClaim := { program := "ytdndcccdbaahpaadoor", sum := "8d33d3c93de70494229bdf4e59acbfd40000c7d20675b531f7f8cb40bea664d6", func := "testimony/testimonylaw.EventOps", spec := "eventOps", inPlace := ["internal/reflectlite.ValueOf", "(internal/reflectlite.Value).Type", "(internal/reflectlite.Value).IsNil", "internal/reflectlite.TypeOf", "(internal/reflectlite.Value).Elem", "(internal/reflectlite.Value).Set"], unfollowed := true, recurses := true, named := ["testimony/testimonyref.Fine", "errors.errorType"], plainKeys := false, apart := false, laid := [("errors.errorType", laid_errors_errorType), ("testimony/testimonyref.Fine", laid_testimony_testimonyref_Fine)], narrowed := true }
def EventOpsUptoSaid : Prop := eventOpsUptoRow.holds Tryd.pinned (OpenSpec.upto eventOpsSpec)

/-- 'testimonylaw.ModelRuns', WHERE WHAT IT READS IS OF BULK AT MOST 1048576: true; the input reads as it did. -/
def modelRunsUptoRow : OpenClaim := { program := "ytdndcccdbaahpaadoor", sum := "8d33d3c93de70494229bdf4e59acbfd40000c7d20675b531f7f8cb40bea664d6", func := "testimony/testimonylaw.ModelRuns", spec := "modelRuns", inPlace := ["slices.overlaps[int]"], named := ["testimony/model.knows"], plainKeys := false, apart := false, laid := [("testimony/model.knows", laid_testimony_model_knows)], narrowed := true }
def ModelRunsUptoSaid : Prop := modelRunsUptoRow.holds Tryd.pinned (OpenSpec.upto modelRunsSpec)

/-- 'testimonylaw.QueueFinds', WHERE WHAT IT READS IS OF BULK AT MOST 1048576: true; the input reads as it did. -/
def queueFindsUptoRow : OpenClaim := { program := "ytdndcccdbaahpaadoor", sum := "8d33d3c93de70494229bdf4e59acbfd40000c7d20675b531f7f8cb40bea664d6", func := "testimony/testimonylaw.QueueFinds", spec := "queueFinds", inPlace := ["internal/reflectlite.ValueOf", "(internal/reflectlite.Value).Type", "(internal/reflectlite.Value).IsNil", "internal/reflectlite.TypeOf", "(internal/reflectlite.Value).Elem", "(internal/reflectlite.Value).Set"], unfollowed := true, recurses := true, named := ["errors.errorType"], plainKeys := false, apart := false, laid := [("errors.errorType", laid_errors_errorType)], narrowed := true }
def QueueFindsUptoSaid : Prop := queueFindsUptoRow.holds Tryd.pinned (OpenSpec.upto queueFindsSpec)

/-- 'testimonylaw.CausalAhead', WHERE WHAT IT READS IS OF BULK AT MOST 1048576: true; the input reads as it did. -/
def causalAheadUptoRow : OpenClaim := { program := "ytdndcccdbaahpaadoor", sum := "8d33d3c93de70494229bdf4e59acbfd40000c7d20675b531f7f8cb40bea664d6", func := "testimony/testimonylaw.CausalAhead", spec := "causalAhead", inPlace := ["internal/reflectlite.ValueOf", "(internal/reflectlite.Value).Type", "(internal/reflectlite.Value).IsNil", "internal/reflectlite.TypeOf", "(internal/reflectlite.Value).Elem", "(internal/reflectlite.Value).Set"], unfollowed := true, recurses := true, named := ["errors.errorType"], plainKeys := false, apart := false, laid := [("errors.errorType", laid_errors_errorType)], narrowed := true }
def CausalAheadUptoSaid : Prop := causalAheadUptoRow.holds Tryd.pinned (OpenSpec.upto causalAheadSpec)

end Rows
end Go.Proofs.YtdndcccdbaahpaaDoor
