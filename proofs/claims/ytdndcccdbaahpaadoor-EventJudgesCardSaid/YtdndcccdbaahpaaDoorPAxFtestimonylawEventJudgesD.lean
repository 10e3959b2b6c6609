-- written by a printer (wip/mkprint.py)
import Derived.Test.YtdndcccdbaahpaaDoorPAx0
import Derived.Test.YtdndcccdbaahpaaDoorPAxFeventBefore
import Derived.Test.YtdndcccdbaahpaaDoorPAxFtestimonyrefBefore
import Derived.Test.YtdndcccdbaahpaaDoorPAxFeventCheckOpsD
import Derived.Test.YtdndcccdbaahpaaDoorPAxFtestimonyrefOpsCheckD
import Derived.Test.YtdndcccdbaahpaaDoorBareP
namespace Go.Proofs.YtdndcccdbaahpaaDoor.PA
open Go.RowKit Go.Proofs.YtdndcccdbaahpaaDoorW.PrintWords Go.Proofs.YtdndcccdbaahpaaDoorW.PrintLast Go.Proofs.YtdndcccdbaahpaaDoorW.PrintMore
attribute [local go_sem] max2_int min2_int max_two min_two max_three min_three max_four min_four   -- for this text's walks alone
set_option linter.unusedVariables false
set_option linter.unusedSimpArgs false

/-! ### testimonylaw_EventJudges: function 3 -/
def testimonylaw_EventJudges.l0 : Nat → List (S25) → Int → Option (Bool)
  | 0, _, _ => none
  | k + 1, x0, x3 => if (wrap64 (x3 + 1)) < (x0.length : Int) then (if 0 ≤ x3 then (if x3 < (x0.length : Int) then (if 0 ≤ (wrap64 (x3 + 1)) then ((event_Before.f ((rd_T25 x0 x3).f0) ((rd_T25 x0 x3).f1) ((rd_T25 x0 x3).f2) ((rd_T25 x0 x3).f3) ((rd_T25 x0 x3).f4) ((rd_T25 x0 x3).f5) ((rd_T25 x0 x3).f6) ((rd_T25 x0 x3).f7) ((rd_T25 x0 (wrap64 (x3 + 1))).f0) ((rd_T25 x0 (wrap64 (x3 + 1))).f1) ((rd_T25 x0 (wrap64 (x3 + 1))).f2) ((rd_T25 x0 (wrap64 (x3 + 1))).f3) ((rd_T25 x0 (wrap64 (x3 + 1))).f4) ((rd_T25 x0 (wrap64 (x3 + 1))).f5) ((rd_T25 x0 (wrap64 (x3 + 1))).f6) ((rd_T25 x0 (wrap64 (x3 + 1))).f7)).bind fun t161 => ((testimonyref_Before.f ((rd_T25 x0 x3).f0) ((rd_T25 x0 x3).f1) ((rd_T25 x0 x3).f2) ((rd_T25 x0 x3).f3) ((rd_T25 x0 x3).f4) ((rd_T25 x0 x3).f5) ((rd_T25 x0 x3).f6) ((rd_T25 x0 x3).f7) ((rd_T25 x0 (wrap64 (x3 + 1))).f0) ((rd_T25 x0 (wrap64 (x3 + 1))).f1) ((rd_T25 x0 (wrap64 (x3 + 1))).f2) ((rd_T25 x0 (wrap64 (x3 + 1))).f3) ((rd_T25 x0 (wrap64 (x3 + 1))).f4) ((rd_T25 x0 (wrap64 (x3 + 1))).f5) ((rd_T25 x0 (wrap64 (x3 + 1))).f6) ((rd_T25 x0 (wrap64 (x3 + 1))).f7)).bind fun t164 => (if (t161 != t164) = true then (some false) else (testimonylaw_EventJudges.l0 k x0 (wrap64 (x3 + 1)))))) else (none)) else (none)) else (none)) else ((event_CheckOps.f k x0).bind fun t156 => ((testimonyref_OpsCheck.f k x0).bind fun t157 => ((testimonylaw_bare.f t156 t157).bind fun t158 => (some t158))))
def testimonylaw_EventJudges.f (k : Nat) (l0 : List (S25)) : Option (Bool) := if (l0.length : Int) > 60 then (some true) else (testimonylaw_EventJudges.l0 k l0 0)
theorem testimonylaw_EventJudges.mono_l : ∀ k, (∀ y0 y1, LeO (testimonylaw_EventJudges.l0 k y0 y1) (testimonylaw_EventJudges.l0 (k + 1) y0 y1))
  | 0 => fun _ _ r h => by simp [testimonylaw_EventJudges.l0] at h
  | k + 1 => by
    have ih0 := testimonylaw_EventJudges.mono_l k
    · intro y0 y1
      unfold testimonylaw_EventJudges.l0
      repeat' first
      | (with_reducible exact ih0 _ _)
      | (with_reducible exact event_CheckOps.mono _ _)
      | (with_reducible exact testimonyref_OpsCheck.mono _ _)
      | (with_reducible exact LeO.refl _)
      | (with_reducible exact LeO.none _)
      | (with_reducible refine LeO.ite ?_ ?_)
      | (with_reducible refine LeO.bind ?_ (fun _ => ?_))
      | exact ih0 _ _
      | exact event_CheckOps.mono _ _
      | exact testimonyref_OpsCheck.mono _ _
      | exact LeO.none _
      | refine LeO.ite ?_ ?_
      | refine LeO.bind ?_ (fun _ => ?_)
theorem testimonylaw_EventJudges.mono : ∀ a0 k, LeO (testimonylaw_EventJudges.f k a0) (testimonylaw_EventJudges.f (k + 1) a0) := by
  intro a0 k
  have ih0 := testimonylaw_EventJudges.mono_l k
  unfold testimonylaw_EventJudges.f
  repeat' first
      | (with_reducible exact ih0 _ _)
      | (with_reducible exact event_CheckOps.mono _ _)
      | (with_reducible exact testimonyref_OpsCheck.mono _ _)
      | (with_reducible exact LeO.refl _)
      | (with_reducible exact LeO.none _)
      | (with_reducible refine LeO.ite ?_ ?_)
      | (with_reducible refine LeO.bind ?_ (fun _ => ?_))
      | exact ih0 _ _
      | exact event_CheckOps.mono _ _
      | exact testimonyref_OpsCheck.mono _ _
      | exact LeO.none _
      | refine LeO.ite ?_ ?_
      | refine LeO.bind ?_ (fun _ => ?_)

end Go.Proofs.YtdndcccdbaahpaaDoor.PA
