-- written by a printer (wip/mkprint.py)
import Derived.Test.YtdndcccdbaahpaaDoorPAx0
import Derived.Test.YtdndcccdbaahpaaDoorPAxFeventcheckOpD
namespace Go.Proofs.YtdndcccdbaahpaaDoor.PA
open Go.RowKit Go.Proofs.YtdndcccdbaahpaaDoorW.PrintWords Go.Proofs.YtdndcccdbaahpaaDoorW.PrintLast Go.Proofs.YtdndcccdbaahpaaDoorW.PrintMore
attribute [local go_sem] max2_int min2_int max_two min_two max_three min_three max_four min_four   -- for this text's walks alone
set_option linter.unusedVariables false
set_option linter.unusedSimpArgs false

/-! ### event_CheckOps: function 12 -/
def event_CheckOps.l0 : Nat → List (S25) → List (S25) → Int → Int → Option (Option Int)
  | 0, _, _, _, _ => none
  | k + 1, x0, x10, x11, x12 => if x12 < x11 then (if 0 ≤ x12 then (if x12 < (x10.length : Int) then (if x12 ≤ (x0.length : Int) then ((event_checkOp.f k ((rd_T25 x10 x12).f0) ((rd_T25 x10 x12).f1) ((rd_T25 x10 x12).f2) ((rd_T25 x10 x12).f3) ((rd_T25 x10 x12).f4) ((rd_T25 x10 x12).f5) ((rd_T25 x10 x12).f6) ((rd_T25 x10 x12).f7) (x0.take (x12 : Int).toNat)).bind fun t133 => (if t133.isNone = true then (event_CheckOps.l0 k x0 x10 x11 (wrap64 (x12 + 1))) else (some (some (t133.getD 0))))) else (none)) else (none)) else (none)) else (some none)
def event_CheckOps.f (k : Nat) (l0 : List (S25)) : Option (Option Int) := if (l0.length : Int) > 40 then (some (some 4)) else (event_CheckOps.l0 k l0 l0 (l0.length : Int) 0)
theorem event_CheckOps.mono_l : ∀ k, (∀ y0 y1 y2 y3, LeO (event_CheckOps.l0 k y0 y1 y2 y3) (event_CheckOps.l0 (k + 1) y0 y1 y2 y3))
  | 0 => fun _ _ _ _ r h => by simp [event_CheckOps.l0] at h
  | k + 1 => by
    have ih0 := event_CheckOps.mono_l k
    · intro y0 y1 y2 y3
      unfold event_CheckOps.l0
      repeat' first
      | (with_reducible exact ih0 _ _ _ _)
      | (with_reducible exact event_checkOp.mono _ _ _ _ _ _ _ _ _ _)
      | (with_reducible exact LeO.refl _)
      | (with_reducible exact LeO.none _)
      | (with_reducible refine LeO.ite ?_ ?_)
      | (with_reducible refine LeO.bind ?_ (fun _ => ?_))
      | exact ih0 _ _ _ _
      | exact event_checkOp.mono _ _ _ _ _ _ _ _ _ _
      | exact LeO.none _
      | refine LeO.ite ?_ ?_
      | refine LeO.bind ?_ (fun _ => ?_)
theorem event_CheckOps.mono : ∀ a0 k, LeO (event_CheckOps.f k a0) (event_CheckOps.f (k + 1) a0) := by
  intro a0 k
  have ih0 := event_CheckOps.mono_l k
  unfold event_CheckOps.f
  repeat' first
      | (with_reducible exact ih0 _ _ _ _)
      | (with_reducible exact event_checkOp.mono _ _ _ _ _ _ _ _ _ _)
      | (with_reducible exact LeO.refl _)
      | (with_reducible exact LeO.none _)
      | (with_reducible refine LeO.ite ?_ ?_)
      | (with_reducible refine LeO.bind ?_ (fun _ => ?_))
      | exact ih0 _ _ _ _
      | exact event_checkOp.mono _ _ _ _ _ _ _ _ _ _
      | exact LeO.none _
      | refine LeO.ite ?_ ?_
      | refine LeO.bind ?_ (fun _ => ?_)

end Go.Proofs.YtdndcccdbaahpaaDoor.PA
