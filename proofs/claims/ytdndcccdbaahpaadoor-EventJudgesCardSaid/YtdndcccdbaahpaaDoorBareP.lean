/- The laws' 'bare' in the printer's form: it answers true where the error's number is the one asked for. -/
import Derived.Test.YtdndcccdbaahpaaDoorBare
import Derived.Test.YtdndcccdbaahpaaDoorPAx0
namespace Go.Proofs.YtdndcccdbaahpaaDoor.PA
open Go.RowKit Go.Proofs.YtdndcccdbaahpaaDoorW.PrintWords Go.Proofs.YtdndcccdbaahpaaDoor

/-- 'bare' where it answers true ('none': what it answers else isn't told). -/
def testimonylaw_bare.f (a0 : Option Int) (a1 : Int) : Option Bool := if a0.getD 0 = a1 then some true else none

theorem hasErr_below {w W : World} (h : HasErr w) (hb : Below w.heap.size w W) : HasErr W := h.below hb h.lt

theorem testimonylaw_bare.calls (a0 : Option Int) (a1 : Int) (r : Bool) (w : World) (hg : HasErr w) (h : testimonylaw_bare.f a0 a1 = some r) :
    Calls Tryd.prog 11 #[errW a0, .int .i64 a1] w fun e w' => e = .returned (.bool r) ∧ Below w.heap.size w w' := by
  unfold testimonylaw_bare.f at h
  split at h
  · rename_i e
    cases h
    subst e
    refine bare_yes _ _ w hg ?_
    cases a0 with
    | none => exact .inl ⟨rfl, rfl, rfl⟩
    | some c => exact .inr (.inl ⟨rfl, rfl⟩)
  · cases h
end Go.Proofs.YtdndcccdbaahpaaDoor.PA
