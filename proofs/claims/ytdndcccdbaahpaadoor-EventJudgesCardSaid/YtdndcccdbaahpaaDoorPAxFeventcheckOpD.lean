-- written by a printer (wip/mkprint.py)
import Derived.Test.YtdndcccdbaahpaaDoorPAx0
import Derived.Test.YtdndcccdbaahpaaDoorPAxFeventBefore
import Derived.Test.YtdndcccdbaahpaaDoorPAxFeventin
import Derived.Test.YtdndcccdbaahpaaDoorPAxFeventtold
namespace Go.Proofs.YtdndcccdbaahpaaDoor.PA
open Go.RowKit Go.Proofs.YtdndcccdbaahpaaDoorW.PrintWords Go.Proofs.YtdndcccdbaahpaaDoorW.PrintLast Go.Proofs.YtdndcccdbaahpaaDoorW.PrintMore
attribute [local go_sem] max2_int min2_int max_two min_two max_three min_three max_four min_four   -- for this text's walks alone
set_option linter.unusedVariables false
set_option linter.unusedSimpArgs false

/-! ### event_checkOp: function 35 -/
mutual
def event_checkOp.j2 : Nat → List (S25) → Int → Int → Int → Int → Int → Int → Int → Int → Option (Option Int)
  | 0, _, _, _, _, _, _, _, _, _ => none
  | k + 1, x1, x112000, x112001, x112002, x112003, x112004, x112005, x112006, x112007 => event_checkOp.l0 k x1 x1 (x1.length : Int) 0 x112000 x112001 x112002 x112003 x112004 x112005 x112006 x112007
def event_checkOp.l0 : Nat → List (S25) → List (S25) → Int → Int → Int → Int → Int → Int → Int → Int → Int → Int → Option (Option Int)
  | 0, _, _, _, _, _, _, _, _, _, _, _, _ => none
  | k + 1, x1, x75, x76, x77, x112000, x112001, x112002, x112003, x112004, x112005, x112006, x112007 => if x77 < x76 then (if 0 ≤ x77 then (if x77 < (x75.length : Int) then ((some (([(rd_T25 x75 x77).f6, (rd_T25 x75 x77).f7] : List Int) : List Int)).bind fun y120 => (event_checkOp.l1 k x1 x75 x76 x77 y120 (y120.length : Int) 0 x112000 x112001 x112002 x112003 x112004 x112005 x112006 x112007)) else (none)) else (none)) else (event_checkOp.l2 k x1 (x1.length : Int) 0 x112000 x112001 x112002 x112003 x112004 x112005 x112006 x112007)
def event_checkOp.l1 : Nat → List (S25) → List (S25) → Int → Int → List Int → Int → Int → Int → Int → Int → Int → Int → Int → Int → Int → Option (Option Int)
  | 0, _, _, _, _, _, _, _, _, _, _, _, _, _, _, _ => none
  | k + 1, x1, x75, x76, x77, x85, x86, x87, x112000, x112001, x112002, x112003, x112004, x112005, x112006, x112007 => if x87 < x86 then (if 0 ≤ x87 then (if x87 < (x85.length : Int) then (if (rd x85 x87) = (-1) then (event_checkOp.l1 k x1 x75 x76 x77 x85 x86 (wrap64 (x87 + 1)) x112000 x112001 x112002 x112003 x112004 x112005 x112006 x112007) else (if (rd x85 x87) = x112006 then (some (some 9)) else (if (rd x85 x87) = x112007 then (some (some 9)) else (event_checkOp.l1 k x1 x75 x76 x77 x85 x86 (wrap64 (x87 + 1)) x112000 x112001 x112002 x112003 x112004 x112005 x112006 x112007)))) else (none)) else (none)) else (event_checkOp.l0 k x1 x75 x76 (wrap64 (x77 + 1)) x112000 x112001 x112002 x112003 x112004 x112005 x112006 x112007)
def event_checkOp.l2 : Nat → List (S25) → Int → Int → Int → Int → Int → Int → Int → Int → Int → Int → Option (Option Int)
  | 0, _, _, _, _, _, _, _, _, _, _, _ => none
  | k + 1, x108, x109, x110, x112000, x112001, x112002, x112003, x112004, x112005, x112006, x112007 => if x110 < x109 then (if 0 ≤ x110 then (if x110 < (x108.length : Int) then (if ((rd_T25 x108 x110).f0) = x112000 then ((event_Before.f ((rd_T25 x108 x110).f0) ((rd_T25 x108 x110).f1) ((rd_T25 x108 x110).f2) ((rd_T25 x108 x110).f3) ((rd_T25 x108 x110).f4) ((rd_T25 x108 x110).f5) ((rd_T25 x108 x110).f6) ((rd_T25 x108 x110).f7) x112000 x112001 x112002 x112003 x112004 x112005 x112006 x112007).bind fun t126 => (if t126 = true then (event_checkOp.l2 k x108 x109 (wrap64 (x110 + 1)) x112000 x112001 x112002 x112003 x112004 x112005 x112006 x112007) else (some (some 6)))) else (event_checkOp.l2 k x108 x109 (wrap64 (x110 + 1)) x112000 x112001 x112002 x112003 x112004 x112005 x112006 x112007)) else (none)) else (none)) else (some none)
def event_checkOp.j0 : Nat → List (S25) → Bool → Bool → Int → Int → Int → Int → Int → Int → Int → Int → Option (Option Int)
  | 0, _, _, _, _, _, _, _, _, _, _, _ => none
  | k + 1, x1, x5, x40, x112000, x112001, x112002, x112003, x112004, x112005, x112006, x112007 => if x40 = true then (some (some 10)) else (if x5 = true then (event_checkOp.j1 k x1 x5 false x112000 x112001 x112002 x112003 x112004 x112005 x112006 x112007) else (event_checkOp.j1 k x1 x5 (decide (x112007 ≤ x112006)) x112000 x112001 x112002 x112003 x112004 x112005 x112006 x112007))
def event_checkOp.j1 : Nat → List (S25) → Bool → Bool → Int → Int → Int → Int → Int → Int → Int → Int → Option (Option Int)
  | 0, _, _, _, _, _, _, _, _, _, _, _ => none
  | k + 1, x1, x5, x40, x112000, x112001, x112002, x112003, x112004, x112005, x112006, x112007 => if x40 = true then (some (some 10)) else (if x5 = true then (if x112005 = 0 then (event_checkOp.j2 k x1 x112000 x112001 x112002 x112003 x112004 x112005 x112006 x112007) else (some (some 10))) else (event_checkOp.j2 k x1 x112000 x112001 x112002 x112003 x112004 x112005 x112006 x112007))
end
def event_checkOp.f (k : Nat) (a0_0 : Int) (a0_1 : Int) (a0_2 : Int) (a0_3 : Int) (a0_4 : Int) (a0_5 : Int) (a0_6 : Int) (a0_7 : Int) (l1 : List (S25)) : Option (Option Int) := (event_told.f k a0_0 a0_1 (([a0_3, a0_4, a0_5, a0_6, a0_7] : List Int))).bind fun t115 => (if t115 = true then ((event_in.f a0_2 1 12).bind fun t116 => (if t116 = true then (if a0_6 < 0 then (some (some 10)) else (if (l1.length : Int) > 0 then (if 0 ≤ (wrap64 ((l1.length : Int) - 1)) then (if (wrap64 ((l1.length : Int) - 1)) < (l1.length : Int) then (event_checkOp.j0 k l1 (a0_7 == (-1)) (decide (a0_6 ≤ ((rd_T25 l1 (wrap64 ((l1.length : Int) - 1))).f6))) a0_0 a0_1 a0_2 a0_3 a0_4 a0_5 a0_6 a0_7) else (none)) else (none)) else (event_checkOp.j0 k l1 (a0_7 == (-1)) false a0_0 a0_1 a0_2 a0_3 a0_4 a0_5 a0_6 a0_7))) else (some (some 1)))) else (some (some 2)))
theorem event_checkOp.mono_l : ∀ k, (∀ y0 y1 y2 y3 y4 y5 y6 y7 y8, LeO (event_checkOp.j2 k y0 y1 y2 y3 y4 y5 y6 y7 y8) (event_checkOp.j2 (k + 1) y0 y1 y2 y3 y4 y5 y6 y7 y8)) ∧ (∀ y0 y1 y2 y3 y4 y5 y6 y7 y8 y9 y10 y11, LeO (event_checkOp.l0 k y0 y1 y2 y3 y4 y5 y6 y7 y8 y9 y10 y11) (event_checkOp.l0 (k + 1) y0 y1 y2 y3 y4 y5 y6 y7 y8 y9 y10 y11)) ∧ (∀ y0 y1 y2 y3 y4 y5 y6 y7 y8 y9 y10 y11 y12 y13 y14, LeO (event_checkOp.l1 k y0 y1 y2 y3 y4 y5 y6 y7 y8 y9 y10 y11 y12 y13 y14) (event_checkOp.l1 (k + 1) y0 y1 y2 y3 y4 y5 y6 y7 y8 y9 y10 y11 y12 y13 y14)) ∧ (∀ y0 y1 y2 y3 y4 y5 y6 y7 y8 y9 y10, LeO (event_checkOp.l2 k y0 y1 y2 y3 y4 y5 y6 y7 y8 y9 y10) (event_checkOp.l2 (k + 1) y0 y1 y2 y3 y4 y5 y6 y7 y8 y9 y10)) ∧ (∀ y0 y1 y2 y3 y4 y5 y6 y7 y8 y9 y10, LeO (event_checkOp.j0 k y0 y1 y2 y3 y4 y5 y6 y7 y8 y9 y10) (event_checkOp.j0 (k + 1) y0 y1 y2 y3 y4 y5 y6 y7 y8 y9 y10)) ∧ (∀ y0 y1 y2 y3 y4 y5 y6 y7 y8 y9 y10, LeO (event_checkOp.j1 k y0 y1 y2 y3 y4 y5 y6 y7 y8 y9 y10) (event_checkOp.j1 (k + 1) y0 y1 y2 y3 y4 y5 y6 y7 y8 y9 y10))
  | 0 => ⟨fun _ _ _ _ _ _ _ _ _ r h => by simp [event_checkOp.j2] at h, fun _ _ _ _ _ _ _ _ _ _ _ _ r h => by simp [event_checkOp.l0] at h, fun _ _ _ _ _ _ _ _ _ _ _ _ _ _ _ r h => by simp [event_checkOp.l1] at h, fun _ _ _ _ _ _ _ _ _ _ _ r h => by simp [event_checkOp.l2] at h, fun _ _ _ _ _ _ _ _ _ _ _ r h => by simp [event_checkOp.j0] at h, fun _ _ _ _ _ _ _ _ _ _ _ r h => by simp [event_checkOp.j1] at h⟩
  | k + 1 => by
    obtain ⟨ih0, ih1, ih2, ih3, ih4, ih5⟩ := event_checkOp.mono_l k
    refine ⟨?_, ?_, ?_, ?_, ?_, ?_⟩
    · intro y0 y1 y2 y3 y4 y5 y6 y7 y8
      unfold event_checkOp.j2
      repeat' first
      | (with_reducible exact ih0 _ _ _ _ _ _ _ _ _)
      | (with_reducible exact ih1 _ _ _ _ _ _ _ _ _ _ _ _)
      | (with_reducible exact ih2 _ _ _ _ _ _ _ _ _ _ _ _ _ _ _)
      | (with_reducible exact ih3 _ _ _ _ _ _ _ _ _ _ _)
      | (with_reducible exact ih4 _ _ _ _ _ _ _ _ _ _ _)
      | (with_reducible exact ih5 _ _ _ _ _ _ _ _ _ _ _)
      | (with_reducible exact event_told.mono _ _ _ _)
      | (with_reducible exact LeO.refl _)
      | (with_reducible exact LeO.none _)
      | (with_reducible refine LeO.ite ?_ ?_)
      | (with_reducible refine LeO.bind ?_ (fun _ => ?_))
      | exact ih0 _ _ _ _ _ _ _ _ _
      | exact ih1 _ _ _ _ _ _ _ _ _ _ _ _
      | exact ih2 _ _ _ _ _ _ _ _ _ _ _ _ _ _ _
      | exact ih3 _ _ _ _ _ _ _ _ _ _ _
      | exact ih4 _ _ _ _ _ _ _ _ _ _ _
      | exact ih5 _ _ _ _ _ _ _ _ _ _ _
      | exact event_told.mono _ _ _ _
      | exact LeO.none _
      | refine LeO.ite ?_ ?_
      | refine LeO.bind ?_ (fun _ => ?_)
    · intro y0 y1 y2 y3 y4 y5 y6 y7 y8 y9 y10 y11
      unfold event_checkOp.l0
      repeat' first
      | (with_reducible exact ih0 _ _ _ _ _ _ _ _ _)
      | (with_reducible exact ih1 _ _ _ _ _ _ _ _ _ _ _ _)
      | (with_reducible exact ih2 _ _ _ _ _ _ _ _ _ _ _ _ _ _ _)
      | (with_reducible exact ih3 _ _ _ _ _ _ _ _ _ _ _)
      | (with_reducible exact ih4 _ _ _ _ _ _ _ _ _ _ _)
      | (with_reducible exact ih5 _ _ _ _ _ _ _ _ _ _ _)
      | (with_reducible exact event_told.mono _ _ _ _)
      | (with_reducible exact LeO.refl _)
      | (with_reducible exact LeO.none _)
      | (with_reducible refine LeO.ite ?_ ?_)
      | (with_reducible refine LeO.bind ?_ (fun _ => ?_))
      | exact ih0 _ _ _ _ _ _ _ _ _
      | exact ih1 _ _ _ _ _ _ _ _ _ _ _ _
      | exact ih2 _ _ _ _ _ _ _ _ _ _ _ _ _ _ _
      | exact ih3 _ _ _ _ _ _ _ _ _ _ _
      | exact ih4 _ _ _ _ _ _ _ _ _ _ _
      | exact ih5 _ _ _ _ _ _ _ _ _ _ _
      | exact event_told.mono _ _ _ _
      | exact LeO.none _
      | refine LeO.ite ?_ ?_
      | refine LeO.bind ?_ (fun _ => ?_)
    · intro y0 y1 y2 y3 y4 y5 y6 y7 y8 y9 y10 y11 y12 y13 y14
      unfold event_checkOp.l1
      repeat' first
      | (with_reducible exact ih0 _ _ _ _ _ _ _ _ _)
      | (with_reducible exact ih1 _ _ _ _ _ _ _ _ _ _ _ _)
      | (with_reducible exact ih2 _ _ _ _ _ _ _ _ _ _ _ _ _ _ _)
      | (with_reducible exact ih3 _ _ _ _ _ _ _ _ _ _ _)
      | (with_reducible exact ih4 _ _ _ _ _ _ _ _ _ _ _)
      | (with_reducible exact ih5 _ _ _ _ _ _ _ _ _ _ _)
      | (with_reducible exact event_told.mono _ _ _ _)
      | (with_reducible exact LeO.refl _)
      | (with_reducible exact LeO.none _)
      | (with_reducible refine LeO.ite ?_ ?_)
      | (with_reducible refine LeO.bind ?_ (fun _ => ?_))
      | exact ih0 _ _ _ _ _ _ _ _ _
      | exact ih1 _ _ _ _ _ _ _ _ _ _ _ _
      | exact ih2 _ _ _ _ _ _ _ _ _ _ _ _ _ _ _
      | exact ih3 _ _ _ _ _ _ _ _ _ _ _
      | exact ih4 _ _ _ _ _ _ _ _ _ _ _
      | exact ih5 _ _ _ _ _ _ _ _ _ _ _
      | exact event_told.mono _ _ _ _
      | exact LeO.none _
      | refine LeO.ite ?_ ?_
      | refine LeO.bind ?_ (fun _ => ?_)
    · intro y0 y1 y2 y3 y4 y5 y6 y7 y8 y9 y10
      unfold event_checkOp.l2
      repeat' first
      | (with_reducible exact ih0 _ _ _ _ _ _ _ _ _)
      | (with_reducible exact ih1 _ _ _ _ _ _ _ _ _ _ _ _)
      | (with_reducible exact ih2 _ _ _ _ _ _ _ _ _ _ _ _ _ _ _)
      | (with_reducible exact ih3 _ _ _ _ _ _ _ _ _ _ _)
      | (with_reducible exact ih4 _ _ _ _ _ _ _ _ _ _ _)
      | (with_reducible exact ih5 _ _ _ _ _ _ _ _ _ _ _)
      | (with_reducible exact event_told.mono _ _ _ _)
      | (with_reducible exact LeO.refl _)
      | (with_reducible exact LeO.none _)
      | (with_reducible refine LeO.ite ?_ ?_)
      | (with_reducible refine LeO.bind ?_ (fun _ => ?_))
      | exact ih0 _ _ _ _ _ _ _ _ _
      | exact ih1 _ _ _ _ _ _ _ _ _ _ _ _
      | exact ih2 _ _ _ _ _ _ _ _ _ _ _ _ _ _ _
      | exact ih3 _ _ _ _ _ _ _ _ _ _ _
      | exact ih4 _ _ _ _ _ _ _ _ _ _ _
      | exact ih5 _ _ _ _ _ _ _ _ _ _ _
      | exact event_told.mono _ _ _ _
      | exact LeO.none _
      | refine LeO.ite ?_ ?_
      | refine LeO.bind ?_ (fun _ => ?_)
    · intro y0 y1 y2 y3 y4 y5 y6 y7 y8 y9 y10
      unfold event_checkOp.j0
      repeat' first
      | (with_reducible exact ih0 _ _ _ _ _ _ _ _ _)
      | (with_reducible exact ih1 _ _ _ _ _ _ _ _ _ _ _ _)
      | (with_reducible exact ih2 _ _ _ _ _ _ _ _ _ _ _ _ _ _ _)
      | (with_reducible exact ih3 _ _ _ _ _ _ _ _ _ _ _)
      | (with_reducible exact ih4 _ _ _ _ _ _ _ _ _ _ _)
      | (with_reducible exact ih5 _ _ _ _ _ _ _ _ _ _ _)
      | (with_reducible exact event_told.mono _ _ _ _)
      | (with_reducible exact LeO.refl _)
      | (with_reducible exact LeO.none _)
      | (with_reducible refine LeO.ite ?_ ?_)
      | (with_reducible refine LeO.bind ?_ (fun _ => ?_))
      | exact ih0 _ _ _ _ _ _ _ _ _
      | exact ih1 _ _ _ _ _ _ _ _ _ _ _ _
      | exact ih2 _ _ _ _ _ _ _ _ _ _ _ _ _ _ _
      | exact ih3 _ _ _ _ _ _ _ _ _ _ _
      | exact ih4 _ _ _ _ _ _ _ _ _ _ _
      | exact ih5 _ _ _ _ _ _ _ _ _ _ _
      | exact event_told.mono _ _ _ _
      | exact LeO.none _
      | refine LeO.ite ?_ ?_
      | refine LeO.bind ?_ (fun _ => ?_)
    · intro y0 y1 y2 y3 y4 y5 y6 y7 y8 y9 y10
      unfold event_checkOp.j1
      repeat' first
      | (with_reducible exact ih0 _ _ _ _ _ _ _ _ _)
      | (with_reducible exact ih1 _ _ _ _ _ _ _ _ _ _ _ _)
      | (with_reducible exact ih2 _ _ _ _ _ _ _ _ _ _ _ _ _ _ _)
      | (with_reducible exact ih3 _ _ _ _ _ _ _ _ _ _ _)
      | (with_reducible exact ih4 _ _ _ _ _ _ _ _ _ _ _)
      | (with_reducible exact ih5 _ _ _ _ _ _ _ _ _ _ _)
      | (with_reducible exact event_told.mono _ _ _ _)
      | (with_reducible exact LeO.refl _)
      | (with_reducible exact LeO.none _)
      | (with_reducible refine LeO.ite ?_ ?_)
      | (with_reducible refine LeO.bind ?_ (fun _ => ?_))
      | exact ih0 _ _ _ _ _ _ _ _ _
      | exact ih1 _ _ _ _ _ _ _ _ _ _ _ _
      | exact ih2 _ _ _ _ _ _ _ _ _ _ _ _ _ _ _
      | exact ih3 _ _ _ _ _ _ _ _ _ _ _
      | exact ih4 _ _ _ _ _ _ _ _ _ _ _
      | exact ih5 _ _ _ _ _ _ _ _ _ _ _
      | exact event_told.mono _ _ _ _
      | exact LeO.none _
      | refine LeO.ite ?_ ?_
      | refine LeO.bind ?_ (fun _ => ?_)
theorem event_checkOp.mono : ∀ a0 a1 a2 a3 a4 a5 a6 a7 a8 k, LeO (event_checkOp.f k a0 a1 a2 a3 a4 a5 a6 a7 a8) (event_checkOp.f (k + 1) a0 a1 a2 a3 a4 a5 a6 a7 a8) := by
  intro a0 a1 a2 a3 a4 a5 a6 a7 a8 k
  obtain ⟨ih0, ih1, ih2, ih3, ih4, ih5⟩ := event_checkOp.mono_l k
  unfold event_checkOp.f
  repeat' first
      | (with_reducible exact ih0 _ _ _ _ _ _ _ _ _)
      | (with_reducible exact ih1 _ _ _ _ _ _ _ _ _ _ _ _)
      | (with_reducible exact ih2 _ _ _ _ _ _ _ _ _ _ _ _ _ _ _)
      | (with_reducible exact ih3 _ _ _ _ _ _ _ _ _ _ _)
      | (with_reducible exact ih4 _ _ _ _ _ _ _ _ _ _ _)
      | (with_reducible exact ih5 _ _ _ _ _ _ _ _ _ _ _)
      | (with_reducible exact event_told.mono _ _ _ _)
      | (with_reducible exact LeO.refl _)
      | (with_reducible exact LeO.none _)
      | (with_reducible refine LeO.ite ?_ ?_)
      | (with_reducible refine LeO.bind ?_ (fun _ => ?_))
      | exact ih0 _ _ _ _ _ _ _ _ _
      | exact ih1 _ _ _ _ _ _ _ _ _ _ _ _
      | exact ih2 _ _ _ _ _ _ _ _ _ _ _ _ _ _ _
      | exact ih3 _ _ _ _ _ _ _ _ _ _ _
      | exact ih4 _ _ _ _ _ _ _ _ _ _ _
      | exact ih5 _ _ _ _ _ _ _ _ _ _ _
      | exact event_told.mono _ _ _ _
      | exact LeO.none _
      | refine LeO.ite ?_ ?_
      | refine LeO.bind ?_ (fun _ => ?_)

end Go.Proofs.YtdndcccdbaahpaaDoor.PA
