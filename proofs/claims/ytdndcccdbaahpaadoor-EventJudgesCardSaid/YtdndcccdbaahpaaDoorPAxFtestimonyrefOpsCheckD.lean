-- written by a printer (wip/mkprint.py)
import Derived.Test.YtdndcccdbaahpaaDoorPAx0
import Derived.Test.YtdndcccdbaahpaaDoorPAxFtestimonyrefBefore
import Derived.Test.YtdndcccdbaahpaaDoorPAxFtestimonyrefsmall
namespace Go.Proofs.YtdndcccdbaahpaaDoor.PA
open Go.RowKit Go.Proofs.YtdndcccdbaahpaaDoorW.PrintWords Go.Proofs.YtdndcccdbaahpaaDoorW.PrintLast Go.Proofs.YtdndcccdbaahpaaDoorW.PrintMore
attribute [local go_sem] max2_int min2_int max_two min_two max_three min_three max_four min_four   -- for this text's walks alone
set_option linter.unusedVariables false
set_option linter.unusedSimpArgs false

/-! ### testimonyref_OpsCheck: function 13 -/
mutual
def testimonyref_OpsCheck.l0 : Nat → List (S25) → List (S25) → Int → Int → Option (Int)
  | 0, _, _, _, _ => none
  | k + 1, x0, x12, x13, x14 => if x14 < x13 then (if 0 ≤ x14 then (if x14 < (x12.length : Int) then (if ((rd_T25 x12 x14).f0) < 0 then (testimonyref_OpsCheck.j1 k x0 x14 x12 x13 x14 true ((rd_T25 x12 x14).f0) ((rd_T25 x12 x14).f1) ((rd_T25 x12 x14).f2) ((rd_T25 x12 x14).f3) ((rd_T25 x12 x14).f4) ((rd_T25 x12 x14).f5) ((rd_T25 x12 x14).f6) ((rd_T25 x12 x14).f7)) else (if ((rd_T25 x12 x14).f0) > 7 then (testimonyref_OpsCheck.j1 k x0 x14 x12 x13 x14 true ((rd_T25 x12 x14).f0) ((rd_T25 x12 x14).f1) ((rd_T25 x12 x14).f2) ((rd_T25 x12 x14).f3) ((rd_T25 x12 x14).f4) ((rd_T25 x12 x14).f5) ((rd_T25 x12 x14).f6) ((rd_T25 x12 x14).f7)) else (if ((rd_T25 x12 x14).f1) < 0 then (testimonyref_OpsCheck.j1 k x0 x14 x12 x13 x14 true ((rd_T25 x12 x14).f0) ((rd_T25 x12 x14).f1) ((rd_T25 x12 x14).f2) ((rd_T25 x12 x14).f3) ((rd_T25 x12 x14).f4) ((rd_T25 x12 x14).f5) ((rd_T25 x12 x14).f6) ((rd_T25 x12 x14).f7)) else (if ((rd_T25 x12 x14).f1) > 7 then (testimonyref_OpsCheck.j1 k x0 x14 x12 x13 x14 true ((rd_T25 x12 x14).f0) ((rd_T25 x12 x14).f1) ((rd_T25 x12 x14).f2) ((rd_T25 x12 x14).f3) ((rd_T25 x12 x14).f4) ((rd_T25 x12 x14).f5) ((rd_T25 x12 x14).f6) ((rd_T25 x12 x14).f7)) else ((testimonyref_small.f k (([(rd_T25 x12 x14).f3, (rd_T25 x12 x14).f4, (rd_T25 x12 x14).f5, (rd_T25 x12 x14).f6, (rd_T25 x12 x14).f7] : List Int))).bind fun t141 => (testimonyref_OpsCheck.j1 k x0 x14 x12 x13 x14 (!t141) ((rd_T25 x12 x14).f0) ((rd_T25 x12 x14).f1) ((rd_T25 x12 x14).f2) ((rd_T25 x12 x14).f3) ((rd_T25 x12 x14).f4) ((rd_T25 x12 x14).f5) ((rd_T25 x12 x14).f6) ((rd_T25 x12 x14).f7))))))) else (none)) else (none)) else (some 0)
def testimonyref_OpsCheck.j1 : Nat → List (S25) → Int → List (S25) → Int → Int → Bool → Int → Int → Int → Int → Int → Int → Int → Int → Option (Int)
  | 0, _, _, _, _, _, _, _, _, _, _, _, _, _, _ => none
  | k + 1, x0, x3, x12, x13, x14, x51, x138000, x138001, x138002, x138003, x138004, x138005, x138006, x138007 => if x51 = true then (some 2) else (if x138002 < 1 then (testimonyref_OpsCheck.j2 k x0 x3 x12 x13 x14 true x138000 x138001 x138002 x138003 x138004 x138005 x138006 x138007) else (testimonyref_OpsCheck.j2 k x0 x3 x12 x13 x14 (decide (x138002 > 12)) x138000 x138001 x138002 x138003 x138004 x138005 x138006 x138007))
def testimonyref_OpsCheck.j2 : Nat → List (S25) → Int → List (S25) → Int → Int → Bool → Int → Int → Int → Int → Int → Int → Int → Int → Option (Int)
  | 0, _, _, _, _, _, _, _, _, _, _, _, _, _, _ => none
  | k + 1, x0, x3, x12, x13, x14, x59, x138000, x138001, x138002, x138003, x138004, x138005, x138006, x138007 => if x59 = true then (some 1) else (if x138006 < 0 then (testimonyref_OpsCheck.j3 k x0 x3 x12 x13 x14 true x138000 x138001 x138002 x138003 x138004 x138005 x138006 x138007) else (if x3 > 0 then (if 0 ≤ (wrap64 (x3 - 1)) then (if (wrap64 (x3 - 1)) < (x0.length : Int) then (if x138006 ≤ ((rd_T25 x0 (wrap64 (x3 - 1))).f6) then (testimonyref_OpsCheck.j3 k x0 x3 x12 x13 x14 true x138000 x138001 x138002 x138003 x138004 x138005 x138006 x138007) else (if x138007 = (-1) then (testimonyref_OpsCheck.j3 k x0 x3 x12 x13 x14 (x138005 != 0) x138000 x138001 x138002 x138003 x138004 x138005 x138006 x138007) else (if x138007 ≤ x138006 then (testimonyref_OpsCheck.j3 k x0 x3 x12 x13 x14 true x138000 x138001 x138002 x138003 x138004 x138005 x138006 x138007) else (testimonyref_OpsCheck.j3 k x0 x3 x12 x13 x14 false x138000 x138001 x138002 x138003 x138004 x138005 x138006 x138007)))) else (none)) else (none)) else (if x138007 = (-1) then (testimonyref_OpsCheck.j3 k x0 x3 x12 x13 x14 (x138005 != 0) x138000 x138001 x138002 x138003 x138004 x138005 x138006 x138007) else (if x138007 ≤ x138006 then (testimonyref_OpsCheck.j3 k x0 x3 x12 x13 x14 true x138000 x138001 x138002 x138003 x138004 x138005 x138006 x138007) else (testimonyref_OpsCheck.j3 k x0 x3 x12 x13 x14 false x138000 x138001 x138002 x138003 x138004 x138005 x138006 x138007)))))
def testimonyref_OpsCheck.j3 : Nat → List (S25) → Int → List (S25) → Int → Int → Bool → Int → Int → Int → Int → Int → Int → Int → Int → Option (Int)
  | 0, _, _, _, _, _, _, _, _, _, _, _, _, _, _ => none
  | k + 1, x0, x3, x12, x13, x14, x99, x138000, x138001, x138002, x138003, x138004, x138005, x138006, x138007 => if x99 = true then (some 10) else (if 0 ≤ x3 then (if x3 ≤ (x0.length : Int) then ((some (x0.take (x3 : Int).toNat : List (S25))).bind fun y143 => (testimonyref_OpsCheck.l1 k x0 x3 x12 x13 x14 y143 (y143.length : Int) 0 x138000 x138001 x138002 x138003 x138004 x138005 x138006 x138007)) else (none)) else (none))
def testimonyref_OpsCheck.l1 : Nat → List (S25) → Int → List (S25) → Int → Int → List (S25) → Int → Int → Int → Int → Int → Int → Int → Int → Int → Int → Option (Int)
  | 0, _, _, _, _, _, _, _, _, _, _, _, _, _, _, _, _ => none
  | k + 1, x0, x3, x12, x13, x14, x102, x103, x104, x138000, x138001, x138002, x138003, x138004, x138005, x138006, x138007 => if x104 < x103 then (if 0 ≤ x104 then (if x104 < (x102.length : Int) then (if x138006 = ((rd_T25 x102 x104).f6) then (some 9) else (if x138006 = ((rd_T25 x102 x104).f7) then (some 9) else (if x138007 = (-1) then (testimonyref_OpsCheck.l1 k x0 x3 x12 x13 x14 x102 x103 (wrap64 (x104 + 1)) x138000 x138001 x138002 x138003 x138004 x138005 x138006 x138007) else (if x138007 = ((rd_T25 x102 x104).f6) then (some 9) else (if x138007 = ((rd_T25 x102 x104).f7) then (some 9) else (testimonyref_OpsCheck.l1 k x0 x3 x12 x13 x14 x102 x103 (wrap64 (x104 + 1)) x138000 x138001 x138002 x138003 x138004 x138005 x138006 x138007)))))) else (none)) else (none)) else (if 0 ≤ x3 then (if x3 ≤ (x0.length : Int) then ((some (x0.take (x3 : Int).toNat : List (S25))).bind fun y149 => (testimonyref_OpsCheck.l2 k x0 x12 x13 x14 y149 (y149.length : Int) 0 x138000 x138001 x138002 x138003 x138004 x138005 x138006 x138007)) else (none)) else (none))
def testimonyref_OpsCheck.l2 : Nat → List (S25) → List (S25) → Int → Int → List (S25) → Int → Int → Int → Int → Int → Int → Int → Int → Int → Int → Option (Int)
  | 0, _, _, _, _, _, _, _, _, _, _, _, _, _, _, _ => none
  | k + 1, x0, x12, x13, x14, x142, x143, x144, x138000, x138001, x138002, x138003, x138004, x138005, x138006, x138007 => if x144 < x143 then (if 0 ≤ x144 then (if x144 < (x142.length : Int) then (if ((rd_T25 x142 x144).f0) = x138000 then ((testimonyref_Before.f ((rd_T25 x142 x144).f0) ((rd_T25 x142 x144).f1) ((rd_T25 x142 x144).f2) ((rd_T25 x142 x144).f3) ((rd_T25 x142 x144).f4) ((rd_T25 x142 x144).f5) ((rd_T25 x142 x144).f6) ((rd_T25 x142 x144).f7) x138000 x138001 x138002 x138003 x138004 x138005 x138006 x138007).bind fun t155 => (if t155 = true then (testimonyref_OpsCheck.l2 k x0 x12 x13 x14 x142 x143 (wrap64 (x144 + 1)) x138000 x138001 x138002 x138003 x138004 x138005 x138006 x138007) else (some 6))) else (testimonyref_OpsCheck.l2 k x0 x12 x13 x14 x142 x143 (wrap64 (x144 + 1)) x138000 x138001 x138002 x138003 x138004 x138005 x138006 x138007)) else (none)) else (none)) else (testimonyref_OpsCheck.l0 k x0 x12 x13 (wrap64 (x14 + 1)))
end
def testimonyref_OpsCheck.f (k : Nat) (l0 : List (S25)) : Option (Int) := if (l0.length : Int) > 40 then (some 4) else (testimonyref_OpsCheck.l0 k l0 l0 (l0.length : Int) 0)
theorem testimonyref_OpsCheck.mono_l : ∀ k, (∀ y0 y1 y2 y3, LeO (testimonyref_OpsCheck.l0 k y0 y1 y2 y3) (testimonyref_OpsCheck.l0 (k + 1) y0 y1 y2 y3)) ∧ (∀ y0 y1 y2 y3 y4 y5 y6 y7 y8 y9 y10 y11 y12 y13, LeO (testimonyref_OpsCheck.j1 k y0 y1 y2 y3 y4 y5 y6 y7 y8 y9 y10 y11 y12 y13) (testimonyref_OpsCheck.j1 (k + 1) y0 y1 y2 y3 y4 y5 y6 y7 y8 y9 y10 y11 y12 y13)) ∧ (∀ y0 y1 y2 y3 y4 y5 y6 y7 y8 y9 y10 y11 y12 y13, LeO (testimonyref_OpsCheck.j2 k y0 y1 y2 y3 y4 y5 y6 y7 y8 y9 y10 y11 y12 y13) (testimonyref_OpsCheck.j2 (k + 1) y0 y1 y2 y3 y4 y5 y6 y7 y8 y9 y10 y11 y12 y13)) ∧ (∀ y0 y1 y2 y3 y4 y5 y6 y7 y8 y9 y10 y11 y12 y13, LeO (testimonyref_OpsCheck.j3 k y0 y1 y2 y3 y4 y5 y6 y7 y8 y9 y10 y11 y12 y13) (testimonyref_OpsCheck.j3 (k + 1) y0 y1 y2 y3 y4 y5 y6 y7 y8 y9 y10 y11 y12 y13)) ∧ (∀ y0 y1 y2 y3 y4 y5 y6 y7 y8 y9 y10 y11 y12 y13 y14 y15, LeO (testimonyref_OpsCheck.l1 k y0 y1 y2 y3 y4 y5 y6 y7 y8 y9 y10 y11 y12 y13 y14 y15) (testimonyref_OpsCheck.l1 (k + 1) y0 y1 y2 y3 y4 y5 y6 y7 y8 y9 y10 y11 y12 y13 y14 y15)) ∧ (∀ y0 y1 y2 y3 y4 y5 y6 y7 y8 y9 y10 y11 y12 y13 y14, LeO (testimonyref_OpsCheck.l2 k y0 y1 y2 y3 y4 y5 y6 y7 y8 y9 y10 y11 y12 y13 y14) (testimonyref_OpsCheck.l2 (k + 1) y0 y1 y2 y3 y4 y5 y6 y7 y8 y9 y10 y11 y12 y13 y14))
  | 0 => ⟨fun _ _ _ _ r h => by simp [testimonyref_OpsCheck.l0] at h, fun _ _ _ _ _ _ _ _ _ _ _ _ _ _ r h => by simp [testimonyref_OpsCheck.j1] at h, fun _ _ _ _ _ _ _ _ _ _ _ _ _ _ r h => by simp [testimonyref_OpsCheck.j2] at h, fun _ _ _ _ _ _ _ _ _ _ _ _ _ _ r h => by simp [testimonyref_OpsCheck.j3] at h, fun _ _ _ _ _ _ _ _ _ _ _ _ _ _ _ _ r h => by simp [testimonyref_OpsCheck.l1] at h, fun _ _ _ _ _ _ _ _ _ _ _ _ _ _ _ r h => by simp [testimonyref_OpsCheck.l2] at h⟩
  | k + 1 => by
    obtain ⟨ih0, ih1, ih2, ih3, ih4, ih5⟩ := testimonyref_OpsCheck.mono_l k
    refine ⟨?_, ?_, ?_, ?_, ?_, ?_⟩
    · intro y0 y1 y2 y3
      unfold testimonyref_OpsCheck.l0
      repeat' first
      | (with_reducible exact ih0 _ _ _ _)
      | (with_reducible exact ih1 _ _ _ _ _ _ _ _ _ _ _ _ _ _)
      | (with_reducible exact ih2 _ _ _ _ _ _ _ _ _ _ _ _ _ _)
      | (with_reducible exact ih3 _ _ _ _ _ _ _ _ _ _ _ _ _ _)
      | (with_reducible exact ih4 _ _ _ _ _ _ _ _ _ _ _ _ _ _ _ _)
      | (with_reducible exact ih5 _ _ _ _ _ _ _ _ _ _ _ _ _ _ _)
      | (with_reducible exact testimonyref_small.mono _ _)
      | (with_reducible exact LeO.refl _)
      | (with_reducible exact LeO.none _)
      | (with_reducible refine LeO.ite ?_ ?_)
      | (with_reducible refine LeO.bind ?_ (fun _ => ?_))
      | exact ih0 _ _ _ _
      | exact ih1 _ _ _ _ _ _ _ _ _ _ _ _ _ _
      | exact ih2 _ _ _ _ _ _ _ _ _ _ _ _ _ _
      | exact ih3 _ _ _ _ _ _ _ _ _ _ _ _ _ _
      | exact ih4 _ _ _ _ _ _ _ _ _ _ _ _ _ _ _ _
      | exact ih5 _ _ _ _ _ _ _ _ _ _ _ _ _ _ _
      | exact testimonyref_small.mono _ _
      | exact LeO.none _
      | refine LeO.ite ?_ ?_
      | refine LeO.bind ?_ (fun _ => ?_)
    · intro y0 y1 y2 y3 y4 y5 y6 y7 y8 y9 y10 y11 y12 y13
      unfold testimonyref_OpsCheck.j1
      repeat' first
      | (with_reducible exact ih0 _ _ _ _)
      | (with_reducible exact ih1 _ _ _ _ _ _ _ _ _ _ _ _ _ _)
      | (with_reducible exact ih2 _ _ _ _ _ _ _ _ _ _ _ _ _ _)
      | (with_reducible exact ih3 _ _ _ _ _ _ _ _ _ _ _ _ _ _)
      | (with_reducible exact ih4 _ _ _ _ _ _ _ _ _ _ _ _ _ _ _ _)
      | (with_reducible exact ih5 _ _ _ _ _ _ _ _ _ _ _ _ _ _ _)
      | (with_reducible exact testimonyref_small.mono _ _)
      | (with_reducible exact LeO.refl _)
      | (with_reducible exact LeO.none _)
      | (with_reducible refine LeO.ite ?_ ?_)
      | (with_reducible refine LeO.bind ?_ (fun _ => ?_))
      | exact ih0 _ _ _ _
      | exact ih1 _ _ _ _ _ _ _ _ _ _ _ _ _ _
      | exact ih2 _ _ _ _ _ _ _ _ _ _ _ _ _ _
      | exact ih3 _ _ _ _ _ _ _ _ _ _ _ _ _ _
      | exact ih4 _ _ _ _ _ _ _ _ _ _ _ _ _ _ _ _
      | exact ih5 _ _ _ _ _ _ _ _ _ _ _ _ _ _ _
      | exact testimonyref_small.mono _ _
      | exact LeO.none _
      | refine LeO.ite ?_ ?_
      | refine LeO.bind ?_ (fun _ => ?_)
    · intro y0 y1 y2 y3 y4 y5 y6 y7 y8 y9 y10 y11 y12 y13
      unfold testimonyref_OpsCheck.j2
      repeat' first
      | (with_reducible exact ih0 _ _ _ _)
      | (with_reducible exact ih1 _ _ _ _ _ _ _ _ _ _ _ _ _ _)
      | (with_reducible exact ih2 _ _ _ _ _ _ _ _ _ _ _ _ _ _)
      | (with_reducible exact ih3 _ _ _ _ _ _ _ _ _ _ _ _ _ _)
      | (with_reducible exact ih4 _ _ _ _ _ _ _ _ _ _ _ _ _ _ _ _)
      | (with_reducible exact ih5 _ _ _ _ _ _ _ _ _ _ _ _ _ _ _)
      | (with_reducible exact testimonyref_small.mono _ _)
      | (with_reducible exact LeO.refl _)
      | (with_reducible exact LeO.none _)
      | (with_reducible refine LeO.ite ?_ ?_)
      | (with_reducible refine LeO.bind ?_ (fun _ => ?_))
      | exact ih0 _ _ _ _
      | exact ih1 _ _ _ _ _ _ _ _ _ _ _ _ _ _
      | exact ih2 _ _ _ _ _ _ _ _ _ _ _ _ _ _
      | exact ih3 _ _ _ _ _ _ _ _ _ _ _ _ _ _
      | exact ih4 _ _ _ _ _ _ _ _ _ _ _ _ _ _ _ _
      | exact ih5 _ _ _ _ _ _ _ _ _ _ _ _ _ _ _
      | exact testimonyref_small.mono _ _
      | exact LeO.none _
      | refine LeO.ite ?_ ?_
      | refine LeO.bind ?_ (fun _ => ?_)
    · intro y0 y1 y2 y3 y4 y5 y6 y7 y8 y9 y10 y11 y12 y13
      unfold testimonyref_OpsCheck.j3
      repeat' first
      | (with_reducible exact ih0 _ _ _ _)
      | (with_reducible exact ih1 _ _ _ _ _ _ _ _ _ _ _ _ _ _)
      | (with_reducible exact ih2 _ _ _ _ _ _ _ _ _ _ _ _ _ _)
      | (with_reducible exact ih3 _ _ _ _ _ _ _ _ _ _ _ _ _ _)
      | (with_reducible exact ih4 _ _ _ _ _ _ _ _ _ _ _ _ _ _ _ _)
      | (with_reducible exact ih5 _ _ _ _ _ _ _ _ _ _ _ _ _ _ _)
      | (with_reducible exact testimonyref_small.mono _ _)
      | (with_reducible exact LeO.refl _)
      | (with_reducible exact LeO.none _)
      | (with_reducible refine LeO.ite ?_ ?_)
      | (with_reducible refine LeO.bind ?_ (fun _ => ?_))
      | exact ih0 _ _ _ _
      | exact ih1 _ _ _ _ _ _ _ _ _ _ _ _ _ _
      | exact ih2 _ _ _ _ _ _ _ _ _ _ _ _ _ _
      | exact ih3 _ _ _ _ _ _ _ _ _ _ _ _ _ _
      | exact ih4 _ _ _ _ _ _ _ _ _ _ _ _ _ _ _ _
      | exact ih5 _ _ _ _ _ _ _ _ _ _ _ _ _ _ _
      | exact testimonyref_small.mono _ _
      | exact LeO.none _
      | refine LeO.ite ?_ ?_
      | refine LeO.bind ?_ (fun _ => ?_)
    · intro y0 y1 y2 y3 y4 y5 y6 y7 y8 y9 y10 y11 y12 y13 y14 y15
      unfold testimonyref_OpsCheck.l1
      repeat' first
      | (with_reducible exact ih0 _ _ _ _)
      | (with_reducible exact ih1 _ _ _ _ _ _ _ _ _ _ _ _ _ _)
      | (with_reducible exact ih2 _ _ _ _ _ _ _ _ _ _ _ _ _ _)
      | (with_reducible exact ih3 _ _ _ _ _ _ _ _ _ _ _ _ _ _)
      | (with_reducible exact ih4 _ _ _ _ _ _ _ _ _ _ _ _ _ _ _ _)
      | (with_reducible exact ih5 _ _ _ _ _ _ _ _ _ _ _ _ _ _ _)
      | (with_reducible exact testimonyref_small.mono _ _)
      | (with_reducible exact LeO.refl _)
      | (with_reducible exact LeO.none _)
      | (with_reducible refine LeO.ite ?_ ?_)
      | (with_reducible refine LeO.bind ?_ (fun _ => ?_))
      | exact ih0 _ _ _ _
      | exact ih1 _ _ _ _ _ _ _ _ _ _ _ _ _ _
      | exact ih2 _ _ _ _ _ _ _ _ _ _ _ _ _ _
      | exact ih3 _ _ _ _ _ _ _ _ _ _ _ _ _ _
      | exact ih4 _ _ _ _ _ _ _ _ _ _ _ _ _ _ _ _
      | exact ih5 _ _ _ _ _ _ _ _ _ _ _ _ _ _ _
      | exact testimonyref_small.mono _ _
      | exact LeO.none _
      | refine LeO.ite ?_ ?_
      | refine LeO.bind ?_ (fun _ => ?_)
    · intro y0 y1 y2 y3 y4 y5 y6 y7 y8 y9 y10 y11 y12 y13 y14
      unfold testimonyref_OpsCheck.l2
      repeat' first
      | (with_reducible exact ih0 _ _ _ _)
      | (with_reducible exact ih1 _ _ _ _ _ _ _ _ _ _ _ _ _ _)
      | (with_reducible exact ih2 _ _ _ _ _ _ _ _ _ _ _ _ _ _)
      | (with_reducible exact ih3 _ _ _ _ _ _ _ _ _ _ _ _ _ _)
      | (with_reducible exact ih4 _ _ _ _ _ _ _ _ _ _ _ _ _ _ _ _)
      | (with_reducible exact ih5 _ _ _ _ _ _ _ _ _ _ _ _ _ _ _)
      | (with_reducible exact testimonyref_small.mono _ _)
      | (with_reducible exact LeO.refl _)
      | (with_reducible exact LeO.none _)
      | (with_reducible refine LeO.ite ?_ ?_)
      | (with_reducible refine LeO.bind ?_ (fun _ => ?_))
      | exact ih0 _ _ _ _
      | exact ih1 _ _ _ _ _ _ _ _ _ _ _ _ _ _
      | exact ih2 _ _ _ _ _ _ _ _ _ _ _ _ _ _
      | exact ih3 _ _ _ _ _ _ _ _ _ _ _ _ _ _
      | exact ih4 _ _ _ _ _ _ _ _ _ _ _ _ _ _ _ _
      | exact ih5 _ _ _ _ _ _ _ _ _ _ _ _ _ _ _
      | exact testimonyref_small.mono _ _
      | exact LeO.none _
      | refine LeO.ite ?_ ?_
      | refine LeO.bind ?_ (fun _ => ?_)
theorem testimonyref_OpsCheck.mono : ∀ a0 k, LeO (testimonyref_OpsCheck.f k a0) (testimonyref_OpsCheck.f (k + 1) a0) := by
  intro a0 k
  obtain ⟨ih0, ih1, ih2, ih3, ih4, ih5⟩ := testimonyref_OpsCheck.mono_l k
  unfold testimonyref_OpsCheck.f
  repeat' first
      | (with_reducible exact ih0 _ _ _ _)
      | (with_reducible exact ih1 _ _ _ _ _ _ _ _ _ _ _ _ _ _)
      | (with_reducible exact ih2 _ _ _ _ _ _ _ _ _ _ _ _ _ _)
      | (with_reducible exact ih3 _ _ _ _ _ _ _ _ _ _ _ _ _ _)
      | (with_reducible exact ih4 _ _ _ _ _ _ _ _ _ _ _ _ _ _ _ _)
      | (with_reducible exact ih5 _ _ _ _ _ _ _ _ _ _ _ _ _ _ _)
      | (with_reducible exact testimonyref_small.mono _ _)
      | (with_reducible exact LeO.refl _)
      | (with_reducible exact LeO.none _)
      | (with_reducible refine LeO.ite ?_ ?_)
      | (with_reducible refine LeO.bind ?_ (fun _ => ?_))
      | exact ih0 _ _ _ _
      | exact ih1 _ _ _ _ _ _ _ _ _ _ _ _ _ _
      | exact ih2 _ _ _ _ _ _ _ _ _ _ _ _ _ _
      | exact ih3 _ _ _ _ _ _ _ _ _ _ _ _ _ _
      | exact ih4 _ _ _ _ _ _ _ _ _ _ _ _ _ _ _ _
      | exact ih5 _ _ _ _ _ _ _ _ _ _ _ _ _ _ _
      | exact testimonyref_small.mono _ _
      | exact LeO.none _
      | refine LeO.ite ?_ ?_
      | refine LeO.bind ?_ (fun _ => ?_)

end Go.Proofs.YtdndcccdbaahpaaDoor.PA
