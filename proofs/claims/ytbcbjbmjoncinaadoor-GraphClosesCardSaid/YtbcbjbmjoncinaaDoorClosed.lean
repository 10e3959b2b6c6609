/- The document's GraphClosed: walks over the closure that reads the graph. -/
import Derived.Test.YtbcbjbmjoncinaaDoorPAxFtestimonyrefwalks
import Derived.Lib.Hide
set_option maxRecDepth 100000
namespace Go.Proofs.YtbcbjbmjoncinaaDoor.PA
open Go.RowKit Go.Proofs.YtbcbjbmjoncinaaDoorW.PrintWords Go.Proofs.YtbcbjbmjoncinaaDoorW.PrintLast Go.Proofs.YtbcbjbmjoncinaaDoorW.PrintMore Go.Proofs.YtbcbjbmjoncinaaDoor

/-- What the closure answers. -/
def gLead (g : List (List Bool)) (i k : Int) : Option Bool :=
  if 0 ≤ i ∧ i < g.length then (if 0 ≤ k ∧ k < (rd_L1 g i).length then some (rdOf false (rd_L1 g i) k) else none) else none

theorem gLead_calls (A : Option Addr) (c : Nat) (g : List (List Bool)) (G : Addr) (i k : Int) (r : Bool) (W : World) (hr : Kd.C (Kd.slice 4 Kd.bool) W A g.length g) (hc : W.cell? G = some (.slice A g.length c)) (h : gLead g i k = some r) :
    Calls Tryd.prog 22 #[.int .i64 i, .int .i64 k, .pointer (some G)] W fun e W' => e = .returned (.bool r) ∧ Below W.heap.size W W' := by
  unfold gLead at h
  split at h
  · rename_i h1
    split at h
    · rename_i h2
      obtain ⟨ad, A1, c1, rfl, e1, hl, hi⟩ := at_L1 hr i h1.1 h1.2
      obtain ⟨ad2, rfl, e2⟩ := Kd.at_bool hi k h2.1 h2.2
      cases h
      have p1 := eq_true h1.1
      have p2 := eq_true h1.2
      have q1 := eq_true h2.1
      have q2 := eq_true h2.2
      clear h1 h2 hr hi hl
      go_enter Tryd.func22, Tryd.ntmps22
      go_wp2
      go_ret
      exact ⟨rfl, by first | exact Below.refl _ _ | exact pw_below_drewN (Below.refl _ _) _⟩
    · cases h
  · cases h

def testimonyref_GraphClosed.f (k : Nat) (l0 : List (List Bool)) : Option (List (List Bool)) := testimonyref_walks.f k (l0.length : Int) (gLead l0)
theorem testimonyref_GraphClosed.mono : ∀ a0 k, LeO (testimonyref_GraphClosed.f k a0) (testimonyref_GraphClosed.f (k + 1) a0) := fun _ k => testimonyref_walks.mono _ _ k

theorem testimonyref_GraphClosed.calls (k : Nat) (A0 : Option Addr) (c0 : Nat) (l0 : List (List Bool)) (r : List (List Bool)) (w : World) (hr0 : Kd.C (Kd.slice 4 Kd.bool) w A0 l0.length l0) (_hc0 : l0.length ≤ c0) (h : testimonyref_GraphClosed.f k l0 = some r) :
    Calls Tryd.prog 13 #[.slice A0 l0.length c0] w fun e w' => ∃ v0_ : Value, e = .returned (v0_) ∧ Kd.S (Kd.slice 4 Kd.bool) 43 w' w.heap.size (fun _ => True) v0_ r ∧ Below w.heap.size w w' := by
  have hb0 : Below w.heap.size w (w.alloc (.cells #[.slice A0 l0.length c0] 22)) := (Below.refl _ _).alloc (Nat.le_refl _) _
  have hL : LeadAt (w.alloc (.cells #[.slice A0 l0.length c0] 22)) ⟨w.heap.size, 0, none⟩ (gLead l0) := by
    intro W hb i j r hr
    refine gLead_calls A0 c0 l0 _ i j r W (Kd.C_below (Kd.C_below hr0 hb0) hb) ?_ hr
    rw [hb.cell (p := ⟨w.heap.size, 0, none⟩) (by simp)]
    simp
  have hW := Lib.hid (testimonyref_walks.calls k (l0.length : Int) ⟨w.heap.size, 0, none⟩ (gLead l0) r _ hL h)
  have B0 := Lib.hid hb0
  clear hL hb0 hr0 h
  go_enter Tryd.func13, Tryd.ntmps13
  go_wp2_with (go_at_call 21; refine (hW.out).mono ?_; rintro e w' ⟨v, rfl, hv, hb⟩; have HV := Lib.hid hv; have HB := Lib.hid hb; clear hv hb)
  go_ret
  exact ⟨_, rfl, Kd.S_lower HV.out (by simp), B0.out.trans (HB.out.mono (by simp))⟩
end Go.Proofs.YtbcbjbmjoncinaaDoor.PA
