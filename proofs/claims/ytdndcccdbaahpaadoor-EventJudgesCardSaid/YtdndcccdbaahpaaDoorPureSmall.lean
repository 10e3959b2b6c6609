/- Numbers of a call that may be: the program's look and the document's tell the same. -/
import Derived.Test.YtdndcccdbaahpaaDoorPAxFeventtold
import Derived.Test.YtdndcccdbaahpaaDoorPAxFtestimonyrefsmall
namespace Go.Proofs.YtdndcccdbaahpaaDoor.PureSmall
open Go.RowKit Go.Proofs.YtdndcccdbaahpaaDoorW.PrintWords Go.Proofs.YtdndcccdbaahpaaDoorW.PrintLast Go.Proofs.YtdndcccdbaahpaaDoorW.PrintMore Go.Proofs.YtdndcccdbaahpaaDoor.PA

theorem wrap_nat (i : Nat) (h : i < 4611686018427387904) : wrap64 ((i : Int) + 1) = ((i + 1 : Nat) : Int) := by
  unfold wrap64; omega

/-- A number of a call that may be. -/
def Ok6 (n : Int) : Prop := -1000000 ≤ n ∧ n ≤ 1000000
instance (n : Int) : Decidable (Ok6 n) := inferInstanceAs (Decidable (_ ∧ _))
/-- All of them may be. -/
def okL (l : List Int) : Bool := l.all fun x => decide (Ok6 x)
theorem okL_cons (a : Int) (l : List Int) : okL (a :: l) = (decide (Ok6 a) && okL l) := rfl
theorem okL_nil : okL [] = true := rfl
theorem in_f (a lo hi : Int) : event_in.f a lo hi = some (decide (lo ≤ a ∧ a ≤ hi)) := by
  unfold event_in.f
  by_cases h : a ≥ lo
  · rw [if_pos h]; simp; omega
  · rw [if_neg h]; simp; omega

theorem rd_cons (l : List Int) (i : Nat) (h : i < l.length) : l.drop i = rd l (i : Int) :: l.drop (i + 1) := by
  rw [List.drop_eq_getElem_cons h]
  simp [rd, List.getD_eq_getElem?_getD, List.getElem?_eq_getElem h]

theorem small_l0 (l : List Int) (hm : l.length ≤ 1000) : ∀ (j i : Nat), l.length - i = j → i ≤ l.length → Ev (fun k => testimonyref_small.l0 k l (l.length : Int) (i : Int)) (okL (l.drop i))
  | 0, i, hj, hi => by
    rw [List.drop_of_length_le (by omega)]
    refine Ev.step (fun k => ?_) (Ev.now _)
    simp only [testimonyref_small.l0]; rw [if_neg (by omega), okL_nil]
  | j + 1, i, hj, hi => by
    have hw := wrap_nat i (by omega)
    have ih := small_l0 l hm j (i + 1) (by omega) (by omega)
    rw [rd_cons l i (by omega), okL_cons]
    by_cases h : Ok6 (rd l (i : Int))
    · rw [decide_eq_true h, Bool.true_and]
      refine Ev.step (fun k => ?_) ih
      have h' := h
      unfold Ok6 at h'
      simp only [testimonyref_small.l0]; rw [if_pos (by omega), if_pos (by omega), if_pos (by omega), if_neg (by omega), if_neg (by omega), hw]
    · rw [decide_eq_false h, Bool.false_and]
      refine Ev.step (fun k => ?_) (Ev.now _)
      have h' := h
      unfold Ok6 at h'
      simp only [testimonyref_small.l0]; rw [if_pos (by omega), if_pos (by omega), if_pos (by omega)]
      by_cases h2 : rd l (i : Int) < -1000000
      · rw [if_pos h2]
      · rw [if_neg h2, if_pos (by omega)]
theorem small (l : List Int) (hm : l.length ≤ 1000) : Ev (fun k => testimonyref_small.f k l) (okL l) := by
  have := small_l0 l hm _ 0 rfl (by omega)
  rw [List.drop_zero] at this
  exact Ev.congr (fun k => rfl) this

def Who (p key : Int) : Prop := 0 ≤ p ∧ p ≤ 7 ∧ 0 ≤ key ∧ key ≤ 7
instance (p key : Int) : Decidable (Who p key) := inferInstanceAs (Decidable (_ ∧ _))

theorem told_l0 (p key : Int) (l : List Int) (hm : l.length ≤ 1000) : ∀ (j i : Nat), l.length - i = j → i ≤ l.length → Ev (fun k => event_told.l0 k p key l (l.length : Int) (i : Int)) (okL (l.drop i) && decide (Who p key))
  | 0, i, hj, hi => by
    rw [List.drop_of_length_le (by omega)]
    refine Ev.step (fun k => ?_) (Ev.now _)
    simp only [event_told.l0]; rw [if_neg (by omega), in_f, in_f, okL_nil, Bool.true_and]
    simp only [Option.bind_some, Who]
    by_cases h : 0 ≤ p ∧ p ≤ 7
    · simp [h]
    · have : ¬ (0 ≤ p ∧ p ≤ 7 ∧ 0 ≤ key ∧ key ≤ 7) := fun hh => h ⟨hh.1, hh.2.1⟩
      simp [h, this]
  | j + 1, i, hj, hi => by
    have hw := wrap_nat i (by omega)
    have ih := told_l0 p key l hm j (i + 1) (by omega) (by omega)
    rw [rd_cons l i (by omega), okL_cons]
    by_cases h : Ok6 (rd l (i : Int))
    · rw [decide_eq_true h, Bool.true_and]
      refine Ev.step (fun k => ?_) ih
      have h' := h
      unfold Ok6 at h'
      simp only [event_told.l0]; rw [if_pos (by omega), if_pos (by omega), if_pos (by omega), in_f, hw]
      simp [h']
    · rw [decide_eq_false h, Bool.false_and, Bool.false_and]
      refine Ev.step (fun k => ?_) (Ev.now _)
      have h' := h
      unfold Ok6 at h'
      simp only [event_told.l0]; rw [if_pos (by omega), if_pos (by omega), if_pos (by omega), in_f]
      simp [h']
theorem told (p key : Int) (l : List Int) (hm : l.length ≤ 1000) : Ev (fun k => event_told.f k p key l) (okL l && decide (Who p key)) := by
  have := told_l0 p key l hm _ 0 rfl (by omega)
  rw [List.drop_zero] at this
  exact Ev.congr (fun k => rfl) this

end Go.Proofs.YtdndcccdbaahpaaDoor.PureSmall
