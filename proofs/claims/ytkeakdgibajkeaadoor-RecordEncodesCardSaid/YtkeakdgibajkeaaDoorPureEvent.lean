/- What an event may be, in plain numbers: the program's check and the document's tell one and the same number. -/
import Derived.Test.YtkeakdgibajkeaaDoorPAxFeventCheck
import Derived.Test.YtkeakdgibajkeaaDoorPAxFtestimonyrefEventCheck
namespace Go.Proofs.YtkeakdgibajkeaaDoor.PureEvent
open Go.RowKit Go.Proofs.YtkeakdgibajkeaaDoorW.PrintWords Go.Proofs.YtkeakdgibajkeaaDoorW.PrintLast Go.Proofs.YtkeakdgibajkeaaDoorW.PrintMore Go.Proofs.YtkeakdgibajkeaaDoor.PA

theorem wrap_nat (i : Nat) (h : i < 4611686018427387904) : wrap64 ((i : Int) + 1) = ((i + 1 : Nat) : Int) := by
  unfold wrap64; omega

/-- A number of a call that may be. -/
def Ok6 (n : Int) : Prop := -1000000 ≤ n ∧ n ≤ 1000000
instance (n : Int) : Decidable (Ok6 n) := inferInstanceAs (Decidable (_ ∧ _))
/-- All of them may be. -/
def okL (l : List Int) : Bool := l.all fun x => decide (Ok6 x)
theorem okL_cons (a : Int) (l : List Int) : okL (a :: l) = (decide (Ok6 a) && okL l) := rfl
theorem okL_nil : okL [] = true := rfl
theorem in_f (a lo hi : Int) : event_in.f a lo hi = some (decide (lo ≤ a ∧ a ≤ hi)) := by
  unfold event_in.f
  by_cases h : a ≥ lo
  · rw [if_pos h]; simp; omega
  · rw [if_neg h]; simp; omega

theorem rd_cons (l : List Int) (i : Nat) (h : i < l.length) : l.drop i = rd l (i : Int) :: l.drop (i + 1) := by
  rw [List.drop_eq_getElem_cons h]
  simp [rd, List.getD_eq_getElem?_getD, List.getElem?_eq_getElem h]

theorem small_l0 (l : List Int) (hm : l.length ≤ 1000) : ∀ (j i : Nat), l.length - i = j → i ≤ l.length → Ev (fun k => testimonyref_small.l0 k l (l.length : Int) (i : Int)) (okL (l.drop i))
  | 0, i, hj, hi => by
    rw [List.drop_of_length_le (by omega)]
    refine Ev.step (fun k => ?_) (Ev.now _)
    simp only [testimonyref_small.l0]; rw [if_neg (by omega), okL_nil]
  | j + 1, i, hj, hi => by
    have hw := wrap_nat i (by omega)
    have ih := small_l0 l hm j (i + 1) (by omega) (by omega)
    rw [rd_cons l i (by omega), okL_cons]
    by_cases h : Ok6 (rd l (i : Int))
    · rw [decide_eq_true h, Bool.true_and]
      refine Ev.step (fun k => ?_) ih
      have h' := h
      unfold Ok6 at h'
      simp only [testimonyref_small.l0]; rw [if_pos (by omega), if_pos (by omega), if_pos (by omega), if_neg (by omega), if_neg (by omega), hw]
    · rw [decide_eq_false h, Bool.false_and]
      refine Ev.step (fun k => ?_) (Ev.now _)
      have h' := h
      unfold Ok6 at h'
      simp only [testimonyref_small.l0]; rw [if_pos (by omega), if_pos (by omega), if_pos (by omega)]
      by_cases h2 : rd l (i : Int) < -1000000
      · rw [if_pos h2]
      · rw [if_neg h2, if_pos (by omega)]
theorem small (l : List Int) (hm : l.length ≤ 1000) : Ev (fun k => testimonyref_small.f k l) (okL l) := by
  have := small_l0 l hm _ 0 rfl (by omega)
  rw [List.drop_zero] at this
  exact Ev.congr (fun k => rfl) this

def Who (p key : Int) : Prop := 0 ≤ p ∧ p ≤ 7 ∧ 0 ≤ key ∧ key ≤ 7
instance (p key : Int) : Decidable (Who p key) := inferInstanceAs (Decidable (_ ∧ _))

theorem told_l0 (p key : Int) (l : List Int) (hm : l.length ≤ 1000) : ∀ (j i : Nat), l.length - i = j → i ≤ l.length → Ev (fun k => event_told.l0 k p key l (l.length : Int) (i : Int)) (okL (l.drop i) && decide (Who p key))
  | 0, i, hj, hi => by
    rw [List.drop_of_length_le (by omega)]
    refine Ev.step (fun k => ?_) (Ev.now _)
    simp only [event_told.l0]; rw [if_neg (by omega), in_f, in_f, okL_nil, Bool.true_and]
    simp only [Option.bind_some, Who]
    by_cases h : 0 ≤ p ∧ p ≤ 7
    · simp [h]
    · have : ¬ (0 ≤ p ∧ p ≤ 7 ∧ 0 ≤ key ∧ key ≤ 7) := fun hh => h ⟨hh.1, hh.2.1⟩
      simp [h, this]
  | j + 1, i, hj, hi => by
    have hw := wrap_nat i (by omega)
    have ih := told_l0 p key l hm j (i + 1) (by omega) (by omega)
    rw [rd_cons l i (by omega), okL_cons]
    by_cases h : Ok6 (rd l (i : Int))
    · rw [decide_eq_true h, Bool.true_and]
      refine Ev.step (fun k => ?_) ih
      have h' := h
      unfold Ok6 at h'
      simp only [event_told.l0]; rw [if_pos (by omega), if_pos (by omega), if_pos (by omega), in_f, hw]
      simp [h']
    · rw [decide_eq_false h, Bool.false_and, Bool.false_and]
      refine Ev.step (fun k => ?_) (Ev.now _)
      have h' := h
      unfold Ok6 at h'
      simp only [event_told.l0]; rw [if_pos (by omega), if_pos (by omega), if_pos (by omega), in_f]
      simp [h']
theorem told (p key : Int) (l : List Int) (hm : l.length ≤ 1000) : Ev (fun k => event_told.f k p key l) (okL l && decide (Who p key)) := by
  have := told_l0 p key l hm _ 0 rfl (by omega)
  rw [List.drop_zero] at this
  exact Ev.congr (fun k => rfl) this

/-- The number that both checks tell: 0: an event may be. -/
def code (proc typ key kind a b res : Int) : Int :=
  if ¬ ((Ok6 a ∧ Ok6 b ∧ Ok6 res) ∧ Who proc key) then 2 else
  if ¬ (1 ≤ typ ∧ typ ≤ 4 ∧ 1 ≤ kind ∧ kind ≤ 12) then 1 else
  if res ≠ 0 ∧ typ ≠ 2 then 1 else 0

theorem ref_j1 {x49 : Bool} {p t y k a b r : Int} : Ev (fun n => testimonyref_EventCheck.j1 n x49 p t y k a b r) (if x49 = true then 1 else if r ≠ 0 ∧ t ≠ 2 then 1 else 0) := by
  refine Ev.step (fun n => ?_) (Ev.now _)
  simp only [testimonyref_EventCheck.j1]
  cases x49 with
  | true => simp
  | false =>
    by_cases hr : r = 0
    · simp [hr]
    · by_cases ht : t = 2 <;> simp [hr, ht]

theorem ref_j0 {x31 : Bool} {p t y k a b r : Int} : Ev (fun n => testimonyref_EventCheck.j0 n x31 p t y k a b r) (if x31 = true then 2 else if ¬ (1 ≤ t ∧ t ≤ 4 ∧ 1 ≤ k ∧ k ≤ 12) then 1 else if r ≠ 0 ∧ t ≠ 2 then 1 else 0) := by
  cases x31 with
  | true =>
    refine Ev.step (fun n => ?_) (Ev.now _)
    simp only [testimonyref_EventCheck.j0]; simp
  | false =>
    rw [if_neg (by decide)]
    by_cases h1 : t < 1
    · rw [if_pos (by omega)]
      refine Ev.step (fun n => ?_) (ref_j1 (x49 := true) (p := p) (t := t) (y := y) (k := k) (a := a) (b := b) (r := r))
      simp only [testimonyref_EventCheck.j0]; rw [if_neg (by decide), if_pos h1]
    · by_cases h2 : t > 4
      · rw [if_pos (by omega)]
        refine Ev.step (fun n => ?_) (ref_j1 (x49 := true) (p := p) (t := t) (y := y) (k := k) (a := a) (b := b) (r := r))
        simp only [testimonyref_EventCheck.j0]; rw [if_neg (by decide), if_neg h1, if_pos h2]
      · by_cases h3 : k < 1
        · rw [if_pos (by omega)]
          refine Ev.step (fun n => ?_) (ref_j1 (x49 := true) (p := p) (t := t) (y := y) (k := k) (a := a) (b := b) (r := r))
          simp only [testimonyref_EventCheck.j0]; rw [if_neg (by decide), if_neg h1, if_neg h2, if_pos h3]
        · have hj := ref_j1 (x49 := decide (k > 12)) (p := p) (t := t) (y := y) (k := k) (a := a) (b := b) (r := r)
          have e : (if ¬ (1 ≤ t ∧ t ≤ 4 ∧ 1 ≤ k ∧ k ≤ 12) then (1 : Int) else if r ≠ 0 ∧ t ≠ 2 then 1 else 0) = (if decide (k > 12) = true then 1 else if r ≠ 0 ∧ t ≠ 2 then 1 else 0) := by
            by_cases h4 : k > 12
            · rw [if_pos (show ¬ (1 ≤ t ∧ t ≤ 4 ∧ 1 ≤ k ∧ k ≤ 12) by omega), if_pos (show decide (k > 12) = true by simpa using h4)]
            · rw [if_neg (show ¬ ¬ (1 ≤ t ∧ t ≤ 4 ∧ 1 ≤ k ∧ k ≤ 12) by omega), if_neg (show ¬ decide (k > 12) = true by simpa using h4)]
          rw [e]
          refine Ev.step (fun n => ?_) hj
          simp only [testimonyref_EventCheck.j0]; rw [if_neg (by decide), if_neg h1, if_neg h2, if_neg h3]

theorem ref_check (p t y k a b r : Int) : Ev (fun n => testimonyref_EventCheck.f n p t y k a b r) (code p t y k a b r) := by
  have bad : ¬ Who p y → Ev (fun n => testimonyref_EventCheck.j0 n true p t y k a b r) (code p t y k a b r) := fun h => by
    have := ref_j0 (x31 := true) (p := p) (t := t) (y := y) (k := k) (a := a) (b := b) (r := r)
    rw [if_pos rfl] at this
    unfold code
    rw [if_pos (fun hh => h hh.2)]
    exact this
  by_cases h1 : p < 0
  · exact Ev.congr (fun n => by simp only [testimonyref_EventCheck.f]; rw [if_pos h1]) (bad fun hh => by unfold Who at hh; omega)
  · by_cases h2 : p > 7
    · exact Ev.congr (fun n => by simp only [testimonyref_EventCheck.f]; rw [if_neg h1, if_pos h2]) (bad fun hh => by unfold Who at hh; omega)
    · by_cases h3 : y < 0
      · exact Ev.congr (fun n => by simp only [testimonyref_EventCheck.f]; rw [if_neg h1, if_neg h2, if_pos h3]) (bad fun hh => by unfold Who at hh; omega)
      · by_cases h4 : y > 7
        · exact Ev.congr (fun n => by simp only [testimonyref_EventCheck.f]; rw [if_neg h1, if_neg h2, if_neg h3, if_pos h4]) (bad fun hh => by unfold Who at hh; omega)
        · refine Ev.congr (fun n => by simp only [testimonyref_EventCheck.f]; rw [if_neg h1, if_neg h2, if_neg h3, if_neg h4]) (Ev.bind (small [a, b, r] (by simp)) ?_)
          have hw : Who p y := by unfold Who; omega
          have e : okL [a, b, r] = true ↔ (Ok6 a ∧ Ok6 b ∧ Ok6 r) := by simp [okL]
          have := ref_j0 (x31 := !(okL [a, b, r])) (p := p) (t := t) (y := y) (k := k) (a := a) (b := b) (r := r)
          have e2 : code p t y k a b r = (if (!(okL [a, b, r])) = true then 2 else if ¬ (1 ≤ t ∧ t ≤ 4 ∧ 1 ≤ k ∧ k ≤ 12) then 1 else if r ≠ 0 ∧ t ≠ 2 then 1 else 0) := by
            unfold code
            by_cases h5 : okL [a, b, r] = true
            · rw [if_neg (fun hh => hh ⟨e.1 h5, hw⟩), if_neg (show ¬ (!(okL [a, b, r])) = true by simp [h5])]
            · rw [if_pos (fun hh => h5 (e.2 hh.1)), if_pos (show (!(okL [a, b, r])) = true by simpa using h5)]
          rw [e2]
          exact this

theorem prog_j0 {x18 : Bool} {p t y k a b r : Int} : Ev (fun n => event_Check.j0 n x18 p t y k a b r) (if x18 = true then some 1 else if r ≠ 0 ∧ t ≠ 2 then some 1 else (none : Option Int)) := by
  refine Ev.step (fun n => ?_) (Ev.now _)
  simp only [event_Check.j0]
  cases x18 with
  | true => simp
  | false =>
    by_cases hr : r = 0
    · simp [hr]
    · by_cases ht : t = 2 <;> simp [hr, ht]

theorem prog_check (p t y k a b r : Int) : Ev (fun n => event_Check.f n p t y k a b r) (if code p t y k a b r = 0 then none else some (code p t y k a b r)) := by
  have e : okL [a, b, r] = true ↔ (Ok6 a ∧ Ok6 b ∧ Ok6 r) := by simp [okL]
  refine Ev.bind (told p y [a, b, r] (by simp)) ?_
  by_cases h : okL [a, b, r] = true ∧ Who p y
  · have h' : (Ok6 a ∧ Ok6 b ∧ Ok6 r) ∧ Who p y := ⟨e.1 h.1, h.2⟩
    have ed : (okL [a, b, r] && decide (Who p y)) = true := by rw [h.1, decide_eq_true h.2]; rfl
    have tail : code p t y k a b r = if ¬ (1 ≤ t ∧ t ≤ 4 ∧ 1 ≤ k ∧ k ≤ 12) then 1 else if r ≠ 0 ∧ t ≠ 2 then 1 else 0 := by
      unfold code; rw [if_neg (fun hh => hh h')]
    by_cases h1 : 1 ≤ t ∧ t ≤ 4
    · have hj := prog_j0 (x18 := !(decide (1 ≤ k ∧ k ≤ 12))) (p := p) (t := t) (y := y) (k := k) (a := a) (b := b) (r := r)
      have e2 : (if code p t y k a b r = 0 then none else some (code p t y k a b r)) = (if (!(decide (1 ≤ k ∧ k ≤ 12))) = true then some 1 else if r ≠ 0 ∧ t ≠ 2 then some 1 else (none : Option Int)) := by
        rw [tail]
        by_cases h2 : 1 ≤ k ∧ k ≤ 12
        · rw [if_neg (show ¬ ¬ (1 ≤ t ∧ t ≤ 4 ∧ 1 ≤ k ∧ k ≤ 12) from fun hh => hh ⟨h1.1, h1.2, h2⟩), if_neg (show ¬ (!(decide (1 ≤ k ∧ k ≤ 12))) = true by simp [h2])]
          by_cases h3 : r ≠ 0 ∧ t ≠ 2
          · rw [if_pos h3, if_pos h3]; simp
          · rw [if_neg h3, if_neg h3]; simp
        · rw [if_pos (show ¬ (1 ≤ t ∧ t ≤ 4 ∧ 1 ≤ k ∧ k ≤ 12) from fun hh => h2 hh.2.2), if_pos (show (!(decide (1 ≤ k ∧ k ≤ 12))) = true by simp [h2])]
          simp
      rw [e2]
      refine Ev.congr (fun n => ?_) hj
      rw [if_pos ed, in_f, in_f]
      simp only [Option.bind_some]
      rw [if_pos (decide_eq_true h1)]
    · have hj := prog_j0 (x18 := true) (p := p) (t := t) (y := y) (k := k) (a := a) (b := b) (r := r)
      rw [if_pos rfl] at hj
      rw [tail, if_pos (show ¬ (1 ≤ t ∧ t ≤ 4 ∧ 1 ≤ k ∧ k ≤ 12) from fun hh => h1 ⟨hh.1, hh.2.1⟩)]
      refine Ev.congr (fun n => ?_) hj
      rw [if_pos ed, in_f]
      simp only [Option.bind_some]
      rw [if_neg (by simpa using h1)]
  · have ed : ¬ (okL [a, b, r] && decide (Who p y)) = true := fun hh => h (by simpa using hh)
    have tail : code p t y k a b r = 2 := by
      unfold code; rw [if_pos (fun hh => h ⟨e.2 hh.1, hh.2⟩)]
    rw [tail]
    refine Ev.congr (fun n => ?_) (Ev.now _)
    rw [if_neg ed]; rfl
end Go.Proofs.YtkeakdgibajkeaaDoor.PureEvent
