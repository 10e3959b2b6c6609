/- What a list of ops may be, in plain lists: the program's CheckOps and the document's OpsCheck tell one and the same number; so EventJudges answers true. -/
import Derived.Test.YtdndcccdbaahpaaDoorPureSmall
import Derived.Test.YtdndcccdbaahpaaDoorPAxFtestimonylawEventJudgesD
namespace Go.Proofs.YtdndcccdbaahpaaDoor.PureJudges
open Go.RowKit Go.Proofs.YtdndcccdbaahpaaDoorW.PrintWords Go.Proofs.YtdndcccdbaahpaaDoorW.PrintLast Go.Proofs.YtdndcccdbaahpaaDoorW.PrintMore Go.Proofs.YtdndcccdbaahpaaDoor.PA Go.Proofs.YtdndcccdbaahpaaDoor.PureSmall

theorem rdT_cons (l : List S25) (i : Nat) (h : i < l.length) : l.drop i = rd_T25 l (i : Int) :: l.drop (i + 1) := by
  rw [List.drop_eq_getElem_cons h]
  simp [rd_T25, List.getD_eq_getElem?_getD, List.getElem?_eq_getElem h]

/-- Two ops share a place. -/
def Meet (o q : S25) : Prop := o.f6 = q.f6 ∨ o.f6 = q.f7 ∨ (o.f7 ≠ -1 ∧ (o.f7 = q.f6 ∨ o.f7 = q.f7))
/-- One process does both, and the one is not over. -/
def Busy (o q : S25) : Prop := q.f0 = o.f0 ∧ ¬ (q.f7 ≥ 0 ∧ q.f7 < o.f6)
/-- Places that aren't in order. -/
def Wrong (o : S25) (p : List S25) : Prop := o.f6 < 0 ∨ (p ≠ [] ∧ o.f6 ≤ (rd_T25 p ((p.length - 1 : Nat) : Int)).f6) ∨ (o.f7 ≠ -1 ∧ o.f7 ≤ o.f6) ∨ (o.f7 = -1 ∧ o.f5 ≠ 0)
def Nums (o : S25) : Prop := okL [o.f3, o.f4, o.f5, o.f6, o.f7] = true ∧ Who o.f0 o.f1

instance (o q : S25) : Decidable (Meet o q) := inferInstanceAs (Decidable (_ ∨ _))
instance (o q : S25) : Decidable (Busy o q) := inferInstanceAs (Decidable (_ ∧ _))
instance (o : S25) (p : List S25) : Decidable (Wrong o p) := inferInstanceAs (Decidable (_ ∨ _))
instance (o : S25) : Decidable (Nums o) := inferInstanceAs (Decidable (_ ∧ _))
def anyMeet (o : S25) (l : List S25) : Bool := l.any fun q => decide (Meet o q)
def anyBusy (o : S25) (l : List S25) : Bool := l.any fun q => decide (Busy o q)
theorem anyMeet_cons {o q : S25} {l : List S25} : anyMeet o (q :: l) = (decide (Meet o q) || anyMeet o l) := rfl
theorem anyBusy_cons {o q : S25} {l : List S25} : anyBusy o (q :: l) = (decide (Busy o q) || anyBusy o l) := rfl
/-- The number that both tell of an op behind others: 0: it may stand there. -/
def code (o : S25) (p : List S25) : Int :=
  if ¬ Nums o then 2 else if ¬ (1 ≤ o.f2 ∧ o.f2 ≤ 12) then 1 else if Wrong o p then 10 else
  if anyMeet o p = true then 9 else if anyBusy o p = true then 6 else 0
/-- As the program tells it. -/
def told0 (c : Int) : Option Int := if c = 0 then none else some c

theorem before_prog (q o : S25) : event_Before.f q.f0 q.f1 q.f2 q.f3 q.f4 q.f5 q.f6 q.f7 o.f0 o.f1 o.f2 o.f3 o.f4 o.f5 o.f6 o.f7 = some (decide (q.f7 ≥ 0 ∧ q.f7 < o.f6)) := by
  unfold event_Before.f
  by_cases h : q.f7 ≥ 0
  · rw [if_pos h]; simp; omega
  · rw [if_neg h]; simp; omega
theorem before_ref (q o : S25) : testimonyref_Before.f q.f0 q.f1 q.f2 q.f3 q.f4 q.f5 q.f6 q.f7 o.f0 o.f1 o.f2 o.f3 o.f4 o.f5 o.f6 o.f7 = some (decide (q.f7 ≥ 0 ∧ q.f7 < o.f6)) := by
  unfold testimonyref_Before.f
  by_cases h : q.f7 ≥ 0
  · rw [if_pos h]; simp; omega
  · rw [if_neg h]; simp; omega

/-! ### the program -/
theorem prog_l2 (o : S25) (p : List S25) (hm : p.length ≤ 1000) : ∀ (j i : Nat), p.length - i = j → i ≤ p.length →
    Ev (fun k => event_checkOp.l2 k p (p.length : Int) (i : Int) o.f0 o.f1 o.f2 o.f3 o.f4 o.f5 o.f6 o.f7) (if anyBusy o (p.drop i) = true then some 6 else none)
  | 0, i, hj, hi => by
    rw [List.drop_of_length_le (by omega), if_neg (by simp [anyBusy])]
    refine Ev.step (fun k => ?_) (Ev.now _)
    simp only [event_checkOp.l2]; rw [if_neg (by omega)]
  | j + 1, i, hj, hi => by
    have hw := wrap_nat i (by omega)
    have ih := prog_l2 o p hm j (i + 1) (by omega) (by omega)
    rw [rdT_cons p i (by omega)]
    by_cases h1 : (rd_T25 p (i : Int)).f0 = o.f0
    · by_cases h2 : (rd_T25 p (i : Int)).f7 ≥ 0 ∧ (rd_T25 p (i : Int)).f7 < o.f6
      · have hb : ¬ Busy o (rd_T25 p (i : Int)) := fun h => h.2 h2
        rw [anyBusy_cons, decide_eq_false hb, Bool.false_or]
        refine Ev.step (fun k => ?_) ih
        simp only [event_checkOp.l2]
        rw [if_pos (by omega), if_pos (by omega), if_pos (by omega), if_pos h1, before_prog, hw]
        simp only [Option.bind_some]
        rw [if_pos (decide_eq_true h2)]
      · have hb : Busy o (rd_T25 p (i : Int)) := ⟨h1, h2⟩
        rw [anyBusy_cons, decide_eq_true hb, Bool.true_or]
        refine Ev.step (fun k => ?_) (Ev.now _)
        simp only [event_checkOp.l2]
        rw [if_pos (by omega), if_pos (by omega), if_pos (by omega), if_pos h1, before_prog]
        simp only [Option.bind_some]
        rw [if_neg (by simpa using h2), if_pos trivial]
    · have hb : ¬ Busy o (rd_T25 p (i : Int)) := fun h => h1 h.1
      rw [anyBusy_cons, decide_eq_false hb, Bool.false_or]
      refine Ev.step (fun k => ?_) ih
      simp only [event_checkOp.l2]
      rw [if_pos (by omega), if_pos (by omega), if_pos (by omega), if_neg h1, hw]

/-- As the program asks it. -/
def Meet' (o q : S25) : Prop := (q.f6 ≠ -1 ∧ (q.f6 = o.f6 ∨ q.f6 = o.f7)) ∨ (q.f7 ≠ -1 ∧ (q.f7 = o.f6 ∨ q.f7 = o.f7))
instance (o q : S25) : Decidable (Meet' o q) := inferInstanceAs (Decidable (_ ∨ _))
def anyMeet' (o : S25) (l : List S25) : Bool := l.any fun q => decide (Meet' o q)
theorem anyMeet'_cons {o q : S25} {l : List S25} : anyMeet' o (q :: l) = (decide (Meet' o q) || anyMeet' o l) := rfl
theorem meet_iff {o q : S25} (h : ¬ o.f6 < 0) : Meet' o q ↔ Meet o q := by
  unfold Meet' Meet; omega
theorem anyMeet_eq {o : S25} (h : ¬ o.f6 < 0) (l : List S25) : anyMeet' o l = anyMeet o l := by
  unfold anyMeet anyMeet'
  congr 1; funext q
  exact decide_eq_decide.2 (meet_iff h)

theorem l1_two {o : S25} {a b n i : Int} {x1 p : List S25} {r : Option Int} (h : ¬ (b ≠ -1 ∧ (b = o.f6 ∨ b = o.f7)) → Ev (fun k => event_checkOp.l0 k x1 p n (wrap64 (i + 1)) o.f0 o.f1 o.f2 o.f3 o.f4 o.f5 o.f6 o.f7) r) (h9 : (b ≠ -1 ∧ (b = o.f6 ∨ b = o.f7)) → r = some 9) :
    Ev (fun k => event_checkOp.l1 k x1 p n i [a, b] 2 1 o.f0 o.f1 o.f2 o.f3 o.f4 o.f5 o.f6 o.f7) r := by
  have hr : rd [a, b] 1 = b := rfl
  have hw : wrap64 (1 + 1) = 2 := by unfold wrap64; omega
  have out : ¬ (b ≠ -1 ∧ (b = o.f6 ∨ b = o.f7)) → Ev (fun k => event_checkOp.l1 k x1 p n i [a, b] 2 2 o.f0 o.f1 o.f2 o.f3 o.f4 o.f5 o.f6 o.f7) r := fun hh => by
    refine Ev.step (fun k => ?_) (h hh)
    simp only [event_checkOp.l1]; rw [if_neg (by omega)]
  by_cases h1 : b = -1
  · refine Ev.step (fun k => ?_) (out (fun hh => hh.1 h1))
    simp only [event_checkOp.l1]; rw [if_pos (by omega), if_pos (by omega), if_pos (by simp), hr, if_pos h1, hw]
  · by_cases h2 : b = o.f6
    · rw [h9 ⟨h1, .inl h2⟩]
      refine Ev.step (fun k => ?_) (Ev.now _)
      simp only [event_checkOp.l1]; rw [if_pos (by omega), if_pos (by omega), if_pos (by simp), hr, if_neg h1, if_pos h2]
    · by_cases h3 : b = o.f7
      · rw [h9 ⟨h1, .inr h3⟩]
        refine Ev.step (fun k => ?_) (Ev.now _)
        simp only [event_checkOp.l1]; rw [if_pos (by omega), if_pos (by omega), if_pos (by simp), hr, if_neg h1, if_neg h2, if_pos h3]
      · refine Ev.step (fun k => ?_) (out (fun hh => by omega))
        simp only [event_checkOp.l1]; rw [if_pos (by omega), if_pos (by omega), if_pos (by simp), hr, if_neg h1, if_neg h2, if_neg h3, hw]

theorem l1_one {o : S25} {a b n i : Int} {x1 p : List S25} {r : Option Int} (h : ¬ (a ≠ -1 ∧ (a = o.f6 ∨ a = o.f7)) → Ev (fun k => event_checkOp.l1 k x1 p n i [a, b] 2 1 o.f0 o.f1 o.f2 o.f3 o.f4 o.f5 o.f6 o.f7) r) (h9 : (a ≠ -1 ∧ (a = o.f6 ∨ a = o.f7)) → r = some 9) :
    Ev (fun k => event_checkOp.l1 k x1 p n i [a, b] 2 0 o.f0 o.f1 o.f2 o.f3 o.f4 o.f5 o.f6 o.f7) r := by
  have hr : rd [a, b] 0 = a := rfl
  have hw : wrap64 (0 + 1) = 1 := by unfold wrap64; omega
  by_cases h1 : a = -1
  · refine Ev.step (fun k => ?_) (h (fun hh => hh.1 h1))
    simp only [event_checkOp.l1]; rw [if_pos (by omega), if_pos (by omega), if_pos (by simp), hr, if_pos h1, hw]
  · by_cases h2 : a = o.f6
    · rw [h9 ⟨h1, .inl h2⟩]
      refine Ev.step (fun k => ?_) (Ev.now _)
      simp only [event_checkOp.l1]; rw [if_pos (by omega), if_pos (by omega), if_pos (by simp), hr, if_neg h1, if_pos h2]
    · by_cases h3 : a = o.f7
      · rw [h9 ⟨h1, .inr h3⟩]
        refine Ev.step (fun k => ?_) (Ev.now _)
        simp only [event_checkOp.l1]; rw [if_pos (by omega), if_pos (by omega), if_pos (by simp), hr, if_neg h1, if_neg h2, if_pos h3]
      · refine Ev.step (fun k => ?_) (h (fun hh => by omega))
        simp only [event_checkOp.l1]; rw [if_pos (by omega), if_pos (by omega), if_pos (by simp), hr, if_neg h1, if_neg h2, if_neg h3, hw]

theorem prog_l0 (o : S25) (p : List S25) (hm : p.length ≤ 1000) : ∀ (j i : Nat), p.length - i = j → i ≤ p.length →
    Ev (fun k => event_checkOp.l0 k p p (p.length : Int) (i : Int) o.f0 o.f1 o.f2 o.f3 o.f4 o.f5 o.f6 o.f7) (if anyMeet' o (p.drop i) = true then some 9 else if anyBusy o p = true then some 6 else none)
  | 0, i, hj, hi => by
    rw [List.drop_of_length_le (by omega), if_neg (by simp [anyMeet'])]
    have h2 := prog_l2 o p hm _ 0 rfl (by omega)
    rw [List.drop_zero] at h2
    refine Ev.step (fun k => ?_) h2
    simp only [event_checkOp.l0]; rw [if_neg (by omega)]; rfl
  | j + 1, i, hj, hi => by
    have hw := wrap_nat i (by omega)
    have ih := prog_l0 o p hm j (i + 1) (by omega) (by omega)
    rw [rdT_cons p i (by omega)]
    have key : Ev (fun k => event_checkOp.l1 k p p (p.length : Int) (i : Int) [(rd_T25 p (i : Int)).f6, (rd_T25 p (i : Int)).f7] 2 0 o.f0 o.f1 o.f2 o.f3 o.f4 o.f5 o.f6 o.f7) (if anyMeet' o (rd_T25 p (i : Int) :: p.drop (i + 1)) = true then some 9 else if anyBusy o p = true then some 6 else none) := by
      refine l1_one (fun h1 => l1_two (fun h2 => ?_) (fun h2 => ?_)) (fun h1 => ?_)
      · have hb : ¬ Meet' o (rd_T25 p (i : Int)) := fun h => h.elim h1 h2
        rw [anyMeet'_cons, decide_eq_false hb, Bool.false_or, hw]
        exact ih
      · have hb : Meet' o (rd_T25 p (i : Int)) := .inr h2
        rw [anyMeet'_cons, decide_eq_true hb, Bool.true_or, if_pos rfl]
      · have hb : Meet' o (rd_T25 p (i : Int)) := .inl h1
        rw [anyMeet'_cons, decide_eq_true hb, Bool.true_or, if_pos rfl]
    refine Ev.step (fun k => ?_) key
    simp only [event_checkOp.l0]; rw [if_pos (by omega), if_pos (by omega), if_pos (by omega)]; rfl

theorem prog_j2 (o : S25) (p : List S25) (hm : p.length ≤ 1000) (h6 : ¬ o.f6 < 0) :
    Ev (fun k => event_checkOp.j2 k p o.f0 o.f1 o.f2 o.f3 o.f4 o.f5 o.f6 o.f7) (if anyMeet o p = true then some 9 else if anyBusy o p = true then some 6 else none) := by
  have h := prog_l0 o p hm _ 0 rfl (by omega)
  rw [List.drop_zero] at h
  rw [anyMeet_eq h6] at h
  refine Ev.step (fun k => ?_) h
  simp only [event_checkOp.j2]; rfl

/-- Behind the first two tests of the order. -/
def rest (o : S25) (p : List S25) : Option Int := if (o.f7 ≠ -1 ∧ o.f7 ≤ o.f6) ∨ (o.f7 = -1 ∧ o.f5 ≠ 0) then some 10 else if anyMeet o p = true then some 9 else if anyBusy o p = true then some 6 else none

theorem prog_j0 (o : S25) (p : List S25) (hm : p.length ≤ 1000) (h6 : ¬ o.f6 < 0) (b : Bool) :
    Ev (fun k => event_checkOp.j0 k p (o.f7 == (-1)) b o.f0 o.f1 o.f2 o.f3 o.f4 o.f5 o.f6 o.f7) (if b = true then some 10 else rest o p) := by
  cases b with
  | true =>
    refine Ev.step (fun k => ?_) (Ev.now _)
    simp only [event_checkOp.j0]; rw [if_pos trivial, if_pos trivial]
  | false =>
    rw [if_neg (by decide)]
    have h2 := prog_j2 o p hm h6
    by_cases h7 : o.f7 = -1
    · have e7 : (o.f7 == (-1)) = true := by simpa using h7
      rw [e7]
      by_cases h5 : o.f5 = 0
      · have er : rest o p = _ := if_neg (by omega)
        rw [er]
        refine Ev.step (f := fun k => event_checkOp.j1 k p true false o.f0 o.f1 o.f2 o.f3 o.f4 o.f5 o.f6 o.f7) (fun k => ?_) (Ev.step (fun k => ?_) h2)
        · simp only [event_checkOp.j0]; rw [if_neg (by decide), if_pos trivial]
        · simp only [event_checkOp.j1]; rw [if_neg (by decide), if_pos trivial, if_pos h5]
      · have er : rest o p = _ := if_pos (by omega)
        rw [er]
        refine Ev.step (f := fun k => event_checkOp.j1 k p true false o.f0 o.f1 o.f2 o.f3 o.f4 o.f5 o.f6 o.f7) (fun k => ?_) (Ev.step (fun k => ?_) (Ev.now _))
        · simp only [event_checkOp.j0]; rw [if_neg (by decide), if_pos trivial]
        · simp only [event_checkOp.j1]; rw [if_neg (by decide), if_pos trivial, if_neg h5]
    · have e7 : (o.f7 == (-1)) = false := by simpa using h7
      rw [e7]
      by_cases h8 : o.f7 ≤ o.f6
      · have er : rest o p = _ := if_pos (by omega)
        rw [er]
        refine Ev.step (f := fun k => event_checkOp.j1 k p false (decide (o.f7 ≤ o.f6)) o.f0 o.f1 o.f2 o.f3 o.f4 o.f5 o.f6 o.f7) (fun k => ?_) (Ev.step (fun k => ?_) (Ev.now _))
        · simp only [event_checkOp.j0]; rw [if_neg (by decide), if_neg (by decide)]
        · simp only [event_checkOp.j1]; rw [if_pos (decide_eq_true h8)]
      · have er : rest o p = _ := if_neg (by omega)
        rw [er]
        refine Ev.step (f := fun k => event_checkOp.j1 k p false (decide (o.f7 ≤ o.f6)) o.f0 o.f1 o.f2 o.f3 o.f4 o.f5 o.f6 o.f7) (fun k => ?_) (Ev.step (fun k => ?_) h2)
        · simp only [event_checkOp.j0]; rw [if_neg (by decide), if_neg (by decide)]
        · simp only [event_checkOp.j1]; rw [if_neg (by simpa using h8), if_neg (by decide)]

theorem wrap_len (n : Nat) (h : 0 < n) (hm : n ≤ 1000) : wrap64 ((n : Int) - 1) = ((n - 1 : Nat) : Int) := by unfold wrap64; omega

theorem prog_op (o : S25) (p : List S25) (hm : p.length ≤ 1000) :
    Ev (fun k => event_checkOp.f k o.f0 o.f1 o.f2 o.f3 o.f4 o.f5 o.f6 o.f7 p) (told0 (code o p)) := by
  refine Ev.bind (told o.f0 o.f1 [o.f3, o.f4, o.f5, o.f6, o.f7] (by simp)) ?_
  by_cases h : Nums o
  · have ed : (okL [o.f3, o.f4, o.f5, o.f6, o.f7] && decide (Who o.f0 o.f1)) = true := by rw [h.1, decide_eq_true h.2]; rfl
    by_cases h2 : 1 ≤ o.f2 ∧ o.f2 ≤ 12
    · by_cases h6 : o.f6 < 0
      · have ec : code o p = 10 := by unfold code; rw [if_neg (fun hh => hh h), if_neg (fun hh => hh h2), if_pos (show Wrong o p from .inl h6)]
        rw [ec]
        refine Ev.congr (fun k => ?_) (Ev.now _)
        rw [if_pos ed, in_f]; simp only [Option.bind_some]; rw [if_pos (decide_eq_true h2), if_pos h6]; rfl
      · have tail : ∀ b : Bool, (b = true ↔ (p ≠ [] ∧ o.f6 ≤ (rd_T25 p ((p.length - 1 : Nat) : Int)).f6)) → told0 (code o p) = if b = true then some 10 else rest o p := fun b hb => by
          have ec : code o p = if Wrong o p then 10 else if anyMeet o p = true then 9 else if anyBusy o p = true then 6 else 0 := by unfold code; rw [if_neg (fun hh => hh h), if_neg (fun hh => hh h2)]
          rw [ec]; unfold told0
          by_cases h7 : b = true
          · rw [if_pos (show Wrong o p from .inr (.inl (hb.1 h7))), if_pos h7]; simp
          · have e1 : Wrong o p ↔ ((o.f7 ≠ -1 ∧ o.f7 ≤ o.f6) ∨ (o.f7 = -1 ∧ o.f5 ≠ 0)) := by
              unfold Wrong
              constructor
              · rintro (h | h | h | h)
                · exact absurd h h6
                · exact absurd (hb.2 h) h7
                · exact .inl h
                · exact .inr h
              · rintro (h | h)
                · exact .inr (.inr (.inl h))
                · exact .inr (.inr (.inr h))
            rw [if_neg h7]
            unfold rest
            by_cases h8 : (o.f7 ≠ -1 ∧ o.f7 ≤ o.f6) ∨ (o.f7 = -1 ∧ o.f5 ≠ 0)
            · rw [if_pos (e1.2 h8), if_pos h8]; simp
            · rw [if_neg (fun hh => h8 (e1.1 hh)), if_neg h8]
              split
              · simp
              · split <;> simp
        by_cases hp : p = []
        · have := prog_j0 o p hm h6 false
          rw [← tail false (by simp [hp])] at this
          refine Ev.congr (fun k => ?_) this
          rw [if_pos ed, in_f]; simp only [Option.bind_some]; rw [if_pos (decide_eq_true h2), if_neg h6, if_neg (by simp [hp])]
        · have hl : 0 < p.length := List.length_pos_iff.2 hp
          have := prog_j0 o p hm h6 (decide (o.f6 ≤ (rd_T25 p ((p.length - 1 : Nat) : Int)).f6))
          rw [← tail _ (by simp [hp])] at this
          refine Ev.congr (fun k => ?_) this
          rw [if_pos ed, in_f]; simp only [Option.bind_some]; rw [if_pos (decide_eq_true h2), if_neg h6, if_pos (by omega), wrap_len _ hl hm, if_pos (by omega), if_pos (by omega)]
    · have ec : code o p = 1 := by unfold code; rw [if_neg (fun hh => hh h), if_pos h2]
      rw [ec]
      refine Ev.congr (fun k => ?_) (Ev.now _)
      rw [if_pos ed, in_f]; simp only [Option.bind_some]; rw [if_neg (by simpa using h2)]; rfl
  · have ed : ¬ (okL [o.f3, o.f4, o.f5, o.f6, o.f7] && decide (Who o.f0 o.f1)) = true := fun hh => h (by simpa [Nums] using hh)
    have ec : code o p = 2 := by unfold code; rw [if_pos h]
    rw [ec]
    refine Ev.congr (fun k => ?_) (Ev.now _)
    rw [if_neg ed]; rfl

/-- The number of the first op from i on that may not stand where it stands; 0: there is none. -/
def codes (l : List S25) : Nat → Nat → Int
  | 0, _ => 0
  | j + 1, i => if code (rd_T25 l (i : Int)) (l.take i) = 0 then codes l j (i + 1) else code (rd_T25 l (i : Int)) (l.take i)

theorem prog_ops (l : List S25) (hm : l.length ≤ 40) : ∀ (j i : Nat), l.length - i = j → i ≤ l.length →
    Ev (fun k => event_CheckOps.l0 k l l (l.length : Int) (i : Int)) (told0 (codes l j i))
  | 0, i, hj, hi => by
    refine Ev.step (fun k => ?_) (Ev.now _)
    simp only [event_CheckOps.l0]; rw [if_neg (by omega)]; rfl
  | j + 1, i, hj, hi => by
    have hw := wrap_nat i (by omega)
    have ih := prog_ops l hm j (i + 1) (by omega) (by omega)
    have h1 := prog_op (rd_T25 l (i : Int)) (l.take i) (by rw [List.length_take]; omega)
    refine Ev.step (f := fun k => (event_checkOp.f k (rd_T25 l (i : Int)).f0 (rd_T25 l (i : Int)).f1 (rd_T25 l (i : Int)).f2 (rd_T25 l (i : Int)).f3 (rd_T25 l (i : Int)).f4 (rd_T25 l (i : Int)).f5 (rd_T25 l (i : Int)).f6 (rd_T25 l (i : Int)).f7 (l.take i)).bind fun t133 => (if t133.isNone = true then (event_CheckOps.l0 k l l (l.length : Int) (wrap64 ((i : Int) + 1))) else (some (some (t133.getD 0))))) (fun k => ?_) (Ev.bind h1 ?_)
    · simp only [event_CheckOps.l0]; rw [if_pos (by omega), if_pos (by omega), if_pos (by omega), if_pos (by omega)]; rfl
    · simp only [codes]
      by_cases hc : code (rd_T25 l (i : Int)) (l.take i) = 0
      · rw [if_pos hc]
        refine Ev.congr (fun k => ?_) ih
        rw [if_pos (by simp [told0, hc]), hw]
      · rw [if_neg hc]
        refine Ev.congr (fun k => ?_) (Ev.now _)
        rw [if_neg (by simp [told0, hc])]; simp [told0, hc]

def all (l : List S25) : Int := if l.length > 40 then 4 else codes l l.length 0
theorem prog_all (l : List S25) : Ev (fun k => event_CheckOps.f k l) (told0 (all l)) := by
  unfold all
  by_cases h : l.length > 40
  · rw [if_pos h]
    refine Ev.congr (fun k => ?_) (Ev.now _)
    simp only [event_CheckOps.f]; rw [if_pos (by omega)]; rfl
  · rw [if_neg h]
    refine Ev.congr (fun k => ?_) (prog_ops l (by omega) l.length 0 rfl (by omega))
    simp only [event_CheckOps.f]; rw [if_neg (by omega)]; rfl

/-! ### the document -/
theorem ref_l2 (l : List S25) (x14 : Int) (o : S25) (p : List S25) (hm : p.length ≤ 1000) {R : Int} (hR : Ev (fun k => testimonyref_OpsCheck.l0 k l l (l.length : Int) (wrap64 (x14 + 1))) R) : ∀ (j i : Nat), p.length - i = j → i ≤ p.length →
    Ev (fun k => testimonyref_OpsCheck.l2 k l l (l.length : Int) x14 p (p.length : Int) (i : Int) o.f0 o.f1 o.f2 o.f3 o.f4 o.f5 o.f6 o.f7) (if anyBusy o (p.drop i) = true then 6 else R)
  | 0, i, hj, hi => by
    rw [List.drop_of_length_le (by omega), if_neg (by simp [anyBusy])]
    refine Ev.step (fun k => ?_) hR
    simp only [testimonyref_OpsCheck.l2]; rw [if_neg (by omega)]
  | j + 1, i, hj, hi => by
    have hw := wrap_nat i (by omega)
    have ih := ref_l2 l x14 o p hm hR j (i + 1) (by omega) (by omega)
    rw [rdT_cons p i (by omega)]
    by_cases h1 : (rd_T25 p (i : Int)).f0 = o.f0
    · by_cases h2 : (rd_T25 p (i : Int)).f7 ≥ 0 ∧ (rd_T25 p (i : Int)).f7 < o.f6
      · have hb : ¬ Busy o (rd_T25 p (i : Int)) := fun h => h.2 h2
        rw [anyBusy_cons, decide_eq_false hb, Bool.false_or]
        refine Ev.step (fun k => ?_) ih
        simp only [testimonyref_OpsCheck.l2]
        rw [if_pos (by omega), if_pos (by omega), if_pos (by omega), if_pos h1, before_ref, hw]
        simp only [Option.bind_some]
        rw [if_pos (decide_eq_true h2)]
      · have hb : Busy o (rd_T25 p (i : Int)) := ⟨h1, h2⟩
        rw [anyBusy_cons, decide_eq_true hb, Bool.true_or]
        refine Ev.step (fun k => ?_) (Ev.now _)
        simp only [testimonyref_OpsCheck.l2]
        rw [if_pos (by omega), if_pos (by omega), if_pos (by omega), if_pos h1, before_ref]
        simp only [Option.bind_some]
        rw [if_neg (by simpa using h2), if_pos trivial]
    · have hb : ¬ Busy o (rd_T25 p (i : Int)) := fun h => h1 h.1
      rw [anyBusy_cons, decide_eq_false hb, Bool.false_or]
      refine Ev.step (fun k => ?_) ih
      simp only [testimonyref_OpsCheck.l2]
      rw [if_pos (by omega), if_pos (by omega), if_pos (by omega), if_neg h1, hw]

theorem ref_l1 (l : List S25) (n : Nat) (hn : n ≤ l.length) (o : S25) (hm : l.length ≤ 1000) {R : Int} (hR : Ev (fun k => testimonyref_OpsCheck.l0 k l l (l.length : Int) (wrap64 ((n : Int) + 1))) R) : ∀ (j i : Nat), (l.take n).length - i = j → i ≤ (l.take n).length →
    Ev (fun k => testimonyref_OpsCheck.l1 k l (n : Int) l (l.length : Int) (n : Int) (l.take n) ((l.take n).length : Int) (i : Int) o.f0 o.f1 o.f2 o.f3 o.f4 o.f5 o.f6 o.f7) (if anyMeet o ((l.take n).drop i) = true then 9 else if anyBusy o (l.take n) = true then 6 else R)
  | 0, i, hj, hi => by
    rw [List.drop_of_length_le (l := l.take n) (by omega), if_neg (by simp [anyMeet])]
    have h2 := ref_l2 l (n : Int) o (l.take n) (by rw [List.length_take]; omega) hR _ 0 rfl (by omega)
    rw [List.drop_zero] at h2
    refine Ev.step (fun k => ?_) h2
    simp only [testimonyref_OpsCheck.l1]; rw [if_neg (by omega), if_pos (by omega), if_pos (by omega)]; rfl
  | j + 1, i, hj, hi => by
    have hp : (l.take n).length ≤ 1000 := by rw [List.length_take]; omega
    have hw := wrap_nat i (by omega)
    have ih := ref_l1 l n hn o hm hR j (i + 1) (by omega) (by omega)
    rw [rdT_cons (l.take n) i (by omega), anyMeet_cons]
    by_cases hb : Meet o (rd_T25 (l.take n) (i : Int))
    · rw [decide_eq_true hb, Bool.true_or, if_pos rfl]
      refine Ev.step (fun k => ?_) (Ev.now _)
      simp only [testimonyref_OpsCheck.l1]; rw [if_pos (by omega), if_pos (by omega), if_pos (by omega)]
      by_cases h1 : o.f6 = (rd_T25 (l.take n) (i : Int)).f6
      · rw [if_pos h1]
      · by_cases h2 : o.f6 = (rd_T25 (l.take n) (i : Int)).f7
        · rw [if_neg h1, if_pos h2]
        · rcases hb with hb | hb | ⟨h3, hb⟩
          · exact absurd hb h1
          · exact absurd hb h2
          · rw [if_neg h1, if_neg h2, if_neg h3]
            by_cases h4 : o.f7 = (rd_T25 (l.take n) (i : Int)).f6
            · rw [if_pos h4]
            · rw [if_neg h4, if_pos (hb.resolve_left h4)]
    · rw [decide_eq_false hb, Bool.false_or]
      refine Ev.step (fun k => ?_) ih
      have hb1 : ¬ o.f6 = (rd_T25 (l.take n) (i : Int)).f6 := fun h => hb (.inl h)
      have hb2 : ¬ o.f6 = (rd_T25 (l.take n) (i : Int)).f7 := fun h => hb (.inr (.inl h))
      simp only [testimonyref_OpsCheck.l1]; rw [if_pos (by omega), if_pos (by omega), if_pos (by omega), if_neg hb1, if_neg hb2, hw]
      by_cases h3 : o.f7 = -1
      · rw [if_pos h3]
      · rw [if_neg h3, if_neg (fun h => hb (.inr (.inr ⟨h3, .inl h⟩))), if_neg (fun h => hb (.inr (.inr ⟨h3, .inr h⟩)))]

theorem ref_j3 (l : List S25) (n : Nat) (hn : n ≤ l.length) (o : S25) (hm : l.length ≤ 1000) (b : Bool) {R : Int} (hR : Ev (fun k => testimonyref_OpsCheck.l0 k l l (l.length : Int) (wrap64 ((n : Int) + 1))) R) :
    Ev (fun k => testimonyref_OpsCheck.j3 k l (n : Int) l (l.length : Int) (n : Int) b o.f0 o.f1 o.f2 o.f3 o.f4 o.f5 o.f6 o.f7) (if b = true then 10 else if anyMeet o (l.take n) = true then 9 else if anyBusy o (l.take n) = true then 6 else R) := by
  cases b with
  | true =>
    refine Ev.step (fun k => ?_) (Ev.now _)
    simp only [testimonyref_OpsCheck.j3]; rw [if_pos trivial, if_pos trivial]
  | false =>
    have h := ref_l1 l n hn o hm hR _ 0 rfl (by omega)
    rw [List.drop_zero] at h
    rw [if_neg (by decide)]
    refine Ev.step (fun k => ?_) h
    simp only [testimonyref_OpsCheck.j3]; rw [if_neg (by decide), if_pos (by omega), if_pos (by omega)]; rfl

theorem rd_take (l : List S25) (n i : Nat) (hi : i < n) : rd_T25 (l.take n) (i : Int) = rd_T25 l (i : Int) := by
  simp [rd_T25, List.getD_eq_getElem?_getD, hi]

theorem ref_j2 (l : List S25) (n : Nat) (hn : n ≤ l.length) (o : S25) (hm : l.length ≤ 1000) (b : Bool) {R : Int} (hR : Ev (fun k => testimonyref_OpsCheck.l0 k l l (l.length : Int) (wrap64 ((n : Int) + 1))) R) :
    Ev (fun k => testimonyref_OpsCheck.j2 k l (n : Int) l (l.length : Int) (n : Int) b o.f0 o.f1 o.f2 o.f3 o.f4 o.f5 o.f6 o.f7) (if b = true then 1 else if Wrong o (l.take n) then 10 else if anyMeet o (l.take n) = true then 9 else if anyBusy o (l.take n) = true then 6 else R) := by
  cases b with
  | true =>
    refine Ev.step (fun k => ?_) (Ev.now _)
    simp only [testimonyref_OpsCheck.j2]; rw [if_pos trivial, if_pos trivial]
  | false =>
    rw [if_neg (by decide)]
    have hl : (l.take n).length = n := by rw [List.length_take]; omega
    have hne : l.take n ≠ [] ↔ 0 < n := by rw [← List.length_pos_iff, hl]
    have yes : Wrong o (l.take n) → Ev (fun k => testimonyref_OpsCheck.j3 k l (n : Int) l (l.length : Int) (n : Int) true o.f0 o.f1 o.f2 o.f3 o.f4 o.f5 o.f6 o.f7) (if Wrong o (l.take n) then 10 else if anyMeet o (l.take n) = true then 9 else if anyBusy o (l.take n) = true then 6 else R) := fun h => by
      have := ref_j3 l n hn o hm true hR
      rwa [if_pos rfl, ← if_pos (c := Wrong o (l.take n)) (t := (10 : Int)) (e := if anyMeet o (l.take n) = true then 9 else if anyBusy o (l.take n) = true then 6 else R) h] at this
    have no : ¬ Wrong o (l.take n) → Ev (fun k => testimonyref_OpsCheck.j3 k l (n : Int) l (l.length : Int) (n : Int) false o.f0 o.f1 o.f2 o.f3 o.f4 o.f5 o.f6 o.f7) (if Wrong o (l.take n) then 10 else if anyMeet o (l.take n) = true then 9 else if anyBusy o (l.take n) = true then 6 else R) := fun h => by
      have := ref_j3 l n hn o hm false hR
      rwa [if_neg (by decide), ← if_neg (c := Wrong o (l.take n)) (t := (10 : Int)) (e := if anyMeet o (l.take n) = true then 9 else if anyBusy o (l.take n) = true then 6 else R) h] at this
    have hlast : 0 < n → rd_T25 (l.take n) (((l.take n).length - 1 : Nat) : Int) = rd_T25 l ((n - 1 : Nat) : Int) := fun h => by rw [hl]; exact rd_take l n (n - 1) (by omega)
    have lastW : 0 < n → wrap64 ((n : Int) - 1) = ((n - 1 : Nat) : Int) := fun h => wrap_len n h (by omega)
    -- the two tests behind that of the last one
    have tail : o.f6 ≥ 0 → ¬ (l.take n ≠ [] ∧ o.f6 ≤ (rd_T25 (l.take n) (((l.take n).length - 1 : Nat) : Int)).f6) →
        Ev (fun k => (if o.f7 = (-1) then (testimonyref_OpsCheck.j3 k l (n : Int) l (l.length : Int) (n : Int) (o.f5 != 0) o.f0 o.f1 o.f2 o.f3 o.f4 o.f5 o.f6 o.f7) else (if o.f7 ≤ o.f6 then (testimonyref_OpsCheck.j3 k l (n : Int) l (l.length : Int) (n : Int) true o.f0 o.f1 o.f2 o.f3 o.f4 o.f5 o.f6 o.f7) else (testimonyref_OpsCheck.j3 k l (n : Int) l (l.length : Int) (n : Int) false o.f0 o.f1 o.f2 o.f3 o.f4 o.f5 o.f6 o.f7)))) (if Wrong o (l.take n) then 10 else if anyMeet o (l.take n) = true then 9 else if anyBusy o (l.take n) = true then 6 else R) := fun h6 hlt => by
      have hw : Wrong o (l.take n) ↔ ((o.f7 ≠ -1 ∧ o.f7 ≤ o.f6) ∨ (o.f7 = -1 ∧ o.f5 ≠ 0)) := by
        unfold Wrong
        constructor
        · rintro (h | h | h | h)
          · omega
          · exact absurd h hlt
          · exact .inl h
          · exact .inr h
        · rintro (h | h)
          · exact .inr (.inr (.inl h))
          · exact .inr (.inr (.inr h))
      by_cases h7 : o.f7 = -1
      · by_cases h5 : o.f5 = 0
        · refine Ev.congr (fun k => ?_) (no (fun h => by have := hw.1 h; omega))
          rw [if_pos h7, show (o.f5 != 0) = false by simpa using h5]
        · refine Ev.congr (fun k => ?_) (yes (hw.2 (.inr ⟨h7, h5⟩)))
          rw [if_pos h7, show (o.f5 != 0) = true by simpa using h5]
      · by_cases h8 : o.f7 ≤ o.f6
        · refine Ev.congr (fun k => ?_) (yes (hw.2 (.inl ⟨h7, h8⟩)))
          rw [if_neg h7, if_pos h8]
        · refine Ev.congr (fun k => ?_) (no (fun h => by have := hw.1 h; omega))
          rw [if_neg h7, if_neg h8]
    by_cases h6 : o.f6 < 0
    · refine Ev.step (fun k => ?_) (yes (.inl h6))
      simp only [testimonyref_OpsCheck.j2]; rw [if_neg (by decide), if_pos h6]
    · by_cases h0 : 0 < n
      · by_cases hlt : o.f6 ≤ (rd_T25 l ((n - 1 : Nat) : Int)).f6
        · refine Ev.step (fun k => ?_) (yes (.inr (.inl ⟨hne.2 h0, by rw [hlast h0]; exact hlt⟩)))
          simp only [testimonyref_OpsCheck.j2]; rw [if_neg (by decide), if_neg h6, if_pos (by omega), lastW h0, if_pos (by omega), if_pos (by omega), if_pos hlt]
        · refine Ev.step (fun k => ?_) (tail (by omega) (fun h => hlt (by have := h.2; rwa [hlast h0] at this)))
          simp only [testimonyref_OpsCheck.j2]; rw [if_neg (by decide), if_neg h6, if_pos (by omega), lastW h0, if_pos (by omega), if_pos (by omega), if_neg hlt]
      · refine Ev.step (fun k => ?_) (tail (by omega) (fun h => h0 (hne.1 h.1)))
        simp only [testimonyref_OpsCheck.j2]; rw [if_neg (by decide), if_neg h6, if_neg (by omega)]

theorem ref_j1 (l : List S25) (n : Nat) (hn : n ≤ l.length) (o : S25) (hm : l.length ≤ 1000) (b : Bool) {R : Int} (hR : Ev (fun k => testimonyref_OpsCheck.l0 k l l (l.length : Int) (wrap64 ((n : Int) + 1))) R) :
    Ev (fun k => testimonyref_OpsCheck.j1 k l (n : Int) l (l.length : Int) (n : Int) b o.f0 o.f1 o.f2 o.f3 o.f4 o.f5 o.f6 o.f7) (if b = true then 2 else if ¬ (1 ≤ o.f2 ∧ o.f2 ≤ 12) then 1 else if Wrong o (l.take n) then 10 else if anyMeet o (l.take n) = true then 9 else if anyBusy o (l.take n) = true then 6 else R) := by
  cases b with
  | true =>
    refine Ev.step (fun k => ?_) (Ev.now _)
    simp only [testimonyref_OpsCheck.j1]; rw [if_pos trivial, if_pos trivial]
  | false =>
    rw [if_neg (by decide)]
    by_cases h1 : o.f2 < 1
    · have := ref_j2 l n hn o hm true hR
      rw [if_pos rfl] at this
      rw [if_pos (by omega)]
      refine Ev.step (fun k => ?_) this
      simp only [testimonyref_OpsCheck.j1]; rw [if_neg (by decide), if_pos h1]
    · have := ref_j2 l n hn o hm (decide (o.f2 > 12)) hR
      by_cases h2 : o.f2 > 12
      · rw [if_pos (decide_eq_true h2)] at this
        rw [if_pos (by omega)]
        refine Ev.step (fun k => ?_) this
        simp only [testimonyref_OpsCheck.j1]; rw [if_neg (by decide), if_neg h1]
      · rw [if_neg (by simpa using h2)] at this
        rw [if_neg (by omega)]
        refine Ev.step (fun k => ?_) this
        simp only [testimonyref_OpsCheck.j1]; rw [if_neg (by decide), if_neg h1]

theorem ref_l0 (l : List S25) (hm : l.length ≤ 40) : ∀ (j i : Nat), l.length - i = j → i ≤ l.length →
    Ev (fun k => testimonyref_OpsCheck.l0 k l l (l.length : Int) (i : Int)) (codes l j i)
  | 0, i, hj, hi => by
    refine Ev.step (fun k => ?_) (Ev.now _)
    simp only [testimonyref_OpsCheck.l0]; rw [if_neg (by omega)]; rfl
  | j + 1, i, hj, hi => by
    have hw := wrap_nat i (by omega)
    have ih := ref_l0 l hm j (i + 1) (by omega) (by omega)
    rw [← hw] at ih
    have hj1 := fun b => ref_j1 l i (by omega) (rd_T25 l (i : Int)) (by omega) b ih
    simp only [codes]
    generalize ho : rd_T25 l (i : Int) = o at *
    have bad : ¬ Nums o → Ev (fun k => testimonyref_OpsCheck.j1 k l (i : Int) l (l.length : Int) (i : Int) true o.f0 o.f1 o.f2 o.f3 o.f4 o.f5 o.f6 o.f7) (if code o (l.take i) = 0 then codes l j (i + 1) else code o (l.take i)) := fun h => by
      have := hj1 true
      rw [if_pos rfl] at this
      have ec : code o (l.take i) = 2 := by unfold code; rw [if_pos h]
      rw [ec, if_neg (by omega)]
      exact this
    by_cases h1 : o.f0 < 0
    · refine Ev.step (fun k => ?_) (bad (fun h => by have := h.2.1; omega))
      simp only [testimonyref_OpsCheck.l0, ho]; rw [if_pos (by omega), if_pos (by omega), if_pos (by omega), if_pos h1]
    by_cases h2 : o.f0 > 7
    · refine Ev.step (fun k => ?_) (bad (fun h => by have := h.2.2.1; omega))
      simp only [testimonyref_OpsCheck.l0, ho]; rw [if_pos (by omega), if_pos (by omega), if_pos (by omega), if_neg h1, if_pos h2]
    by_cases h3 : o.f1 < 0
    · refine Ev.step (fun k => ?_) (bad (fun h => by have := h.2.2.2.1; omega))
      simp only [testimonyref_OpsCheck.l0, ho]; rw [if_pos (by omega), if_pos (by omega), if_pos (by omega), if_neg h1, if_neg h2, if_pos h3]
    by_cases h4 : o.f1 > 7
    · refine Ev.step (fun k => ?_) (bad (fun h => by have := h.2.2.2.2; omega))
      simp only [testimonyref_OpsCheck.l0, ho]; rw [if_pos (by omega), if_pos (by omega), if_pos (by omega), if_neg h1, if_neg h2, if_neg h3, if_pos h4]
    have hwho : Who o.f0 o.f1 := by unfold Who; omega
    refine Ev.step (f := fun k => (testimonyref_small.f k [o.f3, o.f4, o.f5, o.f6, o.f7]).bind fun t141 => (testimonyref_OpsCheck.j1 k l (i : Int) l (l.length : Int) (i : Int) (!t141) o.f0 o.f1 o.f2 o.f3 o.f4 o.f5 o.f6 o.f7)) (fun k => ?_) (Ev.bind (small [o.f3, o.f4, o.f5, o.f6, o.f7] (by simp)) ?_)
    · simp only [testimonyref_OpsCheck.l0, ho]; rw [if_pos (by omega), if_pos (by omega), if_pos (by omega), if_neg h1, if_neg h2, if_neg h3, if_neg h4]
    · by_cases h5 : okL [o.f3, o.f4, o.f5, o.f6, o.f7] = true
      · rw [h5]
        have := hj1 false
        rw [if_neg (by decide)] at this
        have e : (if code o (l.take i) = 0 then codes l j (i + 1) else code o (l.take i)) = (if ¬ (1 ≤ o.f2 ∧ o.f2 ≤ 12) then 1 else if Wrong o (l.take i) then 10 else if anyMeet o (l.take i) = true then 9 else if anyBusy o (l.take i) = true then 6 else codes l j (i + 1)) := by
          have en : Nums o := ⟨h5, hwho⟩
          have ec : code o (l.take i) = (if ¬ (1 ≤ o.f2 ∧ o.f2 ≤ 12) then 1 else if Wrong o (l.take i) then 10 else if anyMeet o (l.take i) = true then 9 else if anyBusy o (l.take i) = true then 6 else 0) := by unfold code; rw [if_neg (fun hh => hh en)]
          rw [ec]
          by_cases h6 : ¬ (1 ≤ o.f2 ∧ o.f2 ≤ 12)
          · rw [if_pos h6, if_pos h6]; rfl
          · rw [if_neg h6, if_neg h6]
            by_cases h7 : Wrong o (l.take i)
            · rw [if_pos h7, if_pos h7]; rfl
            · rw [if_neg h7, if_neg h7]
              by_cases h8 : anyMeet o (l.take i) = true
              · rw [if_pos h8, if_pos h8]; rfl
              · rw [if_neg h8, if_neg h8]
                by_cases h9 : anyBusy o (l.take i) = true
                · rw [if_pos h9, if_pos h9]; rfl
                · rw [if_neg h9, if_neg h9]; rfl
        rw [e]
        exact this
      · rw [Bool.eq_false_iff.2 h5]
        exact bad (fun h => h5 h.1)

theorem ref_all (l : List S25) : Ev (fun k => testimonyref_OpsCheck.f k l) (all l) := by
  unfold all
  by_cases h : l.length > 40
  · rw [if_pos h]
    refine Ev.congr (fun k => ?_) (Ev.now _)
    simp only [testimonyref_OpsCheck.f]; rw [if_pos (by omega)]
  · rw [if_neg h]
    refine Ev.congr (fun k => ?_) (ref_l0 l (by omega) l.length 0 rfl (by omega))
    simp only [testimonyref_OpsCheck.f]; rw [if_neg (by omega)]; rfl

/-! ### the law -/
theorem bare_all (c : Int) : testimonylaw_bare.f (told0 c) c = some true := by
  unfold testimonylaw_bare.f told0
  by_cases h : c = 0
  · rw [if_pos h, h]; rfl
  · rw [if_neg h, if_pos (show (some c).getD 0 = c from rfl)]

theorem law_l0 (l : List S25) (hm : l.length ≤ 1000) : ∀ (j i : Nat), l.length - i = j → i ≤ l.length → Ev (fun k => testimonylaw_EventJudges.l0 k l (i : Int)) true := by
  have out : ∀ i : Nat, i ≤ l.length → ¬ i + 1 < l.length → Ev (fun k => testimonylaw_EventJudges.l0 k l (i : Int)) true := fun i h1 h2 => by
    have hw := wrap_nat i (by omega)
    refine Ev.step (f := fun k => (event_CheckOps.f k l).bind fun t156 => ((testimonyref_OpsCheck.f k l).bind fun t157 => ((testimonylaw_bare.f t156 t157).bind fun t158 => (some t158)))) (fun k => ?_) (Ev.bind (prog_all l) (Ev.bind (ref_all l) ?_))
    · simp only [testimonylaw_EventJudges.l0]; rw [hw, if_neg (by omega)]
    · rw [bare_all]; exact Ev.now _
  intro j
  induction j with
  | zero => exact fun i hj hi => out i hi (by omega)
  | succ j ih =>
    intro i hj hi
    by_cases h : i + 1 < l.length
    · have hw := wrap_nat i (by omega)
      refine Ev.step (fun k => ?_) (ih (i + 1) (by omega) (by omega))
      simp only [testimonylaw_EventJudges.l0]
      rw [hw, if_pos (by omega), if_pos (by omega), if_pos (by omega), if_pos (by omega), before_prog, before_ref]
      simp
    · exact out i hi h

theorem law (l : List S25) : ∃ k, testimonylaw_EventJudges.f k l = some true := by
  refine Ev.rounds ?_
  by_cases h : l.length > 60
  · refine Ev.congr (fun k => ?_) (Ev.now _)
    simp only [testimonylaw_EventJudges.f]; rw [if_pos (by omega)]
  · refine Ev.congr (fun k => ?_) (law_l0 l (by omega) _ 0 rfl (by omega))
    simp only [testimonylaw_EventJudges.f]; rw [if_neg (by omega)]; rfl
end Go.Proofs.YtdndcccdbaahpaaDoor.PureJudges
