/- RecordEncodes in plain numbers: for every event the law's function answers true. -/
import Derived.Test.YtkeakdgibajkeaaDoorPureEncodes
import Derived.Test.YtkeakdgibajkeaaDoorPAxFtestimonylawRecordEncodes
namespace Go.Proofs.YtkeakdgibajkeaaDoor.PureEncodes
open Go.RowKit Go.Proofs.YtkeakdgibajkeaaDoorW.PrintWords Go.Proofs.YtkeakdgibajkeaaDoorW.PrintLast Go.Proofs.YtkeakdgibajkeaaDoorW.PrintMore Go.Proofs.YtkeakdgibajkeaaDoor.PA
open PureEvent PureBits

theorem events1 (p t y k a b r : Int) : Ev (fun n => testimonylaw_events.f n [(⟨p, t, y, k, a, b, r⟩ : S23)]) [(⟨p, t, y, k, a, b, r⟩ : S24)] := by
  refine Ev.congr (fun n => rfl) (?_ : Ev (fun n => testimonylaw_events.l0 n [(⟨p, t, y, k, a, b, r⟩ : S23)] ([] : List S24) 0) _)
  refine Ev.step (f := fun n => testimonylaw_events.l0 n [(⟨p, t, y, k, a, b, r⟩ : S23)] [(⟨p, t, y, k, a, b, r⟩ : S24)] 1) (fun n => ?_) ?_
  · simp only [testimonylaw_events.l0]
    rw [if_pos (by simp), if_pos (by omega), if_pos (by simp), show wrap64 (0 + 1) = 1 by unfold wrap64; omega]
    rfl
  · refine Ev.step (fun n => ?_) (Ev.now _)
    simp only [testimonylaw_events.l0]
    rw [if_neg (by simp)]

theorem code_ok {p t y k a b r : Int} (h : code p t y k a b r = 0) : Ok6 a ∧ Ok6 b ∧ Ok6 r := by
  unfold code at h
  split at h
  · cases h
  · rename_i h1
    exact (Classical.not_not.1 h1).1

theorem law (p t y k a b r : Int) : ∃ n, testimonylaw_RecordEncodes.f n p t y k a b r = some true := by
  refine Ev.rounds (g := fun n => testimonylaw_RecordEncodes.f n p t y k a b r) (r := true) ?_
  have hrd : rd_T24 [(⟨p, t, y, k, a, b, r⟩ : S24)] 0 = ⟨p, t, y, k, a, b, r⟩ := rfl
  have hc := ref_check p t y k a b r
  refine Ev.bind (events1 p t y k a b r) ?_
  by_cases h0 : code p t y k a b r = 0
  · obtain ⟨ha, hb, hr⟩ := code_ok h0
    obtain ⟨l, hl, e1, e2⟩ := encodes p t y k a b r ha hb hr h0
    obtain ⟨f, f1, f2⟩ := frame_ends l hl
    rw [h0] at hc
    simp only [hrd]
    refine Ev.congr (fun n => if_pos (by simp)) ?_
    refine Ev.bind hc ?_
    refine Ev.bind e1 ?_
    refine Ev.congr (fun n => if_pos rfl) ?_
    refine Ev.congr (fun n => if_pos (show (none : Option Int).isNone = true from rfl)) ?_
    refine Ev.bind e2 ?_
    refine Ev.congr (fun n => if_pos rfl) ?_
    refine Ev.bind f2 ?_
    refine Ev.bind f1 ?_
    refine Ev.congr (fun n => ?_) (Ev.now true)
    simp
  · have hp := prog_check p t y k a b r
    rw [if_neg h0] at hp
    have e1 : Ev (fun n => record_Encode.f n p t y k a b r) (([] : List Int), some (code p t y k a b r)) := Ev.bind hp (Ev.congr (fun n => by rw [if_neg (show ¬ (some (code p t y k a b r)).isNone = true by simp)]; rfl) (Ev.now _))
    simp only [hrd]
    refine Ev.congr (fun n => if_pos (by simp)) ?_
    refine Ev.bind hc ?_
    refine Ev.bind e1 ?_
    refine Ev.congr (fun n => if_neg h0) ?_
    refine Ev.congr (fun n => ?_) (Ev.now true)
    simp [testimonylaw_bare.f]
end Go.Proofs.YtkeakdgibajkeaaDoor.PureEncodes
