/- EventJudges is true of the given program: for every argument the call returns true, and the argument reads afterwards as it read before. Its one condition is what the row lists (errors.errorType), which the card ties to the program's text. -/
import Derived.Test.YtdndcccdbaahpaaDoorOpens
import Derived.Test.YtdndcccdbaahpaaDoorPureJudges
import Derived.Test.YtdndcccdbaahpaaDoorPAxFtestimonylawEventJudges
import Derived.Test.YtdndcccdbaahpaaDoorCards
import Derived.Test.YtdndcccdbaahpaaDoorTie
import Derived.ProofKit
import Derived.ShutString
import Derived.ChangeOld
import Derived.SizedLaws
import Derived.Lib.SmallJoins
set_option maxRecDepth 100000
namespace Go.Proofs.YtdndcccdbaahpaaDoor.lawEventJudges
open Go.ChangeShapes Go.WideShapes Go.ChangeAt Go.RowKit Go.Proofs.YtdndcccdbaahpaaDoorW.PrintWords Go.Joins Go.Deep Go.Proofs.YtdndcccdbaahpaaDoor.PA

theorem opens_st {H : Type} {enc : TypeId × Value → H} {w : World} {base : Nat} {held : Bool} {fuel : Nat} {cs : List Value} {x : DataW H × List MemPlace} {t : TypeId} {fs : Array Field}
    (ht : Tryd.prog.underlying t = some (.struct fs)) (hone : oneCellFields Tryd.prog fs = true) (hC : Tryd.prog.cellsOf t = fs.size) (h : DataW.trod enc Tryd.prog w base (fun _ => true) held fuel t cs = some x) :
    cs.length = fs.size ∧ ∀ (j : Nat) (f : Field), fs[j]? = some f → ∃ (y : DataW H × List MemPlace) (n : Nat), DataW.trod enc Tryd.prog w base (fun _ => true) held n f.type ((cs.drop j).take 1) = some y := by
  obtain ⟨xs, n, _, _, hl, hlen, hg⟩ := DataW.trod_struct ht h
  refine ⟨hl.trans hC, fun j f hj => ?_⟩
  obtain ⟨ho, hk⟩ := hone_of hone j f hj
  have h1 := hg j f hj
  rw [ho, hk] at h1
  have hjl : j < fs.size := (Array.getElem?_eq_some_iff.1 hj).1
  have hys : xs[j]? = some (xs[j]'(by omega)) := List.getElem?_eq_getElem (by omega)
  exact ⟨_, n, h1.trans hys⟩
def good25 (x : S25) : Prop := (fun n => (Lit.int .i64 n).wf = true) x.f0 ∧ (fun n => (Lit.int .i64 n).wf = true) x.f1 ∧ (fun n => (Lit.int .i64 n).wf = true) x.f2 ∧ (fun n => (Lit.int .i64 n).wf = true) x.f3 ∧ (fun n => (Lit.int .i64 n).wf = true) x.f4 ∧ (fun n => (Lit.int .i64 n).wf = true) x.f5 ∧ (fun n => (Lit.int .i64 n).wf = true) x.f6 ∧ (fun n => (Lit.int .i64 n).wf = true) x.f7
theorem opens_T25 : Opens 25 k25 good25 := by
  intro H enc w base held fuel cs x h
  obtain ⟨hl, hf⟩ := opens_st Tryd.underlying25 (by kernel_rfl) (by kernel_rfl) h
  match cs, hl with
  | [c0, c1, c2, c3, c4, c5, c6, c7], _ =>
    obtain ⟨y0, n0, h0⟩ := hf 0 _ rfl
    obtain ⟨a0, b0, g0⟩ := (opens_int (show Tryd.prog.underlying 3 = some (.int .i64) by kernel_rfl)) h0
    obtain ⟨y1, n1, h1⟩ := hf 1 _ rfl
    obtain ⟨a1, b1, g1⟩ := (opens_int (show Tryd.prog.underlying 3 = some (.int .i64) by kernel_rfl)) h1
    obtain ⟨y2, n2, h2⟩ := hf 2 _ rfl
    obtain ⟨a2, b2, g2⟩ := (opens_int (show Tryd.prog.underlying 3 = some (.int .i64) by kernel_rfl)) h2
    obtain ⟨y3, n3, h3⟩ := hf 3 _ rfl
    obtain ⟨a3, b3, g3⟩ := (opens_int (show Tryd.prog.underlying 3 = some (.int .i64) by kernel_rfl)) h3
    obtain ⟨y4, n4, h4⟩ := hf 4 _ rfl
    obtain ⟨a4, b4, g4⟩ := (opens_int (show Tryd.prog.underlying 3 = some (.int .i64) by kernel_rfl)) h4
    obtain ⟨y5, n5, h5⟩ := hf 5 _ rfl
    obtain ⟨a5, b5, g5⟩ := (opens_int (show Tryd.prog.underlying 3 = some (.int .i64) by kernel_rfl)) h5
    obtain ⟨y6, n6, h6⟩ := hf 6 _ rfl
    obtain ⟨a6, b6, g6⟩ := (opens_int (show Tryd.prog.underlying 3 = some (.int .i64) by kernel_rfl)) h6
    obtain ⟨y7, n7, h7⟩ := hf 7 _ rfl
    obtain ⟨a7, b7, g7⟩ := (opens_int (show Tryd.prog.underlying 3 = some (.int .i64) by kernel_rfl)) h7
    exact ⟨⟨a0, a1, a2, a3, a4, a5, a6, a7⟩, ⟨[c0], [c1, c2, c3, c4, c5, c6, c7], rfl, b0, ⟨[c1], [c2, c3, c4, c5, c6, c7], rfl, b1, ⟨[c2], [c3, c4, c5, c6, c7], rfl, b2, ⟨[c3], [c4, c5, c6, c7], rfl, b3, ⟨[c4], [c5, c6, c7], rfl, b4, ⟨[c5], [c6, c7], rfl, b5, ⟨[c6], [c7], rfl, b6, b7⟩⟩⟩⟩⟩⟩⟩, ⟨g0, g1, g2, g3, g4, g5, g6, g7⟩⟩

/-- A world that meets the condition: the settled one, each variable's cells laid. -/
noncomputable def laidWorld (os : Os) : World :=
  let w0 := World.holding Tryd.prog os ⟨#[], #[], []⟩
  { w0 with heap := (w0.heap.modify 2 fun
      | .cells _ t frozen => .cells #[.iface 136 (.agg #[.pointer (some ⟨3, 28, none⟩)])] t frozen
      | o => o) }
theorem laidWorld_met (os : Os) (args : Array Value) : laidMetH Tryd.prog Rows.eventJudgesRow.laid ((laidWorld os).forCall (fun _ _ => 0) ⟨#[], args, []⟩).memory :=
  laidMetH_of_parts (laidMet_nil _ _) (by kernel_rfl)

theorem lifted (os : Os) (started : os.Started) (H : Type) (enc : TypeId × Value → H) :
    ReturnsInHanded {} Tryd.checked os 3 .any (fun w args => (Rows.eventJudgesSpec.pre enc Tryd.prog Tryd.f3 [] false w args ∧ laidMetH Tryd.prog Rows.eventJudgesRow.laid w) ∧ sizedMet enc Tryd.prog Tryd.f3 (OpenSpec.ofChange Rows.eventJudgesSpec) false w args)
      (Rows.eventJudgesSpec.post enc Tryd.prog Tryd.f3 false true false false) := by
  refine returnsInHanded_of_change_and (C := Tryd.checked) (X := fun w _ => laidMetH Tryd.prog Rows.eventJudgesRow.laid w) (fun _ _ _ hh h => h.of_heap hh) Tryd.own started (by kernel_rfl) Tryd.func3
    (ChangeSpec.witness_at (enc := enc) (C := Tryd.checked) (os := os) (X := fun w _ => laidMetH Tryd.prog Rows.eventJudgesRow.laid w) false (laidWorld os) #[.slice none 0 0] 8 rfl (by kernel_rfl) (by kernel_rfl) (by kernel_rfl) (by kernel_rfl) (by kernel_rfl) (laidWorld_met os _)) ?_
  intro W base args ds gs before hval0 hW _ _ hL _
  have hval : ∀ (j : Nat) t v, Tryd.f3.params[j]? = some t → args[j]? = some v → Value.okWide Tryd.prog W .any base t v := hval0
  have hW' := hW
  obtain ⟨p, q, hA0, hV, rfl, hfz, hnd⟩ := hW
  have hA : DataW.TrodAll enc Tryd.prog W 0 (fun _ => true) true Tryd.f3.params.toList args.toList ds p := hA0
  rw [Tryd.params3] at hA hval
  obtain ⟨v0, vs0, d0, ds0, p0, q0, hargs, rfl, rfl, h0, r0⟩ := trodAll_cons hA
  obtain ⟨rfl, rfl, rfl⟩ := trodAll_nil r0
  obtain rfl : args = #[v0] := by cases args; simp_all
  obtain ⟨rfl, rfl⟩ := trodVars_none hV
  have hg : HasErr W := hasErr_of_handles (show laidMet Tryd.prog [] W ∧ handlesMet Tryd.prog [("errors.errorType", Rows.laid_errors_errorType)] W from hL).2 (List.mem_singleton.2 rfl)
  have k0 := h0
  have lt0 : ∀ x ∈ p0, x.block < W.heap.size := by obtain ⟨m, hm⟩ := k0; exact DataW.trod_lt m _ _ _ hm
  obtain ⟨a0, len0, cap0, rfl⟩ := okWide_slice (show Tryd.prog.underlying 22 = some (.slice 25) by kernel_rfl) (hval 0 22 v0 rfl rfl)
  obtain ⟨l0, A0, c0, hcs0, hlc0, hC0, hgd0⟩ : ∃ (l : (List S25)) (A : Option Addr) (c : Nat), (Value.slice a0 len0 cap0).cells.toList = [.slice A l.length c] ∧ l.length ≤ c ∧ Kd.C k25 W A l.length l ∧ ∀ x ∈ l, good25 x := by
    obtain ⟨fuel, hf⟩ := h0
    obtain ⟨l, ⟨A, c, h1, h2, h3⟩, h4⟩ := (opens_slice z25 (show Tryd.prog.underlying 22 = some (.slice 25) by kernel_rfl) (by kernel_rfl) opens_T25) hf
    exact ⟨l, A, c, h1, h2, h3, h4⟩
  simp [Value.cells] at hcs0
  obtain ⟨rfl, rfl, rfl⟩ := hcs0
  obtain ⟨k, hk⟩ := PureJudges.law l0
  clear hA0 hval0
  refine (testimonylaw_EventJudges.calls k _ _ l0 _ W hg hC0 hlc0 hk).mono fun e W' ⟨he, bel⟩ => ?_
  subst he
  exact ⟨_, rfl, _, _, _, [], _, [], hW', trodAll_mk1 (shut_bool (show Tryd.prog.underlying _ = some .bool by kernel_rfl) _), (trodAll_cons_mk (Below.trod Tryd.laidOut (by kernel_rfl) (of_decide_eq_true (by kernel_rfl)) k0 bel lt0) trodAll_mk0), rfl, bel.frame _, fun h => by cases h⟩

theorem over : Rows.EventJudgesSaid :=
  OpenClaim.holds_of_wide 3 Tryd.f3 rfl rfl rfl rfl rfl rfl rfl ⟨rfl, rfl, rfl, rfl, rfl⟩ rfl rfl rfl rfl rfl (by kernel_rfl) Tryd.func3 (by kernel_rfl)
    (of_decide_eq_true (by kernel_rfl)) (by unfold Func.isWrapper; rw [if_neg (of_decide_eq_false (by kernel_rfl))]; exact ⟨rfl, rfl⟩)
    (fun os started H enc _ => lifted os started H enc)

theorem proved : Rows.EventJudgesCardSaid :=
  Claim7.holds_tied_plain_at .later [] [.handle] true (true, "f66a4d0ea50cee0787aefe5c8110f578aaefbbdb2d6cedaa34ccae36187c0715") true
    over (fun _ h => by cases h) (by kernel_rfl) (fun _ h => by cases h) eventJudges_row_tie rfl ⟨rfl, rfl⟩ (by kernel_rfl) rfl
    (fun f fn hf hfn => by
      obtain rfl : f = 3 := Option.some.inj ((show Tryd.prog.funcNamed "testimony/testimonylaw.EventJudges" = some 3 by kernel_rfl).symm.trans hf) |>.symm
      obtain rfl : fn = Tryd.f3 := (Option.some.inj (Tryd.func3.symm.trans hfn)).symm
      exact ⟨by kernel_rfl, fun j t ht => by
        rw [Tryd.params3] at ht
        have hall : ∀ t ∈ ([22] : List TypeId), Tryd.prog.wantsStandIn t = false := by
          intro t h
          simp only [List.mem_cons, List.not_mem_nil, or_false] at h
          subst h
          kernel_rfl
        refine hall t ?_
        have := Array.mem_of_getElem? ht
        simpa using this⟩)
    (by kernel_rfl)
#print axioms proved
end Go.Proofs.YtdndcccdbaahpaaDoor.lawEventJudges
