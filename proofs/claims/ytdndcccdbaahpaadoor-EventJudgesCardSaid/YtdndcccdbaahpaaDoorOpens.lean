/- From what an argument reads as, to what the walk knows of its cells: whole numbers, bools, slices of what can be opened. The variable errors.errorType as the row lists it. -/
import Derived.Test.YtdndcccdbaahpaaDoorRows
import Derived.Test.YtdndcccdbaahpaaDoorBare
import Derived.Test.YtdndcccdbaahpaaDoorWMore
import Derived.ChangeSame
import Derived.ChangeVars
import Derived.JoinedOf
import Derived.RowKit
import Derived.RowKitTokens
import Derived.LaidLaws
import Derived.LaidHandle
import Derived.Stop.Joined
import Derived.Deep.Slices
import Derived.Carry
import Derived.OpenShut
import Derived.SevenTiedAt
set_option maxRecDepth 100000
namespace Go.Proofs.YtdndcccdbaahpaaDoor
open Go.ChangeShapes Go.WideShapes Go.RowKit Go.Proofs.YtdndcccdbaahpaaDoorW.PrintWords

theorem Tryd.own : ownKnob Tryd.prog.godebug = none := by kernel_rfl
theorem Tryd.et : Tryd.prog.globalNamed "errors.errorType" = some 2 := by kernel_rfl
theorem Tryd.rt : (Tryd.prog.cutTypes.find? (·.1 == "internal/reflectlite.rtype")).map (·.2) = some 136 := by kernel_rfl
theorem Tryd.oneRow : ((List.range 177).filter fun t => Tryd.prog.rowNamed t [101, 114, 114, 111, 114]) = [28] := by kernel_rfl
theorem Tryd.size : Tryd.prog.types.size = 177 := by kernel_rfl
theorem Tryd.laidOut : laidOutB Tryd.prog = true := by kernel_rfl

/-- The handle that errors.errorType holds: what the listed variable gives a walk. -/
theorem hasErr_of_handles {hs : List (String × DataW Unit)} {W : World} (h : handlesMet Tryd.prog hs W) (hm : ("errors.errorType", Rows.laid_errors_errorType) ∈ hs) : HasErr W := by
  obtain ⟨name, u, ty, e1, e2, e3, e4, e5⟩ := h _ hm
  have en : name = [101, 114, 114, 111, 114] := (Option.some.inj e1).symm
  subst en
  obtain rfl := Option.some.inj (Tryd.rt.symm.trans e2)
  have hm : ty ∈ (List.range 177).filter fun t => Tryd.prog.rowNamed t [101, 114, 114, 111, 114] := List.mem_filter.2 ⟨List.mem_range.2 (by rw [← Tryd.size]; exact e3), e4⟩
  rw [Tryd.oneRow] at hm
  obtain rfl := List.mem_singleton.1 hm
  have hh : typeHandle Tryd.prog 28 = .pointer (some ⟨3, 28, none⟩) := by kernel_rfl
  rw [hh] at e5
  have e6 := World.var?_cell Tryd.et e5 0
  simpa [HasErr] using e6

/-- What reads at type t is told by the kind K, and is good. -/
def Opens {α : Type} (t : TypeId) (K : Kd α) (good : α → Prop) : Prop :=
  ∀ {H : Type} {enc : TypeId × Value → H} {w : World} {base : Nat} {held : Bool} {fuel : Nat} {cs : List Value} {x : DataW H × List MemPlace},
    DataW.trod enc Tryd.prog w base (fun _ => true) held fuel t cs = some x → ∃ a, K.K w a cs ∧ good a

theorem opens_int {t : TypeId} {k : IntKind} (ht : Tryd.prog.underlying t = some (.int k)) : Opens t (Kd.int k) (fun n => (Lit.int k n).wf = true) := by
  intro H enc w base held fuel cs x h
  obtain ⟨n, h1, _, h3⟩ := DataW.trod_int ht h
  exact ⟨n, h1, h3⟩
theorem opens_bool {t : TypeId} (ht : Tryd.prog.underlying t = some .bool) : Opens t Kd.bool (fun _ => True) := by
  intro H enc w base held fuel cs x h
  obtain ⟨b, h1, _⟩ := DataW.trod_bool ht h
  exact ⟨b, h1, trivial⟩

theorem opens_slice {α : Type} {t e : TypeId} {K : Kd α} {good : α → Prop} (d : α) (ht : Tryd.prog.underlying t = some (.slice e)) (hc : Tryd.prog.cellsOf e = K.sz) (hK : Opens e K good) :
    Opens t (Kd.slice e K) (fun l => ∀ x ∈ l, good x) := by
  intro H enc w base held fuel cs x h
  haveI : Inhabited α := ⟨d⟩
  rcases Deep.open_slice ht h with ⟨rfl, _⟩ | ⟨a, len, cap, m, n, D, Pl, rfl, hb, hl, hm, hmm, _, hx⟩
  · refine ⟨[], ⟨none, 0, rfl, Nat.le_refl _, ?_⟩, fun _ h => by cases h⟩
    obtain ⟨A, c, he, _, h⟩ := Kd.R_reads (Kd.R_nil K 0 w 0 (fun _ => True))
    simp at he
    obtain ⟨rfl, rfl⟩ := he
    exact h
  · have hmm' : m = cap := by simpa using hmm
    have each : ∀ i, i < len → ∃ y : α, ∃ cs', cs'.length = K.sz ∧ K.K w y cs' ∧ good y ∧ ∀ q u, cs'[q]? = some u → w.cell? (a.add (i * K.sz + q)) = some u := by
      intro i hi
      obtain ⟨cs', h1, h2⟩ := hx i (by omega)
      obtain ⟨y, hy, hg⟩ := hK h2
      obtain ⟨_, h3, h4⟩ := World.cells?_some h1
      rw [hc] at h3 h4
      refine ⟨y, cs', h3, hy, hg, fun q u hu => ?_⟩
      have hq : q < K.sz := by rw [← h3]; exact (List.getElem?_eq_some_iff.1 hu).1
      rw [← Deep.add_add, h4 q hq, hu]
    obtain ⟨f, hf⟩ := Deep.choose_lt each
    refine ⟨(List.range len).map f, ⟨some a, cap, by simp, by simpa using hl, ?_⟩, fun y hy => ?_⟩
    · refine ⟨rfl, by simp only [List.length_map, List.length_range]; exact Nat.le_trans hl hm, fun _ => ⟨a, rfl, fun j p hj => ?_⟩⟩
      rw [List.getElem?_map] at hj
      obtain ⟨i, hi, rfl⟩ := Option.map_eq_some_iff.1 hj
      have hji : j = i ∧ j < len := by
        rcases List.getElem?_eq_some_iff.1 hi with ⟨h1, h2⟩
        simp at h1 h2
        exact ⟨h2, h1⟩
      obtain ⟨rfl, hlt⟩ := hji
      obtain ⟨cs', h1, h2, _, h4⟩ := hf j hlt
      exact ⟨cs', h1, h2, h4⟩
    · obtain ⟨i, hi, rfl⟩ := List.mem_map.1 hy
      obtain ⟨_, _, _, hg, _⟩ := hf i (List.mem_range.1 hi)
      exact hg
end Go.Proofs.YtdndcccdbaahpaaDoor
