/- api.Tell, plain.Place and the laws' 'at' and 'bare' at any error that the program makes: what they answer. -/
import Derived.Test.YtdndcccdbaahpaaDoorTell
import Derived.Test.YtdndcccdbaahpaaDoorAsAt
import Derived.Deep.QuietTactic
import Derived.BigQuiet
set_option maxRecDepth 100000
namespace Go.Proofs.YtdndcccdbaahpaaDoor
open Go.RowKit Go.Extern.Stop Go.Stop Go.Extern

theorem pw_drewN {B : Nat} {w W : World} (h : Below B w W) (n : Nat) : Below B w (W.drewN n) := ⟨h.os, h.tape, h.output, h.size, h.block⟩

theorem tell_at (a : Addr) (c : Int) (w : World) (hg : HasErr w) (ha : w.cell? a = some (.int .i64 c)) : Calls Tryd.prog 70 #[.iface 110 (.pointer (some a))] w fun e w' => e = .returned (.int .i64 c) ∧ Below w.heap.size w w' := by
  have hal : a.block < w.heap.size := by
    rcases Nat.lt_or_ge a.block w.heap.size with h | h
    · exact h
    · simp [World.cell?, Array.getElem?_eq_none h] at ha
  have hA := (as_at c a ⟨w.heap.size, 0, none⟩ (.int .i64 0) (w.alloc (.cells #[.int .i64 0] 30)) (hg.alloc _) (by rw [World.cell?_alloc_lt _ _ a hal]; exact ha) (by simp) (by simp)).mono (R' := fun ev w' => ev = .returned (.bool true) ∧ w'.cell? ⟨w.heap.size, 0, none⟩ = some (.int .i64 c) ∧ Below w.heap.size w w') (by
    rintro ev w' ⟨rfl, rfl⟩
    exact ⟨rfl, asWorld_cell (old := .int .i64 0) (by simp), ((Below.refl w.heap.size w).alloc (Nat.le_refl _) _).trans (asWorld_below (Nat.le_refl _) (by simp))⟩)
  have HA := Lib.hid hA
  clear hA ha
  go_enter Tryd.func70, Tryd.ntmps70
  go_wp2_with (go_at_call 76; refine (HA.out).mono ?_; rintro e w' ⟨rfl, hc, hb⟩)
  go_ret
  exact ⟨rfl, by assumption⟩

theorem taA_at (a : Addr) (w : World) : (Instr.typeAssert (.iface 110 (.pointer (some a))) 28 110 true).run Tryd.prog w = .ok (.tuple #[.pointer (some a), .bool true]) w := by kernel_rfl

theorem place_at (a : Addr) (c p : Int) (w : World) (hg : HasErr w) (ha : w.cell? a = some (.int .i64 c)) (hp : w.cell? ⟨a.block, a.off + 1, none⟩ = some (.int .i64 p)) : Calls Tryd.prog 51 #[.iface 110 (.pointer (some a))] w fun e w' => e = .returned (.tuple #[.int .i64 c, .int .i64 p]) ∧ Below w.heap.size w w' := by
  have t1 := taA_at a
  have hA := (tell_at a c w hg ha).mono (R' := fun ev w' => ev = .returned (.int .i64 c) ∧ w'.cell? ⟨a.block, a.off + 1, none⟩ = some (.int .i64 p) ∧ Below w.heap.size w w') (by
    rintro ev w' ⟨rfl, hb⟩
    refine ⟨rfl, ?_, hb⟩
    rw [hb.cell (World.block_lt_of_cell? w _ hp)]; exact hp)
  have HA := Lib.hid hA
  clear hA ha hp
  go_enter Tryd.func51, Tryd.ntmps51
  go_wp2_with (go_at_call 70; refine (HA.out).mono ?_; rintro e w' ⟨rfl, hc, hb⟩)
  refine wp_loop_rounds 1 ?_
  rw [rounds_succ]
  go_wp2
  go_quiet (fail)
  go_wp2
  go_ret2
  exact ⟨rfl, pw_drewN (by assumption) _⟩

/-- An error as the program makes them: its Errno and its place. -/
def IsErr (w : World) (v : Value) (c p : Int) : Prop :=
  (v = .nilIface ∧ c = 0 ∧ p = -1) ∨ (v = .iface 30 (.int .i64 c) ∧ p = -1) ∨
  (∃ a, v = .iface 110 (.pointer (some a)) ∧ w.cell? a = some (.int .i64 c) ∧ w.cell? ⟨a.block, a.off + 1, none⟩ = some (.int .i64 p))

theorem IsErr.below {w w' : World} {v : Value} {c p : Int} (h : IsErr w v c p) (hb : Below w.heap.size w w') : IsErr w' v c p := by
  rcases h with h | h | ⟨a, rfl, ha, hp⟩
  · exact .inl h
  · exact .inr (.inl h)
  · exact .inr (.inr ⟨a, rfl, by rw [hb.cell (World.block_lt_of_cell? w _ ha)]; exact ha, by rw [hb.cell (World.block_lt_of_cell? w _ hp)]; exact hp⟩)
theorem IsErr.alloc {w : World} {v : Value} {c p : Int} (h : IsErr w v c p) (o : Obj) : IsErr (w.alloc o) v c p :=
  h.below ((Below.refl w.heap.size w).alloc (Nat.le_refl _) o)

theorem place_any (v : Value) (c p : Int) (w : World) (hg : HasErr w) (h : IsErr w v c p) : Calls Tryd.prog 51 #[v] w fun e w' => e = .returned (.tuple #[.int .i64 c, .int .i64 p]) ∧ Below w.heap.size w w' := by
  rcases h with ⟨rfl, rfl, rfl⟩ | ⟨rfl, rfl⟩ | ⟨a, rfl, ha, hp⟩
  · exact place_nil w
  · exact place_errno c w hg
  · exact place_at a c p w hg ha hp

theorem at_yes (v : Value) (c p : Int) (w : World) (hg : HasErr w) (h : IsErr w v c p) : Calls Tryd.prog 20 #[v, .agg #[.int .i64 c, .int .i64 p]] w fun e w' => e = .returned (.bool true) ∧ Below w.heap.size w w' := by
  have hv : IsErr (w.alloc (.cells #[.int .i64 c, .int .i64 p] 40)) v c p := h.alloc _
  have hA := (place_any v c p _ (hg.alloc _) hv).mono (R' := fun ev w' => ev = .returned (.tuple #[.int .i64 c, .int .i64 p]) ∧ w'.cell? ⟨w.heap.size, 0, none⟩ = some (.int .i64 c) ∧ w'.cell? ⟨w.heap.size, 1, none⟩ = some (.int .i64 p) ∧ Below w.heap.size w w') (by
    rintro ev w' ⟨rfl, hb⟩
    refine ⟨rfl, ?_, ?_, ((Below.refl w.heap.size w).alloc (Nat.le_refl _) _).trans (hb.mono (by simp))⟩
    · rw [hb.cell (p := ⟨w.heap.size, 0, none⟩) (by simp)]; simp
    · rw [hb.cell (p := ⟨w.heap.size, 1, none⟩) (by simp)]; simp)
  have HA := Lib.hid hA
  clear hA hv h
  go_enter Tryd.func20, Tryd.ntmps20
  go_wp2_with (go_at_call 51; refine (HA.out).mono ?_; rintro e w' ⟨rfl, hc, hd, hb⟩)
  go_ret
  exact ⟨rfl, by assumption⟩

theorem bare_yes (v : Value) (c : Int) (w : World) (hg : HasErr w) (h : IsErr w v c (-1)) : Calls Tryd.prog 11 #[v, .int .i64 c] w fun e w' => e = .returned (.bool true) ∧ Below w.heap.size w w' := by
  have HA := Lib.hid h
  clear h
  go_enter Tryd.func11, Tryd.ntmps11
  go_wp2_with (go_at_call 20; refine (at_yes _ _ _ _ hg HA.out).mono ?_; rintro e w' ⟨rfl, hb⟩)
  go_ret
  exact ⟨rfl, by assumption⟩
end Go.Proofs.YtdndcccdbaahpaaDoor
