/- api.Tell, plain.Place and the laws' 'at' and 'bare' at a nil error and at an Errno: what they answer. -/
import Derived.Test.YtdndcccdbaahpaaDoorAs
import Derived.Lib.Hide
set_option maxRecDepth 100000
namespace Go.Proofs.YtdndcccdbaahpaaDoor
open Go.RowKit Go.Extern.Stop Go.Stop Go.Extern

theorem asWorld_below {w : World} {t : Addr} {c : Int} {B : Nat} (hB : B ≤ t.block) (hw : B ≤ w.heap.size) : Below B w (asWorld w t c) := by
  unfold asWorld
  exact (((((Below.refl B w).alloc hw _).alloc (by simp <;> omega) _).alloc (by simp <;> omega) _).alloc (by simp <;> omega) _).setCell hB _

theorem asWorld_cell {w : World} {t : Addr} {c : Int} {old : Value} (ht : w.cell? t = some old) : (asWorld w t c).cell? t = some (.int .i64 c) := by
  have htl : t.block < w.heap.size := by
    rcases Nat.lt_or_ge t.block w.heap.size with h | h
    · exact h
    · simp [World.cell?, Array.getElem?_eq_none h] at ht
  unfold asWorld
  refine World.cell?_setCell_same' _ _ _ ?_
  rw [World.cell?_alloc_lt _ _ t (by simp <;> omega), World.cell?_alloc_lt _ _ t (by simp <;> omega), World.cell?_alloc_lt _ _ t (by simp <;> omega), World.cell?_alloc_lt _ _ t htl]; simp [ht]

theorem HasErr.alloc {w : World} (h : HasErr w) (o : Obj) : HasErr (w.alloc o) := by
  have hlt : 2 < w.heap.size := by
    rcases Nat.lt_or_ge 2 w.heap.size with h' | h'
    · exact h'
    · simp [HasErr, World.cell?, Array.getElem?_eq_none h'] at h
  unfold HasErr at h ⊢
  rw [World.cell?_alloc_lt _ _ _ hlt]; exact h
theorem HasErr.below {B : Nat} {w w' : World} (h : HasErr w) (hb : Below B w w') (hB : 2 < B) : HasErr w' := by
  unfold HasErr at h ⊢
  rw [hb.cell (p := ⟨2, 0, none⟩) hB]; exact h
theorem HasErr.lt {w : World} (h : HasErr w) : 2 < w.heap.size := by
  rcases Nat.lt_or_ge 2 w.heap.size with h' | h'
  · exact h'
  · simp [HasErr, World.cell?, Array.getElem?_eq_none h'] at h

theorem tell_nil (w : World) : Calls Tryd.prog 70 #[.nilIface] w fun e w' => e = .returned (.int .i64 0) ∧ Below w.heap.size w w' := by
  go_enter Tryd.func70, Tryd.ntmps70
  go_wp2
  go_ret
  exact ⟨rfl, Below.refl _ _⟩

theorem tell_errno (c : Int) (w : World) (hg : HasErr w) : Calls Tryd.prog 70 #[.iface 30 (.int .i64 c)] w fun e w' => e = .returned (.int .i64 c) ∧ Below w.heap.size w w' := by
  have hA := (as_errno c ⟨w.heap.size, 0, none⟩ (.int .i64 0) (w.alloc (.cells #[.int .i64 0] 30)) (hg.alloc _) (by simp) (by simp)).mono (R' := fun ev w' => ev = .returned (.bool true) ∧ w'.cell? ⟨w.heap.size, 0, none⟩ = some (.int .i64 c) ∧ Below w.heap.size w w') (by
    rintro ev w' ⟨rfl, rfl⟩
    exact ⟨rfl, asWorld_cell (old := .int .i64 0) (by simp), ((Below.refl w.heap.size w).alloc (Nat.le_refl _) _).trans (asWorld_below (Nat.le_refl _) (by simp))⟩)
  have HA := Lib.hid hA
  clear hA
  go_enter Tryd.func70, Tryd.ntmps70
  go_wp2_with (go_at_call 76; refine (HA.out).mono ?_; rintro e w' ⟨rfl, hc, hb⟩)
  go_ret
  exact ⟨rfl, by assumption⟩

theorem place_nil (w : World) : Calls Tryd.prog 51 #[.nilIface] w fun e w' => e = .returned (.tuple #[.int .i64 0, .int .i64 (-1)]) ∧ Below w.heap.size w w' := by
  go_enter Tryd.func51, Tryd.ntmps51
  go_wp2_with (go_at_call 70; refine (tell_nil _).mono ?_; rintro e w' ⟨rfl, hb⟩)
  refine wp_loop_rounds 1 ?_
  rw [rounds_succ]
  go_wp2
  go_ret2
  exact ⟨rfl, by assumption⟩

theorem taE_at (c : Int) (w : World) : (Instr.typeAssert (.iface 30 (.int .i64 c)) 28 110 true).run Tryd.prog w = .ok (.tuple #[.pointer none, .bool false]) w := by kernel_rfl
theorem taE_un (c : Int) (w : World) : (Instr.typeAssert (.iface 30 (.int .i64 c)) 28 114 true).run Tryd.prog w = .ok (.tuple #[.nilIface, .bool false]) w := run_typeAssert_lacksB Tryd.underlying114 (by kernel_rfl) (by kernel_rfl) _ _ w
theorem place_errno (c : Int) (w : World) (hg : HasErr w) : Calls Tryd.prog 51 #[.iface 30 (.int .i64 c)] w fun e w' => e = .returned (.tuple #[.int .i64 c, .int .i64 (-1)]) ∧ Below w.heap.size w w' := by
  have t1 := taE_at c
  have t2 := taE_un c
  go_enter Tryd.func51, Tryd.ntmps51
  go_wp2_with (go_at_call 70; refine (tell_errno _ _ hg).mono ?_; rintro e w' ⟨rfl, hb⟩)
  refine wp_loop_rounds 1 ?_
  rw [rounds_succ]
  go_wp2
  go_outline
  go_ret2
  exact ⟨rfl, by assumption⟩

end Go.Proofs.YtdndcccdbaahpaaDoor
