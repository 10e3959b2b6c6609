-- written by a printer (wip/mkprint.py)
-- slimmed
import Derived.Test.YtdndcccdbaahpaaDoorPAx0
import Derived.Test.YtdndcccdbaahpaaDoorPAxFtestimonyrefBefore
import Derived.Test.YtdndcccdbaahpaaDoorPAxFtestimonyrefsmall
import Derived.Test.YtdndcccdbaahpaaDoorPAxFtestimonyrefOpsCheckD
namespace Go.Proofs.YtdndcccdbaahpaaDoor.PA
open Go.RowKit Go.Proofs.YtdndcccdbaahpaaDoorW.PrintWords Go.Proofs.YtdndcccdbaahpaaDoorW.PrintLast Go.Proofs.YtdndcccdbaahpaaDoorW.PrintMore
attribute [local go_sem] max2_int min2_int max_two min_two max_three min_three max_four min_four   -- for this text's walks alone
set_option linter.unusedVariables false
set_option linter.unusedSimpArgs false

-- A statement, and how what is aimed at follows from it.
structure testimonyref_OpsCheck.Left (Q : Prop) : Prop where
 out : Q
structure testimonyref_OpsCheck.CutAt (G : Prop) where
 Q : Prop
 up : testimonyref_OpsCheck.Left Q → G
-- What is left to walk, as a statement; and the walk up to there.
set_option maxHeartbeats 8000000 in
set_option maxRecDepth 100000 in
noncomputable def testimonyref_OpsCheck.part (k : Nat) (c0 : Nat) (l0 : List (S25)) (r : Int) (w : World) : testimonyref_OpsCheck.CutAt (∀ (A0 : Option Addr) (hr0 : Kd.C k25 w A0 l0.length l0) (hc0 : l0.length ≤ c0) (h : testimonyref_OpsCheck.f k l0 = some r), Calls Tryd.prog 13 #[.slice A0 l0.length c0] w fun e w' => e = .returned (.int .i64 r) ∧ Below w.heap.size w w') := by
 apply testimonyref_OpsCheck.CutAt.mk
 intro hQ A0 hr0 hc0 h
 have hu25 := Tryd.underlying25
 have HR0 := Aside0.mk hr0
 have HC0 := Aside0.mk hc0
 clear hr0 hc0
 have HB := Aside0.mk (Below.refl w.heap.size w)
 have H : (if (l0.length : Int) > 40 then (some 4) else (testimonyref_OpsCheck.l0 k l0 l0 (l0.length : Int) 0)) = some r := h
 clear h
 by_cases c2 : (l0.length : Int) > 40
 ·rw [if_pos c2] at H
  have c2b0 : decide (40 < (l0.length : Int)) = true := decide_eq_true c2
  have c2b1 : decide (40 < l0.length) = true := decide_eq_true (by omega)
  clear c2
  obtain rfl := Option.some.inj H
  go_enter Tryd.func13, Tryd.ntmps13
  go_wp2
  repeat (go_quiet (fail); try go_wp2)
  go_ret
  exact ⟨by first | rfl | (simp [errW_none, errW_some] <;> rfl) | (simp [*, errW_none, errW_some] <;> rfl), by repeat (first | (with_reducible first | exact HB.out | apply below_alloc | apply pw_below_drewN | apply below_drew1) | exact HB.out)⟩
 ·rw [if_neg c2] at H
  have c2b0 : decide (40 < (l0.length : Int)) = false := decide_eq_false c2
  have c2b1 : decide (40 < l0.length) = false := decide_eq_false (by omega)
  clear c2
  have H' := Aside0.mk H
  clear H
  go_enter Tryd.func13, Tryd.ntmps13
  go_wp2
  repeat (go_quiet (fail); try go_wp2)
  go_loopg [14] k (fun kq v14 w' => ∃ (x14_1 : Int), v14 = .int .i64 x14_1 ∧ Aside0 (testimonyref_OpsCheck.l0 kq l0 l0 (l0.length : Int) x14_1 = some r) ∧ Aside0 (kq ≤ k) ∧ Aside0 (Below w.heap.size w w'))
  case atStart => exact ⟨(0), (by first | rfl | (simp; done) | (simp [*]; done)), H', ⟨Nat.le_refl _⟩, ⟨by repeat (first | (with_reducible first | exact HB.out | apply below_alloc | apply pw_below_drewN | apply below_drew1) | exact HB.out)⟩⟩
  case round =>
   clear H'
   (try clear c1); (try clear c2); (try clear c2b0); (try clear c2b1); (try clear p2)
   obtain ⟨x14_1, rfl, HA, HK1, HB⟩ := hrel
   cases gk with
   | zero => exact absurd HA.out (by simp [testimonyref_OpsCheck.l0])
   | succ k1 =>
    have H := HA.out
    clear HA
    simp only [testimonyref_OpsCheck.l0] at H
    by_cases c3 : x14_1 < (l0.length : Int)
    ·rw [if_pos c3] at H
     have c3b0 : decide (x14_1 < (l0.length : Int)) = true := decide_eq_true c3
     clear c3
     by_cases c4 : 0 ≤ x14_1
     ·rw [if_pos c4] at H
      have c4b0 : decide (0 ≤ x14_1) = true := decide_eq_true c4
      clear c4
      by_cases c5 : x14_1 < (l0.length : Int)
      ·rw [if_pos c5] at H
       have c5b0 : decide (x14_1 < (l0.length : Int)) = true := decide_eq_true c5
       clear c5
       have HC6 := Aside0.mk H
       clear H
       have p136 : 0 ≤ (x14_1 : Int) := of_decide_eq_true (by first | (with_reducible assumption) | assumption)
       have q136 : x14_1 < (l0.length : Int) := of_decide_eq_true (by first | (with_reducible assumption) | assumption)
       obtain ⟨ad136, e136, hx136_0, hx136_1, hx136_2, hx136_3, hx136_4, hx136_5, hx136_6, hx136_7⟩ := at_T25 HR0.out x14_1 p136 q136
       cases e136
       replace hx136_0 := (HB.out.cell (World.block_lt_of_cell? w _ hx136_0)).trans hx136_0
       replace hx136_1 := (HB.out.cell (World.block_lt_of_cell? w _ hx136_1)).trans hx136_1
       replace hx136_2 := (HB.out.cell (World.block_lt_of_cell? w _ hx136_2)).trans hx136_2
       replace hx136_3 := (HB.out.cell (World.block_lt_of_cell? w _ hx136_3)).trans hx136_3
       replace hx136_4 := (HB.out.cell (World.block_lt_of_cell? w _ hx136_4)).trans hx136_4
       replace hx136_5 := (HB.out.cell (World.block_lt_of_cell? w _ hx136_5)).trans hx136_5
       replace hx136_6 := (HB.out.cell (World.block_lt_of_cell? w _ hx136_6)).trans hx136_6
       replace hx136_7 := (HB.out.cell (World.block_lt_of_cell? w _ hx136_7)).trans hx136_7
       replace p136 := eq_true p136
       replace q136 := eq_true q136
       go_upto_region 6 with (first | ((with_reducible refine gate_dst (N := 4) rfl ?_); (try (refine gate_guard (by rfl) ?_; dsimp only)); refine box_event ?hg (N := 4) ?hd (cs := #[.int .i64 0, .int .i64 0, .int .i64 0, .int .i64 0, .int .i64 0, .int .i64 0, .int .i64 0, .int .i64 0]) (t := 25) ?hr ?_; (case hd => rfl); (case hg => rfl); (case hr => first | (go_simp; done) | (go_simp; rfl)); intro gb137 hg w7 hbox hb; have n0_ := Aside0.mk (below_step (by repeat (first | (with_reducible first | exact HB.out | apply below_alloc | apply pw_below_drewN | apply below_drew1) | exact HB.out)) hb); have n1_ := Aside0.mk (hbox); have n2_ := Aside0.mk ((by rw [hg]; exact (below_size (by repeat (first | (with_reducible first | exact HB.out | apply below_alloc | apply pw_below_drewN | apply below_drew1) | exact HB.out))) : w.heap.size ≤ gb137)); have n3_ := Aside0.mk ((by rw [hg]; exact (below_size (by repeat (first | (with_reducible first | exact HB.out | apply below_alloc | apply pw_below_drewN | apply below_drew1) | exact HB.out))) : w.heap.size ≤ gb137)); clear HB; have HB := n0_; have BK137 := n1_; have GW137 := n2_; have GE137 := n3_; clear n0_ n1_ n2_ n3_; clear hb hbox hg; have hcz8_0 : w7.cell? ⟨gb137, 0, none⟩ = some (.int .i64 0) := (blk_cell BK137.out 0).trans rfl; have hcz8_1 : w7.cell? ⟨gb137, 1, none⟩ = some (.int .i64 0) := (blk_cell BK137.out 1).trans rfl; have hcz8_2 : w7.cell? ⟨gb137, 2, none⟩ = some (.int .i64 0) := (blk_cell BK137.out 2).trans rfl; have hcz8_3 : w7.cell? ⟨gb137, 3, none⟩ = some (.int .i64 0) := (blk_cell BK137.out 3).trans rfl; have hcz8_4 : w7.cell? ⟨gb137, 4, none⟩ = some (.int .i64 0) := (blk_cell BK137.out 4).trans rfl; have hcz8_5 : w7.cell? ⟨gb137, 5, none⟩ = some (.int .i64 0) := (blk_cell BK137.out 5).trans rfl; have hcz8_6 : w7.cell? ⟨gb137, 6, none⟩ = some (.int .i64 0) := (blk_cell BK137.out 6).trans rfl; have hcz8_7 : w7.cell? ⟨gb137, 7, none⟩ = some (.int .i64 0) := (blk_cell BK137.out 7).trans rfl; have hfz8_0 := blk_frozen BK137.out 0; have hfz8_1 := blk_frozen BK137.out 1; have hfz8_2 := blk_frozen BK137.out 2; have hfz8_3 := blk_frozen BK137.out 3; have hfz8_4 := blk_frozen BK137.out 4; have hfz8_5 := blk_frozen BK137.out 5; have hfz8_6 := blk_frozen BK137.out 6; have hfz8_7 := blk_frozen BK137.out 7))
       repeat (go_quiet (first | ((with_reducible refine gate_dst (N := 4) rfl ?_); (try (refine gate_guard (by rfl) ?_; dsimp only)); refine box_event ?hg (N := 4) ?hd (cs := #[.int .i64 0, .int .i64 0, .int .i64 0, .int .i64 0, .int .i64 0, .int .i64 0, .int .i64 0, .int .i64 0]) (t := 25) ?hr ?_; (case hd => rfl); (case hg => rfl); (case hr => first | (go_simp; done) | (go_simp; rfl)); intro gb137 hg w7 hbox hb; have n0_ := Aside0.mk (below_step (by repeat (first | (with_reducible first | exact HB.out | apply below_alloc | apply pw_below_drewN | apply below_drew1) | exact HB.out)) hb); have n1_ := Aside0.mk (hbox); have n2_ := Aside0.mk ((by rw [hg]; exact (below_size (by repeat (first | (with_reducible first | exact HB.out | apply below_alloc | apply pw_below_drewN | apply below_drew1) | exact HB.out))) : w.heap.size ≤ gb137)); have n3_ := Aside0.mk ((by rw [hg]; exact (below_size (by repeat (first | (with_reducible first | exact HB.out | apply below_alloc | apply pw_below_drewN | apply below_drew1) | exact HB.out))) : w.heap.size ≤ gb137)); clear HB; have HB := n0_; have BK137 := n1_; have GW137 := n2_; have GE137 := n3_; clear n0_ n1_ n2_ n3_; clear hb hbox hg; have hcz8_0 : w7.cell? ⟨gb137, 0, none⟩ = some (.int .i64 0) := (blk_cell BK137.out 0).trans rfl; have hcz8_1 : w7.cell? ⟨gb137, 1, none⟩ = some (.int .i64 0) := (blk_cell BK137.out 1).trans rfl; have hcz8_2 : w7.cell? ⟨gb137, 2, none⟩ = some (.int .i64 0) := (blk_cell BK137.out 2).trans rfl; have hcz8_3 : w7.cell? ⟨gb137, 3, none⟩ = some (.int .i64 0) := (blk_cell BK137.out 3).trans rfl; have hcz8_4 : w7.cell? ⟨gb137, 4, none⟩ = some (.int .i64 0) := (blk_cell BK137.out 4).trans rfl; have hcz8_5 : w7.cell? ⟨gb137, 5, none⟩ = some (.int .i64 0) := (blk_cell BK137.out 5).trans rfl; have hcz8_6 : w7.cell? ⟨gb137, 6, none⟩ = some (.int .i64 0) := (blk_cell BK137.out 6).trans rfl; have hcz8_7 : w7.cell? ⟨gb137, 7, none⟩ = some (.int .i64 0) := (blk_cell BK137.out 7).trans rfl; have hfz8_0 := blk_frozen BK137.out 0; have hfz8_1 := blk_frozen BK137.out 1; have hfz8_2 := blk_frozen BK137.out 2; have hfz8_3 := blk_frozen BK137.out 3; have hfz8_4 := blk_frozen BK137.out 4; have hfz8_5 := blk_frozen BK137.out 5; have hfz8_6 := blk_frozen BK137.out 6; have hfz8_7 := blk_frozen BK137.out 7)); go_upto_region 6 with (first | ((with_reducible refine gate_dst (N := 4) rfl ?_); (try (refine gate_guard (by rfl) ?_; dsimp only)); refine box_event ?hg (N := 4) ?hd (cs := #[.int .i64 0, .int .i64 0, .int .i64 0, .int .i64 0, .int .i64 0, .int .i64 0, .int .i64 0, .int .i64 0]) (t := 25) ?hr ?_; (case hd => rfl); (case hg => rfl); (case hr => first | (go_simp; done) | (go_simp; rfl)); intro gb137 hg w7 hbox hb; have n0_ := Aside0.mk (below_step (by repeat (first | (with_reducible first | exact HB.out | apply below_alloc | apply pw_below_drewN | apply below_drew1) | exact HB.out)) hb); have n1_ := Aside0.mk (hbox); have n2_ := Aside0.mk ((by rw [hg]; exact (below_size (by repeat (first | (with_reducible first | exact HB.out | apply below_alloc | apply pw_below_drewN | apply below_drew1) | exact HB.out))) : w.heap.size ≤ gb137)); have n3_ := Aside0.mk ((by rw [hg]; exact (below_size (by repeat (first | (with_reducible first | exact HB.out | apply below_alloc | apply pw_below_drewN | apply below_drew1) | exact HB.out))) : w.heap.size ≤ gb137)); clear HB; have HB := n0_; have BK137 := n1_; have GW137 := n2_; have GE137 := n3_; clear n0_ n1_ n2_ n3_; clear hb hbox hg; have hcz8_0 : w7.cell? ⟨gb137, 0, none⟩ = some (.int .i64 0) := (blk_cell BK137.out 0).trans rfl; have hcz8_1 : w7.cell? ⟨gb137, 1, none⟩ = some (.int .i64 0) := (blk_cell BK137.out 1).trans rfl; have hcz8_2 : w7.cell? ⟨gb137, 2, none⟩ = some (.int .i64 0) := (blk_cell BK137.out 2).trans rfl; have hcz8_3 : w7.cell? ⟨gb137, 3, none⟩ = some (.int .i64 0) := (blk_cell BK137.out 3).trans rfl; have hcz8_4 : w7.cell? ⟨gb137, 4, none⟩ = some (.int .i64 0) := (blk_cell BK137.out 4).trans rfl; have hcz8_5 : w7.cell? ⟨gb137, 5, none⟩ = some (.int .i64 0) := (blk_cell BK137.out 5).trans rfl; have hcz8_6 : w7.cell? ⟨gb137, 6, none⟩ = some (.int .i64 0) := (blk_cell BK137.out 6).trans rfl; have hcz8_7 : w7.cell? ⟨gb137, 7, none⟩ = some (.int .i64 0) := (blk_cell BK137.out 7).trans rfl; have hfz8_0 := blk_frozen BK137.out 0; have hfz8_1 := blk_frozen BK137.out 1; have hfz8_2 := blk_frozen BK137.out 2; have hfz8_3 := blk_frozen BK137.out 3; have hfz8_4 := blk_frozen BK137.out 4; have hfz8_5 := blk_frozen BK137.out 5; have hfz8_6 := blk_frozen BK137.out 6; have hfz8_7 := blk_frozen BK137.out 7)))
       (try simp only [Act.put, List.setIfInBounds_toArray, List.set_cons_zero, List.set_cons_succ])
       go_cut [51] (fun v51 wc => ∃ (kq : Nat) (x51_5 : Bool), v51 = .bool x51_5 ∧ Aside0 (testimonyref_OpsCheck.j1 kq l0 x14_1 l0 (l0.length : Int) x14_1 x51_5 ((rd_T25 l0 x14_1).f0) ((rd_T25 l0 x14_1).f1) ((rd_T25 l0 x14_1).f2) ((rd_T25 l0 x14_1).f3) ((rd_T25 l0 x14_1).f4) ((rd_T25 l0 x14_1).f5) ((rd_T25 l0 x14_1).f6) ((rd_T25 l0 x14_1).f7) = some r) ∧ Aside0 (kq ≤ k1) ∧ Aside0 (wc.heap[gb137]? = some (.cells #[.int .i64 ((rd_T25 l0 x14_1).f0), .int .i64 ((rd_T25 l0 x14_1).f1), .int .i64 ((rd_T25 l0 x14_1).f2), .int .i64 ((rd_T25 l0 x14_1).f3), .int .i64 ((rd_T25 l0 x14_1).f4), .int .i64 ((rd_T25 l0 x14_1).f5), .int .i64 ((rd_T25 l0 x14_1).f6), .int .i64 ((rd_T25 l0 x14_1).f7)] 25 (0, 0))) ∧ Aside0 (Below w.heap.size w wc))
       case first =>
        have H := HC6.out
        clear HC6
        by_cases c9 : ((rd_T25 l0 x14_1).f0) < 0
        ·rw [if_pos c9] at H
         have c9b0 : decide (((rd_T25 l0 x14_1).f0) < 0) = true := decide_eq_true c9
         clear c9
         (first | rw [c9b0] | (simp only [i64_w, i32_w]; rw [c9b0]) | skip)
         have H' := Aside0.mk H
         clear H
         have hcz10_0 : w7.cell? ⟨gb137, 0, none⟩ = some (.int .i64 0) := (blk_cell BK137.out 0).trans rfl
         have hcz10_1 : w7.cell? ⟨gb137, 1, none⟩ = some (.int .i64 0) := (blk_cell BK137.out 1).trans rfl
         have hcz10_2 : w7.cell? ⟨gb137, 2, none⟩ = some (.int .i64 0) := (blk_cell BK137.out 2).trans rfl
         have hcz10_3 : w7.cell? ⟨gb137, 3, none⟩ = some (.int .i64 0) := (blk_cell BK137.out 3).trans rfl
         have hcz10_4 : w7.cell? ⟨gb137, 4, none⟩ = some (.int .i64 0) := (blk_cell BK137.out 4).trans rfl
         have hcz10_5 : w7.cell? ⟨gb137, 5, none⟩ = some (.int .i64 0) := (blk_cell BK137.out 5).trans rfl
         have hcz10_6 : w7.cell? ⟨gb137, 6, none⟩ = some (.int .i64 0) := (blk_cell BK137.out 6).trans rfl
         have hcz10_7 : w7.cell? ⟨gb137, 7, none⟩ = some (.int .i64 0) := (blk_cell BK137.out 7).trans rfl
         have hfz10_0 := blk_frozen BK137.out 0
         have hfz10_1 := blk_frozen BK137.out 1
         have hfz10_2 := blk_frozen BK137.out 2
         have hfz10_3 := blk_frozen BK137.out 3
         have hfz10_4 := blk_frozen BK137.out 4
         have hfz10_5 := blk_frozen BK137.out 5
         have hfz10_6 := blk_frozen BK137.out 6
         have hfz10_7 := blk_frozen BK137.out 7
         go_wp2
         repeat (go_quiet (fail); try go_wp2)
         go_meet
         case rel => exact ⟨_, (true), (by first | rfl | (simp; done) | (simp [*]; done)), H', ⟨by have := HK1.out; first | omega | exact Nat.le_refl _⟩, ⟨by (with_reducible repeat (first | refine blk_drewN ?_ _ | refine blk_drew ?_ | refine blk_alloc ?_ _)); refine blk_put (cs := #[.int .i64 ((rd_T25 l0 x14_1).f0), .int .i64 ((rd_T25 l0 x14_1).f1), .int .i64 ((rd_T25 l0 x14_1).f2), .int .i64 ((rd_T25 l0 x14_1).f3), .int .i64 ((rd_T25 l0 x14_1).f4), .int .i64 ((rd_T25 l0 x14_1).f5), .int .i64 ((rd_T25 l0 x14_1).f6), .int .i64 0]) ?_ 7 _ rfl; (with_reducible repeat (first | refine blk_drewN ?_ _ | refine blk_drew ?_ | refine blk_alloc ?_ _)); refine blk_put (cs := #[.int .i64 ((rd_T25 l0 x14_1).f0), .int .i64 ((rd_T25 l0 x14_1).f1), .int .i64 ((rd_T25 l0 x14_1).f2), .int .i64 ((rd_T25 l0 x14_1).f3), .int .i64 ((rd_T25 l0 x14_1).f4), .int .i64 ((rd_T25 l0 x14_1).f5), .int .i64 0, .int .i64 0]) ?_ 6 _ rfl; (with_reducible repeat (first | refine blk_drewN ?_ _ | refine blk_drew ?_ | refine blk_alloc ?_ _)); refine blk_put (cs := #[.int .i64 ((rd_T25 l0 x14_1).f0), .int .i64 ((rd_T25 l0 x14_1).f1), .int .i64 ((rd_T25 l0 x14_1).f2), .int .i64 ((rd_T25 l0 x14_1).f3), .int .i64 ((rd_T25 l0 x14_1).f4), .int .i64 0, .int .i64 0, .int .i64 0]) ?_ 5 _ rfl; (with_reducible repeat (first | refine blk_drewN ?_ _ | refine blk_drew ?_ | refine blk_alloc ?_ _)); refine blk_put (cs := #[.int .i64 ((rd_T25 l0 x14_1).f0), .int .i64 ((rd_T25 l0 x14_1).f1), .int .i64 ((rd_T25 l0 x14_1).f2), .int .i64 ((rd_T25 l0 x14_1).f3), .int .i64 0, .int .i64 0, .int .i64 0, .int .i64 0]) ?_ 4 _ rfl; (with_reducible repeat (first | refine blk_drewN ?_ _ | refine blk_drew ?_ | refine blk_alloc ?_ _)); refine blk_put (cs := #[.int .i64 ((rd_T25 l0 x14_1).f0), .int .i64 ((rd_T25 l0 x14_1).f1), .int .i64 ((rd_T25 l0 x14_1).f2), .int .i64 0, .int .i64 0, .int .i64 0, .int .i64 0, .int .i64 0]) ?_ 3 _ rfl; (with_reducible repeat (first | refine blk_drewN ?_ _ | refine blk_drew ?_ | refine blk_alloc ?_ _)); refine blk_put (cs := #[.int .i64 ((rd_T25 l0 x14_1).f0), .int .i64 ((rd_T25 l0 x14_1).f1), .int .i64 0, .int .i64 0, .int .i64 0, .int .i64 0, .int .i64 0, .int .i64 0]) ?_ 2 _ rfl; (with_reducible repeat (first | refine blk_drewN ?_ _ | refine blk_drew ?_ | refine blk_alloc ?_ _)); refine blk_put (cs := #[.int .i64 ((rd_T25 l0 x14_1).f0), .int .i64 0, .int .i64 0, .int .i64 0, .int .i64 0, .int .i64 0, .int .i64 0, .int .i64 0]) ?_ 1 _ rfl; (with_reducible repeat (first | refine blk_drewN ?_ _ | refine blk_drew ?_ | refine blk_alloc ?_ _)); refine blk_put (cs := #[.int .i64 0, .int .i64 0, .int .i64 0, .int .i64 0, .int .i64 0, .int .i64 0, .int .i64 0, .int .i64 0]) ?_ 0 _ rfl; (with_reducible repeat (first | refine blk_drewN ?_ _ | refine blk_drew ?_ | refine blk_alloc ?_ _)); exact BK137.out⟩, ⟨by repeat (first | (with_reducible first | exact HB.out | apply below_alloc | apply pw_below_drewN | apply below_drew1 | refine below_set ?_ GE137.out) | exact HB.out)⟩⟩
        ·rw [if_neg c9] at H
         have c9b0 : decide (((rd_T25 l0 x14_1).f0) < 0) = false := decide_eq_false c9
         clear c9
         (first | rw [c9b0] | (simp only [i64_w, i32_w]; rw [c9b0]) | skip)
         by_cases c11 : ((rd_T25 l0 x14_1).f0) > 7
         ·rw [if_pos c11] at H
          have c11b0 : decide (7 < ((rd_T25 l0 x14_1).f0)) = true := decide_eq_true c11
          clear c11
          have H' := Aside0.mk H
          clear H
          have hcz12_0 : w7.cell? ⟨gb137, 0, none⟩ = some (.int .i64 0) := (blk_cell BK137.out 0).trans rfl
          have hcz12_1 : w7.cell? ⟨gb137, 1, none⟩ = some (.int .i64 0) := (blk_cell BK137.out 1).trans rfl
          have hcz12_2 : w7.cell? ⟨gb137, 2, none⟩ = some (.int .i64 0) := (blk_cell BK137.out 2).trans rfl
          have hcz12_3 : w7.cell? ⟨gb137, 3, none⟩ = some (.int .i64 0) := (blk_cell BK137.out 3).trans rfl
          have hcz12_4 : w7.cell? ⟨gb137, 4, none⟩ = some (.int .i64 0) := (blk_cell BK137.out 4).trans rfl
          have hcz12_5 : w7.cell? ⟨gb137, 5, none⟩ = some (.int .i64 0) := (blk_cell BK137.out 5).trans rfl
          have hcz12_6 : w7.cell? ⟨gb137, 6, none⟩ = some (.int .i64 0) := (blk_cell BK137.out 6).trans rfl
          have hcz12_7 : w7.cell? ⟨gb137, 7, none⟩ = some (.int .i64 0) := (blk_cell BK137.out 7).trans rfl
          have hfz12_0 := blk_frozen BK137.out 0
          have hfz12_1 := blk_frozen BK137.out 1
          have hfz12_2 := blk_frozen BK137.out 2
          have hfz12_3 := blk_frozen BK137.out 3
          have hfz12_4 := blk_frozen BK137.out 4
          have hfz12_5 := blk_frozen BK137.out 5
          have hfz12_6 := blk_frozen BK137.out 6
          have hfz12_7 := blk_frozen BK137.out 7
          go_wp2
          repeat (go_quiet (fail); try go_wp2)
          go_meet
          case rel => exact ⟨_, (true), (by first | rfl | (simp; done) | (simp [*]; done)), H', ⟨by have := HK1.out; first | omega | exact Nat.le_refl _⟩, ⟨by (with_reducible repeat (first | refine blk_drewN ?_ _ | refine blk_drew ?_ | refine blk_alloc ?_ _)); refine blk_put (cs := #[.int .i64 ((rd_T25 l0 x14_1).f0), .int .i64 ((rd_T25 l0 x14_1).f1), .int .i64 ((rd_T25 l0 x14_1).f2), .int .i64 ((rd_T25 l0 x14_1).f3), .int .i64 ((rd_T25 l0 x14_1).f4), .int .i64 ((rd_T25 l0 x14_1).f5), .int .i64 ((rd_T25 l0 x14_1).f6), .int .i64 0]) ?_ 7 _ rfl; (with_reducible repeat (first | refine blk_drewN ?_ _ | refine blk_drew ?_ | refine blk_alloc ?_ _)); refine blk_put (cs := #[.int .i64 ((rd_T25 l0 x14_1).f0), .int .i64 ((rd_T25 l0 x14_1).f1), .int .i64 ((rd_T25 l0 x14_1).f2), .int .i64 ((rd_T25 l0 x14_1).f3), .int .i64 ((rd_T25 l0 x14_1).f4), .int .i64 ((rd_T25 l0 x14_1).f5), .int .i64 0, .int .i64 0]) ?_ 6 _ rfl; (with_reducible repeat (first | refine blk_drewN ?_ _ | refine blk_drew ?_ | refine blk_alloc ?_ _)); refine blk_put (cs := #[.int .i64 ((rd_T25 l0 x14_1).f0), .int .i64 ((rd_T25 l0 x14_1).f1), .int .i64 ((rd_T25 l0 x14_1).f2), .int .i64 ((rd_T25 l0 x14_1).f3), .int .i64 ((rd_T25 l0 x14_1).f4), .int .i64 0, .int .i64 0, .int .i64 0]) ?_ 5 _ rfl; (with_reducible repeat (first | refine blk_drewN ?_ _ | refine blk_drew ?_ | refine blk_alloc ?_ _)); refine blk_put (cs := #[.int .i64 ((rd_T25 l0 x14_1).f0), .int .i64 ((rd_T25 l0 x14_1).f1), .int .i64 ((rd_T25 l0 x14_1).f2), .int .i64 ((rd_T25 l0 x14_1).f3), .int .i64 0, .int .i64 0, .int .i64 0, .int .i64 0]) ?_ 4 _ rfl; (with_reducible repeat (first | refine blk_drewN ?_ _ | refine blk_drew ?_ | refine blk_alloc ?_ _)); refine blk_put (cs := #[.int .i64 ((rd_T25 l0 x14_1).f0), .int .i64 ((rd_T25 l0 x14_1).f1), .int .i64 ((rd_T25 l0 x14_1).f2), .int .i64 0, .int .i64 0, .int .i64 0, .int .i64 0, .int .i64 0]) ?_ 3 _ rfl; (with_reducible repeat (first | refine blk_drewN ?_ _ | refine blk_drew ?_ | refine blk_alloc ?_ _)); refine blk_put (cs := #[.int .i64 ((rd_T25 l0 x14_1).f0), .int .i64 ((rd_T25 l0 x14_1).f1), .int .i64 0, .int .i64 0, .int .i64 0, .int .i64 0, .int .i64 0, .int .i64 0]) ?_ 2 _ rfl; (with_reducible repeat (first | refine blk_drewN ?_ _ | refine blk_drew ?_ | refine blk_alloc ?_ _)); refine blk_put (cs := #[.int .i64 ((rd_T25 l0 x14_1).f0), .int .i64 0, .int .i64 0, .int .i64 0, .int .i64 0, .int .i64 0, .int .i64 0, .int .i64 0]) ?_ 1 _ rfl; (with_reducible repeat (first | refine blk_drewN ?_ _ | refine blk_drew ?_ | refine blk_alloc ?_ _)); refine blk_put (cs := #[.int .i64 0, .int .i64 0, .int .i64 0, .int .i64 0, .int .i64 0, .int .i64 0, .int .i64 0, .int .i64 0]) ?_ 0 _ rfl; (with_reducible repeat (first | refine blk_drewN ?_ _ | refine blk_drew ?_ | refine blk_alloc ?_ _)); exact BK137.out⟩, ⟨by repeat (first | (with_reducible first | exact HB.out | apply below_alloc | apply pw_below_drewN | apply below_drew1 | refine below_set ?_ GE137.out) | exact HB.out)⟩⟩
         ·rw [if_neg c11] at H
          have c11b0 : decide (7 < ((rd_T25 l0 x14_1).f0)) = false := decide_eq_false c11
          clear c11
          by_cases c13 : ((rd_T25 l0 x14_1).f1) < 0
          ·rw [if_pos c13] at H
           have c13b0 : decide (((rd_T25 l0 x14_1).f1) < 0) = true := decide_eq_true c13
           clear c13
           have H' := Aside0.mk H
           clear H
           have hcz14_0 : w7.cell? ⟨gb137, 0, none⟩ = some (.int .i64 0) := (blk_cell BK137.out 0).trans rfl
           have hcz14_1 : w7.cell? ⟨gb137, 1, none⟩ = some (.int .i64 0) := (blk_cell BK137.out 1).trans rfl
           have hcz14_2 : w7.cell? ⟨gb137, 2, none⟩ = some (.int .i64 0) := (blk_cell BK137.out 2).trans rfl
           have hcz14_3 : w7.cell? ⟨gb137, 3, none⟩ = some (.int .i64 0) := (blk_cell BK137.out 3).trans rfl
           have hcz14_4 : w7.cell? ⟨gb137, 4, none⟩ = some (.int .i64 0) := (blk_cell BK137.out 4).trans rfl
           have hcz14_5 : w7.cell? ⟨gb137, 5, none⟩ = some (.int .i64 0) := (blk_cell BK137.out 5).trans rfl
           have hcz14_6 : w7.cell? ⟨gb137, 6, none⟩ = some (.int .i64 0) := (blk_cell BK137.out 6).trans rfl
           have hcz14_7 : w7.cell? ⟨gb137, 7, none⟩ = some (.int .i64 0) := (blk_cell BK137.out 7).trans rfl
           have hfz14_0 := blk_frozen BK137.out 0
           have hfz14_1 := blk_frozen BK137.out 1
           have hfz14_2 := blk_frozen BK137.out 2
           have hfz14_3 := blk_frozen BK137.out 3
           have hfz14_4 := blk_frozen BK137.out 4
           have hfz14_5 := blk_frozen BK137.out 5
           have hfz14_6 := blk_frozen BK137.out 6
           have hfz14_7 := blk_frozen BK137.out 7
           go_wp2
           repeat (go_quiet (fail); try go_wp2)
           go_meet
           case rel => exact ⟨_, (true), (by first | rfl | (simp; done) | (simp [*]; done)), H', ⟨by have := HK1.out; first | omega | exact Nat.le_refl _⟩, ⟨by (with_reducible repeat (first | refine blk_drewN ?_ _ | refine blk_drew ?_ | refine blk_alloc ?_ _)); refine blk_put (cs := #[.int .i64 ((rd_T25 l0 x14_1).f0), .int .i64 ((rd_T25 l0 x14_1).f1), .int .i64 ((rd_T25 l0 x14_1).f2), .int .i64 ((rd_T25 l0 x14_1).f3), .int .i64 ((rd_T25 l0 x14_1).f4), .int .i64 ((rd_T25 l0 x14_1).f5), .int .i64 ((rd_T25 l0 x14_1).f6), .int .i64 0]) ?_ 7 _ rfl; (with_reducible repeat (first | refine blk_drewN ?_ _ | refine blk_drew ?_ | refine blk_alloc ?_ _)); refine blk_put (cs := #[.int .i64 ((rd_T25 l0 x14_1).f0), .int .i64 ((rd_T25 l0 x14_1).f1), .int .i64 ((rd_T25 l0 x14_1).f2), .int .i64 ((rd_T25 l0 x14_1).f3), .int .i64 ((rd_T25 l0 x14_1).f4), .int .i64 ((rd_T25 l0 x14_1).f5), .int .i64 0, .int .i64 0]) ?_ 6 _ rfl; (with_reducible repeat (first | refine blk_drewN ?_ _ | refine blk_drew ?_ | refine blk_alloc ?_ _)); refine blk_put (cs := #[.int .i64 ((rd_T25 l0 x14_1).f0), .int .i64 ((rd_T25 l0 x14_1).f1), .int .i64 ((rd_T25 l0 x14_1).f2), .int .i64 ((rd_T25 l0 x14_1).f3), .int .i64 ((rd_T25 l0 x14_1).f4), .int .i64 0, .int .i64 0, .int .i64 0]) ?_ 5 _ rfl; (with_reducible repeat (first | refine blk_drewN ?_ _ | refine blk_drew ?_ | refine blk_alloc ?_ _)); refine blk_put (cs := #[.int .i64 ((rd_T25 l0 x14_1).f0), .int .i64 ((rd_T25 l0 x14_1).f1), .int .i64 ((rd_T25 l0 x14_1).f2), .int .i64 ((rd_T25 l0 x14_1).f3), .int .i64 0, .int .i64 0, .int .i64 0, .int .i64 0]) ?_ 4 _ rfl; (with_reducible repeat (first | refine blk_drewN ?_ _ | refine blk_drew ?_ | refine blk_alloc ?_ _)); refine blk_put (cs := #[.int .i64 ((rd_T25 l0 x14_1).f0), .int .i64 ((rd_T25 l0 x14_1).f1), .int .i64 ((rd_T25 l0 x14_1).f2), .int .i64 0, .int .i64 0, .int .i64 0, .int .i64 0, .int .i64 0]) ?_ 3 _ rfl; (with_reducible repeat (first | refine blk_drewN ?_ _ | refine blk_drew ?_ | refine blk_alloc ?_ _)); refine blk_put (cs := #[.int .i64 ((rd_T25 l0 x14_1).f0), .int .i64 ((rd_T25 l0 x14_1).f1), .int .i64 0, .int .i64 0, .int .i64 0, .int .i64 0, .int .i64 0, .int .i64 0]) ?_ 2 _ rfl; (with_reducible repeat (first | refine blk_drewN ?_ _ | refine blk_drew ?_ | refine blk_alloc ?_ _)); refine blk_put (cs := #[.int .i64 ((rd_T25 l0 x14_1).f0), .int .i64 0, .int .i64 0, .int .i64 0, .int .i64 0, .int .i64 0, .int .i64 0, .int .i64 0]) ?_ 1 _ rfl; (with_reducible repeat (first | refine blk_drewN ?_ _ | refine blk_drew ?_ | refine blk_alloc ?_ _)); refine blk_put (cs := #[.int .i64 0, .int .i64 0, .int .i64 0, .int .i64 0, .int .i64 0, .int .i64 0, .int .i64 0, .int .i64 0]) ?_ 0 _ rfl; (with_reducible repeat (first | refine blk_drewN ?_ _ | refine blk_drew ?_ | refine blk_alloc ?_ _)); exact BK137.out⟩, ⟨by repeat (first | (with_reducible first | exact HB.out | apply below_alloc | apply pw_below_drewN | apply below_drew1 | refine below_set ?_ GE137.out) | exact HB.out)⟩⟩
          ·rw [if_neg c13] at H
           have c13b0 : decide (((rd_T25 l0 x14_1).f1) < 0) = false := decide_eq_false c13
           clear c13
           by_cases c15 : ((rd_T25 l0 x14_1).f1) > 7
           ·rw [if_pos c15] at H
            have c15b0 : decide (7 < ((rd_T25 l0 x14_1).f1)) = true := decide_eq_true c15
            clear c15
            have H' := Aside0.mk H
            clear H
            have hcz16_0 : w7.cell? ⟨gb137, 0, none⟩ = some (.int .i64 0) := (blk_cell BK137.out 0).trans rfl
            have hcz16_1 : w7.cell? ⟨gb137, 1, none⟩ = some (.int .i64 0) := (blk_cell BK137.out 1).trans rfl
            have hcz16_2 : w7.cell? ⟨gb137, 2, none⟩ = some (.int .i64 0) := (blk_cell BK137.out 2).trans rfl
            have hcz16_3 : w7.cell? ⟨gb137, 3, none⟩ = some (.int .i64 0) := (blk_cell BK137.out 3).trans rfl
            have hcz16_4 : w7.cell? ⟨gb137, 4, none⟩ = some (.int .i64 0) := (blk_cell BK137.out 4).trans rfl
            have hcz16_5 : w7.cell? ⟨gb137, 5, none⟩ = some (.int .i64 0) := (blk_cell BK137.out 5).trans rfl
            have hcz16_6 : w7.cell? ⟨gb137, 6, none⟩ = some (.int .i64 0) := (blk_cell BK137.out 6).trans rfl
            have hcz16_7 : w7.cell? ⟨gb137, 7, none⟩ = some (.int .i64 0) := (blk_cell BK137.out 7).trans rfl
            have hfz16_0 := blk_frozen BK137.out 0
            have hfz16_1 := blk_frozen BK137.out 1
            have hfz16_2 := blk_frozen BK137.out 2
            have hfz16_3 := blk_frozen BK137.out 3
            have hfz16_4 := blk_frozen BK137.out 4
            have hfz16_5 := blk_frozen BK137.out 5
            have hfz16_6 := blk_frozen BK137.out 6
            have hfz16_7 := blk_frozen BK137.out 7
            go_wp2
            repeat (go_quiet (fail); try go_wp2)
            go_meet
            case rel => exact ⟨_, (true), (by first | rfl | (simp; done) | (simp [*]; done)), H', ⟨by have := HK1.out; first | omega | exact Nat.le_refl _⟩, ⟨by (with_reducible repeat (first | refine blk_drewN ?_ _ | refine blk_drew ?_ | refine blk_alloc ?_ _)); refine blk_put (cs := #[.int .i64 ((rd_T25 l0 x14_1).f0), .int .i64 ((rd_T25 l0 x14_1).f1), .int .i64 ((rd_T25 l0 x14_1).f2), .int .i64 ((rd_T25 l0 x14_1).f3), .int .i64 ((rd_T25 l0 x14_1).f4), .int .i64 ((rd_T25 l0 x14_1).f5), .int .i64 ((rd_T25 l0 x14_1).f6), .int .i64 0]) ?_ 7 _ rfl; (with_reducible repeat (first | refine blk_drewN ?_ _ | refine blk_drew ?_ | refine blk_alloc ?_ _)); refine blk_put (cs := #[.int .i64 ((rd_T25 l0 x14_1).f0), .int .i64 ((rd_T25 l0 x14_1).f1), .int .i64 ((rd_T25 l0 x14_1).f2), .int .i64 ((rd_T25 l0 x14_1).f3), .int .i64 ((rd_T25 l0 x14_1).f4), .int .i64 ((rd_T25 l0 x14_1).f5), .int .i64 0, .int .i64 0]) ?_ 6 _ rfl; (with_reducible repeat (first | refine blk_drewN ?_ _ | refine blk_drew ?_ | refine blk_alloc ?_ _)); refine blk_put (cs := #[.int .i64 ((rd_T25 l0 x14_1).f0), .int .i64 ((rd_T25 l0 x14_1).f1), .int .i64 ((rd_T25 l0 x14_1).f2), .int .i64 ((rd_T25 l0 x14_1).f3), .int .i64 ((rd_T25 l0 x14_1).f4), .int .i64 0, .int .i64 0, .int .i64 0]) ?_ 5 _ rfl; (with_reducible repeat (first | refine blk_drewN ?_ _ | refine blk_drew ?_ | refine blk_alloc ?_ _)); refine blk_put (cs := #[.int .i64 ((rd_T25 l0 x14_1).f0), .int .i64 ((rd_T25 l0 x14_1).f1), .int .i64 ((rd_T25 l0 x14_1).f2), .int .i64 ((rd_T25 l0 x14_1).f3), .int .i64 0, .int .i64 0, .int .i64 0, .int .i64 0]) ?_ 4 _ rfl; (with_reducible repeat (first | refine blk_drewN ?_ _ | refine blk_drew ?_ | refine blk_alloc ?_ _)); refine blk_put (cs := #[.int .i64 ((rd_T25 l0 x14_1).f0), .int .i64 ((rd_T25 l0 x14_1).f1), .int .i64 ((rd_T25 l0 x14_1).f2), .int .i64 0, .int .i64 0, .int .i64 0, .int .i64 0, .int .i64 0]) ?_ 3 _ rfl; (with_reducible repeat (first | refine blk_drewN ?_ _ | refine blk_drew ?_ | refine blk_alloc ?_ _)); refine blk_put (cs := #[.int .i64 ((rd_T25 l0 x14_1).f0), .int .i64 ((rd_T25 l0 x14_1).f1), .int .i64 0, .int .i64 0, .int .i64 0, .int .i64 0, .int .i64 0, .int .i64 0]) ?_ 2 _ rfl; (with_reducible repeat (first | refine blk_drewN ?_ _ | refine blk_drew ?_ | refine blk_alloc ?_ _)); refine blk_put (cs := #[.int .i64 ((rd_T25 l0 x14_1).f0), .int .i64 0, .int .i64 0, .int .i64 0, .int .i64 0, .int .i64 0, .int .i64 0, .int .i64 0]) ?_ 1 _ rfl; (with_reducible repeat (first | refine blk_drewN ?_ _ | refine blk_drew ?_ | refine blk_alloc ?_ _)); refine blk_put (cs := #[.int .i64 0, .int .i64 0, .int .i64 0, .int .i64 0, .int .i64 0, .int .i64 0, .int .i64 0, .int .i64 0]) ?_ 0 _ rfl; (with_reducible repeat (first | refine blk_drewN ?_ _ | refine blk_drew ?_ | refine blk_alloc ?_ _)); exact BK137.out⟩, ⟨by repeat (first | (with_reducible first | exact HB.out | apply below_alloc | apply pw_below_drewN | apply below_drew1 | refine below_set ?_ GE137.out) | exact HB.out)⟩⟩
           ·rw [if_neg c15] at H
            have c15b0 : decide (7 < ((rd_T25 l0 x14_1).f1)) = false := decide_eq_false c15
            clear c15
            obtain ⟨y138, hy138⟩ : ∃ y_ : List Int, y_ = (([(rd_T25 l0 x14_1).f3, (rd_T25 l0 x14_1).f4, (rd_T25 l0 x14_1).f5, (rd_T25 l0 x14_1).f6, (rd_T25 l0 x14_1).f7] : List Int)) := ⟨_, rfl⟩
            replace H : ((testimonyref_small.f k1 y138).bind fun t141 => (testimonyref_OpsCheck.j1 k1 l0 x14_1 l0 (l0.length : Int) x14_1 (!t141) ((rd_T25 l0 x14_1).f0) ((rd_T25 l0 x14_1).f1) ((rd_T25 l0 x14_1).f2) ((rd_T25 l0 x14_1).f3) ((rd_T25 l0 x14_1).f4) ((rd_T25 l0 x14_1).f5) ((rd_T25 l0 x14_1).f6) ((rd_T25 l0 x14_1).f7))) = some r := by first | (rw [hy138]; with_reducible exact H) | (have H2_ := (Option.bind_some _ _).symm.trans H; rw [hy138]; with_reducible exact H2_) | (have H2_ := (Option.bind_some _ _).symm.trans H; with_reducible exact H2_) | with_reducible exact H | (rw [hy138]; exact H) | exact H
            have Ny138 := Aside0.mk hy138
            clear hy138
            replace H := Option.bind_eq_some_iff.mp H
            obtain ⟨t141, A170, H⟩ := H
            replace H : (testimonyref_OpsCheck.j1 k1 l0 x14_1 l0 (l0.length : Int) x14_1 (!t141) ((rd_T25 l0 x14_1).f0) ((rd_T25 l0 x14_1).f1) ((rd_T25 l0 x14_1).f2) ((rd_T25 l0 x14_1).f3) ((rd_T25 l0 x14_1).f4) ((rd_T25 l0 x14_1).f5) ((rd_T25 l0 x14_1).f6) ((rd_T25 l0 x14_1).f7)) = some r := H
            have A17 := Aside0.mk A170
            clear A170
            have H' := Aside0.mk H
            clear H
            have hcz18_0 : w7.cell? ⟨gb137, 0, none⟩ = some (.int .i64 0) := (blk_cell BK137.out 0).trans rfl
            have hcz18_1 : w7.cell? ⟨gb137, 1, none⟩ = some (.int .i64 0) := (blk_cell BK137.out 1).trans rfl
            have hcz18_2 : w7.cell? ⟨gb137, 2, none⟩ = some (.int .i64 0) := (blk_cell BK137.out 2).trans rfl
            have hcz18_3 : w7.cell? ⟨gb137, 3, none⟩ = some (.int .i64 0) := (blk_cell BK137.out 3).trans rfl
            have hcz18_4 : w7.cell? ⟨gb137, 4, none⟩ = some (.int .i64 0) := (blk_cell BK137.out 4).trans rfl
            have hcz18_5 : w7.cell? ⟨gb137, 5, none⟩ = some (.int .i64 0) := (blk_cell BK137.out 5).trans rfl
            have hcz18_6 : w7.cell? ⟨gb137, 6, none⟩ = some (.int .i64 0) := (blk_cell BK137.out 6).trans rfl
            have hcz18_7 : w7.cell? ⟨gb137, 7, none⟩ = some (.int .i64 0) := (blk_cell BK137.out 7).trans rfl
            have hfz18_0 := blk_frozen BK137.out 0
            have hfz18_1 := blk_frozen BK137.out 1
            have hfz18_2 := blk_frozen BK137.out 2
            have hfz18_3 := blk_frozen BK137.out 3
            have hfz18_4 := blk_frozen BK137.out 4
            have hfz18_5 := blk_frozen BK137.out 5
            have hfz18_6 := blk_frozen BK137.out 6
            have hfz18_7 := blk_frozen BK137.out 7
            go_wp2_with (first | ((with_reducible refine gate_dst (N := 48) rfl ?_); (try (refine gate_guard (by rfl) ?_; dsimp only)); refine Kd.R_lit (Kd.int .i64) _ 3 ?hg (N := 48) ?hd (xs := ([(rd_T25 l0 x14_1).f3, (rd_T25 l0 x14_1).f4, (rd_T25 l0 x14_1).f5, (rd_T25 l0 x14_1).f6, (rd_T25 l0 x14_1).f7] : List Int)) (inner := [.int .i64 ((rd_T25 l0 x14_1).f3), .int .i64 ((rd_T25 l0 x14_1).f4), .int .i64 ((rd_T25 l0 x14_1).f5), .int .i64 ((rd_T25 l0 x14_1).f6), .int .i64 ((rd_T25 l0 x14_1).f7)]) (ok := fun _ => True) (okp := fun _ => True) ?hr ?hp (fun _ hk => hk) trivial (Below.refl _ _) (Nat.le_refl _) (by simp) ?_; (case hd => rfl); (case hg => rfl); (case hr => first | (go_simp; done) | (go_simp; rfl)); (case hp => exact (Reps.one (show Kd.M (Kd.int .i64) _ _ _ ((rd_T25 l0 x14_1).f3) [.int .i64 ((rd_T25 l0 x14_1).f3)] from rfl) (Reps.one (show Kd.M (Kd.int .i64) _ _ _ ((rd_T25 l0 x14_1).f4) [.int .i64 ((rd_T25 l0 x14_1).f4)] from rfl) (Reps.one (show Kd.M (Kd.int .i64) _ _ _ ((rd_T25 l0 x14_1).f5) [.int .i64 ((rd_T25 l0 x14_1).f5)] from rfl) (Reps.one (show Kd.M (Kd.int .i64) _ _ _ ((rd_T25 l0 x14_1).f6) [.int .i64 ((rd_T25 l0 x14_1).f6)] from rfl) (Reps.one (show Kd.M (Kd.int .i64) _ _ _ ((rd_T25 l0 x14_1).f7) [.int .i64 ((rd_T25 l0 x14_1).f7)] from rfl) (Reps.none _ _))))))); intro v139 w19 ho20 hb hg_ hnew_; clear hg_ hnew_; (first | rw [← Ny138.out] at ho20 | (simp only [Int.reduceToNat] at ho20; rw [← Ny138.out] at ho20)); have n0_ := Aside0.mk (Kd.R_lower ho20 (below_size (by repeat (first | (with_reducible first | exact HB.out | apply below_alloc | apply pw_below_drewN | apply below_drew1 | refine below_set ?_ GE137.out) | exact HB.out)))); have n1_ := Aside0.mk (blk_below (g := gb137) (o := .cells #[.int .i64 ((rd_T25 l0 x14_1).f0), .int .i64 ((rd_T25 l0 x14_1).f1), .int .i64 ((rd_T25 l0 x14_1).f2), .int .i64 ((rd_T25 l0 x14_1).f3), .int .i64 ((rd_T25 l0 x14_1).f4), .int .i64 ((rd_T25 l0 x14_1).f5), .int .i64 ((rd_T25 l0 x14_1).f6), .int .i64 ((rd_T25 l0 x14_1).f7)] 25 (0, 0)) (by (with_reducible repeat (first | refine blk_drewN ?_ _ | refine blk_drew ?_ | refine blk_alloc ?_ _)); refine blk_put (cs := #[.int .i64 ((rd_T25 l0 x14_1).f0), .int .i64 ((rd_T25 l0 x14_1).f1), .int .i64 ((rd_T25 l0 x14_1).f2), .int .i64 ((rd_T25 l0 x14_1).f3), .int .i64 ((rd_T25 l0 x14_1).f4), .int .i64 ((rd_T25 l0 x14_1).f5), .int .i64 ((rd_T25 l0 x14_1).f6), .int .i64 0]) ?_ 7 _ rfl; (with_reducible repeat (first | refine blk_drewN ?_ _ | refine blk_drew ?_ | refine blk_alloc ?_ _)); refine blk_put (cs := #[.int .i64 ((rd_T25 l0 x14_1).f0), .int .i64 ((rd_T25 l0 x14_1).f1), .int .i64 ((rd_T25 l0 x14_1).f2), .int .i64 ((rd_T25 l0 x14_1).f3), .int .i64 ((rd_T25 l0 x14_1).f4), .int .i64 ((rd_T25 l0 x14_1).f5), .int .i64 0, .int .i64 0]) ?_ 6 _ rfl; (with_reducible repeat (first | refine blk_drewN ?_ _ | refine blk_drew ?_ | refine blk_alloc ?_ _)); refine blk_put (cs := #[.int .i64 ((rd_T25 l0 x14_1).f0), .int .i64 ((rd_T25 l0 x14_1).f1), .int .i64 ((rd_T25 l0 x14_1).f2), .int .i64 ((rd_T25 l0 x14_1).f3), .int .i64 ((rd_T25 l0 x14_1).f4), .int .i64 0, .int .i64 0, .int .i64 0]) ?_ 5 _ rfl; (with_reducible repeat (first | refine blk_drewN ?_ _ | refine blk_drew ?_ | refine blk_alloc ?_ _)); refine blk_put (cs := #[.int .i64 ((rd_T25 l0 x14_1).f0), .int .i64 ((rd_T25 l0 x14_1).f1), .int .i64 ((rd_T25 l0 x14_1).f2), .int .i64 ((rd_T25 l0 x14_1).f3), .int .i64 0, .int .i64 0, .int .i64 0, .int .i64 0]) ?_ 4 _ rfl; (with_reducible repeat (first | refine blk_drewN ?_ _ | refine blk_drew ?_ | refine blk_alloc ?_ _)); refine blk_put (cs := #[.int .i64 ((rd_T25 l0 x14_1).f0), .int .i64 ((rd_T25 l0 x14_1).f1), .int .i64 ((rd_T25 l0 x14_1).f2), .int .i64 0, .int .i64 0, .int .i64 0, .int .i64 0, .int .i64 0]) ?_ 3 _ rfl; (with_reducible repeat (first | refine blk_drewN ?_ _ | refine blk_drew ?_ | refine blk_alloc ?_ _)); refine blk_put (cs := #[.int .i64 ((rd_T25 l0 x14_1).f0), .int .i64 ((rd_T25 l0 x14_1).f1), .int .i64 0, .int .i64 0, .int .i64 0, .int .i64 0, .int .i64 0, .int .i64 0]) ?_ 2 _ rfl; (with_reducible repeat (first | refine blk_drewN ?_ _ | refine blk_drew ?_ | refine blk_alloc ?_ _)); refine blk_put (cs := #[.int .i64 ((rd_T25 l0 x14_1).f0), .int .i64 0, .int .i64 0, .int .i64 0, .int .i64 0, .int .i64 0, .int .i64 0, .int .i64 0]) ?_ 1 _ rfl; (with_reducible repeat (first | refine blk_drewN ?_ _ | refine blk_drew ?_ | refine blk_alloc ?_ _)); refine blk_put (cs := #[.int .i64 0, .int .i64 0, .int .i64 0, .int .i64 0, .int .i64 0, .int .i64 0, .int .i64 0, .int .i64 0]) ?_ 0 _ rfl; (with_reducible repeat (first | refine blk_drewN ?_ _ | refine blk_drew ?_ | refine blk_alloc ?_ _)); exact BK137.out) hb); have n2_ := Aside0.mk (below_step (by repeat (first | (with_reducible first | exact HB.out | apply below_alloc | apply pw_below_drewN | apply below_drew1 | refine below_set ?_ GE137.out) | exact HB.out)) hb); clear BK137; clear HB; have HO140 := n0_; have BK137 := n1_; have HB := n2_; clear n0_ n1_ n2_; clear hb ho20; obtain ⟨Ao21, co21, eo21⟩ := Kd.R_slice HO140.out; subst eo21) | (go_at_call 36; (with_reducible refine (testimonyref_small.calls k1 _ _ y138 t141 _ ?side1 ?side2 A17.out).mono ?_); (case side1 => repeat (first | exact (Kd.R_reads' HO140.out).2.2 | (with_reducible refine Kd.C_alloc ?_ _) | (with_reducible refine Kd.C_drewN ?_ _) | (with_reducible refine Kd.C_drew ?_))); (case side2 => exact (Kd.R_reads' HO140.out).2.1); rintro e w' ⟨rfl, ⟨nd, rfl⟩⟩; (try first | exact ⟨rfl, _, World.drewN_drewN _ _ _⟩ | exact ⟨rfl, _, Eq.trans (World.drewN_drewN _ _ _) (congrArg (World.drewN _) (Nat.add_assoc _ _ _))⟩)))
            repeat (go_quiet (first | ((with_reducible refine gate_dst (N := 48) rfl ?_); (try (refine gate_guard (by rfl) ?_; dsimp only)); refine Kd.R_lit (Kd.int .i64) _ 3 ?hg (N := 48) ?hd (xs := ([(rd_T25 l0 x14_1).f3, (rd_T25 l0 x14_1).f4, (rd_T25 l0 x14_1).f5, (rd_T25 l0 x14_1).f6, (rd_T25 l0 x14_1).f7] : List Int)) (inner := [.int .i64 ((rd_T25 l0 x14_1).f3), .int .i64 ((rd_T25 l0 x14_1).f4), .int .i64 ((rd_T25 l0 x14_1).f5), .int .i64 ((rd_T25 l0 x14_1).f6), .int .i64 ((rd_T25 l0 x14_1).f7)]) (ok := fun _ => True) (okp := fun _ => True) ?hr ?hp (fun _ hk => hk) trivial (Below.refl _ _) (Nat.le_refl _) (by simp) ?_; (case hd => rfl); (case hg => rfl); (case hr => first | (go_simp; done) | (go_simp; rfl)); (case hp => exact (Reps.one (show Kd.M (Kd.int .i64) _ _ _ ((rd_T25 l0 x14_1).f3) [.int .i64 ((rd_T25 l0 x14_1).f3)] from rfl) (Reps.one (show Kd.M (Kd.int .i64) _ _ _ ((rd_T25 l0 x14_1).f4) [.int .i64 ((rd_T25 l0 x14_1).f4)] from rfl) (Reps.one (show Kd.M (Kd.int .i64) _ _ _ ((rd_T25 l0 x14_1).f5) [.int .i64 ((rd_T25 l0 x14_1).f5)] from rfl) (Reps.one (show Kd.M (Kd.int .i64) _ _ _ ((rd_T25 l0 x14_1).f6) [.int .i64 ((rd_T25 l0 x14_1).f6)] from rfl) (Reps.one (show Kd.M (Kd.int .i64) _ _ _ ((rd_T25 l0 x14_1).f7) [.int .i64 ((rd_T25 l0 x14_1).f7)] from rfl) (Reps.none _ _))))))); intro v139 w19 ho20 hb hg_ hnew_; clear hg_ hnew_; (first | rw [← Ny138.out] at ho20 | (simp only [Int.reduceToNat] at ho20; rw [← Ny138.out] at ho20)); have n0_ := Aside0.mk (Kd.R_lower ho20 (below_size (by repeat (first | (with_reducible first | exact HB.out | apply below_alloc | apply pw_below_drewN | apply below_drew1 | refine below_set ?_ GE137.out) | exact HB.out)))); have n1_ := Aside0.mk (blk_below (g := gb137) (o := .cells #[.int .i64 ((rd_T25 l0 x14_1).f0), .int .i64 ((rd_T25 l0 x14_1).f1), .int .i64 ((rd_T25 l0 x14_1).f2), .int .i64 ((rd_T25 l0 x14_1).f3), .int .i64 ((rd_T25 l0 x14_1).f4), .int .i64 ((rd_T25 l0 x14_1).f5), .int .i64 ((rd_T25 l0 x14_1).f6), .int .i64 ((rd_T25 l0 x14_1).f7)] 25 (0, 0)) (by (with_reducible repeat (first | refine blk_drewN ?_ _ | refine blk_drew ?_ | refine blk_alloc ?_ _)); refine blk_put (cs := #[.int .i64 ((rd_T25 l0 x14_1).f0), .int .i64 ((rd_T25 l0 x14_1).f1), .int .i64 ((rd_T25 l0 x14_1).f2), .int .i64 ((rd_T25 l0 x14_1).f3), .int .i64 ((rd_T25 l0 x14_1).f4), .int .i64 ((rd_T25 l0 x14_1).f5), .int .i64 ((rd_T25 l0 x14_1).f6), .int .i64 0]) ?_ 7 _ rfl; (with_reducible repeat (first | refine blk_drewN ?_ _ | refine blk_drew ?_ | refine blk_alloc ?_ _)); refine blk_put (cs := #[.int .i64 ((rd_T25 l0 x14_1).f0), .int .i64 ((rd_T25 l0 x14_1).f1), .int .i64 ((rd_T25 l0 x14_1).f2), .int .i64 ((rd_T25 l0 x14_1).f3), .int .i64 ((rd_T25 l0 x14_1).f4), .int .i64 ((rd_T25 l0 x14_1).f5), .int .i64 0, .int .i64 0]) ?_ 6 _ rfl; (with_reducible repeat (first | refine blk_drewN ?_ _ | refine blk_drew ?_ | refine blk_alloc ?_ _)); refine blk_put (cs := #[.int .i64 ((rd_T25 l0 x14_1).f0), .int .i64 ((rd_T25 l0 x14_1).f1), .int .i64 ((rd_T25 l0 x14_1).f2), .int .i64 ((rd_T25 l0 x14_1).f3), .int .i64 ((rd_T25 l0 x14_1).f4), .int .i64 0, .int .i64 0, .int .i64 0]) ?_ 5 _ rfl; (with_reducible repeat (first | refine blk_drewN ?_ _ | refine blk_drew ?_ | refine blk_alloc ?_ _)); refine blk_put (cs := #[.int .i64 ((rd_T25 l0 x14_1).f0), .int .i64 ((rd_T25 l0 x14_1).f1), .int .i64 ((rd_T25 l0 x14_1).f2), .int .i64 ((rd_T25 l0 x14_1).f3), .int .i64 0, .int .i64 0, .int .i64 0, .int .i64 0]) ?_ 4 _ rfl; (with_reducible repeat (first | refine blk_drewN ?_ _ | refine blk_drew ?_ | refine blk_alloc ?_ _)); refine blk_put (cs := #[.int .i64 ((rd_T25 l0 x14_1).f0), .int .i64 ((rd_T25 l0 x14_1).f1), .int .i64 ((rd_T25 l0 x14_1).f2), .int .i64 0, .int .i64 0, .int .i64 0, .int .i64 0, .int .i64 0]) ?_ 3 _ rfl; (with_reducible repeat (first | refine blk_drewN ?_ _ | refine blk_drew ?_ | refine blk_alloc ?_ _)); refine blk_put (cs := #[.int .i64 ((rd_T25 l0 x14_1).f0), .int .i64 ((rd_T25 l0 x14_1).f1), .int .i64 0, .int .i64 0, .int .i64 0, .int .i64 0, .int .i64 0, .int .i64 0]) ?_ 2 _ rfl; (with_reducible repeat (first | refine blk_drewN ?_ _ | refine blk_drew ?_ | refine blk_alloc ?_ _)); refine blk_put (cs := #[.int .i64 ((rd_T25 l0 x14_1).f0), .int .i64 0, .int .i64 0, .int .i64 0, .int .i64 0, .int .i64 0, .int .i64 0, .int .i64 0]) ?_ 1 _ rfl; (with_reducible repeat (first | refine blk_drewN ?_ _ | refine blk_drew ?_ | refine blk_alloc ?_ _)); refine blk_put (cs := #[.int .i64 0, .int .i64 0, .int .i64 0, .int .i64 0, .int .i64 0, .int .i64 0, .int .i64 0, .int .i64 0]) ?_ 0 _ rfl; (with_reducible repeat (first | refine blk_drewN ?_ _ | refine blk_drew ?_ | refine blk_alloc ?_ _)); exact BK137.out) hb); have n2_ := Aside0.mk (below_step (by repeat (first | (with_reducible first | exact HB.out | apply below_alloc | apply pw_below_drewN | apply below_drew1 | refine below_set ?_ GE137.out) | exact HB.out)) hb); clear BK137; clear HB; have HO140 := n0_; have BK137 := n1_; have HB := n2_; clear n0_ n1_ n2_; clear hb ho20; obtain ⟨Ao21, co21, eo21⟩ := Kd.R_slice HO140.out; subst eo21) | (go_at_call 36; (with_reducible refine (testimonyref_small.calls k1 _ _ y138 t141 _ ?side1 ?side2 A17.out).mono ?_); (case side1 => repeat (first | exact (Kd.R_reads' HO140.out).2.2 | (with_reducible refine Kd.C_alloc ?_ _) | (with_reducible refine Kd.C_drewN ?_ _) | (with_reducible refine Kd.C_drew ?_))); (case side2 => exact (Kd.R_reads' HO140.out).2.1); rintro e w' ⟨rfl, ⟨nd, rfl⟩⟩; (try first | exact ⟨rfl, _, World.drewN_drewN _ _ _⟩ | exact ⟨rfl, _, Eq.trans (World.drewN_drewN _ _ _) (congrArg (World.drewN _) (Nat.add_assoc _ _ _))⟩))); try go_wp2_with (first | ((with_reducible refine gate_dst (N := 48) rfl ?_); (try (refine gate_guard (by rfl) ?_; dsimp only)); refine Kd.R_lit (Kd.int .i64) _ 3 ?hg (N := 48) ?hd (xs := ([(rd_T25 l0 x14_1).f3, (rd_T25 l0 x14_1).f4, (rd_T25 l0 x14_1).f5, (rd_T25 l0 x14_1).f6, (rd_T25 l0 x14_1).f7] : List Int)) (inner := [.int .i64 ((rd_T25 l0 x14_1).f3), .int .i64 ((rd_T25 l0 x14_1).f4), .int .i64 ((rd_T25 l0 x14_1).f5), .int .i64 ((rd_T25 l0 x14_1).f6), .int .i64 ((rd_T25 l0 x14_1).f7)]) (ok := fun _ => True) (okp := fun _ => True) ?hr ?hp (fun _ hk => hk) trivial (Below.refl _ _) (Nat.le_refl _) (by simp) ?_; (case hd => rfl); (case hg => rfl); (case hr => first | (go_simp; done) | (go_simp; rfl)); (case hp => exact (Reps.one (show Kd.M (Kd.int .i64) _ _ _ ((rd_T25 l0 x14_1).f3) [.int .i64 ((rd_T25 l0 x14_1).f3)] from rfl) (Reps.one (show Kd.M (Kd.int .i64) _ _ _ ((rd_T25 l0 x14_1).f4) [.int .i64 ((rd_T25 l0 x14_1).f4)] from rfl) (Reps.one (show Kd.M (Kd.int .i64) _ _ _ ((rd_T25 l0 x14_1).f5) [.int .i64 ((rd_T25 l0 x14_1).f5)] from rfl) (Reps.one (show Kd.M (Kd.int .i64) _ _ _ ((rd_T25 l0 x14_1).f6) [.int .i64 ((rd_T25 l0 x14_1).f6)] from rfl) (Reps.one (show Kd.M (Kd.int .i64) _ _ _ ((rd_T25 l0 x14_1).f7) [.int .i64 ((rd_T25 l0 x14_1).f7)] from rfl) (Reps.none _ _))))))); intro v139 w19 ho20 hb hg_ hnew_; clear hg_ hnew_; (first | rw [← Ny138.out] at ho20 | (simp only [Int.reduceToNat] at ho20; rw [← Ny138.out] at ho20)); have n0_ := Aside0.mk (Kd.R_lower ho20 (below_size (by repeat (first | (with_reducible first | exact HB.out | apply below_alloc | apply pw_below_drewN | apply below_drew1 | refine below_set ?_ GE137.out) | exact HB.out)))); have n1_ := Aside0.mk (blk_below (g := gb137) (o := .cells #[.int .i64 ((rd_T25 l0 x14_1).f0), .int .i64 ((rd_T25 l0 x14_1).f1), .int .i64 ((rd_T25 l0 x14_1).f2), .int .i64 ((rd_T25 l0 x14_1).f3), .int .i64 ((rd_T25 l0 x14_1).f4), .int .i64 ((rd_T25 l0 x14_1).f5), .int .i64 ((rd_T25 l0 x14_1).f6), .int .i64 ((rd_T25 l0 x14_1).f7)] 25 (0, 0)) (by (with_reducible repeat (first | refine blk_drewN ?_ _ | refine blk_drew ?_ | refine blk_alloc ?_ _)); refine blk_put (cs := #[.int .i64 ((rd_T25 l0 x14_1).f0), .int .i64 ((rd_T25 l0 x14_1).f1), .int .i64 ((rd_T25 l0 x14_1).f2), .int .i64 ((rd_T25 l0 x14_1).f3), .int .i64 ((rd_T25 l0 x14_1).f4), .int .i64 ((rd_T25 l0 x14_1).f5), .int .i64 ((rd_T25 l0 x14_1).f6), .int .i64 0]) ?_ 7 _ rfl; (with_reducible repeat (first | refine blk_drewN ?_ _ | refine blk_drew ?_ | refine blk_alloc ?_ _)); refine blk_put (cs := #[.int .i64 ((rd_T25 l0 x14_1).f0), .int .i64 ((rd_T25 l0 x14_1).f1), .int .i64 ((rd_T25 l0 x14_1).f2), .int .i64 ((rd_T25 l0 x14_1).f3), .int .i64 ((rd_T25 l0 x14_1).f4), .int .i64 ((rd_T25 l0 x14_1).f5), .int .i64 0, .int .i64 0]) ?_ 6 _ rfl; (with_reducible repeat (first | refine blk_drewN ?_ _ | refine blk_drew ?_ | refine blk_alloc ?_ _)); refine blk_put (cs := #[.int .i64 ((rd_T25 l0 x14_1).f0), .int .i64 ((rd_T25 l0 x14_1).f1), .int .i64 ((rd_T25 l0 x14_1).f2), .int .i64 ((rd_T25 l0 x14_1).f3), .int .i64 ((rd_T25 l0 x14_1).f4), .int .i64 0, .int .i64 0, .int .i64 0]) ?_ 5 _ rfl; (with_reducible repeat (first | refine blk_drewN ?_ _ | refine blk_drew ?_ | refine blk_alloc ?_ _)); refine blk_put (cs := #[.int .i64 ((rd_T25 l0 x14_1).f0), .int .i64 ((rd_T25 l0 x14_1).f1), .int .i64 ((rd_T25 l0 x14_1).f2), .int .i64 ((rd_T25 l0 x14_1).f3), .int .i64 0, .int .i64 0, .int .i64 0, .int .i64 0]) ?_ 4 _ rfl; (with_reducible repeat (first | refine blk_drewN ?_ _ | refine blk_drew ?_ | refine blk_alloc ?_ _)); refine blk_put (cs := #[.int .i64 ((rd_T25 l0 x14_1).f0), .int .i64 ((rd_T25 l0 x14_1).f1), .int .i64 ((rd_T25 l0 x14_1).f2), .int .i64 0, .int .i64 0, .int .i64 0, .int .i64 0, .int .i64 0]) ?_ 3 _ rfl; (with_reducible repeat (first | refine blk_drewN ?_ _ | refine blk_drew ?_ | refine blk_alloc ?_ _)); refine blk_put (cs := #[.int .i64 ((rd_T25 l0 x14_1).f0), .int .i64 ((rd_T25 l0 x14_1).f1), .int .i64 0, .int .i64 0, .int .i64 0, .int .i64 0, .int .i64 0, .int .i64 0]) ?_ 2 _ rfl; (with_reducible repeat (first | refine blk_drewN ?_ _ | refine blk_drew ?_ | refine blk_alloc ?_ _)); refine blk_put (cs := #[.int .i64 ((rd_T25 l0 x14_1).f0), .int .i64 0, .int .i64 0, .int .i64 0, .int .i64 0, .int .i64 0, .int .i64 0, .int .i64 0]) ?_ 1 _ rfl; (with_reducible repeat (first | refine blk_drewN ?_ _ | refine blk_drew ?_ | refine blk_alloc ?_ _)); refine blk_put (cs := #[.int .i64 0, .int .i64 0, .int .i64 0, .int .i64 0, .int .i64 0, .int .i64 0, .int .i64 0, .int .i64 0]) ?_ 0 _ rfl; (with_reducible repeat (first | refine blk_drewN ?_ _ | refine blk_drew ?_ | refine blk_alloc ?_ _)); exact BK137.out) hb); have n2_ := Aside0.mk (below_step (by repeat (first | (with_reducible first | exact HB.out | apply below_alloc | apply pw_below_drewN | apply below_drew1 | refine below_set ?_ GE137.out) | exact HB.out)) hb); clear BK137; clear HB; have HO140 := n0_; have BK137 := n1_; have HB := n2_; clear n0_ n1_ n2_; clear hb ho20; obtain ⟨Ao21, co21, eo21⟩ := Kd.R_slice HO140.out; subst eo21) | (go_at_call 36; (with_reducible refine (testimonyref_small.calls k1 _ _ y138 t141 _ ?side1 ?side2 A17.out).mono ?_); (case side1 => repeat (first | exact (Kd.R_reads' HO140.out).2.2 | (with_reducible refine Kd.C_alloc ?_ _) | (with_reducible refine Kd.C_drewN ?_ _) | (with_reducible refine Kd.C_drew ?_))); (case side2 => exact (Kd.R_reads' HO140.out).2.1); rintro e w' ⟨rfl, ⟨nd, rfl⟩⟩; (try first | exact ⟨rfl, _, World.drewN_drewN _ _ _⟩ | exact ⟨rfl, _, Eq.trans (World.drewN_drewN _ _ _) (congrArg (World.drewN _) (Nat.add_assoc _ _ _))⟩))))
            go_meet
            case rel => exact ⟨_, (!t141), (by first | rfl | (simp; done) | (simp [*]; done)), H', ⟨by have := HK1.out; first | omega | exact Nat.le_refl _⟩, ⟨by (with_reducible repeat (first | refine blk_drewN ?_ _ | refine blk_drew ?_ | refine blk_alloc ?_ _)); exact BK137.out⟩, ⟨by repeat (first | (with_reducible first | exact HB.out | apply below_alloc | apply pw_below_drewN | apply below_drew1 | refine below_set ?_ GE137.out) | exact HB.out)⟩⟩
       case rest =>
        clear HC6
        (try clear c1); (try clear p1); (try clear q1); (try clear hx1); (try clear c2); (try clear c2b0); (try clear c2b1); (try clear p2); (try clear c3); (try clear c3b0); (try clear c4); (try clear c4b0); (try clear c5); (try clear c5b0); (try clear c9); (try clear c9b0); (try clear c11); (try clear c11b0); (try clear c13); (try clear c13b0); (try clear p13); (try clear q13); (try clear hx13); (try clear c15); (try clear c15b0); (try clear hcz10_0); (try clear hcz10_1); (try clear hcz10_2); (try clear hcz10_3); (try clear hcz10_4); (try clear hcz10_5); (try clear hcz10_6); (try clear hcz10_7); (try clear hcz12_0); (try clear hcz12_1); (try clear hcz12_2); (try clear hcz12_3); (try clear hcz12_4); (try clear hcz12_5); (try clear hcz12_6); (try clear hcz12_7); (try clear hcz14_0); (try clear hcz14_1); (try clear hcz14_2); (try clear hcz14_3); (try clear hcz14_4); (try clear hcz14_5); (try clear hcz14_6); (try clear hcz14_7); (try clear hcz16_0); (try clear hcz16_1); (try clear hcz16_2); (try clear hcz16_3); (try clear hcz16_4); (try clear hcz16_5); (try clear hcz16_6); (try clear hcz16_7); (try clear hcz18_0); (try clear hcz18_1); (try clear hcz18_2); (try clear hcz18_3); (try clear hcz18_4); (try clear hcz18_5); (try clear hcz18_6); (try clear hcz18_7); (try clear hcz8_0); (try clear hcz8_1); (try clear hcz8_2); (try clear hcz8_3); (try clear hcz8_4); (try clear hcz8_5); (try clear hcz8_6); (try clear hcz8_7); (try clear hfz10_0); (try clear hfz10_1); (try clear hfz10_2); (try clear hfz10_3); (try clear hfz10_4); (try clear hfz10_5); (try clear hfz10_6); (try clear hfz10_7); (try clear hfz12_0); (try clear hfz12_1); (try clear hfz12_2); (try clear hfz12_3); (try clear hfz12_4); (try clear hfz12_5); (try clear hfz12_6); (try clear hfz12_7); (try clear hfz14_0); (try clear hfz14_1); (try clear hfz14_2); (try clear hfz14_3); (try clear hfz14_4); (try clear hfz14_5); (try clear hfz14_6); (try clear hfz14_7); (try clear hfz16_0); (try clear hfz16_1); (try clear hfz16_2); (try clear hfz16_3); (try clear hfz16_4); (try clear hfz16_5); (try clear hfz16_6); (try clear hfz16_7); (try clear hfz18_0); (try clear hfz18_1); (try clear hfz18_2); (try clear hfz18_3); (try clear hfz18_4); (try clear hfz18_5); (try clear hfz18_6); (try clear hfz18_7); (try clear hfz8_0); (try clear hfz8_1); (try clear hfz8_2); (try clear hfz8_3); (try clear hfz8_4); (try clear hfz8_5); (try clear hfz8_6); (try clear hfz8_7); (try clear hx136_0); (try clear hx136_1); (try clear hx136_2); (try clear hx136_3); (try clear hx136_4); (try clear hx136_5); (try clear hx136_6); (try clear hx136_7); (try clear p136); (try clear p2); (try clear q136)
        obtain ⟨kq, x51_5, rfl, HA, HJ5, BK137, HB⟩ := hcut
        cases kq with
        | zero => exact absurd HA.out (by simp [testimonyref_OpsCheck.j1])
        | succ kj5 =>
         have H := HA.out
         clear HA
         simp only [testimonyref_OpsCheck.j1] at H
         by_cases c22 : x51_5 = true
         ·subst c22
          have H1 : (some 2) = some r := by rw [if_pos rfl] at H; exact H
          clear H
          have H := H1
          clear H1
          obtain rfl := Option.some.inj H
          go_wp2
          repeat (go_quiet (fail); try go_wp2)
          go_ret
          exact ⟨by first | rfl | (simp [errW_none, errW_some] <;> rfl) | (simp [*, errW_none, errW_some] <;> rfl), by repeat (first | (with_reducible first | exact HB.out | apply below_alloc | apply pw_below_drewN | apply below_drew1 | refine below_set ?_ GE137.out) | exact HB.out)⟩
         ·replace c22 := Bool.eq_false_iff.mpr c22
          subst c22
          have H1 : (if ((rd_T25 l0 x14_1).f2) < 1 then (testimonyref_OpsCheck.j2 kj5 l0 x14_1 l0 (l0.length : Int) x14_1 true ((rd_T25 l0 x14_1).f0) ((rd_T25 l0 x14_1).f1) ((rd_T25 l0 x14_1).f2) ((rd_T25 l0 x14_1).f3) ((rd_T25 l0 x14_1).f4) ((rd_T25 l0 x14_1).f5) ((rd_T25 l0 x14_1).f6) ((rd_T25 l0 x14_1).f7)) else (testimonyref_OpsCheck.j2 kj5 l0 x14_1 l0 (l0.length : Int) x14_1 (decide (((rd_T25 l0 x14_1).f2) > 12)) ((rd_T25 l0 x14_1).f0) ((rd_T25 l0 x14_1).f1) ((rd_T25 l0 x14_1).f2) ((rd_T25 l0 x14_1).f3) ((rd_T25 l0 x14_1).f4) ((rd_T25 l0 x14_1).f5) ((rd_T25 l0 x14_1).f6) ((rd_T25 l0 x14_1).f7))) = some r := by rw [if_neg (show ¬ (false = true) by decide)] at H; exact H
          clear H
          have H := H1
          clear H1
          have HC23 := Aside0.mk H
          clear H
          go_upto_region 8 with (fail)
          repeat (go_quiet (fail); go_upto_region 8 with (fail))
          go_cut [59] (fun v59 wc => ∃ (kq : Nat) (x59_22 : Bool), v59 = .bool x59_22 ∧ Aside0 (testimonyref_OpsCheck.j2 kq l0 x14_1 l0 (l0.length : Int) x14_1 x59_22 ((rd_T25 l0 x14_1).f0) ((rd_T25 l0 x14_1).f1) ((rd_T25 l0 x14_1).f2) ((rd_T25 l0 x14_1).f3) ((rd_T25 l0 x14_1).f4) ((rd_T25 l0 x14_1).f5) ((rd_T25 l0 x14_1).f6) ((rd_T25 l0 x14_1).f7) = some r) ∧ Aside0 (kq ≤ kj5) ∧ Aside0 (wc.heap[gb137]? = some (.cells #[.int .i64 ((rd_T25 l0 x14_1).f0), .int .i64 ((rd_T25 l0 x14_1).f1), .int .i64 ((rd_T25 l0 x14_1).f2), .int .i64 ((rd_T25 l0 x14_1).f3), .int .i64 ((rd_T25 l0 x14_1).f4), .int .i64 ((rd_T25 l0 x14_1).f5), .int .i64 ((rd_T25 l0 x14_1).f6), .int .i64 ((rd_T25 l0 x14_1).f7)] 25 (0, 0))) ∧ Aside0 (Below w.heap.size w wc))
          case first =>
           have H := HC23.out
           clear HC23
           by_cases c24 : ((rd_T25 l0 x14_1).f2) < 1
           ·rw [if_pos c24] at H
            have c24b0 : decide (((rd_T25 l0 x14_1).f2) < 1) = true := decide_eq_true c24
            clear c24
            (first | rw [c24b0] | (simp only [i64_w, i32_w]; rw [c24b0]) | skip)
            have H' := Aside0.mk H
            clear H
            have hcz25_0 : wc.cell? ⟨gb137, 0, none⟩ = some (.int .i64 ((rd_T25 l0 x14_1).f0)) := (blk_cell BK137.out 0).trans rfl
            have hcz25_1 : wc.cell? ⟨gb137, 1, none⟩ = some (.int .i64 ((rd_T25 l0 x14_1).f1)) := (blk_cell BK137.out 1).trans rfl
            have hcz25_2 : wc.cell? ⟨gb137, 2, none⟩ = some (.int .i64 ((rd_T25 l0 x14_1).f2)) := (blk_cell BK137.out 2).trans rfl
            have hcz25_3 : wc.cell? ⟨gb137, 3, none⟩ = some (.int .i64 ((rd_T25 l0 x14_1).f3)) := (blk_cell BK137.out 3).trans rfl
            have hcz25_4 : wc.cell? ⟨gb137, 4, none⟩ = some (.int .i64 ((rd_T25 l0 x14_1).f4)) := (blk_cell BK137.out 4).trans rfl
            have hcz25_5 : wc.cell? ⟨gb137, 5, none⟩ = some (.int .i64 ((rd_T25 l0 x14_1).f5)) := (blk_cell BK137.out 5).trans rfl
            have hcz25_6 : wc.cell? ⟨gb137, 6, none⟩ = some (.int .i64 ((rd_T25 l0 x14_1).f6)) := (blk_cell BK137.out 6).trans rfl
            have hcz25_7 : wc.cell? ⟨gb137, 7, none⟩ = some (.int .i64 ((rd_T25 l0 x14_1).f7)) := (blk_cell BK137.out 7).trans rfl
            have hfz25_0 := blk_frozen BK137.out 0
            have hfz25_1 := blk_frozen BK137.out 1
            have hfz25_2 := blk_frozen BK137.out 2
            have hfz25_3 := blk_frozen BK137.out 3
            have hfz25_4 := blk_frozen BK137.out 4
            have hfz25_5 := blk_frozen BK137.out 5
            have hfz25_6 := blk_frozen BK137.out 6
            have hfz25_7 := blk_frozen BK137.out 7
            go_wp2
            repeat (go_quiet (fail); try go_wp2)
            go_meet
            case rel => exact ⟨_, (true), (by first | rfl | (simp; done) | (simp [*]; done)), H', ⟨by have := HK1.out; have := HJ5.out; first | omega | exact Nat.le_refl _⟩, ⟨by (with_reducible repeat (first | refine blk_drewN ?_ _ | refine blk_drew ?_ | refine blk_alloc ?_ _)); exact BK137.out⟩, ⟨by repeat (first | (with_reducible first | exact HB.out | apply below_alloc | apply pw_below_drewN | apply below_drew1 | refine below_set ?_ GE137.out) | exact HB.out)⟩⟩
           ·rw [if_neg c24] at H
            have c24b0 : decide (((rd_T25 l0 x14_1).f2) < 1) = false := decide_eq_false c24
            clear c24
            (first | rw [c24b0] | (simp only [i64_w, i32_w]; rw [c24b0]) | skip)
            have H' := Aside0.mk H
            clear H
            have hcz26_0 : wc.cell? ⟨gb137, 0, none⟩ = some (.int .i64 ((rd_T25 l0 x14_1).f0)) := (blk_cell BK137.out 0).trans rfl
            have hcz26_1 : wc.cell? ⟨gb137, 1, none⟩ = some (.int .i64 ((rd_T25 l0 x14_1).f1)) := (blk_cell BK137.out 1).trans rfl
            have hcz26_2 : wc.cell? ⟨gb137, 2, none⟩ = some (.int .i64 ((rd_T25 l0 x14_1).f2)) := (blk_cell BK137.out 2).trans rfl
            have hcz26_3 : wc.cell? ⟨gb137, 3, none⟩ = some (.int .i64 ((rd_T25 l0 x14_1).f3)) := (blk_cell BK137.out 3).trans rfl
            have hcz26_4 : wc.cell? ⟨gb137, 4, none⟩ = some (.int .i64 ((rd_T25 l0 x14_1).f4)) := (blk_cell BK137.out 4).trans rfl
            have hcz26_5 : wc.cell? ⟨gb137, 5, none⟩ = some (.int .i64 ((rd_T25 l0 x14_1).f5)) := (blk_cell BK137.out 5).trans rfl
            have hcz26_6 : wc.cell? ⟨gb137, 6, none⟩ = some (.int .i64 ((rd_T25 l0 x14_1).f6)) := (blk_cell BK137.out 6).trans rfl
            have hcz26_7 : wc.cell? ⟨gb137, 7, none⟩ = some (.int .i64 ((rd_T25 l0 x14_1).f7)) := (blk_cell BK137.out 7).trans rfl
            have hfz26_0 := blk_frozen BK137.out 0
            have hfz26_1 := blk_frozen BK137.out 1
            have hfz26_2 := blk_frozen BK137.out 2
            have hfz26_3 := blk_frozen BK137.out 3
            have hfz26_4 := blk_frozen BK137.out 4
            have hfz26_5 := blk_frozen BK137.out 5
            have hfz26_6 := blk_frozen BK137.out 6
            have hfz26_7 := blk_frozen BK137.out 7
            go_wp2
            repeat (go_quiet (fail); try go_wp2)
            go_meet
            case rel => exact ⟨_, (decide (((rd_T25 l0 x14_1).f2) > 12)), (by first | rfl | (simp; done) | (simp [*]; done)), H', ⟨by have := HK1.out; have := HJ5.out; first | omega | exact Nat.le_refl _⟩, ⟨by (with_reducible repeat (first | refine blk_drewN ?_ _ | refine blk_drew ?_ | refine blk_alloc ?_ _)); exact BK137.out⟩, ⟨by repeat (first | (with_reducible first | exact HB.out | apply below_alloc | apply pw_below_drewN | apply below_drew1 | refine below_set ?_ GE137.out) | exact HB.out)⟩⟩
          case rest =>
           clear HC23
           (try clear c1); (try clear p1); (try clear q1); (try clear hx1); (try clear c2); (try clear c2b0); (try clear c2b1); (try clear p2); (try clear c3); (try clear c3b0); (try clear c4); (try clear c4b0); (try clear c5); (try clear c5b0); (try clear c9); (try clear c9b0); (try clear c11); (try clear c11b0); (try clear c13); (try clear c13b0); (try clear p13); (try clear q13); (try clear hx13); (try clear c15); (try clear c15b0); (try clear c22); (try clear c24); (try clear c24b0); (try clear hcz10_0); (try clear hcz10_1); (try clear hcz10_2); (try clear hcz10_3); (try clear hcz10_4); (try clear hcz10_5); (try clear hcz10_6); (try clear hcz10_7); (try clear hcz12_0); (try clear hcz12_1); (try clear hcz12_2); (try clear hcz12_3); (try clear hcz12_4); (try clear hcz12_5); (try clear hcz12_6); (try clear hcz12_7); (try clear hcz14_0); (try clear hcz14_1); (try clear hcz14_2); (try clear hcz14_3); (try clear hcz14_4); (try clear hcz14_5); (try clear hcz14_6); (try clear hcz14_7); (try clear hcz16_0); (try clear hcz16_1); (try clear hcz16_2); (try clear hcz16_3); (try clear hcz16_4); (try clear hcz16_5); (try clear hcz16_6); (try clear hcz16_7); (try clear hcz18_0); (try clear hcz18_1); (try clear hcz18_2); (try clear hcz18_3); (try clear hcz18_4); (try clear hcz18_5); (try clear hcz18_6); (try clear hcz18_7); (try clear hcz25_0); (try clear hcz25_1); (try clear hcz25_2); (try clear hcz25_3); (try clear hcz25_4); (try clear hcz25_5); (try clear hcz25_6); (try clear hcz25_7); (try clear hcz26_0); (try clear hcz26_1); (try clear hcz26_2); (try clear hcz26_3); (try clear hcz26_4); (try clear hcz26_5); (try clear hcz26_6); (try clear hcz26_7); (try clear hcz8_0); (try clear hcz8_1); (try clear hcz8_2); (try clear hcz8_3); (try clear hcz8_4); (try clear hcz8_5); (try clear hcz8_6); (try clear hcz8_7); (try clear hfz10_0); (try clear hfz10_1); (try clear hfz10_2); (try clear hfz10_3); (try clear hfz10_4); (try clear hfz10_5); (try clear hfz10_6); (try clear hfz10_7); (try clear hfz12_0); (try clear hfz12_1); (try clear hfz12_2); (try clear hfz12_3); (try clear hfz12_4); (try clear hfz12_5); (try clear hfz12_6); (try clear hfz12_7); (try clear hfz14_0); (try clear hfz14_1); (try clear hfz14_2); (try clear hfz14_3); (try clear hfz14_4); (try clear hfz14_5); (try clear hfz14_6); (try clear hfz14_7); (try clear hfz16_0); (try clear hfz16_1); (try clear hfz16_2); (try clear hfz16_3); (try clear hfz16_4); (try clear hfz16_5); (try clear hfz16_6); (try clear hfz16_7); (try clear hfz18_0); (try clear hfz18_1); (try clear hfz18_2); (try clear hfz18_3); (try clear hfz18_4); (try clear hfz18_5); (try clear hfz18_6); (try clear hfz18_7); (try clear hfz25_0); (try clear hfz25_1); (try clear hfz25_2); (try clear hfz25_3); (try clear hfz25_4); (try clear hfz25_5); (try clear hfz25_6); (try clear hfz25_7); (try clear hfz26_0); (try clear hfz26_1); (try clear hfz26_2); (try clear hfz26_3); (try clear hfz26_4); (try clear hfz26_5); (try clear hfz26_6); (try clear hfz26_7); (try clear hfz8_0); (try clear hfz8_1); (try clear hfz8_2); (try clear hfz8_3); (try clear hfz8_4); (try clear hfz8_5); (try clear hfz8_6); (try clear hfz8_7); (try clear hx136_0); (try clear hx136_1); (try clear hx136_2); (try clear hx136_3); (try clear hx136_4); (try clear hx136_5); (try clear hx136_6); (try clear hx136_7); (try clear p1); (try clear p13); (try clear p136); (try clear p2); (try clear q1); (try clear q13); (try clear q136)
           obtain ⟨kq, x59_22, rfl, HA, HJ22, BK137, HB⟩ := hcut
           cases kq with
           | zero => exact absurd HA.out (by simp [testimonyref_OpsCheck.j2])
           | succ kj22 =>
            have H := HA.out
            clear HA
            simp only [testimonyref_OpsCheck.j2] at H
            by_cases c27 : x59_22 = true
            ·subst c27
             have H1 : (some 1) = some r := by rw [if_pos rfl] at H; exact H
             clear H
             have H := H1
             clear H1
             obtain rfl := Option.some.inj H
             go_wp2
             repeat (go_quiet (fail); try go_wp2)
             go_ret
             exact ⟨by first | rfl | (simp [errW_none, errW_some] <;> rfl) | (simp [*, errW_none, errW_some] <;> rfl), by repeat (first | (with_reducible first | exact HB.out | apply below_alloc | apply pw_below_drewN | apply below_drew1 | refine below_set ?_ GE137.out) | exact HB.out)⟩
            ·replace c27 := Bool.eq_false_iff.mpr c27
             subst c27
             have H1 : (if ((rd_T25 l0 x14_1).f6) < 0 then (testimonyref_OpsCheck.j3 kj22 l0 x14_1 l0 (l0.length : Int) x14_1 true ((rd_T25 l0 x14_1).f0) ((rd_T25 l0 x14_1).f1) ((rd_T25 l0 x14_1).f2) ((rd_T25 l0 x14_1).f3) ((rd_T25 l0 x14_1).f4) ((rd_T25 l0 x14_1).f5) ((rd_T25 l0 x14_1).f6) ((rd_T25 l0 x14_1).f7)) else (if x14_1 > 0 then (if 0 ≤ (wrap64 (x14_1 - 1)) then (if (wrap64 (x14_1 - 1)) < (l0.length : Int) then (if ((rd_T25 l0 x14_1).f6) ≤ ((rd_T25 l0 (wrap64 (x14_1 - 1))).f6) then (testimonyref_OpsCheck.j3 kj22 l0 x14_1 l0 (l0.length : Int) x14_1 true ((rd_T25 l0 x14_1).f0) ((rd_T25 l0 x14_1).f1) ((rd_T25 l0 x14_1).f2) ((rd_T25 l0 x14_1).f3) ((rd_T25 l0 x14_1).f4) ((rd_T25 l0 x14_1).f5) ((rd_T25 l0 x14_1).f6) ((rd_T25 l0 x14_1).f7)) else (if ((rd_T25 l0 x14_1).f7) = (-1) then (testimonyref_OpsCheck.j3 kj22 l0 x14_1 l0 (l0.length : Int) x14_1 (((rd_T25 l0 x14_1).f5) != 0) ((rd_T25 l0 x14_1).f0) ((rd_T25 l0 x14_1).f1) ((rd_T25 l0 x14_1).f2) ((rd_T25 l0 x14_1).f3) ((rd_T25 l0 x14_1).f4) ((rd_T25 l0 x14_1).f5) ((rd_T25 l0 x14_1).f6) ((rd_T25 l0 x14_1).f7)) else (if ((rd_T25 l0 x14_1).f7) ≤ ((rd_T25 l0 x14_1).f6) then (testimonyref_OpsCheck.j3 kj22 l0 x14_1 l0 (l0.length : Int) x14_1 true ((rd_T25 l0 x14_1).f0) ((rd_T25 l0 x14_1).f1) ((rd_T25 l0 x14_1).f2) ((rd_T25 l0 x14_1).f3) ((rd_T25 l0 x14_1).f4) ((rd_T25 l0 x14_1).f5) ((rd_T25 l0 x14_1).f6) ((rd_T25 l0 x14_1).f7)) else (testimonyref_OpsCheck.j3 kj22 l0 x14_1 l0 (l0.length : Int) x14_1 false ((rd_T25 l0 x14_1).f0) ((rd_T25 l0 x14_1).f1) ((rd_T25 l0 x14_1).f2) ((rd_T25 l0 x14_1).f3) ((rd_T25 l0 x14_1).f4) ((rd_T25 l0 x14_1).f5) ((rd_T25 l0 x14_1).f6) ((rd_T25 l0 x14_1).f7))))) else (none)) else (none)) else (if ((rd_T25 l0 x14_1).f7) = (-1) then (testimonyref_OpsCheck.j3 kj22 l0 x14_1 l0 (l0.length : Int) x14_1 (((rd_T25 l0 x14_1).f5) != 0) ((rd_T25 l0 x14_1).f0) ((rd_T25 l0 x14_1).f1) ((rd_T25 l0 x14_1).f2) ((rd_T25 l0 x14_1).f3) ((rd_T25 l0 x14_1).f4) ((rd_T25 l0 x14_1).f5) ((rd_T25 l0 x14_1).f6) ((rd_T25 l0 x14_1).f7)) else (if ((rd_T25 l0 x14_1).f7) ≤ ((rd_T25 l0 x14_1).f6) then (testimonyref_OpsCheck.j3 kj22 l0 x14_1 l0 (l0.length : Int) x14_1 true ((rd_T25 l0 x14_1).f0) ((rd_T25 l0 x14_1).f1) ((rd_T25 l0 x14_1).f2) ((rd_T25 l0 x14_1).f3) ((rd_T25 l0 x14_1).f4) ((rd_T25 l0 x14_1).f5) ((rd_T25 l0 x14_1).f6) ((rd_T25 l0 x14_1).f7)) else (testimonyref_OpsCheck.j3 kj22 l0 x14_1 l0 (l0.length : Int) x14_1 false ((rd_T25 l0 x14_1).f0) ((rd_T25 l0 x14_1).f1) ((rd_T25 l0 x14_1).f2) ((rd_T25 l0 x14_1).f3) ((rd_T25 l0 x14_1).f4) ((rd_T25 l0 x14_1).f5) ((rd_T25 l0 x14_1).f6) ((rd_T25 l0 x14_1).f7)))))) = some r := by rw [if_neg (show ¬ (false = true) by decide)] at H; exact H
             clear H
             have H := H1
             clear H1
             have HC28 := Aside0.mk H
             clear H
             go_upto_region 10 with (fail)
             repeat (go_quiet (fail); go_upto_region 10 with (fail))
             go_cut [99] (fun v99 wc => ∃ (kq : Nat) (x99_27 : Bool), v99 = .bool x99_27 ∧ Aside0 (testimonyref_OpsCheck.j3 kq l0 x14_1 l0 (l0.length : Int) x14_1 x99_27 ((rd_T25 l0 x14_1).f0) ((rd_T25 l0 x14_1).f1) ((rd_T25 l0 x14_1).f2) ((rd_T25 l0 x14_1).f3) ((rd_T25 l0 x14_1).f4) ((rd_T25 l0 x14_1).f5) ((rd_T25 l0 x14_1).f6) ((rd_T25 l0 x14_1).f7) = some r) ∧ Aside0 (kq ≤ kj22) ∧ Aside0 (wc.heap[gb137]? = some (.cells #[.int .i64 ((rd_T25 l0 x14_1).f0), .int .i64 ((rd_T25 l0 x14_1).f1), .int .i64 ((rd_T25 l0 x14_1).f2), .int .i64 ((rd_T25 l0 x14_1).f3), .int .i64 ((rd_T25 l0 x14_1).f4), .int .i64 ((rd_T25 l0 x14_1).f5), .int .i64 ((rd_T25 l0 x14_1).f6), .int .i64 ((rd_T25 l0 x14_1).f7)] 25 (0, 0))) ∧ Aside0 (Below w.heap.size w wc))
             case first =>
              have H := HC28.out
              clear HC28
              by_cases c29 : ((rd_T25 l0 x14_1).f6) < 0
              ·rw [if_pos c29] at H
               have c29b0 : decide (((rd_T25 l0 x14_1).f6) < 0) = true := decide_eq_true c29
               clear c29
               (first | rw [c29b0] | (simp only [i64_w, i32_w]; rw [c29b0]) | skip)
               have H' := Aside0.mk H
               clear H
               have hcz30_0 : wc.cell? ⟨gb137, 0, none⟩ = some (.int .i64 ((rd_T25 l0 x14_1).f0)) := (blk_cell BK137.out 0).trans rfl
               have hcz30_1 : wc.cell? ⟨gb137, 1, none⟩ = some (.int .i64 ((rd_T25 l0 x14_1).f1)) := (blk_cell BK137.out 1).trans rfl
               have hcz30_2 : wc.cell? ⟨gb137, 2, none⟩ = some (.int .i64 ((rd_T25 l0 x14_1).f2)) := (blk_cell BK137.out 2).trans rfl
               have hcz30_3 : wc.cell? ⟨gb137, 3, none⟩ = some (.int .i64 ((rd_T25 l0 x14_1).f3)) := (blk_cell BK137.out 3).trans rfl
               have hcz30_4 : wc.cell? ⟨gb137, 4, none⟩ = some (.int .i64 ((rd_T25 l0 x14_1).f4)) := (blk_cell BK137.out 4).trans rfl
               have hcz30_5 : wc.cell? ⟨gb137, 5, none⟩ = some (.int .i64 ((rd_T25 l0 x14_1).f5)) := (blk_cell BK137.out 5).trans rfl
               have hcz30_6 : wc.cell? ⟨gb137, 6, none⟩ = some (.int .i64 ((rd_T25 l0 x14_1).f6)) := (blk_cell BK137.out 6).trans rfl
               have hcz30_7 : wc.cell? ⟨gb137, 7, none⟩ = some (.int .i64 ((rd_T25 l0 x14_1).f7)) := (blk_cell BK137.out 7).trans rfl
               have hfz30_0 := blk_frozen BK137.out 0
               have hfz30_1 := blk_frozen BK137.out 1
               have hfz30_2 := blk_frozen BK137.out 2
               have hfz30_3 := blk_frozen BK137.out 3
               have hfz30_4 := blk_frozen BK137.out 4
               have hfz30_5 := blk_frozen BK137.out 5
               have hfz30_6 := blk_frozen BK137.out 6
               have hfz30_7 := blk_frozen BK137.out 7
               go_wp2
               repeat (go_quiet (fail); try go_wp2)
               go_meet
               case rel => exact ⟨_, (true), (by first | rfl | (simp; done) | (simp [*]; done)), H', ⟨by have := HK1.out; have := HJ5.out; have := HJ22.out; first | omega | exact Nat.le_refl _⟩, ⟨by (with_reducible repeat (first | refine blk_drewN ?_ _ | refine blk_drew ?_ | refine blk_alloc ?_ _)); exact BK137.out⟩, ⟨by repeat (first | (with_reducible first | exact HB.out | apply below_alloc | apply pw_below_drewN | apply below_drew1 | refine below_set ?_ GE137.out) | exact HB.out)⟩⟩
              ·rw [if_neg c29] at H
               have c29b0 : decide (((rd_T25 l0 x14_1).f6) < 0) = false := decide_eq_false c29
               clear c29
               (first | rw [c29b0] | (simp only [i64_w, i32_w]; rw [c29b0]) | skip)
               by_cases c31 : x14_1 > 0
               ·rw [if_pos c31] at H
                have c31b0 : decide (0 < x14_1) = true := decide_eq_true c31
                clear c31
                obtain ⟨ji32, hji32⟩ : ∃ j_ : Int, (wrap64 (x14_1 - 1)) = j_ := ⟨_, rfl⟩
                replace H : (if 0 ≤ (ji32) then (if (ji32) < (l0.length : Int) then (if ((rd_T25 l0 x14_1).f6) ≤ ((rd_T25 l0 (ji32)).f6) then (testimonyref_OpsCheck.j3 kj22 l0 x14_1 l0 (l0.length : Int) x14_1 true ((rd_T25 l0 x14_1).f0) ((rd_T25 l0 x14_1).f1) ((rd_T25 l0 x14_1).f2) ((rd_T25 l0 x14_1).f3) ((rd_T25 l0 x14_1).f4) ((rd_T25 l0 x14_1).f5) ((rd_T25 l0 x14_1).f6) ((rd_T25 l0 x14_1).f7)) else (if ((rd_T25 l0 x14_1).f7) = (-1) then (testimonyref_OpsCheck.j3 kj22 l0 x14_1 l0 (l0.length : Int) x14_1 (((rd_T25 l0 x14_1).f5) != 0) ((rd_T25 l0 x14_1).f0) ((rd_T25 l0 x14_1).f1) ((rd_T25 l0 x14_1).f2) ((rd_T25 l0 x14_1).f3) ((rd_T25 l0 x14_1).f4) ((rd_T25 l0 x14_1).f5) ((rd_T25 l0 x14_1).f6) ((rd_T25 l0 x14_1).f7)) else (if ((rd_T25 l0 x14_1).f7) ≤ ((rd_T25 l0 x14_1).f6) then (testimonyref_OpsCheck.j3 kj22 l0 x14_1 l0 (l0.length : Int) x14_1 true ((rd_T25 l0 x14_1).f0) ((rd_T25 l0 x14_1).f1) ((rd_T25 l0 x14_1).f2) ((rd_T25 l0 x14_1).f3) ((rd_T25 l0 x14_1).f4) ((rd_T25 l0 x14_1).f5) ((rd_T25 l0 x14_1).f6) ((rd_T25 l0 x14_1).f7)) else (testimonyref_OpsCheck.j3 kj22 l0 x14_1 l0 (l0.length : Int) x14_1 false ((rd_T25 l0 x14_1).f0) ((rd_T25 l0 x14_1).f1) ((rd_T25 l0 x14_1).f2) ((rd_T25 l0 x14_1).f3) ((rd_T25 l0 x14_1).f4) ((rd_T25 l0 x14_1).f5) ((rd_T25 l0 x14_1).f6) ((rd_T25 l0 x14_1).f7))))) else (none)) else (none)) = some r := by first | (rw [hji32] at H; exact H) | (simp only [hji32] at H ⊢; exact H)
                have hji32w : (IntKind.i64.wrap (x14_1 - 1)) = ji32 := (i64_w _).trans hji32
                by_cases c33 : 0 ≤ (ji32)
                ·rw [if_pos c33] at H
                 have c33b0 : decide (0 ≤ (ji32)) = true := decide_eq_true c33
                 clear c33
                 by_cases c34 : (ji32) < (l0.length : Int)
                 ·rw [if_pos c34] at H
                  have c34b0 : decide ((ji32) < (l0.length : Int)) = true := decide_eq_true c34
                  clear c34
                  by_cases c35 : ((rd_T25 l0 x14_1).f6) ≤ ((rd_T25 l0 (ji32)).f6)
                  ·rw [if_pos c35] at H
                   have c35b0 : decide (((rd_T25 l0 x14_1).f6) ≤ ((rd_T25 l0 (ji32)).f6)) = true := decide_eq_true c35
                   clear c35
                   have H' := Aside0.mk H
                   clear H
                   have hcz36_0 : wc.cell? ⟨gb137, 0, none⟩ = some (.int .i64 ((rd_T25 l0 x14_1).f0)) := (blk_cell BK137.out 0).trans rfl
                   have hcz36_1 : wc.cell? ⟨gb137, 1, none⟩ = some (.int .i64 ((rd_T25 l0 x14_1).f1)) := (blk_cell BK137.out 1).trans rfl
                   have hcz36_2 : wc.cell? ⟨gb137, 2, none⟩ = some (.int .i64 ((rd_T25 l0 x14_1).f2)) := (blk_cell BK137.out 2).trans rfl
                   have hcz36_3 : wc.cell? ⟨gb137, 3, none⟩ = some (.int .i64 ((rd_T25 l0 x14_1).f3)) := (blk_cell BK137.out 3).trans rfl
                   have hcz36_4 : wc.cell? ⟨gb137, 4, none⟩ = some (.int .i64 ((rd_T25 l0 x14_1).f4)) := (blk_cell BK137.out 4).trans rfl
                   have hcz36_5 : wc.cell? ⟨gb137, 5, none⟩ = some (.int .i64 ((rd_T25 l0 x14_1).f5)) := (blk_cell BK137.out 5).trans rfl
                   have hcz36_6 : wc.cell? ⟨gb137, 6, none⟩ = some (.int .i64 ((rd_T25 l0 x14_1).f6)) := (blk_cell BK137.out 6).trans rfl
                   have hcz36_7 : wc.cell? ⟨gb137, 7, none⟩ = some (.int .i64 ((rd_T25 l0 x14_1).f7)) := (blk_cell BK137.out 7).trans rfl
                   have hfz36_0 := blk_frozen BK137.out 0
                   have hfz36_1 := blk_frozen BK137.out 1
                   have hfz36_2 := blk_frozen BK137.out 2
                   have hfz36_3 := blk_frozen BK137.out 3
                   have hfz36_4 := blk_frozen BK137.out 4
                   have hfz36_5 := blk_frozen BK137.out 5
                   have hfz36_6 := blk_frozen BK137.out 6
                   have hfz36_7 := blk_frozen BK137.out 7
                   have p142 : 0 ≤ ((ji32) : Int) := of_decide_eq_true (by first | (with_reducible assumption) | assumption)
                   have q142 : (ji32) < (l0.length : Int) := of_decide_eq_true (by first | (with_reducible assumption) | assumption)
                   obtain ⟨ad142, e142, hx142_0, hx142_1, hx142_2, hx142_3, hx142_4, hx142_5, hx142_6, hx142_7⟩ := at_T25 HR0.out (ji32) p142 q142
                   obtain rfl : ad136 = ad142 := (by injection e142)
                   replace hx142_0 := (HB.out.cell (World.block_lt_of_cell? w _ hx142_0)).trans hx142_0
                   replace hx142_1 := (HB.out.cell (World.block_lt_of_cell? w _ hx142_1)).trans hx142_1
                   replace hx142_2 := (HB.out.cell (World.block_lt_of_cell? w _ hx142_2)).trans hx142_2
                   replace hx142_3 := (HB.out.cell (World.block_lt_of_cell? w _ hx142_3)).trans hx142_3
                   replace hx142_4 := (HB.out.cell (World.block_lt_of_cell? w _ hx142_4)).trans hx142_4
                   replace hx142_5 := (HB.out.cell (World.block_lt_of_cell? w _ hx142_5)).trans hx142_5
                   replace hx142_6 := (HB.out.cell (World.block_lt_of_cell? w _ hx142_6)).trans hx142_6
                   replace hx142_7 := (HB.out.cell (World.block_lt_of_cell? w _ hx142_7)).trans hx142_7
                   replace p142 := eq_true p142
                   replace q142 := eq_true q142
                   go_wp2
                   repeat (go_quiet (fail); try go_wp2)
                   go_meet
                   case rel => exact ⟨_, (true), (by first | rfl | (simp; done) | (simp [*]; done)), H', ⟨by have := HK1.out; have := HJ5.out; have := HJ22.out; first | omega | exact Nat.le_refl _⟩, ⟨by (with_reducible repeat (first | refine blk_drewN ?_ _ | refine blk_drew ?_ | refine blk_alloc ?_ _)); exact BK137.out⟩, ⟨by repeat (first | (with_reducible first | exact HB.out | apply below_alloc | apply pw_below_drewN | apply below_drew1 | refine below_set ?_ GE137.out) | exact HB.out)⟩⟩
                  ·rw [if_neg c35] at H
                   have c35b0 : decide (((rd_T25 l0 x14_1).f6) ≤ ((rd_T25 l0 (ji32)).f6)) = false := decide_eq_false c35
                   clear c35
                   by_cases c37 : ((rd_T25 l0 x14_1).f7) = (-1)
                   ·rw [if_pos c37] at H
                    have c37b0 : (((rd_T25 l0 x14_1).f7) == (-1)) = true := beq_iff_eq.mpr c37
                    have c37b1 : (((rd_T25 l0 x14_1).f7) != (-1)) = false := bne_eq_false_iff_eq.mpr c37
                    clear c37
                    have H' := Aside0.mk H
                    clear H
                    have hcz38_0 : wc.cell? ⟨gb137, 0, none⟩ = some (.int .i64 ((rd_T25 l0 x14_1).f0)) := (blk_cell BK137.out 0).trans rfl
                    have hcz38_1 : wc.cell? ⟨gb137, 1, none⟩ = some (.int .i64 ((rd_T25 l0 x14_1).f1)) := (blk_cell BK137.out 1).trans rfl
                    have hcz38_2 : wc.cell? ⟨gb137, 2, none⟩ = some (.int .i64 ((rd_T25 l0 x14_1).f2)) := (blk_cell BK137.out 2).trans rfl
                    have hcz38_3 : wc.cell? ⟨gb137, 3, none⟩ = some (.int .i64 ((rd_T25 l0 x14_1).f3)) := (blk_cell BK137.out 3).trans rfl
                    have hcz38_4 : wc.cell? ⟨gb137, 4, none⟩ = some (.int .i64 ((rd_T25 l0 x14_1).f4)) := (blk_cell BK137.out 4).trans rfl
                    have hcz38_5 : wc.cell? ⟨gb137, 5, none⟩ = some (.int .i64 ((rd_T25 l0 x14_1).f5)) := (blk_cell BK137.out 5).trans rfl
                    have hcz38_6 : wc.cell? ⟨gb137, 6, none⟩ = some (.int .i64 ((rd_T25 l0 x14_1).f6)) := (blk_cell BK137.out 6).trans rfl
                    have hcz38_7 : wc.cell? ⟨gb137, 7, none⟩ = some (.int .i64 ((rd_T25 l0 x14_1).f7)) := (blk_cell BK137.out 7).trans rfl
                    have hfz38_0 := blk_frozen BK137.out 0
                    have hfz38_1 := blk_frozen BK137.out 1
                    have hfz38_2 := blk_frozen BK137.out 2
                    have hfz38_3 := blk_frozen BK137.out 3
                    have hfz38_4 := blk_frozen BK137.out 4
                    have hfz38_5 := blk_frozen BK137.out 5
                    have hfz38_6 := blk_frozen BK137.out 6
                    have hfz38_7 := blk_frozen BK137.out 7
                    have p142 : 0 ≤ ((ji32) : Int) := of_decide_eq_true (by first | (with_reducible assumption) | assumption)
                    have q142 : (ji32) < (l0.length : Int) := of_decide_eq_true (by first | (with_reducible assumption) | assumption)
                    obtain ⟨ad142, e142, hx142_0, hx142_1, hx142_2, hx142_3, hx142_4, hx142_5, hx142_6, hx142_7⟩ := at_T25 HR0.out (ji32) p142 q142
                    obtain rfl : ad136 = ad142 := (by injection e142)
                    replace hx142_0 := (HB.out.cell (World.block_lt_of_cell? w _ hx142_0)).trans hx142_0
                    replace hx142_1 := (HB.out.cell (World.block_lt_of_cell? w _ hx142_1)).trans hx142_1
                    replace hx142_2 := (HB.out.cell (World.block_lt_of_cell? w _ hx142_2)).trans hx142_2
                    replace hx142_3 := (HB.out.cell (World.block_lt_of_cell? w _ hx142_3)).trans hx142_3
                    replace hx142_4 := (HB.out.cell (World.block_lt_of_cell? w _ hx142_4)).trans hx142_4
                    replace hx142_5 := (HB.out.cell (World.block_lt_of_cell? w _ hx142_5)).trans hx142_5
                    replace hx142_6 := (HB.out.cell (World.block_lt_of_cell? w _ hx142_6)).trans hx142_6
                    replace hx142_7 := (HB.out.cell (World.block_lt_of_cell? w _ hx142_7)).trans hx142_7
                    replace p142 := eq_true p142
                    replace q142 := eq_true q142
                    go_wp2
                    repeat (go_quiet (fail); try go_wp2)
                    go_meet
                    case rel => exact ⟨_, ((((rd_T25 l0 x14_1).f5) != 0)), (by first | rfl | (simp; done) | (simp [*]; done)), H', ⟨by have := HK1.out; have := HJ5.out; have := HJ22.out; first | omega | exact Nat.le_refl _⟩, ⟨by (with_reducible repeat (first | refine blk_drewN ?_ _ | refine blk_drew ?_ | refine blk_alloc ?_ _)); exact BK137.out⟩, ⟨by repeat (first | (with_reducible first | exact HB.out | apply below_alloc | apply pw_below_drewN | apply below_drew1 | refine below_set ?_ GE137.out) | exact HB.out)⟩⟩
                   ·rw [if_neg c37] at H
                    have c37b0 : (((rd_T25 l0 x14_1).f7) == (-1)) = false := beq_eq_false_iff_ne.mpr c37
                    have c37b1 : (((rd_T25 l0 x14_1).f7) != (-1)) = true := bne_iff_ne.mpr c37
                    by_cases c39 : ((rd_T25 l0 x14_1).f7) ≤ ((rd_T25 l0 x14_1).f6)
                    ·rw [if_pos c39] at H
                     have c39b0 : decide (((rd_T25 l0 x14_1).f7) ≤ ((rd_T25 l0 x14_1).f6)) = true := decide_eq_true c39
                     clear c39
                     have H' := Aside0.mk H
                     clear H
                     have hcz40_0 : wc.cell? ⟨gb137, 0, none⟩ = some (.int .i64 ((rd_T25 l0 x14_1).f0)) := (blk_cell BK137.out 0).trans rfl
                     have hcz40_1 : wc.cell? ⟨gb137, 1, none⟩ = some (.int .i64 ((rd_T25 l0 x14_1).f1)) := (blk_cell BK137.out 1).trans rfl
                     have hcz40_2 : wc.cell? ⟨gb137, 2, none⟩ = some (.int .i64 ((rd_T25 l0 x14_1).f2)) := (blk_cell BK137.out 2).trans rfl
                     have hcz40_3 : wc.cell? ⟨gb137, 3, none⟩ = some (.int .i64 ((rd_T25 l0 x14_1).f3)) := (blk_cell BK137.out 3).trans rfl
                     have hcz40_4 : wc.cell? ⟨gb137, 4, none⟩ = some (.int .i64 ((rd_T25 l0 x14_1).f4)) := (blk_cell BK137.out 4).trans rfl
                     have hcz40_5 : wc.cell? ⟨gb137, 5, none⟩ = some (.int .i64 ((rd_T25 l0 x14_1).f5)) := (blk_cell BK137.out 5).trans rfl
                     have hcz40_6 : wc.cell? ⟨gb137, 6, none⟩ = some (.int .i64 ((rd_T25 l0 x14_1).f6)) := (blk_cell BK137.out 6).trans rfl
                     have hcz40_7 : wc.cell? ⟨gb137, 7, none⟩ = some (.int .i64 ((rd_T25 l0 x14_1).f7)) := (blk_cell BK137.out 7).trans rfl
                     have hfz40_0 := blk_frozen BK137.out 0
                     have hfz40_1 := blk_frozen BK137.out 1
                     have hfz40_2 := blk_frozen BK137.out 2
                     have hfz40_3 := blk_frozen BK137.out 3
                     have hfz40_4 := blk_frozen BK137.out 4
                     have hfz40_5 := blk_frozen BK137.out 5
                     have hfz40_6 := blk_frozen BK137.out 6
                     have hfz40_7 := blk_frozen BK137.out 7
                     have p142 : 0 ≤ ((ji32) : Int) := of_decide_eq_true (by first | (with_reducible assumption) | assumption)
                     have q142 : (ji32) < (l0.length : Int) := of_decide_eq_true (by first | (with_reducible assumption) | assumption)
                     obtain ⟨ad142, e142, hx142_0, hx142_1, hx142_2, hx142_3, hx142_4, hx142_5, hx142_6, hx142_7⟩ := at_T25 HR0.out (ji32) p142 q142
                     obtain rfl : ad136 = ad142 := (by injection e142)
                     replace hx142_0 := (HB.out.cell (World.block_lt_of_cell? w _ hx142_0)).trans hx142_0
                     replace hx142_1 := (HB.out.cell (World.block_lt_of_cell? w _ hx142_1)).trans hx142_1
                     replace hx142_2 := (HB.out.cell (World.block_lt_of_cell? w _ hx142_2)).trans hx142_2
                     replace hx142_3 := (HB.out.cell (World.block_lt_of_cell? w _ hx142_3)).trans hx142_3
                     replace hx142_4 := (HB.out.cell (World.block_lt_of_cell? w _ hx142_4)).trans hx142_4
                     replace hx142_5 := (HB.out.cell (World.block_lt_of_cell? w _ hx142_5)).trans hx142_5
                     replace hx142_6 := (HB.out.cell (World.block_lt_of_cell? w _ hx142_6)).trans hx142_6
                     replace hx142_7 := (HB.out.cell (World.block_lt_of_cell? w _ hx142_7)).trans hx142_7
                     replace p142 := eq_true p142
                     replace q142 := eq_true q142
                     go_wp2
                     repeat (go_quiet (fail); try go_wp2)
                     go_meet
                     case rel => exact ⟨_, (true), (by first | rfl | (simp; done) | (simp [*]; done)), H', ⟨by have := HK1.out; have := HJ5.out; have := HJ22.out; first | omega | exact Nat.le_refl _⟩, ⟨by (with_reducible repeat (first | refine blk_drewN ?_ _ | refine blk_drew ?_ | refine blk_alloc ?_ _)); exact BK137.out⟩, ⟨by repeat (first | (with_reducible first | exact HB.out | apply below_alloc | apply pw_below_drewN | apply below_drew1 | refine below_set ?_ GE137.out) | exact HB.out)⟩⟩
                    ·rw [if_neg c39] at H
                     have c39b0 : decide (((rd_T25 l0 x14_1).f7) ≤ ((rd_T25 l0 x14_1).f6)) = false := decide_eq_false c39
                     clear c39
                     have H' := Aside0.mk H
                     clear H
                     have hcz41_0 : wc.cell? ⟨gb137, 0, none⟩ = some (.int .i64 ((rd_T25 l0 x14_1).f0)) := (blk_cell BK137.out 0).trans rfl
                     have hcz41_1 : wc.cell? ⟨gb137, 1, none⟩ = some (.int .i64 ((rd_T25 l0 x14_1).f1)) := (blk_cell BK137.out 1).trans rfl
                     have hcz41_2 : wc.cell? ⟨gb137, 2, none⟩ = some (.int .i64 ((rd_T25 l0 x14_1).f2)) := (blk_cell BK137.out 2).trans rfl
                     have hcz41_3 : wc.cell? ⟨gb137, 3, none⟩ = some (.int .i64 ((rd_T25 l0 x14_1).f3)) := (blk_cell BK137.out 3).trans rfl
                     have hcz41_4 : wc.cell? ⟨gb137, 4, none⟩ = some (.int .i64 ((rd_T25 l0 x14_1).f4)) := (blk_cell BK137.out 4).trans rfl
                     have hcz41_5 : wc.cell? ⟨gb137, 5, none⟩ = some (.int .i64 ((rd_T25 l0 x14_1).f5)) := (blk_cell BK137.out 5).trans rfl
                     have hcz41_6 : wc.cell? ⟨gb137, 6, none⟩ = some (.int .i64 ((rd_T25 l0 x14_1).f6)) := (blk_cell BK137.out 6).trans rfl
                     have hcz41_7 : wc.cell? ⟨gb137, 7, none⟩ = some (.int .i64 ((rd_T25 l0 x14_1).f7)) := (blk_cell BK137.out 7).trans rfl
                     have hfz41_0 := blk_frozen BK137.out 0
                     have hfz41_1 := blk_frozen BK137.out 1
                     have hfz41_2 := blk_frozen BK137.out 2
                     have hfz41_3 := blk_frozen BK137.out 3
                     have hfz41_4 := blk_frozen BK137.out 4
                     have hfz41_5 := blk_frozen BK137.out 5
                     have hfz41_6 := blk_frozen BK137.out 6
                     have hfz41_7 := blk_frozen BK137.out 7
                     have p142 : 0 ≤ ((ji32) : Int) := of_decide_eq_true (by first | (with_reducible assumption) | assumption)
                     have q142 : (ji32) < (l0.length : Int) := of_decide_eq_true (by first | (with_reducible assumption) | assumption)
                     obtain ⟨ad142, e142, hx142_0, hx142_1, hx142_2, hx142_3, hx142_4, hx142_5, hx142_6, hx142_7⟩ := at_T25 HR0.out (ji32) p142 q142
                     obtain rfl : ad136 = ad142 := (by injection e142)
                     replace hx142_0 := (HB.out.cell (World.block_lt_of_cell? w _ hx142_0)).trans hx142_0
                     replace hx142_1 := (HB.out.cell (World.block_lt_of_cell? w _ hx142_1)).trans hx142_1
                     replace hx142_2 := (HB.out.cell (World.block_lt_of_cell? w _ hx142_2)).trans hx142_2
                     replace hx142_3 := (HB.out.cell (World.block_lt_of_cell? w _ hx142_3)).trans hx142_3
                     replace hx142_4 := (HB.out.cell (World.block_lt_of_cell? w _ hx142_4)).trans hx142_4
                     replace hx142_5 := (HB.out.cell (World.block_lt_of_cell? w _ hx142_5)).trans hx142_5
                     replace hx142_6 := (HB.out.cell (World.block_lt_of_cell? w _ hx142_6)).trans hx142_6
                     replace hx142_7 := (HB.out.cell (World.block_lt_of_cell? w _ hx142_7)).trans hx142_7
                     replace p142 := eq_true p142
                     replace q142 := eq_true q142
                     go_wp2
                     repeat (go_quiet (fail); try go_wp2)
                     go_meet
                     case rel => exact ⟨_, (false), (by first | rfl | (simp; done) | (simp [*]; done)), H', ⟨by have := HK1.out; have := HJ5.out; have := HJ22.out; first | omega | exact Nat.le_refl _⟩, ⟨by (with_reducible repeat (first | refine blk_drewN ?_ _ | refine blk_drew ?_ | refine blk_alloc ?_ _)); exact BK137.out⟩, ⟨by repeat (first | (with_reducible first | exact HB.out | apply below_alloc | apply pw_below_drewN | apply below_drew1 | refine below_set ?_ GE137.out) | exact HB.out)⟩⟩
                 ·rw [if_neg c34] at H
                  exact absurd H (by simp)
                ·rw [if_neg c33] at H
                 exact absurd H (by simp)
               ·rw [if_neg c31] at H
                have c31b0 : decide (0 < x14_1) = false := decide_eq_false c31
                clear c31
                by_cases c42 : ((rd_T25 l0 x14_1).f7) = (-1)
                ·rw [if_pos c42] at H
                 have c42b0 : (((rd_T25 l0 x14_1).f7) == (-1)) = true := beq_iff_eq.mpr c42
                 have c42b1 : (((rd_T25 l0 x14_1).f7) != (-1)) = false := bne_eq_false_iff_eq.mpr c42
                 clear c42
                 have H' := Aside0.mk H
                 clear H
                 have hcz43_0 : wc.cell? ⟨gb137, 0, none⟩ = some (.int .i64 ((rd_T25 l0 x14_1).f0)) := (blk_cell BK137.out 0).trans rfl
                 have hcz43_1 : wc.cell? ⟨gb137, 1, none⟩ = some (.int .i64 ((rd_T25 l0 x14_1).f1)) := (blk_cell BK137.out 1).trans rfl
                 have hcz43_2 : wc.cell? ⟨gb137, 2, none⟩ = some (.int .i64 ((rd_T25 l0 x14_1).f2)) := (blk_cell BK137.out 2).trans rfl
                 have hcz43_3 : wc.cell? ⟨gb137, 3, none⟩ = some (.int .i64 ((rd_T25 l0 x14_1).f3)) := (blk_cell BK137.out 3).trans rfl
                 have hcz43_4 : wc.cell? ⟨gb137, 4, none⟩ = some (.int .i64 ((rd_T25 l0 x14_1).f4)) := (blk_cell BK137.out 4).trans rfl
                 have hcz43_5 : wc.cell? ⟨gb137, 5, none⟩ = some (.int .i64 ((rd_T25 l0 x14_1).f5)) := (blk_cell BK137.out 5).trans rfl
                 have hcz43_6 : wc.cell? ⟨gb137, 6, none⟩ = some (.int .i64 ((rd_T25 l0 x14_1).f6)) := (blk_cell BK137.out 6).trans rfl
                 have hcz43_7 : wc.cell? ⟨gb137, 7, none⟩ = some (.int .i64 ((rd_T25 l0 x14_1).f7)) := (blk_cell BK137.out 7).trans rfl
                 have hfz43_0 := blk_frozen BK137.out 0
                 have hfz43_1 := blk_frozen BK137.out 1
                 have hfz43_2 := blk_frozen BK137.out 2
                 have hfz43_3 := blk_frozen BK137.out 3
                 have hfz43_4 := blk_frozen BK137.out 4
                 have hfz43_5 := blk_frozen BK137.out 5
                 have hfz43_6 := blk_frozen BK137.out 6
                 have hfz43_7 := blk_frozen BK137.out 7
                 go_wp2
                 repeat (go_quiet (fail); try go_wp2)
                 go_meet
                 case rel => exact ⟨_, ((((rd_T25 l0 x14_1).f5) != 0)), (by first | rfl | (simp; done) | (simp [*]; done)), H', ⟨by have := HK1.out; have := HJ5.out; have := HJ22.out; first | omega | exact Nat.le_refl _⟩, ⟨by (with_reducible repeat (first | refine blk_drewN ?_ _ | refine blk_drew ?_ | refine blk_alloc ?_ _)); exact BK137.out⟩, ⟨by repeat (first | (with_reducible first | exact HB.out | apply below_alloc | apply pw_below_drewN | apply below_drew1 | refine below_set ?_ GE137.out) | exact HB.out)⟩⟩
                ·rw [if_neg c42] at H
                 have c42b0 : (((rd_T25 l0 x14_1).f7) == (-1)) = false := beq_eq_false_iff_ne.mpr c42
                 have c42b1 : (((rd_T25 l0 x14_1).f7) != (-1)) = true := bne_iff_ne.mpr c42
                 by_cases c44 : ((rd_T25 l0 x14_1).f7) ≤ ((rd_T25 l0 x14_1).f6)
                 ·rw [if_pos c44] at H
                  have c44b0 : decide (((rd_T25 l0 x14_1).f7) ≤ ((rd_T25 l0 x14_1).f6)) = true := decide_eq_true c44
                  clear c44
                  have H' := Aside0.mk H
                  clear H
                  have hcz45_0 : wc.cell? ⟨gb137, 0, none⟩ = some (.int .i64 ((rd_T25 l0 x14_1).f0)) := (blk_cell BK137.out 0).trans rfl
                  have hcz45_1 : wc.cell? ⟨gb137, 1, none⟩ = some (.int .i64 ((rd_T25 l0 x14_1).f1)) := (blk_cell BK137.out 1).trans rfl
                  have hcz45_2 : wc.cell? ⟨gb137, 2, none⟩ = some (.int .i64 ((rd_T25 l0 x14_1).f2)) := (blk_cell BK137.out 2).trans rfl
                  have hcz45_3 : wc.cell? ⟨gb137, 3, none⟩ = some (.int .i64 ((rd_T25 l0 x14_1).f3)) := (blk_cell BK137.out 3).trans rfl
                  have hcz45_4 : wc.cell? ⟨gb137, 4, none⟩ = some (.int .i64 ((rd_T25 l0 x14_1).f4)) := (blk_cell BK137.out 4).trans rfl
                  have hcz45_5 : wc.cell? ⟨gb137, 5, none⟩ = some (.int .i64 ((rd_T25 l0 x14_1).f5)) := (blk_cell BK137.out 5).trans rfl
                  have hcz45_6 : wc.cell? ⟨gb137, 6, none⟩ = some (.int .i64 ((rd_T25 l0 x14_1).f6)) := (blk_cell BK137.out 6).trans rfl
                  have hcz45_7 : wc.cell? ⟨gb137, 7, none⟩ = some (.int .i64 ((rd_T25 l0 x14_1).f7)) := (blk_cell BK137.out 7).trans rfl
                  have hfz45_0 := blk_frozen BK137.out 0
                  have hfz45_1 := blk_frozen BK137.out 1
                  have hfz45_2 := blk_frozen BK137.out 2
                  have hfz45_3 := blk_frozen BK137.out 3
                  have hfz45_4 := blk_frozen BK137.out 4
                  have hfz45_5 := blk_frozen BK137.out 5
                  have hfz45_6 := blk_frozen BK137.out 6
                  have hfz45_7 := blk_frozen BK137.out 7
                  go_wp2
                  repeat (go_quiet (fail); try go_wp2)
                  go_meet
                  case rel => exact ⟨_, (true), (by first | rfl | (simp; done) | (simp [*]; done)), H', ⟨by have := HK1.out; have := HJ5.out; have := HJ22.out; first | omega | exact Nat.le_refl _⟩, ⟨by (with_reducible repeat (first | refine blk_drewN ?_ _ | refine blk_drew ?_ | refine blk_alloc ?_ _)); exact BK137.out⟩, ⟨by repeat (first | (with_reducible first | exact HB.out | apply below_alloc | apply pw_below_drewN | apply below_drew1 | refine below_set ?_ GE137.out) | exact HB.out)⟩⟩
                 ·rw [if_neg c44] at H
                  have c44b0 : decide (((rd_T25 l0 x14_1).f7) ≤ ((rd_T25 l0 x14_1).f6)) = false := decide_eq_false c44
                  clear c44
                  have H' := Aside0.mk H
                  clear H
                  have hcz46_0 : wc.cell? ⟨gb137, 0, none⟩ = some (.int .i64 ((rd_T25 l0 x14_1).f0)) := (blk_cell BK137.out 0).trans rfl
                  have hcz46_1 : wc.cell? ⟨gb137, 1, none⟩ = some (.int .i64 ((rd_T25 l0 x14_1).f1)) := (blk_cell BK137.out 1).trans rfl
                  have hcz46_2 : wc.cell? ⟨gb137, 2, none⟩ = some (.int .i64 ((rd_T25 l0 x14_1).f2)) := (blk_cell BK137.out 2).trans rfl
                  have hcz46_3 : wc.cell? ⟨gb137, 3, none⟩ = some (.int .i64 ((rd_T25 l0 x14_1).f3)) := (blk_cell BK137.out 3).trans rfl
                  have hcz46_4 : wc.cell? ⟨gb137, 4, none⟩ = some (.int .i64 ((rd_T25 l0 x14_1).f4)) := (blk_cell BK137.out 4).trans rfl
                  have hcz46_5 : wc.cell? ⟨gb137, 5, none⟩ = some (.int .i64 ((rd_T25 l0 x14_1).f5)) := (blk_cell BK137.out 5).trans rfl
                  have hcz46_6 : wc.cell? ⟨gb137, 6, none⟩ = some (.int .i64 ((rd_T25 l0 x14_1).f6)) := (blk_cell BK137.out 6).trans rfl
                  have hcz46_7 : wc.cell? ⟨gb137, 7, none⟩ = some (.int .i64 ((rd_T25 l0 x14_1).f7)) := (blk_cell BK137.out 7).trans rfl
                  have hfz46_0 := blk_frozen BK137.out 0
                  have hfz46_1 := blk_frozen BK137.out 1
                  have hfz46_2 := blk_frozen BK137.out 2
                  have hfz46_3 := blk_frozen BK137.out 3
                  have hfz46_4 := blk_frozen BK137.out 4
                  have hfz46_5 := blk_frozen BK137.out 5
                  have hfz46_6 := blk_frozen BK137.out 6
                  have hfz46_7 := blk_frozen BK137.out 7
                  go_wp2
                  repeat (go_quiet (fail); try go_wp2)
                  go_meet
                  case rel => exact ⟨_, (false), (by first | rfl | (simp; done) | (simp [*]; done)), H', ⟨by have := HK1.out; have := HJ5.out; have := HJ22.out; first | omega | exact Nat.le_refl _⟩, ⟨by (with_reducible repeat (first | refine blk_drewN ?_ _ | refine blk_drew ?_ | refine blk_alloc ?_ _)); exact BK137.out⟩, ⟨by repeat (first | (with_reducible first | exact HB.out | apply below_alloc | apply pw_below_drewN | apply below_drew1 | refine below_set ?_ GE137.out) | exact HB.out)⟩⟩
             case rest =>
              clear HC28
              (try clear c1); (try clear p1); (try clear q1); (try clear hx1); (try clear c2); (try clear c2b0); (try clear c2b1); (try clear p2); (try clear c3); (try clear c3b0); (try clear c4); (try clear c4b0); (try clear c5); (try clear c5b0); (try clear p6); (try clear c9); (try clear c9b0); (try clear c11); (try clear c11b0); (try clear c13); (try clear c13b0); (try clear p13); (try clear q13); (try clear hx13); (try clear p14); (try clear q14); (try clear hx14); (try clear c15); (try clear c15b0); (try clear c22); (try clear c24); (try clear c24b0); (try clear c27); (try clear c29); (try clear c29b0); (try clear c31); (try clear c31b0); (try clear c33); (try clear c33b0); (try clear c34); (try clear c34b0); (try clear c35); (try clear c35b0); (try clear c37); (try clear c37b0); (try clear c37b1); (try clear c39); (try clear c39b0); (try clear c42); (try clear c42b0); (try clear c42b1); (try clear c44); (try clear c44b0); (try clear hcz10_0); (try clear hcz10_1); (try clear hcz10_2); (try clear hcz10_3); (try clear hcz10_4); (try clear hcz10_5); (try clear hcz10_6); (try clear hcz10_7); (try clear hcz12_0); (try clear hcz12_1); (try clear hcz12_2); (try clear hcz12_3); (try clear hcz12_4); (try clear hcz12_5); (try clear hcz12_6); (try clear hcz12_7); (try clear hcz14_0); (try clear hcz14_1); (try clear hcz14_2); (try clear hcz14_3); (try clear hcz14_4); (try clear hcz14_5); (try clear hcz14_6); (try clear hcz14_7); (try clear hcz16_0); (try clear hcz16_1); (try clear hcz16_2); (try clear hcz16_3); (try clear hcz16_4); (try clear hcz16_5); (try clear hcz16_6); (try clear hcz16_7); (try clear hcz18_0); (try clear hcz18_1); (try clear hcz18_2); (try clear hcz18_3); (try clear hcz18_4); (try clear hcz18_5); (try clear hcz18_6); (try clear hcz18_7); (try clear hcz25_0); (try clear hcz25_1); (try clear hcz25_2); (try clear hcz25_3); (try clear hcz25_4); (try clear hcz25_5); (try clear hcz25_6); (try clear hcz25_7); (try clear hcz26_0); (try clear hcz26_1); (try clear hcz26_2); (try clear hcz26_3); (try clear hcz26_4); (try clear hcz26_5); (try clear hcz26_6); (try clear hcz26_7); (try clear hcz30_0); (try clear hcz30_1); (try clear hcz30_2); (try clear hcz30_3); (try clear hcz30_4); (try clear hcz30_5); (try clear hcz30_6); (try clear hcz30_7); (try clear hcz36_0); (try clear hcz36_1); (try clear hcz36_2); (try clear hcz36_3); (try clear hcz36_4); (try clear hcz36_5); (try clear hcz36_6); (try clear hcz36_7); (try clear hcz38_0); (try clear hcz38_1); (try clear hcz38_2); (try clear hcz38_3); (try clear hcz38_4); (try clear hcz38_5); (try clear hcz38_6); (try clear hcz38_7); (try clear hcz40_0); (try clear hcz40_1); (try clear hcz40_2); (try clear hcz40_3); (try clear hcz40_4); (try clear hcz40_5); (try clear hcz40_6); (try clear hcz40_7); (try clear hcz41_0); (try clear hcz41_1); (try clear hcz41_2); (try clear hcz41_3); (try clear hcz41_4); (try clear hcz41_5); (try clear hcz41_6); (try clear hcz41_7); (try clear hcz43_0); (try clear hcz43_1); (try clear hcz43_2); (try clear hcz43_3); (try clear hcz43_4); (try clear hcz43_5); (try clear hcz43_6); (try clear hcz43_7); (try clear hcz45_0); (try clear hcz45_1); (try clear hcz45_2); (try clear hcz45_3); (try clear hcz45_4); (try clear hcz45_5); (try clear hcz45_6); (try clear hcz45_7); (try clear hcz46_0); (try clear hcz46_1); (try clear hcz46_2); (try clear hcz46_3); (try clear hcz46_4); (try clear hcz46_5); (try clear hcz46_6); (try clear hcz46_7); (try clear hcz8_0); (try clear hcz8_1); (try clear hcz8_2); (try clear hcz8_3); (try clear hcz8_4); (try clear hcz8_5); (try clear hcz8_6); (try clear hcz8_7); (try clear hfz10_0); (try clear hfz10_1); (try clear hfz10_2); (try clear hfz10_3); (try clear hfz10_4); (try clear hfz10_5); (try clear hfz10_6); (try clear hfz10_7); (try clear hfz12_0); (try clear hfz12_1); (try clear hfz12_2); (try clear hfz12_3); (try clear hfz12_4); (try clear hfz12_5); (try clear hfz12_6); (try clear hfz12_7); (try clear hfz14_0); (try clear hfz14_1); (try clear hfz14_2)
              (try clear hfz14_3); (try clear hfz14_4); (try clear hfz14_5); (try clear hfz14_6); (try clear hfz14_7); (try clear hfz16_0); (try clear hfz16_1); (try clear hfz16_2); (try clear hfz16_3); (try clear hfz16_4); (try clear hfz16_5); (try clear hfz16_6); (try clear hfz16_7); (try clear hfz18_0); (try clear hfz18_1); (try clear hfz18_2); (try clear hfz18_3); (try clear hfz18_4); (try clear hfz18_5); (try clear hfz18_6); (try clear hfz18_7); (try clear hfz25_0); (try clear hfz25_1); (try clear hfz25_2); (try clear hfz25_3); (try clear hfz25_4); (try clear hfz25_5); (try clear hfz25_6); (try clear hfz25_7); (try clear hfz26_0); (try clear hfz26_1); (try clear hfz26_2); (try clear hfz26_3); (try clear hfz26_4); (try clear hfz26_5); (try clear hfz26_6); (try clear hfz26_7); (try clear hfz30_0); (try clear hfz30_1); (try clear hfz30_2); (try clear hfz30_3); (try clear hfz30_4); (try clear hfz30_5); (try clear hfz30_6); (try clear hfz30_7); (try clear hfz36_0); (try clear hfz36_1); (try clear hfz36_2); (try clear hfz36_3); (try clear hfz36_4); (try clear hfz36_5); (try clear hfz36_6); (try clear hfz36_7); (try clear hfz38_0); (try clear hfz38_1); (try clear hfz38_2); (try clear hfz38_3); (try clear hfz38_4); (try clear hfz38_5); (try clear hfz38_6); (try clear hfz38_7); (try clear hfz40_0); (try clear hfz40_1); (try clear hfz40_2); (try clear hfz40_3); (try clear hfz40_4); (try clear hfz40_5); (try clear hfz40_6); (try clear hfz40_7); (try clear hfz41_0); (try clear hfz41_1); (try clear hfz41_2); (try clear hfz41_3); (try clear hfz41_4); (try clear hfz41_5); (try clear hfz41_6); (try clear hfz41_7); (try clear hfz43_0); (try clear hfz43_1); (try clear hfz43_2); (try clear hfz43_3); (try clear hfz43_4); (try clear hfz43_5); (try clear hfz43_6); (try clear hfz43_7); (try clear hfz45_0); (try clear hfz45_1); (try clear hfz45_2); (try clear hfz45_3); (try clear hfz45_4); (try clear hfz45_5); (try clear hfz45_6); (try clear hfz45_7); (try clear hfz46_0); (try clear hfz46_1); (try clear hfz46_2); (try clear hfz46_3); (try clear hfz46_4); (try clear hfz46_5); (try clear hfz46_6); (try clear hfz46_7); (try clear hfz8_0); (try clear hfz8_1); (try clear hfz8_2); (try clear hfz8_3); (try clear hfz8_4); (try clear hfz8_5); (try clear hfz8_6); (try clear hfz8_7); (try clear hx136_0); (try clear hx136_1); (try clear hx136_2); (try clear hx136_3); (try clear hx136_4); (try clear hx136_5); (try clear hx136_6); (try clear hx136_7); (try clear hx142_0); (try clear hx142_1); (try clear hx142_2); (try clear hx142_3); (try clear hx142_4); (try clear hx142_5); (try clear hx142_6); (try clear hx142_7); (try clear p1); (try clear p13); (try clear p136); (try clear p142); (try clear p2); (try clear q1); (try clear q13); (try clear q136); (try clear q142)
              obtain ⟨kq, x99_27, rfl, HA, HJ27, BK137, HB⟩ := hcut
              rename_i z0_HB z1_Q z2_K z3_a z4_u15 z5_u16 z6_u17 z7_u18 z8_u19 z9_u20 z10_u21 z11_u22 z12_u23 z13_u24 z14_u25 z15_u26 z16_u27 z17_u28 z18_u29 z19_u30 z20_u31 z21_u32 z22_u33 z23_u34 z24_u35 z25_u36 z26_u37 z27_u38 z28_u39 z29_u40 z30_u41 z31_u42 z32_u43 z33_u44 z34_u45 z35_u46 z36_u47 z37_u48 z38_u49 z39_u50 z40_u51 z41_u52 z42_u53 z43_u54 z44_u55 z45_u56 z46_u57 z47_u58 z48_u59 z49_u60 z50_u61 z51_u62 z52_u63 z53_u64 z54_u65 z55_u66 z56_u67 z57_u68 z58_u69 z59_u70 z60_u71 z61_u72 z62_u73 z63_u74 z64_u75 z65_u76 z66_u77 z67_u78 z68_u79 z69_u80 z70_u81 z71_u82 z72_u83 z73_u84 z74_u85 z75_u86 z76_u87 z77_u88 z78_u89 z79_u90 z80_u91 z81_u92 z82_u93 z83_u94 z84_u95 z85_u96 z86_u97 z87_u98 z88_u99 z89_u100 z90_u101 z91_u105 z92_u106 z93_u107 z94_u108 z95_u109 z96_u110 z97_u111 z98_u112 z99_u113 z100_u114 z101_u115 z102_u116 z103_u117 z104_u118 z105_u119 z106_u120 z107_u121 z108_u122 z109_u123 z110_u124 z111_u125 z112_u126 z113_u127 z114_u128 z115_u129 z116_u130 z117_u131 z118_u132 z119_u133 z120_u134 z121_u135 z122_u136 z123_u137 z124_u138 z125_u139 z126_u140 z127_u141 z128_u145 z129_u146 z130_u147 z131_u148 z132_u149 z133_u150 z134_u151 z135_u152 z136_u153 z137_u154 z138_u155 z139_u156 z140_u157 z141_u158 z142_u159 z143_u160 z144_J z145_K z146_a z147_a z148_K z149_a z150_HB z151_BK137 z152_wc z153_u15 z154_u16 z155_u17 z156_u18 z157_u19 z158_u20 z159_u21 z160_u22 z161_u23 z162_u24 z163_u25 z164_u26 z165_u27 z166_u28 z167_u29 z168_u30 z169_u31 z170_u32 z171_u33 z172_u34 z173_u35 z174_u36 z175_u37 z176_u38 z177_u39 z178_u40 z179_u41 z180_u42 z181_u43 z182_u44 z183_u45 z184_u46 z185_u47 z186_u48 z187_u49 z188_u50 z189_u52 z190_u53 z191_u54 z192_u55 z193_u56 z194_u57 z195_u58 z196_u59 z197_u60 z198_u61 z199_u62 z200_u63 z201_u64 z202_u65 z203_u66 z204_u67 z205_u68 z206_u69 z207_u70 z208_u71 z209_u72 z210_u73 z211_u74 z212_u75 z213_u76 z214_u77 z215_u78 z216_u79 z217_u80 z218_u81 z219_u82 z220_u83 z221_u84 z222_u85 z223_u86 z224_u87 z225_u88 z226_u89 z227_u90 z228_u91 z229_u92 z230_u93 z231_u94 z232_u95 z233_u96 z234_u97 z235_u98 z236_u99 z237_u100 z238_u101 z239_u105 z240_u106 z241_u107 z242_u108 z243_u109 z244_u110 z245_u111 z246_u112 z247_u113 z248_u114 z249_u115 z250_u116 z251_u117 z252_u118 z253_u119 z254_u120 z255_u121 z256_u122 z257_u123 z258_u124 z259_u125 z260_u126 z261_u127 z262_u128 z263_u129 z264_u130 z265_u131 z266_u132 z267_u133 z268_u134 z269_u135 z270_u136 z271_u137 z272_u138 z273_u139 z274_u140 z275_u141 z276_u145 z277_u146 z278_u147 z279_u148 z280_u149 z281_u150 z282_u151 z283_u152 z284_u153 z285_u154 z286_u155 z287_u156 z288_u157 z289_u158 z290_u159 z291_u160 z292_BK137 z293_HB z294_wc z295_u15 z296_u16 z297_u17 z298_u18 z299_u19 z300_u20 z301_u21 z302_u22 z303_u23 z304_u24 z305_u25 z306_u26 z307_u27 z308_u28 z309_u29 z310_u30 z311_u31 z312_u32 z313_u33 z314_u34 z315_u35 z316_u36 z317_u37 z318_u38 z319_u39 z320_u40 z321_u41 z322_u42 z323_u43 z324_u44 z325_u45 z326_u46 z327_u47 z328_u48 z329_u49 z330_u50 z331_u51 z332_u52 z333_u53 z334_u54 z335_u55 z336_u56 z337_u57 z338_u58 z339_u60 z340_u61 z341_u62 z342_u63 z343_u64 z344_u65 z345_u66 z346_u67 z347_u68 z348_u69 z349_u70 z350_u71 z351_u72 z352_u73 z353_u74 z354_u75 z355_u76 z356_u77 z357_u78 z358_u79 z359_u80 z360_u81 z361_u82 z362_u83 z363_u84 z364_u85 z365_u86 z366_u87 z367_u88 z368_u89 z369_u90 z370_u91 z371_u92 z372_u93 z373_u94 z374_u95 z375_u96 z376_u97 z377_u98 z378_u100 z379_u101 z380_u105 z381_u106 z382_u107 z383_u108 z384_u109 z385_u110 z386_u111 z387_u112 z388_u113 z389_u114 z390_u115 z391_u116 z392_u117 z393_u118 z394_u119 z395_u120 z396_u121 z397_u122 z398_u123 z399_u124 z400_u125 z401_u126 z402_u127 z403_u128 z404_u129 z405_u130 z406_u131 z407_u132 z408_u133 z409_u134 z410_u135 z411_u136 z412_u137 z413_u138 z414_u139 z415_u140 z416_u141 z417_u145 z418_u146 z419_u147 z420_u148 z421_u149 z422_u150 z423_u151 z424_u152 z425_u153 z426_u154 z427_u155 z428_u156 z429_u157 z430_u158 z431_u159 z432_u160 z433_BK137 z434_HB z435_K z436_a z437_K z438_a
              (try clear z432_u160); (try clear z431_u159); (try clear z430_u158); (try clear z429_u157); (try clear z428_u156); (try clear z427_u155); (try clear z426_u154); (try clear z425_u153); (try clear z424_u152); (try clear z423_u151); (try clear z422_u150); (try clear z421_u149); (try clear z420_u148); (try clear z419_u147); (try clear z418_u146); (try clear z417_u145); (try clear z416_u141); (try clear z415_u140); (try clear z414_u139); (try clear z413_u138); (try clear z412_u137); (try clear z411_u136); (try clear z410_u135); (try clear z409_u134); (try clear z408_u133); (try clear z407_u132); (try clear z406_u131); (try clear z405_u130); (try clear z404_u129); (try clear z403_u128); (try clear z402_u127); (try clear z401_u126); (try clear z400_u125); (try clear z399_u124); (try clear z398_u123); (try clear z397_u122); (try clear z396_u121); (try clear z395_u120); (try clear z394_u119); (try clear z393_u118); (try clear z392_u117); (try clear z391_u116); (try clear z390_u115); (try clear z389_u114); (try clear z388_u113); (try clear z387_u112); (try clear z386_u111); (try clear z385_u110); (try clear z384_u109); (try clear z383_u108); (try clear z382_u107); (try clear z381_u106); (try clear z380_u105); (try clear z379_u101); (try clear z378_u100); (try clear z377_u98); (try clear z376_u97); (try clear z375_u96); (try clear z374_u95); (try clear z373_u94); (try clear z372_u93); (try clear z371_u92); (try clear z370_u91); (try clear z369_u90); (try clear z368_u89); (try clear z367_u88); (try clear z366_u87); (try clear z365_u86); (try clear z364_u85); (try clear z363_u84); (try clear z362_u83); (try clear z361_u82); (try clear z360_u81); (try clear z359_u80); (try clear z358_u79); (try clear z357_u78); (try clear z356_u77); (try clear z355_u76); (try clear z354_u75); (try clear z353_u74); (try clear z352_u73); (try clear z351_u72); (try clear z350_u71); (try clear z349_u70); (try clear z348_u69); (try clear z347_u68); (try clear z346_u67); (try clear z345_u66); (try clear z344_u65); (try clear z343_u64); (try clear z342_u63); (try clear z341_u62); (try clear z340_u61); (try clear z339_u60); (try clear z338_u58); (try clear z337_u57); (try clear z336_u56); (try clear z335_u55); (try clear z334_u54); (try clear z333_u53); (try clear z332_u52); (try clear z331_u51); (try clear z330_u50); (try clear z329_u49); (try clear z328_u48); (try clear z327_u47); (try clear z326_u46); (try clear z325_u45); (try clear z324_u44); (try clear z323_u43); (try clear z322_u42); (try clear z321_u41); (try clear z320_u40); (try clear z319_u39); (try clear z318_u38); (try clear z317_u37); (try clear z316_u36); (try clear z315_u35); (try clear z314_u34); (try clear z313_u33); (try clear z312_u32); (try clear z311_u31); (try clear z310_u30); (try clear z309_u29); (try clear z308_u28); (try clear z307_u27); (try clear z306_u26); (try clear z305_u25); (try clear z304_u24); (try clear z303_u23); (try clear z302_u22); (try clear z301_u21); (try clear z300_u20); (try clear z299_u19); (try clear z298_u18); (try clear z297_u17); (try clear z296_u16); (try clear z295_u15); (try clear z291_u160); (try clear z290_u159); (try clear z289_u158); (try clear z288_u157); (try clear z287_u156); (try clear z286_u155); (try clear z285_u154); (try clear z284_u153); (try clear z283_u152); (try clear z282_u151); (try clear z281_u150); (try clear z280_u149); (try clear z279_u148); (try clear z278_u147); (try clear z277_u146); (try clear z276_u145); (try clear z275_u141); (try clear z274_u140); (try clear z273_u139); (try clear z272_u138); (try clear z271_u137); (try clear z270_u136); (try clear z269_u135); (try clear z268_u134); (try clear z267_u133); (try clear z266_u132); (try clear z265_u131); (try clear z264_u130); (try clear z263_u129); (try clear z262_u128); (try clear z261_u127); (try clear z260_u126); (try clear z259_u125); (try clear z258_u124); (try clear z257_u123); (try clear z256_u122); (try clear z255_u121); (try clear z254_u120); (try clear z253_u119)
              (try clear z252_u118); (try clear z251_u117); (try clear z250_u116); (try clear z249_u115); (try clear z248_u114); (try clear z247_u113); (try clear z246_u112); (try clear z245_u111); (try clear z244_u110); (try clear z243_u109); (try clear z242_u108); (try clear z241_u107); (try clear z240_u106); (try clear z239_u105); (try clear z238_u101); (try clear z237_u100); (try clear z236_u99); (try clear z235_u98); (try clear z234_u97); (try clear z233_u96); (try clear z232_u95); (try clear z231_u94); (try clear z230_u93); (try clear z229_u92); (try clear z228_u91); (try clear z227_u90); (try clear z226_u89); (try clear z225_u88); (try clear z224_u87); (try clear z223_u86); (try clear z222_u85); (try clear z221_u84); (try clear z220_u83); (try clear z219_u82); (try clear z218_u81); (try clear z217_u80); (try clear z216_u79); (try clear z215_u78); (try clear z214_u77); (try clear z213_u76); (try clear z212_u75); (try clear z211_u74); (try clear z210_u73); (try clear z209_u72); (try clear z208_u71); (try clear z207_u70); (try clear z206_u69); (try clear z205_u68); (try clear z204_u67); (try clear z203_u66); (try clear z202_u65); (try clear z201_u64); (try clear z200_u63); (try clear z199_u62); (try clear z198_u61); (try clear z197_u60); (try clear z196_u59); (try clear z195_u58); (try clear z194_u57); (try clear z193_u56); (try clear z192_u55); (try clear z191_u54); (try clear z190_u53); (try clear z189_u52); (try clear z188_u50); (try clear z187_u49); (try clear z186_u48); (try clear z185_u47); (try clear z184_u46); (try clear z183_u45); (try clear z182_u44); (try clear z181_u43); (try clear z180_u42); (try clear z179_u41); (try clear z178_u40); (try clear z177_u39); (try clear z176_u38); (try clear z175_u37); (try clear z174_u36); (try clear z173_u35); (try clear z172_u34); (try clear z171_u33); (try clear z170_u32); (try clear z169_u31); (try clear z168_u30); (try clear z167_u29); (try clear z166_u28); (try clear z165_u27); (try clear z164_u26); (try clear z163_u25); (try clear z162_u24); (try clear z161_u23); (try clear z160_u22); (try clear z159_u21); (try clear z158_u20); (try clear z157_u19); (try clear z156_u18); (try clear z155_u17); (try clear z154_u16); (try clear z153_u15); (try clear z143_u160); (try clear z142_u159); (try clear z141_u158); (try clear z140_u157); (try clear z139_u156); (try clear z138_u155); (try clear z137_u154); (try clear z136_u153); (try clear z135_u152); (try clear z134_u151); (try clear z133_u150); (try clear z132_u149); (try clear z131_u148); (try clear z130_u147); (try clear z129_u146); (try clear z128_u145); (try clear z127_u141); (try clear z126_u140); (try clear z125_u139); (try clear z124_u138); (try clear z123_u137); (try clear z122_u136); (try clear z121_u135); (try clear z120_u134); (try clear z119_u133); (try clear z118_u132); (try clear z117_u131); (try clear z116_u130); (try clear z115_u129); (try clear z114_u128); (try clear z113_u127); (try clear z112_u126); (try clear z111_u125); (try clear z110_u124); (try clear z109_u123); (try clear z108_u122); (try clear z107_u121); (try clear z106_u120); (try clear z105_u119); (try clear z104_u118); (try clear z103_u117); (try clear z102_u116); (try clear z101_u115); (try clear z100_u114); (try clear z99_u113); (try clear z98_u112); (try clear z97_u111); (try clear z96_u110); (try clear z95_u109); (try clear z94_u108); (try clear z93_u107); (try clear z92_u106); (try clear z91_u105); (try clear z90_u101); (try clear z89_u100); (try clear z88_u99); (try clear z87_u98); (try clear z86_u97); (try clear z85_u96); (try clear z84_u95); (try clear z83_u94); (try clear z82_u93); (try clear z81_u92); (try clear z80_u91); (try clear z79_u90); (try clear z78_u89); (try clear z77_u88); (try clear z76_u87); (try clear z75_u86); (try clear z74_u85); (try clear z73_u84); (try clear z72_u83); (try clear z71_u82); (try clear z70_u81); (try clear z69_u80); (try clear z68_u79); (try clear z67_u78); (try clear z66_u77); (try clear z65_u76); (try clear z64_u75)
              (try clear z63_u74); (try clear z62_u73); (try clear z61_u72); (try clear z60_u71); (try clear z59_u70); (try clear z58_u69); (try clear z57_u68); (try clear z56_u67); (try clear z55_u66); (try clear z54_u65); (try clear z53_u64); (try clear z52_u63); (try clear z51_u62); (try clear z50_u61); (try clear z49_u60); (try clear z48_u59); (try clear z47_u58); (try clear z46_u57); (try clear z45_u56); (try clear z44_u55); (try clear z43_u54); (try clear z42_u53); (try clear z41_u52); (try clear z40_u51); (try clear z39_u50); (try clear z38_u49); (try clear z37_u48); (try clear z36_u47); (try clear z35_u46); (try clear z34_u45); (try clear z33_u44); (try clear z32_u43); (try clear z31_u42); (try clear z30_u41); (try clear z29_u40); (try clear z28_u39); (try clear z27_u38); (try clear z26_u37); (try clear z25_u36); (try clear z24_u35); (try clear z23_u34); (try clear z22_u33); (try clear z21_u32); (try clear z20_u31); (try clear z19_u30); (try clear z18_u29); (try clear z17_u28); (try clear z16_u27); (try clear z15_u26); (try clear z14_u25); (try clear z13_u24); (try clear z12_u23); (try clear z11_u22); (try clear z10_u21); (try clear z9_u20); (try clear z8_u19); (try clear z7_u18); (try clear z6_u17); (try clear z5_u16); (try clear z4_u15)
              revert hu25 HC0 z0_HB z1_Q z2_K z3_a wr u2 u3 u4 u6 u8 u102 u103 u104 u142 u143 u144 z144_J z145_K x14_1 k1 z146_a HK1 ad136 HR0 z147_a z148_K z149_a gb137 w7 z150_HB z151_BK137 GW137 GE137 z152_wc z292_BK137 z293_HB kj5 HJ5 z294_wc u99 z433_BK137 z434_HB kj22 HJ22 z435_K z436_a z437_K z438_a wc u15 u16 u17 u18 u19 u20 u21 u22 u23 u24 u25 u26 u27 u28 u29 u30 u31 u32 u33 u34 u35 u36 u37 u38 u39 u40 u41 u42 u43 u44 u45 u46 u47 u48 u49 u50 u51 u52 u53 u54 u55 u56 u57 u58 u59 u60 u61 u62 u63 u64 u65 u66 u67 u68 u69 u70 u71 u72 u73 u74 u75 u76 u77 u78 u79 u80 u81 u82 u83 u84 u85 u86 u87 u88 u89 u90 u91 u92 u93 u94 u95 u96 u97 u98 u100 u101 u105 u106 u107 u108 u109 u110 u111 u112 u113 u114 u115 u116 u117 u118 u119 u120 u121 u122 u123 u124 u125 u126 u127 u128 u129 u130 u131 u132 u133 u134 u135 u136 u137 u138 u139 u140 u141 u145 u146 u147 u148 u149 u150 u151 u152 u153 u154 u155 u156 u157 u158 u159 u160 kq x99_27 HA HJ27 BK137 HB
              exact hQ.out
      ·rw [if_neg c5] at H
       exact absurd H (by simp)
     ·rw [if_neg c4] at H
      exact absurd H (by simp)
    ·rw [if_neg c3] at H
     have c3b0 : decide (x14_1 < (l0.length : Int)) = false := decide_eq_false c3
     clear c3
     obtain rfl := Option.some.inj H
     go_wp2
     repeat (go_quiet (fail); try go_wp2)
     go_ret
     exact ⟨by first | rfl | (simp [errW_none, errW_some] <;> rfl) | (simp [*, errW_none, errW_some] <;> rfl), by repeat (first | (with_reducible first | exact HB.out | apply below_alloc | apply pw_below_drewN | apply below_drew1) | exact HB.out)⟩

end Go.Proofs.YtdndcccdbaahpaaDoor.PA
