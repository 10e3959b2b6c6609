-- written by a printer (wip/mkprint.py)
import Derived.Test.YtbcbjbmjoncinaaDoorPAx0
import Derived.Test.YtbcbjbmjoncinaaDoorPAxFgraphClosed
namespace Go.Proofs.YtbcbjbmjoncinaaDoor.PA
open Go.RowKit Go.Proofs.YtbcbjbmjoncinaaDoorW.PrintWords Go.Proofs.YtbcbjbmjoncinaaDoorW.PrintLast Go.Proofs.YtbcbjbmjoncinaaDoorW.PrintMore
attribute [local go_sem] max2_int min2_int max_two min_two max_three min_three max_four min_four   -- for this text's walks alone
set_option linter.unusedVariables false
set_option linter.unusedSimpArgs false

/-! ### graph_Groups: function 16 -/
mutual
def graph_Groups.l0 : Nat → List (List Bool) → List Int → Int → Int → Option (List Int × Option Int)
  | 0, _, _, _, _ => none
  | k + 1, x4, x6, x18, x19 => if x19 < x18 then (graph_Groups.l1 k x4 x6 x19 0 x18 x19) else (some (x6, none))
def graph_Groups.l1 : Nat → List (List Bool) → List Int → Int → Int → Int → Int → Option (List Int × Option Int)
  | 0, _, _, _, _, _, _ => none
  | k + 1, x4, x6, x7, x8, x18, x19 => if x8 = x7 then (if x6.length < 17592186044416 then (graph_Groups.l0 k x4 (x6 ++ [x8]) x18 (wrap64 (x19 + 1))) else (none)) else (if 0 ≤ x7 then (if x7 < (x4.length : Int) then (if 0 ≤ x8 then (if x8 < ((rd_L1 x4 x7).length : Int) then (if rdOf false (rd_L1 x4 x7) x8 = true then (if x8 < (x4.length : Int) then (if x7 < ((rd_L1 x4 x8).length : Int) then (if (rdOf false (rd_L1 x4 x8) x7 = true) then (if x6.length < 17592186044416 then (graph_Groups.l0 k x4 (x6 ++ [x8]) x18 (wrap64 (x19 + 1))) else (none)) else (graph_Groups.l1 k x4 x6 x7 (wrap64 (x8 + 1)) x18 x19)) else (none)) else (none)) else (graph_Groups.l1 k x4 x6 x7 (wrap64 (x8 + 1)) x18 x19)) else (none)) else (none)) else (none)) else (none))
end
def graph_Groups.f (k : Nat) (l0 : List (List Bool)) : Option (List Int × Option Int) := (graph_Closed.f k l0).bind fun bt209 => (if bt209.2.isNone = true then (graph_Groups.l0 k bt209.1 ([] : List Int) (bt209.1.length : Int) 0) else (some (([] : List Int), some (bt209.2.getD 0))))
theorem graph_Groups.mono_l : ∀ k, (∀ y0 y1 y2 y3, LeO (graph_Groups.l0 k y0 y1 y2 y3) (graph_Groups.l0 (k + 1) y0 y1 y2 y3)) ∧ (∀ y0 y1 y2 y3 y4 y5, LeO (graph_Groups.l1 k y0 y1 y2 y3 y4 y5) (graph_Groups.l1 (k + 1) y0 y1 y2 y3 y4 y5))
  | 0 => ⟨fun _ _ _ _ r h => by simp [graph_Groups.l0] at h, fun _ _ _ _ _ _ r h => by simp [graph_Groups.l1] at h⟩
  | k + 1 => by
    obtain ⟨ih0, ih1⟩ := graph_Groups.mono_l k
    refine ⟨?_, ?_⟩
    · intro y0 y1 y2 y3
      unfold graph_Groups.l0
      repeat' first
      | (with_reducible exact ih0 _ _ _ _)
      | (with_reducible exact ih1 _ _ _ _ _ _)
      | (with_reducible exact graph_Closed.mono _ _)
      | (with_reducible exact LeO.refl _)
      | (with_reducible exact LeO.none _)
      | (with_reducible refine LeO.ite ?_ ?_)
      | (with_reducible refine LeO.bind ?_ (fun _ => ?_))
      | exact ih0 _ _ _ _
      | exact ih1 _ _ _ _ _ _
      | exact graph_Closed.mono _ _
      | exact LeO.none _
      | refine LeO.ite ?_ ?_
      | refine LeO.bind ?_ (fun _ => ?_)
    · intro y0 y1 y2 y3 y4 y5
      unfold graph_Groups.l1
      repeat' first
      | (with_reducible exact ih0 _ _ _ _)
      | (with_reducible exact ih1 _ _ _ _ _ _)
      | (with_reducible exact graph_Closed.mono _ _)
      | (with_reducible exact LeO.refl _)
      | (with_reducible exact LeO.none _)
      | (with_reducible refine LeO.ite ?_ ?_)
      | (with_reducible refine LeO.bind ?_ (fun _ => ?_))
      | exact ih0 _ _ _ _
      | exact ih1 _ _ _ _ _ _
      | exact graph_Closed.mono _ _
      | exact LeO.none _
      | refine LeO.ite ?_ ?_
      | refine LeO.bind ?_ (fun _ => ?_)
theorem graph_Groups.mono : ∀ a0 k, LeO (graph_Groups.f k a0) (graph_Groups.f (k + 1) a0) := by
  intro a0 k
  obtain ⟨ih0, ih1⟩ := graph_Groups.mono_l k
  unfold graph_Groups.f
  repeat' first
      | (with_reducible exact ih0 _ _ _ _)
      | (with_reducible exact ih1 _ _ _ _ _ _)
      | (with_reducible exact graph_Closed.mono _ _)
      | (with_reducible exact LeO.refl _)
      | (with_reducible exact LeO.none _)
      | (with_reducible refine LeO.ite ?_ ?_)
      | (with_reducible refine LeO.bind ?_ (fun _ => ?_))
      | exact ih0 _ _ _ _
      | exact ih1 _ _ _ _ _ _
      | exact graph_Closed.mono _ _
      | exact LeO.none _
      | refine LeO.ite ?_ ?_
      | refine LeO.bind ?_ (fun _ => ?_)
set_option maxHeartbeats 8000000 in
set_option maxRecDepth 100000 in
theorem graph_Groups.calls (k : Nat) (A0 : Option Addr) (c0 : Nat) (l0 : List (List Bool)) (r1 : List Int) (r2 : Option Int) (w : World) (hr0 : Kd.C (Kd.slice 4 Kd.bool) w A0 l0.length l0) (hc0 : l0.length ≤ c0) (h : graph_Groups.f k l0 = some (r1, r2)) :
    Calls Tryd.prog 16 #[.slice A0 l0.length c0] w fun e w' => ∃ v0_ : Value, e = .returned (.tuple #[v0_, errW r2]) ∧ Kd.R (Kd.int .i64) 3 w' w.heap.size (fun _ => True) v0_ r1 ∧ Below w.heap.size w w' := by
  have hu30 := Tryd.underlying30
  have hu24 := Tryd.underlying24
  have HR0 := Aside0.mk hr0
  have HC0 := Aside0.mk hc0
  clear hr0 hc0
  have HB := Aside0.mk (Below.refl w.heap.size w)
  have H : ((graph_Closed.f k l0).bind fun bt209 => (if bt209.2.isNone = true then (graph_Groups.l0 k bt209.1 ([] : List Int) (bt209.1.length : Int) 0) else (some (([] : List Int), some (bt209.2.getD 0))))) = some (r1, r2) := h
  clear h
  replace H := Option.bind_eq_some_iff.mp H
  obtain ⟨⟨t209, t210⟩, A20, H⟩ := H
  replace H : (if t210.isNone = true then (graph_Groups.l0 k t209 ([] : List Int) (t209.length : Int) 0) else (some (([] : List Int), some (t210.getD 0)))) = some (r1, r2) := H
  have A2 := Aside0.mk A20
  clear A20
  rcases t210 with _ | q213
  · have H1 : (graph_Groups.l0 k t209 ([] : List Int) (t209.length : Int) 0) = some (r1, r2) := by rw [if_pos (show (none : Option Int).isNone = true by rfl)] at H; exact H
    clear H
    have H := H1
    clear H1
    try simp only [errW_none, errW_some]
    have H' := Aside0.mk H
    clear H
    go_enter Tryd.func16, Tryd.ntmps16
    go_wp2_with (first | ((with_reducible refine gate_callee (f := 15) rfl ?_); refine goesL_ (some 11) rfl rfl Tryd.func15 (by kernel_rfl) rfl #[.slice A0 l0.length c0] rfl (by (try simp only [List.map_toArray, List.map_cons, List.map_nil]); first | done | rfl | (simp only [List.length_drop, List.length_take]; rfl)) ?_; (with_reducible refine (graph_Closed.calls k _ _ l0 t209 none _ ?side1 ?side2 A2.out).mono ?_); (case side1 => repeat (first | exact HR0.out | (with_reducible refine Kd.C_alloc ?_ _) | (with_reducible refine Kd.C_drewN ?_ _) | (with_reducible refine Kd.C_drew ?_))); (case side2 => exact HC0.out); rintro e w3 ⟨v211, rfl, ho0, hb⟩; refine ⟨_, rfl, ?_⟩; have n0_ := Aside0.mk (Kd.S_lower ho0 (below_size (by repeat (first | (with_reducible first | exact HB.out | apply below_alloc | apply pw_below_drewN | apply below_drew1) | exact HB.out)))); have n1_ := Aside0.mk (below_step (by repeat (first | (with_reducible first | exact HB.out | apply below_alloc | apply pw_below_drewN | apply below_drew1) | exact HB.out)) hb); clear HB; have HO212 := n0_; have HB := n1_; clear n0_ n1_; (try clear hb); (try clear hb2); (try clear hk); (try clear hi); (try clear ho0); (try simp only [errW_none, errW_some]); obtain ⟨Ao4, co4, eo4⟩ := Kd.S_slice HO212.out; subst eo4))
    go_loopg [6, 19] k (fun kq v6 v19 w' => ∃ (x6_1 : List Int) (x19_1 : Int), v19 = .int .i64 x19_1 ∧ Aside0 (graph_Groups.l0 kq t209 x6_1 (t209.length : Int) x19_1 = some (r1, r2)) ∧ Aside0 (kq ≤ k) ∧ Aside0 (Kd.S (Kd.slice 4 Kd.bool) 43 w' w.heap.size (fun _ => True) (.slice Ao4 t209.length co4) t209) ∧ Aside0 (Kd.R (Kd.int .i64) 3 w' w.heap.size (fun _ => True) v6 x6_1) ∧ Aside0 (Below w.heap.size w w'))
    case atStart => exact ⟨(([] : List Int)), (0), (by first | rfl | (simp; done) | (simp [*]; done)), H', ⟨Nat.le_refl _⟩, ⟨by (with_reducible repeat (first | apply Kd.S_alloc | apply Kd.S_drewN | apply Kd.S_drew)); exact HO212.out⟩, ⟨by first | exact Kd.R_nil _ _ _ _ _ | exact Kd.N_nil _ _ _ _ _ | exact Kd.V_nil _ _ _ _ _ | exact Kd.Q_nil _ _ _ _ _ | exact Kd.S_nil _ _ _ _ _⟩, ⟨by repeat (first | (with_reducible first | exact HB.out | apply below_alloc | apply pw_below_drewN | apply below_drew1) | exact HB.out)⟩⟩
    case round =>
      clear H'
      try clear c1
      try clear p2
      try clear q2
      try clear q213
      obtain ⟨x6_1, x19_1, rfl, HA, HK1, HO_4, HO_6, HB⟩ := hrel
      cases gk with
      | zero => exact absurd HA.out (by simp [graph_Groups.l0])
      | succ k1 =>
        have H := HA.out
        clear HA
        simp only [graph_Groups.l0] at H
        by_cases c5 : x19_1 < (t209.length : Int)
        · rw [if_pos c5] at H
          have c5b0 : decide (x19_1 < (t209.length : Int)) = true := decide_eq_true c5
          clear c5
          have H' := Aside0.mk H
          clear H
          go_wp2
          go_loopg [8] k1 (fun kq v8 w' => ∃ (x8_2 : Int), v8 = .int .i64 x8_2 ∧ Aside0 (graph_Groups.l1 kq t209 x6_1 x19_1 x8_2 (t209.length : Int) x19_1 = some (r1, r2)) ∧ Aside0 (kq ≤ k1) ∧ Aside0 (Kd.S (Kd.slice 4 Kd.bool) 43 w' w.heap.size (fun _ => True) (.slice Ao4 t209.length co4) t209) ∧ Aside0 (Kd.R (Kd.int .i64) 3 w' w.heap.size (fun _ => True) u6 x6_1) ∧ Aside0 (Below w.heap.size w w'))
          case atStart => exact ⟨(0), (by first | rfl | (simp; done) | (simp [*]; done)), H', ⟨Nat.le_refl _⟩, ⟨by (with_reducible repeat (first | apply Kd.S_alloc | apply Kd.S_drewN | apply Kd.S_drew)); exact HO_4.out⟩, ⟨by (with_reducible repeat (first | apply Kd.R_alloc | apply Kd.R_drewN | apply Kd.R_drew)); exact HO_6.out⟩, ⟨by repeat (first | (with_reducible first | exact HB.out | apply below_alloc | apply pw_below_drewN | apply below_drew1) | exact HB.out)⟩⟩
          case round =>
            clear H'
            try clear c1
            try clear p2
            try clear q2
            try clear c5
            try clear c5b0
            try clear p2
            try clear q2
            try clear q213
            obtain ⟨x8_2, rfl, HA, HK2, HO_4, HO_6, HB⟩ := hrel
            cases gk with
            | zero => exact absurd HA.out (by simp [graph_Groups.l1])
            | succ k2 =>
              have H := HA.out
              clear HA
              simp only [graph_Groups.l1] at H
              by_cases c6 : x8_2 = x19_1
              · rw [if_pos c6] at H
                have c6b0 : (x8_2 == x19_1) = true := beq_iff_eq.mpr c6
                have c6b1 : (x8_2 != x19_1) = false := bne_eq_false_iff_eq.mpr c6
                clear c6
                by_cases c7 : x6_1.length < 17592186044416
                · rw [if_pos c7] at H
                  have LMc7 := Aside0.mk c7
                  clear c7
                  obtain ⟨y214, hy214⟩ : ∃ y_ : List Int, y_ = (x6_1 ++ [x8_2]) := ⟨_, rfl⟩
                  replace H : (graph_Groups.l0 k2 t209 y214 (t209.length : Int) (wrap64 (x19_1 + 1))) = some (r1, r2) := by first | (rw [hy214]; with_reducible exact H) | (have H2_ := (Option.bind_some _ _).symm.trans H; rw [hy214]; with_reducible exact H2_) | (have H2_ := (Option.bind_some _ _).symm.trans H; with_reducible exact H2_) | with_reducible exact H | (rw [hy214]; exact H) | exact H
                  have Ny214 := Aside0.mk hy214
                  clear hy214
                  have H' := Aside0.mk H
                  clear H
                  go_wp2_with (first | ((with_reducible refine gate_builtin (b := .append) (xs := #[.tmp 46, .tmp 48]) rfl ?_); at_builtin; refine Kd.R_append (Kd.int .i64) (w0 := w) w.heap.size rfl (.tmp 46) (.tmp 48) 26 3 (.int .i64 0) 8 rfl Tryd.underlying26 info3 rfl (by decide) (by omega) u6 x6_1 x8_2 [.int .i64 x8_2] (fun _ => True) (fun _ => False) rfl rfl ?aP (fun _ hk => hk.elim) ?aF ?aO ?aB ?aS ?aL ?_; (case aP => exact rfl); (case aB => exact (by repeat (first | (with_reducible first | exact HB.out | apply below_alloc | apply pw_below_drewN | apply below_drew1) | exact HB.out))); (case aF => exact (fun _ _ => trivial)); (case aO => exact (by (with_reducible repeat (first | apply Kd.R_alloc | apply Kd.R_drewN | apply Kd.R_drew)); exact HO_6.out)); (case aS => exact (below_size (by repeat (first | (with_reducible first | exact HB.out | apply below_alloc | apply pw_below_drewN | apply below_drew1) | exact HB.out)))); (case aL => have := LMc7.out; omega); intro v215 w8 ho hb hg hat; rw [← Ny214.out] at ho; have n0_ := Aside0.mk (Kd.S_over' (by (with_reducible repeat (first | apply Kd.S_alloc | apply Kd.S_drewN | apply Kd.S_drew)); exact HO_4.out) (Kd.R_typed (by (with_reducible repeat (first | apply Kd.R_alloc | apply Kd.R_drewN | apply Kd.R_drew)); exact HO_6.out)) (by decide) hg); have n1_ := Aside0.mk (hb); have n2_ := Aside0.mk (ho); clear HO_4; clear HB; clear HO_6; have HO_4 := n0_; have HB := n1_; have HO216 := n2_; clear n0_ n1_ n2_; clear ho hb hg hat))
                  go_roundg k2
                  case measure => have := HK1.out; have := HK2.out; omega
                  case rel => exact ⟨(y214), (wrap64 (x19_1 + 1)), (by first | rfl | (simp; done) | (simp [*]; done)), H', ⟨by have := HK1.out; have := HK2.out; omega⟩, ⟨by (with_reducible repeat (first | apply Kd.S_alloc | apply Kd.S_drewN | apply Kd.S_drew)); exact HO_4.out⟩, ⟨by (with_reducible repeat (first | apply Kd.R_alloc | apply Kd.R_drewN | apply Kd.R_drew)); exact HO216.out⟩, ⟨by repeat (first | (with_reducible first | exact HB.out | apply below_alloc | apply pw_below_drewN | apply below_drew1) | exact HB.out)⟩⟩
                · rw [if_neg c7] at H
                  exact absurd H (by simp)
              · rw [if_neg c6] at H
                have c6b0 : (x8_2 == x19_1) = false := beq_eq_false_iff_ne.mpr c6
                have c6b1 : (x8_2 != x19_1) = true := bne_iff_ne.mpr c6
                by_cases c9 : 0 ≤ x19_1
                · rw [if_pos c9] at H
                  have c9b0 : decide (0 ≤ x19_1) = true := decide_eq_true c9
                  clear c9
                  by_cases c10 : x19_1 < (t209.length : Int)
                  · rw [if_pos c10] at H
                    have c10b0 : decide (x19_1 < (t209.length : Int)) = true := decide_eq_true c10
                    clear c10
                    by_cases c11 : 0 ≤ x8_2
                    · rw [if_pos c11] at H
                      have c11b0 : decide (0 ≤ x8_2) = true := decide_eq_true c11
                      clear c11
                      by_cases c12 : x8_2 < ((rd_L1 t209 x19_1).length : Int)
                      · rw [if_pos c12] at H
                        have c12b0 : decide (x8_2 < ((rd_L1 t209 x19_1).length : Int)) = true := decide_eq_true c12
                        clear c12
                        obtain ⟨bq13, hbq13⟩ : ∃ b_ : Bool, b_ = (rdOf false (rd_L1 t209 x19_1) x8_2) := ⟨_, rfl⟩
                        replace H : (if bq13 = true then (if x8_2 < (t209.length : Int) then (if x19_1 < ((rd_L1 t209 x8_2).length : Int) then (if (rdOf false (rd_L1 t209 x8_2) x19_1 = true) then (if x6_1.length < 17592186044416 then (graph_Groups.l0 k2 t209 (x6_1 ++ [x8_2]) (t209.length : Int) (wrap64 (x19_1 + 1))) else (none)) else (graph_Groups.l1 k2 t209 x6_1 x19_1 (wrap64 (x8_2 + 1)) (t209.length : Int) x19_1)) else (none)) else (none)) else (graph_Groups.l1 k2 t209 x6_1 x19_1 (wrap64 (x8_2 + 1)) (t209.length : Int) x19_1)) = some (r1, r2) := by rw [← hbq13] at H; exact H
                        have Nbq13 := Aside0.mk hbq13
                        clear hbq13
                        by_cases c14 : bq13 = true
                        · subst c14
                          have H1 : (if x8_2 < (t209.length : Int) then (if x19_1 < ((rd_L1 t209 x8_2).length : Int) then (if (rdOf false (rd_L1 t209 x8_2) x19_1 = true) then (if x6_1.length < 17592186044416 then (graph_Groups.l0 k2 t209 (x6_1 ++ [x8_2]) (t209.length : Int) (wrap64 (x19_1 + 1))) else (none)) else (graph_Groups.l1 k2 t209 x6_1 x19_1 (wrap64 (x8_2 + 1)) (t209.length : Int) x19_1)) else (none)) else (none)) = some (r1, r2) := by rw [if_pos rfl] at H; exact H
                          clear H
                          have H := H1
                          clear H1
                          by_cases c15 : x8_2 < (t209.length : Int)
                          · rw [if_pos c15] at H
                            have c15b0 : decide (x8_2 < (t209.length : Int)) = true := decide_eq_true c15
                            clear c15
                            by_cases c16 : x19_1 < ((rd_L1 t209 x8_2).length : Int)
                            · rw [if_pos c16] at H
                              have c16b0 : decide (x19_1 < ((rd_L1 t209 x8_2).length : Int)) = true := decide_eq_true c16
                              clear c16
                              obtain ⟨bq17, hbq17⟩ : ∃ b_ : Bool, b_ = (rdOf false (rd_L1 t209 x8_2) x19_1) := ⟨_, rfl⟩
                              replace H : (if (bq17 = true) then (if x6_1.length < 17592186044416 then (graph_Groups.l0 k2 t209 (x6_1 ++ [x8_2]) (t209.length : Int) (wrap64 (x19_1 + 1))) else (none)) else (graph_Groups.l1 k2 t209 x6_1 x19_1 (wrap64 (x8_2 + 1)) (t209.length : Int) x19_1)) = some (r1, r2) := by rw [← hbq17] at H; exact H
                              have Nbq17 := Aside0.mk hbq17
                              clear hbq17
                              by_cases c18 : (bq17 = true)
                              · subst c18
                                have H1 : (if x6_1.length < 17592186044416 then (graph_Groups.l0 k2 t209 (x6_1 ++ [x8_2]) (t209.length : Int) (wrap64 (x19_1 + 1))) else (none)) = some (r1, r2) := by rw [if_pos rfl] at H; exact H
                                clear H
                                have H := H1
                                clear H1
                                by_cases c19 : x6_1.length < 17592186044416
                                · rw [if_pos c19] at H
                                  have LMc19 := Aside0.mk c19
                                  clear c19
                                  obtain ⟨y221, hy221⟩ : ∃ y_ : List Int, y_ = (x6_1 ++ [x8_2]) := ⟨_, rfl⟩
                                  replace H : (graph_Groups.l0 k2 t209 y221 (t209.length : Int) (wrap64 (x19_1 + 1))) = some (r1, r2) := by first | (rw [hy221]; with_reducible exact H) | (have H2_ := (Option.bind_some _ _).symm.trans H; rw [hy221]; with_reducible exact H2_) | (have H2_ := (Option.bind_some _ _).symm.trans H; with_reducible exact H2_) | with_reducible exact H | (rw [hy221]; exact H) | exact H
                                  have Ny221 := Aside0.mk hy221
                                  clear hy221
                                  have H' := Aside0.mk H
                                  clear H
                                  have p217 : 0 ≤ (x19_1 : Int) := of_decide_eq_true (by first | (with_reducible assumption) | assumption)
                                  have q217 : x19_1 < (t209.length : Int) := of_decide_eq_true (by first | (with_reducible assumption) | assumption)
                                  obtain ⟨ad217, A217_0, c217_0, e217, hx217_0, hl217_0, hi217_0⟩ := at_L1 (Kd.S_reads' HO_4.out).2.2 x19_1 p217 q217
                                  cases e217
                                  obtain ⟨ce217, hce217, hMe217, hcc217⟩ := Kd.S_get HO_4.out [] x19_1 p217 (by first | exact q217 | exact of_decide_eq_true (by first | (with_reducible assumption) | assumption) | (have e_ := (Kd.S_reads' HO_4.out).1; omega))
                                  obtain ⟨ve217_0, rfl, ge217_0⟩ := hMe217
                                  have hv217_0 := hcc217 0 _ rfl
                                  rw [Nat.add_zero, show ((Kd.slice 4 Kd.bool)).sz = 1 from rfl, Nat.mul_one] at hv217_0
                                  replace hv217_0 := Option.some.inj (hv217_0.symm.trans hx217_0)
                                  rw [hv217_0] at ge217_0
                                  have HL217_0 := Aside0.mk (show Kd.R Kd.bool 4 _ _ _ _ (rd_L1 t209 x19_1) from ge217_0)
                                  clear hv217_0 ge217_0
                                  clear hcc217 hce217
                                  have HR217_0 := Aside0.mk hi217_0
                                  have HC217_0 := Aside0.mk hl217_0
                                  clear hi217_0 hl217_0
                                  replace p217 := eq_true p217
                                  replace q217 := eq_true q217
                                  have p218 : 0 ≤ (x8_2 : Int) := of_decide_eq_true (by first | (with_reducible assumption) | assumption)
                                  have q218 : x8_2 < ((rd_L1 t209 x19_1).length : Int) := of_decide_eq_true (by first | (with_reducible assumption) | assumption)
                                  obtain ⟨ad218, e218, hx218_0⟩ := Kd.at_bool (by repeat (first | (with_reducible exact HR217_0.out) | (with_reducible refine Kd.C_alloc ?_ _) | (with_reducible refine Kd.C_drewN ?_ _) | (with_reducible refine Kd.C_drew ?_) | exact HR217_0.out)) x8_2 p218 q218
                                  (try rw [← Nbq13.out] at hx218_0)
                                  (try rw [← Nbq17.out] at hx218_0)
                                  cases e218
                                  replace p218 := eq_true p218
                                  replace q218 := eq_true q218
                                  have p219 : 0 ≤ (x8_2 : Int) := of_decide_eq_true (by first | (with_reducible assumption) | assumption)
                                  have q219 : x8_2 < (t209.length : Int) := of_decide_eq_true (by first | (with_reducible assumption) | assumption)
                                  obtain ⟨ad219, A219_0, c219_0, e219, hx219_0, hl219_0, hi219_0⟩ := at_L1 (Kd.S_reads' HO_4.out).2.2 x8_2 p219 q219
                                  obtain rfl : ad217 = ad219 := (by injection e219)
                                  obtain ⟨ce219, hce219, hMe219, hcc219⟩ := Kd.S_get HO_4.out [] x8_2 p219 (by first | exact q219 | exact of_decide_eq_true (by first | (with_reducible assumption) | assumption) | (have e_ := (Kd.S_reads' HO_4.out).1; omega))
                                  obtain ⟨ve219_0, rfl, ge219_0⟩ := hMe219
                                  have hv219_0 := hcc219 0 _ rfl
                                  rw [Nat.add_zero, show ((Kd.slice 4 Kd.bool)).sz = 1 from rfl, Nat.mul_one] at hv219_0
                                  replace hv219_0 := Option.some.inj (hv219_0.symm.trans hx219_0)
                                  rw [hv219_0] at ge219_0
                                  have HL219_0 := Aside0.mk (show Kd.R Kd.bool 4 _ _ _ _ (rd_L1 t209 x8_2) from ge219_0)
                                  clear hv219_0 ge219_0
                                  clear hcc219 hce219
                                  have HR219_0 := Aside0.mk hi219_0
                                  have HC219_0 := Aside0.mk hl219_0
                                  clear hi219_0 hl219_0
                                  replace p219 := eq_true p219
                                  replace q219 := eq_true q219
                                  have p220 : 0 ≤ (x19_1 : Int) := of_decide_eq_true (by first | (with_reducible assumption) | assumption)
                                  have q220 : x19_1 < ((rd_L1 t209 x8_2).length : Int) := of_decide_eq_true (by first | (with_reducible assumption) | assumption)
                                  obtain ⟨ad220, e220, hx220_0⟩ := Kd.at_bool (by repeat (first | (with_reducible exact HR219_0.out) | (with_reducible refine Kd.C_alloc ?_ _) | (with_reducible refine Kd.C_drewN ?_ _) | (with_reducible refine Kd.C_drew ?_) | exact HR219_0.out)) x19_1 p220 q220
                                  (try rw [← Nbq13.out] at hx220_0)
                                  (try rw [← Nbq17.out] at hx220_0)
                                  cases e220
                                  replace p220 := eq_true p220
                                  replace q220 := eq_true q220
                                  go_wp2_with (first | ((with_reducible refine gate_builtin (b := .append) (xs := #[.tmp 46, .tmp 48]) rfl ?_); at_builtin; refine Kd.R_append (Kd.int .i64) (w0 := w) w.heap.size rfl (.tmp 46) (.tmp 48) 26 3 (.int .i64 0) 8 rfl Tryd.underlying26 info3 rfl (by decide) (by omega) u6 x6_1 x8_2 [.int .i64 x8_2] (fun _ => True) (fun _ => False) rfl rfl ?aP (fun _ hk => hk.elim) ?aF ?aO ?aB ?aS ?aL ?_; (case aP => exact rfl); (case aB => exact (by repeat (first | (with_reducible first | exact HB.out | apply below_alloc | apply pw_below_drewN | apply below_drew1) | exact HB.out))); (case aF => exact (fun _ _ => trivial)); (case aO => exact (by (with_reducible repeat (first | apply Kd.R_alloc | apply Kd.R_drewN | apply Kd.R_drew)); exact HO_6.out)); (case aS => exact (below_size (by repeat (first | (with_reducible first | exact HB.out | apply below_alloc | apply pw_below_drewN | apply below_drew1) | exact HB.out)))); (case aL => have := LMc19.out; omega); intro v222 w20 ho hb hg hat; rw [← Ny221.out] at ho; have n0_ := Aside0.mk (Kd.S_over' (by (with_reducible repeat (first | apply Kd.S_alloc | apply Kd.S_drewN | apply Kd.S_drew)); exact HO_4.out) (Kd.R_typed (by (with_reducible repeat (first | apply Kd.R_alloc | apply Kd.R_drewN | apply Kd.R_drew)); exact HO_6.out)) (by decide) hg); have n1_ := Aside0.mk (Kd.R_over' (by (with_reducible repeat (first | apply Kd.R_alloc | apply Kd.R_drewN | apply Kd.R_drew)); exact HL217_0.out) (Kd.R_typed (by (with_reducible repeat (first | apply Kd.R_alloc | apply Kd.R_drewN | apply Kd.R_drew)); exact HO_6.out)) (by decide) hg); have n2_ := Aside0.mk (Kd.R_over' (by (with_reducible repeat (first | apply Kd.R_alloc | apply Kd.R_drewN | apply Kd.R_drew)); exact HL219_0.out) (Kd.R_typed (by (with_reducible repeat (first | apply Kd.R_alloc | apply Kd.R_drewN | apply Kd.R_drew)); exact HO_6.out)) (by decide) hg); have n3_ := Aside0.mk (hb); have n4_ := Aside0.mk (ho); clear HO_4; clear HL217_0; clear HL219_0; clear HB; clear HO_6; have HO_4 := n0_; have HL217_0 := n1_; have HL219_0 := n2_; have HB := n3_; have HO223 := n4_; clear n0_ n1_ n2_ n3_ n4_; clear ho hb hg hat))
                                  go_roundg k2
                                  case measure => have := HK1.out; have := HK2.out; omega
                                  case rel => exact ⟨(y221), (wrap64 (x19_1 + 1)), (by first | rfl | (simp; done) | (simp [*]; done)), H', ⟨by have := HK1.out; have := HK2.out; omega⟩, ⟨by (with_reducible repeat (first | apply Kd.S_alloc | apply Kd.S_drewN | apply Kd.S_drew)); exact HO_4.out⟩, ⟨by (with_reducible repeat (first | apply Kd.R_alloc | apply Kd.R_drewN | apply Kd.R_drew)); exact HO223.out⟩, ⟨by repeat (first | (with_reducible first | exact HB.out | apply below_alloc | apply pw_below_drewN | apply below_drew1) | exact HB.out)⟩⟩
                                · rw [if_neg c19] at H
                                  exact absurd H (by simp)
                              · replace c18 := Bool.eq_false_iff.mpr c18
                                subst c18
                                have H1 : (graph_Groups.l1 k2 t209 x6_1 x19_1 (wrap64 (x8_2 + 1)) (t209.length : Int) x19_1) = some (r1, r2) := by rw [if_neg (show ¬ (false = true) by decide)] at H; exact H
                                clear H
                                have H := H1
                                clear H1
                                have H' := Aside0.mk H
                                clear H
                                have p217 : 0 ≤ (x19_1 : Int) := of_decide_eq_true (by first | (with_reducible assumption) | assumption)
                                have q217 : x19_1 < (t209.length : Int) := of_decide_eq_true (by first | (with_reducible assumption) | assumption)
                                obtain ⟨ad217, A217_0, c217_0, e217, hx217_0, hl217_0, hi217_0⟩ := at_L1 (Kd.S_reads' HO_4.out).2.2 x19_1 p217 q217
                                cases e217
                                obtain ⟨ce217, hce217, hMe217, hcc217⟩ := Kd.S_get HO_4.out [] x19_1 p217 (by first | exact q217 | exact of_decide_eq_true (by first | (with_reducible assumption) | assumption) | (have e_ := (Kd.S_reads' HO_4.out).1; omega))
                                obtain ⟨ve217_0, rfl, ge217_0⟩ := hMe217
                                have hv217_0 := hcc217 0 _ rfl
                                rw [Nat.add_zero, show ((Kd.slice 4 Kd.bool)).sz = 1 from rfl, Nat.mul_one] at hv217_0
                                replace hv217_0 := Option.some.inj (hv217_0.symm.trans hx217_0)
                                rw [hv217_0] at ge217_0
                                have HL217_0 := Aside0.mk (show Kd.R Kd.bool 4 _ _ _ _ (rd_L1 t209 x19_1) from ge217_0)
                                clear hv217_0 ge217_0
                                clear hcc217 hce217
                                have HR217_0 := Aside0.mk hi217_0
                                have HC217_0 := Aside0.mk hl217_0
                                clear hi217_0 hl217_0
                                replace p217 := eq_true p217
                                replace q217 := eq_true q217
                                have p218 : 0 ≤ (x8_2 : Int) := of_decide_eq_true (by first | (with_reducible assumption) | assumption)
                                have q218 : x8_2 < ((rd_L1 t209 x19_1).length : Int) := of_decide_eq_true (by first | (with_reducible assumption) | assumption)
                                obtain ⟨ad218, e218, hx218_0⟩ := Kd.at_bool (by repeat (first | (with_reducible exact HR217_0.out) | (with_reducible refine Kd.C_alloc ?_ _) | (with_reducible refine Kd.C_drewN ?_ _) | (with_reducible refine Kd.C_drew ?_) | exact HR217_0.out)) x8_2 p218 q218
                                (try rw [← Nbq13.out] at hx218_0)
                                (try rw [← Nbq17.out] at hx218_0)
                                cases e218
                                replace p218 := eq_true p218
                                replace q218 := eq_true q218
                                have p219 : 0 ≤ (x8_2 : Int) := of_decide_eq_true (by first | (with_reducible assumption) | assumption)
                                have q219 : x8_2 < (t209.length : Int) := of_decide_eq_true (by first | (with_reducible assumption) | assumption)
                                obtain ⟨ad219, A219_0, c219_0, e219, hx219_0, hl219_0, hi219_0⟩ := at_L1 (Kd.S_reads' HO_4.out).2.2 x8_2 p219 q219
                                obtain rfl : ad217 = ad219 := (by injection e219)
                                obtain ⟨ce219, hce219, hMe219, hcc219⟩ := Kd.S_get HO_4.out [] x8_2 p219 (by first | exact q219 | exact of_decide_eq_true (by first | (with_reducible assumption) | assumption) | (have e_ := (Kd.S_reads' HO_4.out).1; omega))
                                obtain ⟨ve219_0, rfl, ge219_0⟩ := hMe219
                                have hv219_0 := hcc219 0 _ rfl
                                rw [Nat.add_zero, show ((Kd.slice 4 Kd.bool)).sz = 1 from rfl, Nat.mul_one] at hv219_0
                                replace hv219_0 := Option.some.inj (hv219_0.symm.trans hx219_0)
                                rw [hv219_0] at ge219_0
                                have HL219_0 := Aside0.mk (show Kd.R Kd.bool 4 _ _ _ _ (rd_L1 t209 x8_2) from ge219_0)
                                clear hv219_0 ge219_0
                                clear hcc219 hce219
                                have HR219_0 := Aside0.mk hi219_0
                                have HC219_0 := Aside0.mk hl219_0
                                clear hi219_0 hl219_0
                                replace p219 := eq_true p219
                                replace q219 := eq_true q219
                                have p220 : 0 ≤ (x19_1 : Int) := of_decide_eq_true (by first | (with_reducible assumption) | assumption)
                                have q220 : x19_1 < ((rd_L1 t209 x8_2).length : Int) := of_decide_eq_true (by first | (with_reducible assumption) | assumption)
                                obtain ⟨ad220, e220, hx220_0⟩ := Kd.at_bool (by repeat (first | (with_reducible exact HR219_0.out) | (with_reducible refine Kd.C_alloc ?_ _) | (with_reducible refine Kd.C_drewN ?_ _) | (with_reducible refine Kd.C_drew ?_) | exact HR219_0.out)) x19_1 p220 q220
                                (try rw [← Nbq13.out] at hx220_0)
                                (try rw [← Nbq17.out] at hx220_0)
                                cases e220
                                replace p220 := eq_true p220
                                replace q220 := eq_true q220
                                go_wp2
                                go_roundg k2
                                case measure => have := HK1.out; have := HK2.out; omega
                                case rel => exact ⟨(wrap64 (x8_2 + 1)), (by first | rfl | (simp; done) | (simp [*]; done)), H', ⟨by have := HK1.out; have := HK2.out; omega⟩, ⟨by (with_reducible repeat (first | apply Kd.S_alloc | apply Kd.S_drewN | apply Kd.S_drew)); exact HO_4.out⟩, ⟨by (with_reducible repeat (first | apply Kd.R_alloc | apply Kd.R_drewN | apply Kd.R_drew)); exact HO_6.out⟩, ⟨by repeat (first | (with_reducible first | exact HB.out | apply below_alloc | apply pw_below_drewN | apply below_drew1) | exact HB.out)⟩⟩
                            · rw [if_neg c16] at H
                              exact absurd H (by simp)
                          · rw [if_neg c15] at H
                            exact absurd H (by simp)
                        · replace c14 := Bool.eq_false_iff.mpr c14
                          subst c14
                          have H1 : (graph_Groups.l1 k2 t209 x6_1 x19_1 (wrap64 (x8_2 + 1)) (t209.length : Int) x19_1) = some (r1, r2) := by rw [if_neg (show ¬ (false = true) by decide)] at H; exact H
                          clear H
                          have H := H1
                          clear H1
                          have H' := Aside0.mk H
                          clear H
                          have p217 : 0 ≤ (x19_1 : Int) := of_decide_eq_true (by first | (with_reducible assumption) | assumption)
                          have q217 : x19_1 < (t209.length : Int) := of_decide_eq_true (by first | (with_reducible assumption) | assumption)
                          obtain ⟨ad217, A217_0, c217_0, e217, hx217_0, hl217_0, hi217_0⟩ := at_L1 (Kd.S_reads' HO_4.out).2.2 x19_1 p217 q217
                          cases e217
                          obtain ⟨ce217, hce217, hMe217, hcc217⟩ := Kd.S_get HO_4.out [] x19_1 p217 (by first | exact q217 | exact of_decide_eq_true (by first | (with_reducible assumption) | assumption) | (have e_ := (Kd.S_reads' HO_4.out).1; omega))
                          obtain ⟨ve217_0, rfl, ge217_0⟩ := hMe217
                          have hv217_0 := hcc217 0 _ rfl
                          rw [Nat.add_zero, show ((Kd.slice 4 Kd.bool)).sz = 1 from rfl, Nat.mul_one] at hv217_0
                          replace hv217_0 := Option.some.inj (hv217_0.symm.trans hx217_0)
                          rw [hv217_0] at ge217_0
                          have HL217_0 := Aside0.mk (show Kd.R Kd.bool 4 _ _ _ _ (rd_L1 t209 x19_1) from ge217_0)
                          clear hv217_0 ge217_0
                          clear hcc217 hce217
                          have HR217_0 := Aside0.mk hi217_0
                          have HC217_0 := Aside0.mk hl217_0
                          clear hi217_0 hl217_0
                          replace p217 := eq_true p217
                          replace q217 := eq_true q217
                          have p218 : 0 ≤ (x8_2 : Int) := of_decide_eq_true (by first | (with_reducible assumption) | assumption)
                          have q218 : x8_2 < ((rd_L1 t209 x19_1).length : Int) := of_decide_eq_true (by first | (with_reducible assumption) | assumption)
                          obtain ⟨ad218, e218, hx218_0⟩ := Kd.at_bool (by repeat (first | (with_reducible exact HR217_0.out) | (with_reducible refine Kd.C_alloc ?_ _) | (with_reducible refine Kd.C_drewN ?_ _) | (with_reducible refine Kd.C_drew ?_) | exact HR217_0.out)) x8_2 p218 q218
                          (try rw [← Nbq13.out] at hx218_0)
                          cases e218
                          replace p218 := eq_true p218
                          replace q218 := eq_true q218
                          go_wp2
                          go_roundg k2
                          case measure => have := HK1.out; have := HK2.out; omega
                          case rel => exact ⟨(wrap64 (x8_2 + 1)), (by first | rfl | (simp; done) | (simp [*]; done)), H', ⟨by have := HK1.out; have := HK2.out; omega⟩, ⟨by (with_reducible repeat (first | apply Kd.S_alloc | apply Kd.S_drewN | apply Kd.S_drew)); exact HO_4.out⟩, ⟨by (with_reducible repeat (first | apply Kd.R_alloc | apply Kd.R_drewN | apply Kd.R_drew)); exact HO_6.out⟩, ⟨by repeat (first | (with_reducible first | exact HB.out | apply below_alloc | apply pw_below_drewN | apply below_drew1) | exact HB.out)⟩⟩
                      · rw [if_neg c12] at H
                        exact absurd H (by simp)
                    · rw [if_neg c11] at H
                      exact absurd H (by simp)
                  · rw [if_neg c10] at H
                    exact absurd H (by simp)
                · rw [if_neg c9] at H
                  exact absurd H (by simp)
        · rw [if_neg c5] at H
          have c5b0 : decide (x19_1 < (t209.length : Int)) = false := decide_eq_false c5
          clear c5
          simp only [Option.some.injEq, Prod.mk.injEq] at H
          obtain ⟨rfl, rfl⟩ := H
          go_wp2
          go_ret2
          exact ⟨_, by first | rfl | (simp [errW_none, errW_some] <;> rfl) | (simp [*, errW_none, errW_some] <;> rfl), by (with_reducible repeat (first | apply Kd.R_alloc | apply Kd.R_drewN | apply Kd.R_drew)); exact HO_6.out, by repeat (first | (with_reducible first | exact HB.out | apply below_alloc | apply pw_below_drewN | apply below_drew1) | exact HB.out)⟩
  · have H1 : (some (([] : List Int), some q213)) = some (r1, r2) := by rw [if_neg (show ¬ (some q213).isNone = true by simp)] at H; exact H
    clear H
    have H := H1
    clear H1
    try simp only [errW_none, errW_some]
    simp only [Option.some.injEq, Prod.mk.injEq] at H
    obtain ⟨rfl, rfl⟩ := H
    go_enter Tryd.func16, Tryd.ntmps16
    go_wp2_with (first | ((with_reducible refine gate_callee (f := 15) rfl ?_); refine goesL_ (some 11) rfl rfl Tryd.func15 (by kernel_rfl) rfl #[.slice A0 l0.length c0] rfl (by (try simp only [List.map_toArray, List.map_cons, List.map_nil]); first | done | rfl | (simp only [List.length_drop, List.length_take]; rfl)) ?_; (with_reducible refine (graph_Closed.calls k _ _ l0 t209 (some q213) _ ?side1 ?side2 A2.out).mono ?_); (case side1 => repeat (first | exact HR0.out | (with_reducible refine Kd.C_alloc ?_ _) | (with_reducible refine Kd.C_drewN ?_ _) | (with_reducible refine Kd.C_drew ?_))); (case side2 => exact HC0.out); rintro e w21 ⟨v211, rfl, ho0, hb⟩; refine ⟨_, rfl, ?_⟩; have n0_ := Aside0.mk (Kd.S_lower ho0 (below_size (by repeat (first | (with_reducible first | exact HB.out | apply below_alloc | apply pw_below_drewN | apply below_drew1) | exact HB.out)))); have n1_ := Aside0.mk (below_step (by repeat (first | (with_reducible first | exact HB.out | apply below_alloc | apply pw_below_drewN | apply below_drew1) | exact HB.out)) hb); clear HB; have HO212 := n0_; have HB := n1_; clear n0_ n1_; (try clear hb); (try clear hb2); (try clear hk); (try clear hi); (try clear ho0); (try simp only [errW_none, errW_some])))
    go_ret2
    exact ⟨_, by first | rfl | (simp [errW_none, errW_some] <;> rfl) | (simp [*, errW_none, errW_some] <;> rfl), by first | exact Kd.R_nil _ _ _ _ _ | exact Kd.N_nil _ _ _ _ _ | exact Kd.V_nil _ _ _ _ _ | exact Kd.Q_nil _ _ _ _ _ | exact Kd.S_nil _ _ _ _ _, by repeat (first | (with_reducible first | exact HB.out | apply below_alloc | apply pw_below_drewN | apply below_drew1) | exact HB.out)⟩

end Go.Proofs.YtbcbjbmjoncinaaDoor.PA
