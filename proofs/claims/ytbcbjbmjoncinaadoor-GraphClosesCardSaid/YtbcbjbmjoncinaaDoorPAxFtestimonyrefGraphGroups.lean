-- written by a printer (wip/mkprint.py)
import Derived.Test.YtbcbjbmjoncinaaDoorPAx0
import Derived.Test.YtbcbjbmjoncinaaDoorClosed
namespace Go.Proofs.YtbcbjbmjoncinaaDoor.PA
open Go.RowKit Go.Proofs.YtbcbjbmjoncinaaDoorW.PrintWords Go.Proofs.YtbcbjbmjoncinaaDoorW.PrintLast Go.Proofs.YtbcbjbmjoncinaaDoorW.PrintMore
attribute [local go_sem] max2_int min2_int max_two min_two max_three min_three max_four min_four   -- for this text's walks alone
set_option linter.unusedVariables false
set_option linter.unusedSimpArgs false

/-! ### testimonyref_GraphGroups: function 14 -/
mutual
def testimonyref_GraphGroups.l0 : Nat → List (List Bool) → List Int → Int → Int → Option (List Int)
  | 0, _, _, _, _ => none
  | k + 1, x3, x4, x11, x12 => if x12 < x11 then (testimonyref_GraphGroups.l1 k x3 x4 x12 x12 (wrap64 (x12 - 1)) x11 x12) else (some x4)
def testimonyref_GraphGroups.l1 : Nat → List (List Bool) → List Int → Int → Int → Int → Int → Int → Option (List Int)
  | 0, _, _, _, _, _, _, _ => none
  | k + 1, x3, x4, x5, x6, x7, x11, x12 => if x7 ≥ 0 then (if 0 ≤ x5 then (if x5 < (x3.length : Int) then (if 0 ≤ x7 then (if x7 < ((rd_L1 x3 x5).length : Int) then (if rdOf false (rd_L1 x3 x5) x7 = true then (if x7 < (x3.length : Int) then (if x5 < ((rd_L1 x3 x7).length : Int) then (if rdOf false (rd_L1 x3 x7) x5 = true then (testimonyref_GraphGroups.l1 k x3 x4 x5 x7 (wrap64 (x7 - 1)) x11 x12) else (testimonyref_GraphGroups.l1 k x3 x4 x5 x6 (wrap64 (x7 - 1)) x11 x12)) else (none)) else (none)) else (testimonyref_GraphGroups.l1 k x3 x4 x5 x6 (wrap64 (x7 - 1)) x11 x12)) else (none)) else (none)) else (none)) else (none)) else (if x4.length < 17592186044416 then (testimonyref_GraphGroups.l0 k x3 (x4 ++ [x6]) x11 (wrap64 (x12 + 1))) else (none))
end
def testimonyref_GraphGroups.f (k : Nat) (l0 : List (List Bool)) : Option (List Int) := (testimonyref_GraphClosed.f k l0).bind fun t170 => (testimonyref_GraphGroups.l0 k t170 ([] : List Int) (l0.length : Int) 0)
theorem testimonyref_GraphGroups.mono_l : ∀ k, (∀ y0 y1 y2 y3, LeO (testimonyref_GraphGroups.l0 k y0 y1 y2 y3) (testimonyref_GraphGroups.l0 (k + 1) y0 y1 y2 y3)) ∧ (∀ y0 y1 y2 y3 y4 y5 y6, LeO (testimonyref_GraphGroups.l1 k y0 y1 y2 y3 y4 y5 y6) (testimonyref_GraphGroups.l1 (k + 1) y0 y1 y2 y3 y4 y5 y6))
  | 0 => ⟨fun _ _ _ _ r h => by simp [testimonyref_GraphGroups.l0] at h, fun _ _ _ _ _ _ _ r h => by simp [testimonyref_GraphGroups.l1] at h⟩
  | k + 1 => by
    obtain ⟨ih0, ih1⟩ := testimonyref_GraphGroups.mono_l k
    refine ⟨?_, ?_⟩
    · intro y0 y1 y2 y3
      unfold testimonyref_GraphGroups.l0
      repeat' first
      | (with_reducible exact ih0 _ _ _ _)
      | (with_reducible exact ih1 _ _ _ _ _ _ _)
      | (with_reducible exact testimonyref_GraphClosed.mono _ _)
      | (with_reducible exact LeO.refl _)
      | (with_reducible exact LeO.none _)
      | (with_reducible refine LeO.ite ?_ ?_)
      | (with_reducible refine LeO.bind ?_ (fun _ => ?_))
      | exact ih0 _ _ _ _
      | exact ih1 _ _ _ _ _ _ _
      | exact testimonyref_GraphClosed.mono _ _
      | exact LeO.none _
      | refine LeO.ite ?_ ?_
      | refine LeO.bind ?_ (fun _ => ?_)
    · intro y0 y1 y2 y3 y4 y5 y6
      unfold testimonyref_GraphGroups.l1
      repeat' first
      | (with_reducible exact ih0 _ _ _ _)
      | (with_reducible exact ih1 _ _ _ _ _ _ _)
      | (with_reducible exact testimonyref_GraphClosed.mono _ _)
      | (with_reducible exact LeO.refl _)
      | (with_reducible exact LeO.none _)
      | (with_reducible refine LeO.ite ?_ ?_)
      | (with_reducible refine LeO.bind ?_ (fun _ => ?_))
      | exact ih0 _ _ _ _
      | exact ih1 _ _ _ _ _ _ _
      | exact testimonyref_GraphClosed.mono _ _
      | exact LeO.none _
      | refine LeO.ite ?_ ?_
      | refine LeO.bind ?_ (fun _ => ?_)
theorem testimonyref_GraphGroups.mono : ∀ a0 k, LeO (testimonyref_GraphGroups.f k a0) (testimonyref_GraphGroups.f (k + 1) a0) := by
  intro a0 k
  obtain ⟨ih0, ih1⟩ := testimonyref_GraphGroups.mono_l k
  unfold testimonyref_GraphGroups.f
  repeat' first
      | (with_reducible exact ih0 _ _ _ _)
      | (with_reducible exact ih1 _ _ _ _ _ _ _)
      | (with_reducible exact testimonyref_GraphClosed.mono _ _)
      | (with_reducible exact LeO.refl _)
      | (with_reducible exact LeO.none _)
      | (with_reducible refine LeO.ite ?_ ?_)
      | (with_reducible refine LeO.bind ?_ (fun _ => ?_))
      | exact ih0 _ _ _ _
      | exact ih1 _ _ _ _ _ _ _
      | exact testimonyref_GraphClosed.mono _ _
      | exact LeO.none _
      | refine LeO.ite ?_ ?_
      | refine LeO.bind ?_ (fun _ => ?_)
set_option maxHeartbeats 8000000 in
set_option maxRecDepth 100000 in
theorem testimonyref_GraphGroups.calls (k : Nat) (A0 : Option Addr) (c0 : Nat) (l0 : List (List Bool)) (r : List Int) (w : World) (hr0 : Kd.C (Kd.slice 4 Kd.bool) w A0 l0.length l0) (hc0 : l0.length ≤ c0) (h : testimonyref_GraphGroups.f k l0 = some r) :
    Calls Tryd.prog 14 #[.slice A0 l0.length c0] w fun e w' => ∃ v0_ : Value, e = .returned (v0_) ∧ Kd.R (Kd.int .i64) 3 w' w.heap.size (fun _ => True) v0_ r ∧ Below w.heap.size w w' := by
  have HR0 := Aside0.mk hr0
  have HC0 := Aside0.mk hc0
  clear hr0 hc0
  have HB := Aside0.mk (Below.refl w.heap.size w)
  have H : ((testimonyref_GraphClosed.f k l0).bind fun t170 => (testimonyref_GraphGroups.l0 k t170 ([] : List Int) (l0.length : Int) 0)) = some r := h
  clear h
  replace H := Option.bind_eq_some_iff.mp H
  obtain ⟨t170, A20, H⟩ := H
  replace H : (testimonyref_GraphGroups.l0 k t170 ([] : List Int) (l0.length : Int) 0) = some r := H
  have A2 := Aside0.mk A20
  clear A20
  have H' := Aside0.mk H
  clear H
  go_enter Tryd.func14, Tryd.ntmps14
  go_wp2_with (first | ((with_reducible refine gate_callee (f := 13) rfl ?_); refine goesL_ (some 9) rfl rfl Tryd.func13 (by kernel_rfl) rfl #[.slice A0 l0.length c0] rfl (by (try simp only [List.map_toArray, List.map_cons, List.map_nil]); first | done | rfl | (simp only [List.length_drop, List.length_take]; rfl)) ?_; (with_reducible refine (testimonyref_GraphClosed.calls k _ _ l0 t170 _ ?side1 ?side2 A2.out).mono ?_); (case side1 => repeat (first | exact HR0.out | (with_reducible refine Kd.C_alloc ?_ _) | (with_reducible refine Kd.C_drewN ?_ _) | (with_reducible refine Kd.C_drew ?_))); (case side2 => exact HC0.out); rintro e w3 ⟨v171, rfl, ho0, hb⟩; refine ⟨_, rfl, ?_⟩; have n0_ := Aside0.mk (Kd.S_lower ho0 (below_size (by repeat (first | (with_reducible first | exact HB.out | apply below_alloc | apply pw_below_drewN | apply below_drew1) | exact HB.out)))); have n1_ := Aside0.mk (below_step (by repeat (first | (with_reducible first | exact HB.out | apply below_alloc | apply pw_below_drewN | apply below_drew1) | exact HB.out)) hb); clear HB; have HO172 := n0_; have HB := n1_; clear n0_ n1_; (try clear hb); (try clear hb2); (try clear hk); (try clear hi); (try clear ho0)))
  go_loopg [4, 12] k (fun kq v4 v12 w' => ∃ (x4_1 : List Int) (x12_1 : Int), v12 = .int .i64 x12_1 ∧ Aside0 (testimonyref_GraphGroups.l0 kq t170 x4_1 (l0.length : Int) x12_1 = some r) ∧ Aside0 (kq ≤ k) ∧ Aside0 (Kd.S (Kd.slice 4 Kd.bool) 43 w' w.heap.size (fun _ => True) v171 t170) ∧ Aside0 (Kd.R (Kd.int .i64) 3 w' w.heap.size (fun _ => True) v4 x4_1) ∧ Aside0 (Below w.heap.size w w'))
  case atStart => exact ⟨(([] : List Int)), (0), (by first | rfl | (simp; done) | (simp [*]; done)), H', ⟨Nat.le_refl _⟩, ⟨by (with_reducible repeat (first | apply Kd.S_alloc | apply Kd.S_drewN | apply Kd.S_drew)); exact HO172.out⟩, ⟨by first | exact Kd.R_nil _ _ _ _ _ | exact Kd.N_nil _ _ _ _ _ | exact Kd.V_nil _ _ _ _ _ | exact Kd.Q_nil _ _ _ _ _ | exact Kd.S_nil _ _ _ _ _⟩, ⟨by repeat (first | (with_reducible first | exact HB.out | apply below_alloc | apply pw_below_drewN | apply below_drew1) | exact HB.out)⟩⟩
  case round =>
    clear H'
    try clear c1
    try clear p2
    obtain ⟨x4_1, x12_1, rfl, HA, HK1, HO_3, HO_4, HB⟩ := hrel
    cases gk with
    | zero => exact absurd HA.out (by simp [testimonyref_GraphGroups.l0])
    | succ k1 =>
      have H := HA.out
      clear HA
      simp only [testimonyref_GraphGroups.l0] at H
      by_cases c4 : x12_1 < (l0.length : Int)
      · rw [if_pos c4] at H
        have c4b0 : decide (x12_1 < (l0.length : Int)) = true := decide_eq_true c4
        clear c4
        have H' := Aside0.mk H
        clear H
        go_wp2
        go_loopg [6, 7] k1 (fun kq v6 v7 w' => ∃ (x6_2 : Int) (x7_2 : Int), v6 = .int .i64 x6_2 ∧ v7 = .int .i64 x7_2 ∧ Aside0 (testimonyref_GraphGroups.l1 kq t170 x4_1 x12_1 x6_2 x7_2 (l0.length : Int) x12_1 = some r) ∧ Aside0 (kq ≤ k1) ∧ Aside0 (Kd.S (Kd.slice 4 Kd.bool) 43 w' w.heap.size (fun _ => True) v171 t170) ∧ Aside0 (Kd.R (Kd.int .i64) 3 w' w.heap.size (fun _ => True) u4 x4_1) ∧ Aside0 (Below w.heap.size w w'))
        case atStart => exact ⟨(x12_1), (wrap64 (x12_1 - 1)), (by first | rfl | (simp; done) | (simp [*]; done)), (by first | rfl | (simp; done) | (simp [*]; done)), H', ⟨Nat.le_refl _⟩, ⟨by (with_reducible repeat (first | apply Kd.S_alloc | apply Kd.S_drewN | apply Kd.S_drew)); exact HO_3.out⟩, ⟨by (with_reducible repeat (first | apply Kd.R_alloc | apply Kd.R_drewN | apply Kd.R_drew)); exact HO_4.out⟩, ⟨by repeat (first | (with_reducible first | exact HB.out | apply below_alloc | apply pw_below_drewN | apply below_drew1) | exact HB.out)⟩⟩
        case round =>
          clear H'
          try clear c1
          try clear p2
          try clear c4
          try clear c4b0
          try clear p2
          obtain ⟨x6_2, x7_2, rfl, rfl, HA, HK2, HO_3, HO_4, HB⟩ := hrel
          cases gk with
          | zero => exact absurd HA.out (by simp [testimonyref_GraphGroups.l1])
          | succ k2 =>
            have H := HA.out
            clear HA
            simp only [testimonyref_GraphGroups.l1] at H
            by_cases c5 : x7_2 ≥ 0
            · rw [if_pos c5] at H
              have c5b0 : decide (0 ≤ x7_2) = true := decide_eq_true c5
              clear c5
              by_cases c6 : 0 ≤ x12_1
              · rw [if_pos c6] at H
                have c6b0 : decide (0 ≤ x12_1) = true := decide_eq_true c6
                clear c6
                by_cases c7 : x12_1 < (t170.length : Int)
                · rw [if_pos c7] at H
                  have c7b0 : decide (x12_1 < (t170.length : Int)) = true := decide_eq_true c7
                  clear c7
                  by_cases c8 : 0 ≤ x7_2
                  · rw [if_pos c8] at H
                    have c8b0 : decide (0 ≤ x7_2) = true := decide_eq_true c8
                    clear c8
                    by_cases c9 : x7_2 < ((rd_L1 t170 x12_1).length : Int)
                    · rw [if_pos c9] at H
                      have c9b0 : decide (x7_2 < ((rd_L1 t170 x12_1).length : Int)) = true := decide_eq_true c9
                      clear c9
                      obtain ⟨bq10, hbq10⟩ : ∃ b_ : Bool, b_ = (rdOf false (rd_L1 t170 x12_1) x7_2) := ⟨_, rfl⟩
                      replace H : (if bq10 = true then (if x7_2 < (t170.length : Int) then (if x12_1 < ((rd_L1 t170 x7_2).length : Int) then (if rdOf false (rd_L1 t170 x7_2) x12_1 = true then (testimonyref_GraphGroups.l1 k2 t170 x4_1 x12_1 x7_2 (wrap64 (x7_2 - 1)) (l0.length : Int) x12_1) else (testimonyref_GraphGroups.l1 k2 t170 x4_1 x12_1 x6_2 (wrap64 (x7_2 - 1)) (l0.length : Int) x12_1)) else (none)) else (none)) else (testimonyref_GraphGroups.l1 k2 t170 x4_1 x12_1 x6_2 (wrap64 (x7_2 - 1)) (l0.length : Int) x12_1)) = some r := by rw [← hbq10] at H; exact H
                      have Nbq10 := Aside0.mk hbq10
                      clear hbq10
                      by_cases c11 : bq10 = true
                      · subst c11
                        have H1 : (if x7_2 < (t170.length : Int) then (if x12_1 < ((rd_L1 t170 x7_2).length : Int) then (if rdOf false (rd_L1 t170 x7_2) x12_1 = true then (testimonyref_GraphGroups.l1 k2 t170 x4_1 x12_1 x7_2 (wrap64 (x7_2 - 1)) (l0.length : Int) x12_1) else (testimonyref_GraphGroups.l1 k2 t170 x4_1 x12_1 x6_2 (wrap64 (x7_2 - 1)) (l0.length : Int) x12_1)) else (none)) else (none)) = some r := by rw [if_pos rfl] at H; exact H
                        clear H
                        have H := H1
                        clear H1
                        by_cases c12 : x7_2 < (t170.length : Int)
                        · rw [if_pos c12] at H
                          have c12b0 : decide (x7_2 < (t170.length : Int)) = true := decide_eq_true c12
                          clear c12
                          by_cases c13 : x12_1 < ((rd_L1 t170 x7_2).length : Int)
                          · rw [if_pos c13] at H
                            have c13b0 : decide (x12_1 < ((rd_L1 t170 x7_2).length : Int)) = true := decide_eq_true c13
                            clear c13
                            obtain ⟨bq14, hbq14⟩ : ∃ b_ : Bool, b_ = (rdOf false (rd_L1 t170 x7_2) x12_1) := ⟨_, rfl⟩
                            replace H : (if bq14 = true then (testimonyref_GraphGroups.l1 k2 t170 x4_1 x12_1 x7_2 (wrap64 (x7_2 - 1)) (l0.length : Int) x12_1) else (testimonyref_GraphGroups.l1 k2 t170 x4_1 x12_1 x6_2 (wrap64 (x7_2 - 1)) (l0.length : Int) x12_1)) = some r := by rw [← hbq14] at H; exact H
                            have Nbq14 := Aside0.mk hbq14
                            clear hbq14
                            by_cases c15 : bq14 = true
                            · subst c15
                              have H1 : (testimonyref_GraphGroups.l1 k2 t170 x4_1 x12_1 x7_2 (wrap64 (x7_2 - 1)) (l0.length : Int) x12_1) = some r := by rw [if_pos rfl] at H; exact H
                              clear H
                              have H := H1
                              clear H1
                              have H' := Aside0.mk H
                              clear H
                              obtain ⟨Ao16, co16, eo16⟩ := Kd.S_slice HO_3.out
                              subst eo16
                              have p173 : 0 ≤ (x12_1 : Int) := of_decide_eq_true (by first | (with_reducible assumption) | assumption)
                              have q173 : x12_1 < (t170.length : Int) := of_decide_eq_true (by first | (with_reducible assumption) | assumption)
                              obtain ⟨ad173, A173_0, c173_0, e173, hx173_0, hl173_0, hi173_0⟩ := at_L1 (Kd.S_reads' HO_3.out).2.2 x12_1 p173 q173
                              cases e173
                              obtain ⟨ce173, hce173, hMe173, hcc173⟩ := Kd.S_get HO_3.out [] x12_1 p173 (by first | exact q173 | exact of_decide_eq_true (by first | (with_reducible assumption) | assumption) | (have e_ := (Kd.S_reads' HO_3.out).1; omega))
                              obtain ⟨ve173_0, rfl, ge173_0⟩ := hMe173
                              have hv173_0 := hcc173 0 _ rfl
                              rw [Nat.add_zero, show ((Kd.slice 4 Kd.bool)).sz = 1 from rfl, Nat.mul_one] at hv173_0
                              replace hv173_0 := Option.some.inj (hv173_0.symm.trans hx173_0)
                              rw [hv173_0] at ge173_0
                              have HL173_0 := Aside0.mk (show Kd.R Kd.bool 4 _ _ _ _ (rd_L1 t170 x12_1) from ge173_0)
                              clear hv173_0 ge173_0
                              clear hcc173 hce173
                              have HR173_0 := Aside0.mk hi173_0
                              have HC173_0 := Aside0.mk hl173_0
                              clear hi173_0 hl173_0
                              replace p173 := eq_true p173
                              replace q173 := eq_true q173
                              have p174 : 0 ≤ (x7_2 : Int) := of_decide_eq_true (by first | (with_reducible assumption) | assumption)
                              have q174 : x7_2 < ((rd_L1 t170 x12_1).length : Int) := of_decide_eq_true (by first | (with_reducible assumption) | assumption)
                              obtain ⟨ad174, e174, hx174_0⟩ := Kd.at_bool (by repeat (first | (with_reducible exact HR173_0.out) | (with_reducible refine Kd.C_alloc ?_ _) | (with_reducible refine Kd.C_drewN ?_ _) | (with_reducible refine Kd.C_drew ?_) | exact HR173_0.out)) x7_2 p174 q174
                              (try rw [← Nbq10.out] at hx174_0)
                              (try rw [← Nbq14.out] at hx174_0)
                              cases e174
                              replace p174 := eq_true p174
                              replace q174 := eq_true q174
                              have p175 : 0 ≤ (x7_2 : Int) := of_decide_eq_true (by first | (with_reducible assumption) | assumption)
                              have q175 : x7_2 < (t170.length : Int) := of_decide_eq_true (by first | (with_reducible assumption) | assumption)
                              obtain ⟨ad175, A175_0, c175_0, e175, hx175_0, hl175_0, hi175_0⟩ := at_L1 (Kd.S_reads' HO_3.out).2.2 x7_2 p175 q175
                              obtain rfl : ad173 = ad175 := (by injection e175)
                              obtain ⟨ce175, hce175, hMe175, hcc175⟩ := Kd.S_get HO_3.out [] x7_2 p175 (by first | exact q175 | exact of_decide_eq_true (by first | (with_reducible assumption) | assumption) | (have e_ := (Kd.S_reads' HO_3.out).1; omega))
                              obtain ⟨ve175_0, rfl, ge175_0⟩ := hMe175
                              have hv175_0 := hcc175 0 _ rfl
                              rw [Nat.add_zero, show ((Kd.slice 4 Kd.bool)).sz = 1 from rfl, Nat.mul_one] at hv175_0
                              replace hv175_0 := Option.some.inj (hv175_0.symm.trans hx175_0)
                              rw [hv175_0] at ge175_0
                              have HL175_0 := Aside0.mk (show Kd.R Kd.bool 4 _ _ _ _ (rd_L1 t170 x7_2) from ge175_0)
                              clear hv175_0 ge175_0
                              clear hcc175 hce175
                              have HR175_0 := Aside0.mk hi175_0
                              have HC175_0 := Aside0.mk hl175_0
                              clear hi175_0 hl175_0
                              replace p175 := eq_true p175
                              replace q175 := eq_true q175
                              have p176 : 0 ≤ (x12_1 : Int) := of_decide_eq_true (by first | (with_reducible assumption) | assumption)
                              have q176 : x12_1 < ((rd_L1 t170 x7_2).length : Int) := of_decide_eq_true (by first | (with_reducible assumption) | assumption)
                              obtain ⟨ad176, e176, hx176_0⟩ := Kd.at_bool (by repeat (first | (with_reducible exact HR175_0.out) | (with_reducible refine Kd.C_alloc ?_ _) | (with_reducible refine Kd.C_drewN ?_ _) | (with_reducible refine Kd.C_drew ?_) | exact HR175_0.out)) x12_1 p176 q176
                              (try rw [← Nbq10.out] at hx176_0)
                              (try rw [← Nbq14.out] at hx176_0)
                              cases e176
                              replace p176 := eq_true p176
                              replace q176 := eq_true q176
                              go_wp2
                              go_roundg k2
                              case measure => have := HK1.out; have := HK2.out; omega
                              case rel => exact ⟨(x7_2), (wrap64 (x7_2 - 1)), (by first | rfl | (simp; done) | (simp [*]; done)), (by first | rfl | (simp; done) | (simp [*]; done)), H', ⟨by have := HK1.out; have := HK2.out; omega⟩, ⟨by (with_reducible repeat (first | apply Kd.S_alloc | apply Kd.S_drewN | apply Kd.S_drew)); exact HO_3.out⟩, ⟨by (with_reducible repeat (first | apply Kd.R_alloc | apply Kd.R_drewN | apply Kd.R_drew)); exact HO_4.out⟩, ⟨by repeat (first | (with_reducible first | exact HB.out | apply below_alloc | apply pw_below_drewN | apply below_drew1) | exact HB.out)⟩⟩
                            · replace c15 := Bool.eq_false_iff.mpr c15
                              subst c15
                              have H1 : (testimonyref_GraphGroups.l1 k2 t170 x4_1 x12_1 x6_2 (wrap64 (x7_2 - 1)) (l0.length : Int) x12_1) = some r := by rw [if_neg (show ¬ (false = true) by decide)] at H; exact H
                              clear H
                              have H := H1
                              clear H1
                              have H' := Aside0.mk H
                              clear H
                              obtain ⟨Ao17, co17, eo17⟩ := Kd.S_slice HO_3.out
                              subst eo17
                              have p173 : 0 ≤ (x12_1 : Int) := of_decide_eq_true (by first | (with_reducible assumption) | assumption)
                              have q173 : x12_1 < (t170.length : Int) := of_decide_eq_true (by first | (with_reducible assumption) | assumption)
                              obtain ⟨ad173, A173_0, c173_0, e173, hx173_0, hl173_0, hi173_0⟩ := at_L1 (Kd.S_reads' HO_3.out).2.2 x12_1 p173 q173
                              cases e173
                              obtain ⟨ce173, hce173, hMe173, hcc173⟩ := Kd.S_get HO_3.out [] x12_1 p173 (by first | exact q173 | exact of_decide_eq_true (by first | (with_reducible assumption) | assumption) | (have e_ := (Kd.S_reads' HO_3.out).1; omega))
                              obtain ⟨ve173_0, rfl, ge173_0⟩ := hMe173
                              have hv173_0 := hcc173 0 _ rfl
                              rw [Nat.add_zero, show ((Kd.slice 4 Kd.bool)).sz = 1 from rfl, Nat.mul_one] at hv173_0
                              replace hv173_0 := Option.some.inj (hv173_0.symm.trans hx173_0)
                              rw [hv173_0] at ge173_0
                              have HL173_0 := Aside0.mk (show Kd.R Kd.bool 4 _ _ _ _ (rd_L1 t170 x12_1) from ge173_0)
                              clear hv173_0 ge173_0
                              clear hcc173 hce173
                              have HR173_0 := Aside0.mk hi173_0
                              have HC173_0 := Aside0.mk hl173_0
                              clear hi173_0 hl173_0
                              replace p173 := eq_true p173
                              replace q173 := eq_true q173
                              have p174 : 0 ≤ (x7_2 : Int) := of_decide_eq_true (by first | (with_reducible assumption) | assumption)
                              have q174 : x7_2 < ((rd_L1 t170 x12_1).length : Int) := of_decide_eq_true (by first | (with_reducible assumption) | assumption)
                              obtain ⟨ad174, e174, hx174_0⟩ := Kd.at_bool (by repeat (first | (with_reducible exact HR173_0.out) | (with_reducible refine Kd.C_alloc ?_ _) | (with_reducible refine Kd.C_drewN ?_ _) | (with_reducible refine Kd.C_drew ?_) | exact HR173_0.out)) x7_2 p174 q174
                              (try rw [← Nbq10.out] at hx174_0)
                              (try rw [← Nbq14.out] at hx174_0)
                              cases e174
                              replace p174 := eq_true p174
                              replace q174 := eq_true q174
                              have p175 : 0 ≤ (x7_2 : Int) := of_decide_eq_true (by first | (with_reducible assumption) | assumption)
                              have q175 : x7_2 < (t170.length : Int) := of_decide_eq_true (by first | (with_reducible assumption) | assumption)
                              obtain ⟨ad175, A175_0, c175_0, e175, hx175_0, hl175_0, hi175_0⟩ := at_L1 (Kd.S_reads' HO_3.out).2.2 x7_2 p175 q175
                              obtain rfl : ad173 = ad175 := (by injection e175)
                              obtain ⟨ce175, hce175, hMe175, hcc175⟩ := Kd.S_get HO_3.out [] x7_2 p175 (by first | exact q175 | exact of_decide_eq_true (by first | (with_reducible assumption) | assumption) | (have e_ := (Kd.S_reads' HO_3.out).1; omega))
                              obtain ⟨ve175_0, rfl, ge175_0⟩ := hMe175
                              have hv175_0 := hcc175 0 _ rfl
                              rw [Nat.add_zero, show ((Kd.slice 4 Kd.bool)).sz = 1 from rfl, Nat.mul_one] at hv175_0
                              replace hv175_0 := Option.some.inj (hv175_0.symm.trans hx175_0)
                              rw [hv175_0] at ge175_0
                              have HL175_0 := Aside0.mk (show Kd.R Kd.bool 4 _ _ _ _ (rd_L1 t170 x7_2) from ge175_0)
                              clear hv175_0 ge175_0
                              clear hcc175 hce175
                              have HR175_0 := Aside0.mk hi175_0
                              have HC175_0 := Aside0.mk hl175_0
                              clear hi175_0 hl175_0
                              replace p175 := eq_true p175
                              replace q175 := eq_true q175
                              have p176 : 0 ≤ (x12_1 : Int) := of_decide_eq_true (by first | (with_reducible assumption) | assumption)
                              have q176 : x12_1 < ((rd_L1 t170 x7_2).length : Int) := of_decide_eq_true (by first | (with_reducible assumption) | assumption)
                              obtain ⟨ad176, e176, hx176_0⟩ := Kd.at_bool (by repeat (first | (with_reducible exact HR175_0.out) | (with_reducible refine Kd.C_alloc ?_ _) | (with_reducible refine Kd.C_drewN ?_ _) | (with_reducible refine Kd.C_drew ?_) | exact HR175_0.out)) x12_1 p176 q176
                              (try rw [← Nbq10.out] at hx176_0)
                              (try rw [← Nbq14.out] at hx176_0)
                              cases e176
                              replace p176 := eq_true p176
                              replace q176 := eq_true q176
                              go_wp2
                              go_roundg k2
                              case measure => have := HK1.out; have := HK2.out; omega
                              case rel => exact ⟨(x6_2), (wrap64 (x7_2 - 1)), (by first | rfl | (simp; done) | (simp [*]; done)), (by first | rfl | (simp; done) | (simp [*]; done)), H', ⟨by have := HK1.out; have := HK2.out; omega⟩, ⟨by (with_reducible repeat (first | apply Kd.S_alloc | apply Kd.S_drewN | apply Kd.S_drew)); exact HO_3.out⟩, ⟨by (with_reducible repeat (first | apply Kd.R_alloc | apply Kd.R_drewN | apply Kd.R_drew)); exact HO_4.out⟩, ⟨by repeat (first | (with_reducible first | exact HB.out | apply below_alloc | apply pw_below_drewN | apply below_drew1) | exact HB.out)⟩⟩
                          · rw [if_neg c13] at H
                            exact absurd H (by simp)
                        · rw [if_neg c12] at H
                          exact absurd H (by simp)
                      · replace c11 := Bool.eq_false_iff.mpr c11
                        subst c11
                        have H1 : (testimonyref_GraphGroups.l1 k2 t170 x4_1 x12_1 x6_2 (wrap64 (x7_2 - 1)) (l0.length : Int) x12_1) = some r := by rw [if_neg (show ¬ (false = true) by decide)] at H; exact H
                        clear H
                        have H := H1
                        clear H1
                        have H' := Aside0.mk H
                        clear H
                        obtain ⟨Ao18, co18, eo18⟩ := Kd.S_slice HO_3.out
                        subst eo18
                        have p173 : 0 ≤ (x12_1 : Int) := of_decide_eq_true (by first | (with_reducible assumption) | assumption)
                        have q173 : x12_1 < (t170.length : Int) := of_decide_eq_true (by first | (with_reducible assumption) | assumption)
                        obtain ⟨ad173, A173_0, c173_0, e173, hx173_0, hl173_0, hi173_0⟩ := at_L1 (Kd.S_reads' HO_3.out).2.2 x12_1 p173 q173
                        cases e173
                        obtain ⟨ce173, hce173, hMe173, hcc173⟩ := Kd.S_get HO_3.out [] x12_1 p173 (by first | exact q173 | exact of_decide_eq_true (by first | (with_reducible assumption) | assumption) | (have e_ := (Kd.S_reads' HO_3.out).1; omega))
                        obtain ⟨ve173_0, rfl, ge173_0⟩ := hMe173
                        have hv173_0 := hcc173 0 _ rfl
                        rw [Nat.add_zero, show ((Kd.slice 4 Kd.bool)).sz = 1 from rfl, Nat.mul_one] at hv173_0
                        replace hv173_0 := Option.some.inj (hv173_0.symm.trans hx173_0)
                        rw [hv173_0] at ge173_0
                        have HL173_0 := Aside0.mk (show Kd.R Kd.bool 4 _ _ _ _ (rd_L1 t170 x12_1) from ge173_0)
                        clear hv173_0 ge173_0
                        clear hcc173 hce173
                        have HR173_0 := Aside0.mk hi173_0
                        have HC173_0 := Aside0.mk hl173_0
                        clear hi173_0 hl173_0
                        replace p173 := eq_true p173
                        replace q173 := eq_true q173
                        have p174 : 0 ≤ (x7_2 : Int) := of_decide_eq_true (by first | (with_reducible assumption) | assumption)
                        have q174 : x7_2 < ((rd_L1 t170 x12_1).length : Int) := of_decide_eq_true (by first | (with_reducible assumption) | assumption)
                        obtain ⟨ad174, e174, hx174_0⟩ := Kd.at_bool (by repeat (first | (with_reducible exact HR173_0.out) | (with_reducible refine Kd.C_alloc ?_ _) | (with_reducible refine Kd.C_drewN ?_ _) | (with_reducible refine Kd.C_drew ?_) | exact HR173_0.out)) x7_2 p174 q174
                        (try rw [← Nbq10.out] at hx174_0)
                        cases e174
                        replace p174 := eq_true p174
                        replace q174 := eq_true q174
                        go_wp2
                        go_roundg k2
                        case measure => have := HK1.out; have := HK2.out; omega
                        case rel => exact ⟨(x6_2), (wrap64 (x7_2 - 1)), (by first | rfl | (simp; done) | (simp [*]; done)), (by first | rfl | (simp; done) | (simp [*]; done)), H', ⟨by have := HK1.out; have := HK2.out; omega⟩, ⟨by (with_reducible repeat (first | apply Kd.S_alloc | apply Kd.S_drewN | apply Kd.S_drew)); exact HO_3.out⟩, ⟨by (with_reducible repeat (first | apply Kd.R_alloc | apply Kd.R_drewN | apply Kd.R_drew)); exact HO_4.out⟩, ⟨by repeat (first | (with_reducible first | exact HB.out | apply below_alloc | apply pw_below_drewN | apply below_drew1) | exact HB.out)⟩⟩
                    · rw [if_neg c9] at H
                      exact absurd H (by simp)
                  · rw [if_neg c8] at H
                    exact absurd H (by simp)
                · rw [if_neg c7] at H
                  exact absurd H (by simp)
              · rw [if_neg c6] at H
                exact absurd H (by simp)
            · rw [if_neg c5] at H
              have c5b0 : decide (0 ≤ x7_2) = false := decide_eq_false c5
              clear c5
              by_cases c19 : x4_1.length < 17592186044416
              · rw [if_pos c19] at H
                have LMc19 := Aside0.mk c19
                clear c19
                obtain ⟨y177, hy177⟩ : ∃ y_ : List Int, y_ = (x4_1 ++ [x6_2]) := ⟨_, rfl⟩
                replace H : (testimonyref_GraphGroups.l0 k2 t170 y177 (l0.length : Int) (wrap64 (x12_1 + 1))) = some r := by first | (rw [hy177]; with_reducible exact H) | (have H2_ := (Option.bind_some _ _).symm.trans H; rw [hy177]; with_reducible exact H2_) | (have H2_ := (Option.bind_some _ _).symm.trans H; with_reducible exact H2_) | with_reducible exact H | (rw [hy177]; exact H) | exact H
                have Ny177 := Aside0.mk hy177
                clear hy177
                have H' := Aside0.mk H
                clear H
                go_wp2_with (first | ((with_reducible refine gate_builtin (b := .append) (xs := #[.tmp 39, .tmp 41]) rfl ?_); at_builtin; refine Kd.R_append (Kd.int .i64) (w0 := w) w.heap.size rfl (.tmp 39) (.tmp 41) 26 3 (.int .i64 0) 8 rfl Tryd.underlying26 info3 rfl (by decide) (by omega) u4 x4_1 x6_2 [.int .i64 x6_2] (fun _ => True) (fun _ => False) rfl rfl ?aP (fun _ hk => hk.elim) ?aF ?aO ?aB ?aS ?aL ?_; (case aP => exact rfl); (case aB => exact (by repeat (first | (with_reducible first | exact HB.out | apply below_alloc | apply pw_below_drewN | apply below_drew1) | exact HB.out))); (case aF => exact (fun _ _ => trivial)); (case aO => exact (by (with_reducible repeat (first | apply Kd.R_alloc | apply Kd.R_drewN | apply Kd.R_drew)); exact HO_4.out)); (case aS => exact (below_size (by repeat (first | (with_reducible first | exact HB.out | apply below_alloc | apply pw_below_drewN | apply below_drew1) | exact HB.out)))); (case aL => have := LMc19.out; omega); intro v178 w20 ho hb hg hat; rw [← Ny177.out] at ho; have n0_ := Aside0.mk (Kd.S_over' (by (with_reducible repeat (first | apply Kd.S_alloc | apply Kd.S_drewN | apply Kd.S_drew)); exact HO_3.out) (Kd.R_typed (by (with_reducible repeat (first | apply Kd.R_alloc | apply Kd.R_drewN | apply Kd.R_drew)); exact HO_4.out)) (by decide) hg); have n1_ := Aside0.mk (hb); have n2_ := Aside0.mk (ho); clear HO_3; clear HB; clear HO_4; have HO_3 := n0_; have HB := n1_; have HO179 := n2_; clear n0_ n1_ n2_; clear ho hb hg hat))
                go_roundg k2
                case measure => have := HK1.out; have := HK2.out; omega
                case rel => exact ⟨(y177), (wrap64 (x12_1 + 1)), (by first | rfl | (simp; done) | (simp [*]; done)), H', ⟨by have := HK1.out; have := HK2.out; omega⟩, ⟨by (with_reducible repeat (first | apply Kd.S_alloc | apply Kd.S_drewN | apply Kd.S_drew)); exact HO_3.out⟩, ⟨by (with_reducible repeat (first | apply Kd.R_alloc | apply Kd.R_drewN | apply Kd.R_drew)); exact HO179.out⟩, ⟨by repeat (first | (with_reducible first | exact HB.out | apply below_alloc | apply pw_below_drewN | apply below_drew1) | exact HB.out)⟩⟩
              · rw [if_neg c19] at H
                exact absurd H (by simp)
      · rw [if_neg c4] at H
        have c4b0 : decide (x12_1 < (l0.length : Int)) = false := decide_eq_false c4
        clear c4
        obtain rfl := Option.some.inj H
        go_wp2
        go_ret
        exact ⟨_, by first | rfl | (simp [errW_none, errW_some] <;> rfl) | (simp [*, errW_none, errW_some] <;> rfl), by (with_reducible repeat (first | apply Kd.R_alloc | apply Kd.R_drewN | apply Kd.R_drew)); exact HO_4.out, by repeat (first | (with_reducible first | exact HB.out | apply below_alloc | apply pw_below_drewN | apply below_drew1) | exact HB.out)⟩

end Go.Proofs.YtbcbjbmjoncinaaDoor.PA
