/- GraphOrders in plain lists: the document's order of nodes and the program's are the same list, or both say that there is none. -/



import Derived.Test.YtbcbjbmjoncinaaDoorPAxFtestimonylawGraphOrders
namespace Go.Proofs.YtbcbjbmjoncinaaDoor.PureOrder
open Go.RowKit Go.Proofs.YtbcbjbmjoncinaaDoorW.PrintWords Go.Proofs.YtbcbjbmjoncinaaDoorW.PrintLast Go.Proofs.YtbcbjbmjoncinaaDoorW.PrintMore Go.Proofs.YtbcbjbmjoncinaaDoor.PA

theorem wrap_nat (i : Nat) (h : i < 4611686018427387904) : wrap64 ((i : Int) + 1) = ((i + 1 : Nat) : Int) := by
  unfold wrap64; omega
theorem wrap_pred (i : Nat) (h : i < 4611686018427387904) : wrap64 (((i + 1 : Nat) : Int) - 1) = (i : Int) := by
  unfold wrap64; omega
theorem wrap_zero : wrap64 (((0 : Nat) : Int) - 1) = -1 := by unfold wrap64; omega

def gb (g : List (List Bool)) (u v : Nat) : Bool := (g.getD u []).getD v false
def dn (d : List Bool) (v : Nat) : Bool := d.getD v false
theorem rd_gb (g : List (List Bool)) (u v : Nat) : rdOf false (rd_L1 g (u : Int)) (v : Int) = gb g u v := by simp [rdOf, rd_L1, gb]
theorem rd_dn (d : List Bool) (v : Nat) : rdOf false d (v : Int) = dn d v := by simp [rdOf, dn]
theorem rd_len (g : List (List Bool)) (u n : Nat) (hg : ∀ r ∈ g, r.length = n) (h : u < g.length) : (rd_L1 g (u : Int)).length = n := by
  unfold rd_L1
  rw [Int.toNat_natCast, List.getD_eq_getElem?_getD, List.getElem?_eq_getElem h]
  exact hg _ (List.getElem_mem h)

def Good (g : List (List Bool)) : Prop := g.length ≤ 40 ∧ ∀ r ∈ g, r.length = g.length
/-- Somebody from m on who is not placed leads to v. -/
def Blocked (g : List (List Bool)) (d : List Bool) (v m : Nat) : Prop := ∃ u, m ≤ u ∧ u < g.length ∧ dn d u = false ∧ gb g u v = true
def Cand (g : List (List Bool)) (d : List Bool) (v : Nat) : Prop := dn d v = false ∧ ¬ Blocked g d v 0

section
variable {g : List (List Bool)} (hG : Good g)
include hG

/-! ### the document's -/
theorem ref_l2_no {out : List Int} {d : List Bool} {at_ x15 : Int} {v : Nat} {r : List Int × Bool} (hd : d.length = g.length) (hv : v < g.length)
    (h : Ev (fun k => testimonyref_GraphOrder.l1 k g out d at_ (wrap64 ((v : Int) - 1)) g.length x15) r) :
    ∀ (j m : Nat) (may : Bool), g.length - m = j → m ≤ g.length → (may = false ∨ Blocked g d v m) →
    Ev (fun k => testimonyref_GraphOrder.l2 k g out d at_ v may g.length x15 g.length m) r
  | 0, m, may, hj, hm, hb => by
    obtain rfl : m = g.length := by omega
    have hmay : may = false := by
      rcases hb with h | ⟨u, h1, h2, _⟩
      · exact h
      · omega
    subst hmay
    refine Ev.step (fun k => ?_) h
    simp only [testimonyref_GraphOrder.l2]
    rw [if_neg (by omega), if_neg (by decide)]
  | j + 1, m, may, hj, hm, hb => by
    have hlt : m < g.length := by omega
    have hw := wrap_nat m (by have := hG.1; omega)
    have ih := fun may' hb' => ref_l2_no hd hv h j (m + 1) may' (by omega) (by omega) hb'
    cases may with
    | false =>
      refine Ev.step (fun k => ?_) (ih false (.inl rfl))
      simp only [testimonyref_GraphOrder.l2]
      rw [if_pos (by omega), if_neg (by decide), hw]
    | true =>
      obtain ⟨u, h1, h2, h3, h4⟩ := hb.resolve_left (by decide)
      by_cases hdm : dn d m = true
      · refine Ev.step (fun k => ?_) (ih true (.inr ⟨u, ?_, h2, h3, h4⟩))
        · simp only [testimonyref_GraphOrder.l2]
          rw [if_pos (by omega), if_pos trivial, if_pos (by omega), if_pos (by omega), rd_dn, if_pos hdm, hw]
        · rcases Nat.lt_or_ge m u with h | h
          · exact h
          · obtain rfl : u = m := by omega
            rw [hdm] at h3; cases h3
      · have hl := rd_len g m g.length hG.2 hlt
        refine Ev.step (fun k => ?_) (ih (!(gb g m v)) ?_)
        · simp only [testimonyref_GraphOrder.l2]
          rw [if_pos (by omega), if_pos trivial, if_pos (by omega), if_pos (by omega), rd_dn, if_neg hdm, if_pos (by omega), if_pos (by omega), if_pos (by omega), hw, rd_gb]
        · by_cases hgb : gb g m v = true
          · exact .inl (by rw [hgb]; rfl)
          · refine .inr ⟨u, ?_, h2, h3, h4⟩
            rcases Nat.lt_or_ge m u with h | h
            · exact h
            · obtain rfl : u = m := by omega
              exact absurd h4 hgb

theorem ref_l2_yes {out : List Int} {d : List Bool} {at_ x15 : Int} {v : Nat} {r : List Int × Bool} (hd : d.length = g.length) (hv : v < g.length)
    (h : Ev (fun k => testimonyref_GraphOrder.l1 k g out d v (wrap64 ((v : Int) - 1)) g.length x15) r) :
    ∀ (j m : Nat), g.length - m = j → m ≤ g.length → ¬ Blocked g d v m →
    Ev (fun k => testimonyref_GraphOrder.l2 k g out d at_ v true g.length x15 g.length m) r
  | 0, m, hj, hm, hb => by
    obtain rfl : m = g.length := by omega
    refine Ev.step (fun k => ?_) h
    simp only [testimonyref_GraphOrder.l2]
    rw [if_neg (by omega), if_pos trivial]
  | j + 1, m, hj, hm, hb => by
    have hlt : m < g.length := by omega
    have hw := wrap_nat m (by have := hG.1; omega)
    have ih := ref_l2_yes (at_ := at_) hd hv h j (m + 1) (by omega) (by omega) (fun ⟨u, h1, h2⟩ => hb ⟨u, by omega, h2⟩)
    by_cases hdm : dn d m = true
    · refine Ev.step (fun k => ?_) ih
      simp only [testimonyref_GraphOrder.l2]
      rw [if_pos (by omega), if_pos trivial, if_pos (by omega), if_pos (by omega), rd_dn, if_pos hdm, hw]
    · have hl := rd_len g m g.length hG.2 hlt
      have hgb : gb g m v = false := by
        cases hgb : gb g m v with
        | false => rfl
        | true => exact absurd ⟨m, Nat.le_refl _, hlt, by simpa using hdm, hgb⟩ hb
      refine Ev.step (fun k => ?_) ih
      simp only [testimonyref_GraphOrder.l2]
      rw [if_pos (by omega), if_pos trivial, if_pos (by omega), if_pos (by omega), rd_dn, if_neg hdm, if_pos (by omega), if_pos (by omega), if_pos (by omega), hw, rd_gb, hgb]
      rfl

omit hG in
theorem ref_l1_step {out : List Int} {d : List Bool} {at_ x15 : Int} {i : Nat} {r : List Int × Bool} (hd : d.length = g.length) (hi : i < g.length)
    (h : Ev (fun k => testimonyref_GraphOrder.l2 k g out d at_ i (!(dn d i)) g.length x15 g.length 0) r) :
    Ev (fun k => testimonyref_GraphOrder.l1 k g out d at_ i g.length x15) r := by
  refine Ev.step (fun k => ?_) h
  simp only [testimonyref_GraphOrder.l1]
  rw [if_pos (by omega), if_pos (by omega), if_pos (by omega), rd_dn]

theorem ref_l1_skip {out : List Int} {d : List Bool} {at_ x15 : Int} {i : Nat} {r : List Int × Bool} (hd : d.length = g.length) (hi : i < g.length) (hc : ¬ Cand g d i)
    (h : Ev (fun k => testimonyref_GraphOrder.l1 k g out d at_ (wrap64 ((i : Int) - 1)) g.length x15) r) :
    Ev (fun k => testimonyref_GraphOrder.l1 k g out d at_ i g.length x15) r := by
  refine ref_l1_step hd hi (ref_l2_no hG hd hi h _ 0 _ rfl (by omega) ?_)
  by_cases hdi : dn d i = true
  · exact .inl (by rw [hdi]; rfl)
  · refine .inr (Classical.byContradiction fun hb => hc ⟨by simpa using hdi, hb⟩)

theorem ref_l1_take {out : List Int} {d : List Bool} {at_ x15 : Int} {i : Nat} {r : List Int × Bool} (hd : d.length = g.length) (hi : i < g.length) (hc : Cand g d i)
    (h : Ev (fun k => testimonyref_GraphOrder.l1 k g out d i (wrap64 ((i : Int) - 1)) g.length x15) r) :
    Ev (fun k => testimonyref_GraphOrder.l1 k g out d at_ i g.length x15) r := by
  refine ref_l1_step hd hi ?_
  rw [hc.1]
  exact ref_l2_yes hG hd hi h _ 0 rfl (by omega) hc.2

theorem ref_l1_none {out : List Int} {d : List Bool} {at_ x15 : Int} {r : List Int × Bool} (hd : d.length = g.length)
    (h : Ev (fun k => testimonyref_GraphOrder.l1 k g out d at_ (-1) g.length x15) r) :
    ∀ i : Nat, i ≤ g.length → (∀ v, v < i → ¬ Cand g d v) → Ev (fun k => testimonyref_GraphOrder.l1 k g out d at_ (wrap64 ((i : Int) - 1)) g.length x15) r
  | 0, _, _ => by rw [wrap_zero]; exact h
  | i + 1, hi, hc => by
    rw [wrap_pred i (by have := hG.1; omega)]
    exact ref_l1_skip hG hd (by omega) (hc i (by omega)) (ref_l1_none hd h i (by omega) fun v hv => hc v (by omega))

theorem ref_l1_some {out : List Int} {d : List Bool} {x15 : Int} {v : Nat} {r : List Int × Bool} (hd : d.length = g.length) (hv : Cand g d v) (hl : ∀ u, u < v → ¬ Cand g d u)
    (h : Ev (fun k => testimonyref_GraphOrder.l1 k g out d v (-1) g.length x15) r) :
    ∀ (i : Nat) (at_ : Int), v < i → i ≤ g.length → Ev (fun k => testimonyref_GraphOrder.l1 k g out d at_ (wrap64 ((i : Int) - 1)) g.length x15) r
  | i + 1, at_, hi, hn => by
    rw [wrap_pred i (by have := hG.1; omega)]
    by_cases e : i = v
    · subst e
      exact ref_l1_take hG hd (by omega) hv (ref_l1_none hG hd h i (by omega) hl)
    · have ih := fun a => ref_l1_some hd hv hl h i a (by omega) (by omega)
      by_cases hc : Cand g d i
      · exact ref_l1_take hG hd (by omega) hc (ih _)
      · exact ref_l1_skip hG hd (by omega) hc (ih _)

/-! ### the program's -/
/-- What follows when v is placed. -/
def place (g : List (List Bool)) (d : List Bool) (out : List Int) (x20 : Int) (v : Nat) (k : Nat) : Option (List Int × Option Int) :=
  graph_Order.l0 k g (d.set v true) (out ++ [(v : Int)]) g.length (wrap64 (x20 + 1))

theorem prog_l2_no {out : List Int} {d : List Bool} {x20 : Int} {v : Nat} {r : List Int × Option Int} (hd : d.length = g.length) (hv : v < g.length)
    (h : Ev (fun k => graph_Order.l1 k g d out (-1) g.length x20 g.length ((v + 1 : Nat) : Int)) r) :
    ∀ (j m : Nat), g.length - m = j → m ≤ g.length → Blocked g d v m →
    Ev (fun k => graph_Order.l2 k g d out (-1) v g.length x20 g.length v g.length m) r
  | 0, m, hj, hm, hb => by obtain ⟨u, h1, h2, _⟩ := hb; omega
  | j + 1, m, hj, hm, hb => by
    have hlt : m < g.length := by omega
    have hw := wrap_nat m (by have := hG.1; omega)
    have hw2 := wrap_nat v (by have := hG.1; omega)
    obtain ⟨u, h1, h2, h3, h4⟩ := hb
    have ih := fun hb' => prog_l2_no hd hv h j (m + 1) (by omega) (by omega) hb'
    by_cases hdm : dn d m = true
    · refine Ev.step (fun k => ?_) (ih ⟨u, ?_, h2, h3, h4⟩)
      · simp only [graph_Order.l2]
        rw [if_pos (by omega), if_pos (by omega), if_pos (by omega), rd_dn, if_pos hdm, hw]
      · rcases Nat.lt_or_ge m u with h | h
        · exact h
        · obtain rfl : u = m := by omega
          rw [hdm] at h3; cases h3
    · have hl := rd_len g m g.length hG.2 hlt
      by_cases hgb : gb g m v = true
      · refine Ev.step (fun k => ?_) h
        simp only [graph_Order.l2]
        rw [if_pos (by omega), if_pos (by omega), if_pos (by omega), rd_dn, if_neg hdm, if_pos (by omega), if_pos (by omega), if_pos (by omega), rd_gb, if_pos hgb, hw2]
      · refine Ev.step (fun k => ?_) (ih ⟨u, ?_, h2, h3, h4⟩)
        · simp only [graph_Order.l2]
          rw [if_pos (by omega), if_pos (by omega), if_pos (by omega), rd_dn, if_neg hdm, if_pos (by omega), if_pos (by omega), if_pos (by omega), rd_gb, if_neg hgb, hw]
        · rcases Nat.lt_or_ge m u with h | h
          · exact h
          · obtain rfl : u = m := by omega
            exact absurd h4 hgb

theorem prog_l2_yes {out : List Int} {d : List Bool} {x20 : Int} {v : Nat} {r : List Int × Option Int} (hd : d.length = g.length) (ho : out.length ≤ g.length) (hv : v < g.length)
    (h : Ev (place g d out x20 v) r) :
    ∀ (j m : Nat), g.length - m = j → m ≤ g.length → ¬ Blocked g d v m →
    Ev (fun k => graph_Order.l2 k g d out (-1) v g.length x20 g.length v g.length m) r
  | 0, m, hj, hm, hb => by
    obtain rfl : m = g.length := by omega
    refine Ev.step (fun k => ?_) h
    simp only [graph_Order.l2, place]
    rw [if_neg (by omega), if_neg (by omega), if_pos (by omega), if_pos (by omega), if_pos (by have := hG.1; omega), Int.toNat_natCast]
  | j + 1, m, hj, hm, hb => by
    have hlt : m < g.length := by omega
    have hw := wrap_nat m (by have := hG.1; omega)
    have ih := prog_l2_yes hd ho hv h j (m + 1) (by omega) (by omega) (fun ⟨u, h1, h2⟩ => hb ⟨u, by omega, h2⟩)
    by_cases hdm : dn d m = true
    · refine Ev.step (fun k => ?_) ih
      simp only [graph_Order.l2]
      rw [if_pos (by omega), if_pos (by omega), if_pos (by omega), rd_dn, if_pos hdm, hw]
    · have hl := rd_len g m g.length hG.2 hlt
      have hgb : gb g m v = false := by
        cases hgb : gb g m v with
        | false => rfl
        | true => exact absurd ⟨m, Nat.le_refl _, hlt, by simpa using hdm, hgb⟩ hb
      refine Ev.step (fun k => ?_) ih
      simp only [graph_Order.l2]
      rw [if_pos (by omega), if_pos (by omega), if_pos (by omega), rd_dn, if_neg hdm, if_pos (by omega), if_pos (by omega), if_pos (by omega), rd_gb, hgb, if_neg (by decide), hw]

theorem prog_l1_skip {out : List Int} {d : List Bool} {x20 : Int} {v : Nat} {r : List Int × Option Int} (hd : d.length = g.length) (hv : v < g.length) (hc : ¬ Cand g d v)
    (h : Ev (fun k => graph_Order.l1 k g d out (-1) g.length x20 g.length ((v + 1 : Nat) : Int)) r) :
    Ev (fun k => graph_Order.l1 k g d out (-1) g.length x20 g.length (v : Int)) r := by
  have hw := wrap_nat v (by have := hG.1; omega)
  by_cases hdv : dn d v = true
  · refine Ev.step (fun k => ?_) h
    simp only [graph_Order.l1]
    rw [if_pos (by omega), if_pos (by omega), if_pos (by omega), rd_dn, if_pos hdv, hw]
  · refine Ev.step (fun k => ?_) (prog_l2_no hG hd hv h _ 0 rfl (by omega) (Classical.byContradiction fun hb => hc ⟨by simpa using hdv, hb⟩))
    simp only [graph_Order.l1]
    rw [if_pos (by omega), if_pos (by omega), if_pos (by omega), rd_dn, if_neg hdv]
    rfl

theorem prog_l1_none {out : List Int} {d : List Bool} {x20 : Int} (hd : d.length = g.length) (hc : ∀ v, v < g.length → ¬ Cand g d v) :
    ∀ (j v : Nat), g.length - v = j → v ≤ g.length → Ev (fun k => graph_Order.l1 k g d out (-1) g.length x20 g.length (v : Int)) (([] : List Int), some (11 : Int))
  | 0, v, hj, hv => by
    obtain rfl : v = g.length := by omega
    refine Ev.step (fun k => ?_) (Ev.now _)
    simp only [graph_Order.l1]
    rw [if_neg (by omega), if_pos (by omega)]
  | j + 1, v, hj, hv => prog_l1_skip hG hd (by omega) (hc v (by omega)) (prog_l1_none hd hc j (v + 1) (by omega) (by omega))

theorem prog_l1_some {out : List Int} {d : List Bool} {x20 : Int} {v : Nat} {r : List Int × Option Int} (hd : d.length = g.length) (ho : out.length ≤ g.length) (hv : v < g.length) (hc : Cand g d v) (hl : ∀ u, u < v → ¬ Cand g d u)
    (h : Ev (place g d out x20 v) r) :
    ∀ (j u : Nat), v - u = j → u ≤ v → Ev (fun k => graph_Order.l1 k g d out (-1) g.length x20 g.length (u : Int)) r
  | 0, u, hj, hu => by
    obtain rfl : u = v := by omega
    refine Ev.step (fun k => ?_) (prog_l2_yes hG hd ho hv h _ 0 rfl (by omega) hc.2)
    simp only [graph_Order.l1]
    rw [if_pos (by omega), if_pos (by omega), if_pos (by omega), rd_dn, hc.1, if_neg (by decide)]
    rfl
  | j + 1, u, hj, hu => prog_l1_skip hG hd (by omega) (hl u (by omega)) (prog_l1_some hd ho hv hc hl h j (u + 1) (by omega) (by omega))

/-! ### both, round by round -/
omit hG in
theorem least {p : Nat → Prop} {n : Nat} : (∀ v, v < n → ¬ p v) ∨ ∃ v, v < n ∧ p v ∧ ∀ u, u < v → ¬ p u := by
  classical
  induction n with
  | zero => exact .inl fun v hv => absurd hv (by omega)
  | succ n ih =>
    rcases ih with h | ⟨v, h1, h2, h3⟩
    · by_cases hp : p n
      · exact .inr ⟨n, by omega, hp, h⟩
      · refine .inl fun v hv => ?_
        rcases Nat.lt_succ_iff_lt_or_eq.1 hv with h' | rfl
        · exact h v h'
        · exact hp
    · exact .inr ⟨v, by omega, h2, h3⟩

def asRef : Option (List Int) → List Int × Bool | some l => (l, true) | none => ([], false)
def asProg : Option (List Int) → List Int × Option Int | some l => (l, none) | none => ([], some 11)

theorem both_l0 : ∀ (j i : Nat) (d : List Bool) (out : List Int), g.length - i = j → i ≤ g.length → d.length = g.length → out.length = i →
    ∃ a : Option (List Int), (∀ l, a = some l → l.length = g.length) ∧ Ev (fun k => testimonyref_GraphOrder.l0 k g out d g.length (i : Int)) (asRef a) ∧ Ev (fun k => graph_Order.l0 k g d out g.length (i : Int)) (asProg a)
  | 0, i, d, out, hj, hi, hd, ho => by
    obtain rfl : i = g.length := by omega
    refine ⟨some out, fun l hl => by cases hl; exact ho, Ev.step (fun k => ?_) (Ev.now _), Ev.step (fun k => ?_) (Ev.now _)⟩
    · simp only [testimonyref_GraphOrder.l0, asRef]; rw [if_neg (by omega)]
    · simp only [graph_Order.l0, asProg]; rw [if_neg (by omega)]
  | j + 1, i, d, out, hj, hi, hd, ho => by
    have hlt : i < g.length := by omega
    have hw := wrap_nat i (by have := hG.1; omega)
    have hR : ∀ a, Ev (fun k => testimonyref_GraphOrder.l1 k g out d (-1) (wrap64 ((g.length : Int) - 1)) g.length (i : Int)) a → Ev (fun k => testimonyref_GraphOrder.l0 k g out d g.length (i : Int)) a := by
      intro a h
      refine Ev.step (fun k => ?_) h
      simp only [testimonyref_GraphOrder.l0]; rw [if_pos (by omega)]
    have hP : ∀ a, Ev (fun k => graph_Order.l1 k g d out (-1) g.length (i : Int) g.length ((0 : Nat) : Int)) a → Ev (fun k => graph_Order.l0 k g d out g.length (i : Int)) a := by
      intro a h
      refine Ev.step (fun k => ?_) h
      simp only [graph_Order.l0]; rw [if_pos (by omega)]; rfl
    rcases least (p := Cand g d) (n := g.length) with hc | ⟨v, hv, hc, hl⟩
    · refine ⟨none, fun l hl => (by cases hl), hR _ (ref_l1_none hG hd ?_ _ (Nat.le_refl _) hc), hP _ (prog_l1_none hG hd hc _ 0 rfl (by omega))⟩
      refine Ev.step (fun k => ?_) (Ev.now _)
      simp only [testimonyref_GraphOrder.l1]
      rw [if_neg (by omega), if_pos (by omega)]
      rfl
    · obtain ⟨a, ha, h1, h2⟩ := both_l0 j (i + 1) (d.set v true) (out ++ [(v : Int)]) (by omega) (by omega) (by rw [List.length_set]; exact hd) (by rw [List.length_append]; simp [ho])
      refine ⟨a, ha, hR _ (ref_l1_some hG hd hc hl ?_ _ _ hv (Nat.le_refl _)), hP _ (prog_l1_some hG hd (by omega) hv hc hl ?_ _ 0 rfl (by omega))⟩
      · refine Ev.step (fun k => ?_) h1
        simp only [testimonyref_GraphOrder.l1]
        rw [if_neg (by omega), if_neg (by omega), if_pos (by omega), if_pos (by omega), if_pos (by have := hG.1; omega), hw, Int.toNat_natCast]
      · refine Ev.congr (fun k => ?_) h2
        simp only [place]; rw [hw]

theorem both : ∃ a : Option (List Int), (∀ l, a = some l → l.length = g.length) ∧ Ev (fun k => testimonyref_GraphOrder.f k g) (asRef a) ∧ Ev (fun k => graph_Order.l0 k g (List.replicate ((g.length : Int) : Int).toNat false) ([] : List Int) (g.length : Int) 0) (asProg a) := by
  obtain ⟨a, ha, h1, h2⟩ := both_l0 hG _ 0 (List.replicate g.length false) [] rfl (by omega) (by simp) rfl
  refine ⟨a, ha, Ev.congr (fun k => ?_) h1, Ev.congr (fun k => ?_) h2⟩
  · simp only [testimonyref_GraphOrder.f]
    rw [if_pos (by omega), if_pos (by have := hG.1; omega), Int.toNat_natCast]
    rfl
  · rw [Int.toNat_natCast]
    rfl
end

/-! ### what may be a graph -/
open Classical in
theorem ref_check_l0 {g : List (List Bool)} (h40 : g.length ≤ 40) : ∀ (j i : Nat), g.length - i = j → i ≤ g.length →
    Ev (fun k => testimonyref_GraphCheck.l0 k g g g.length (i : Int)) (if ∀ u, i ≤ u → u < g.length → (g.getD u []).length = g.length then 0 else 3) ∧
    Ev (fun k => graph_Check.l0 k g g g.length (i : Int)) (if ∀ u, i ≤ u → u < g.length → (g.getD u []).length = g.length then none else some 3)
  | 0, i, hj, hi => by
    rw [if_pos (fun u h1 h2 => by omega), if_pos (fun u h1 h2 => by omega)]
    refine ⟨Ev.step (fun k => ?_) (Ev.now _), Ev.step (fun k => ?_) (Ev.now _)⟩
    · simp only [testimonyref_GraphCheck.l0]; rw [if_neg (by omega)]
    · simp only [graph_Check.l0]; rw [if_neg (by omega)]
  | j + 1, i, hj, hi => by
    have hw := wrap_nat i (by omega)
    have hrd : rd_L1 g (i : Int) = g.getD i [] := by simp [rd_L1]
    obtain ⟨h1, h2⟩ := ref_check_l0 h40 j (i + 1) (by omega) (by omega)
    by_cases hr : (g.getD i []).length = g.length
    · have e : (∀ u, i ≤ u → u < g.length → (g.getD u []).length = g.length) ↔ (∀ u, i + 1 ≤ u → u < g.length → (g.getD u []).length = g.length) := by
        constructor
        · exact fun h u h1 h2 => h u (by omega) h2
        · intro h u h1 h2
          by_cases e : u = i
          · subst e; exact hr
          · exact h u (by omega) h2
      simp only [e]
      refine ⟨Ev.step (fun k => ?_) h1, Ev.step (fun k => ?_) h2⟩
      · simp only [testimonyref_GraphCheck.l0]; rw [if_pos (by omega), if_pos (by omega), if_pos (by omega), hrd, if_pos (by omega), hw]
      · simp only [graph_Check.l0]; rw [if_pos (by omega), if_pos (by omega), if_pos (by omega), hrd, if_pos (by omega), hw]
    · rw [if_neg (fun h => hr (h i (Nat.le_refl _) (by omega))), if_neg (fun h => hr (h i (Nat.le_refl _) (by omega)))]
      refine ⟨Ev.step (fun k => ?_) (Ev.now _), Ev.step (fun k => ?_) (Ev.now _)⟩
      · simp only [testimonyref_GraphCheck.l0]; rw [if_pos (by omega), if_pos (by omega), if_pos (by omega), hrd, if_neg (by omega)]
      · simp only [graph_Check.l0]; rw [if_pos (by omega), if_pos (by omega), if_pos (by omega), hrd, if_neg (by omega)]

/-- A graph is good, or both checks tell one and the same number, which is not 0. -/
theorem checks (g : List (List Bool)) : (Good g ∧ Ev (fun k => testimonyref_GraphCheck.f k g) 0 ∧ Ev (fun k => graph_Check.f k g) none) ∨
    ∃ c : Int, c ≠ 0 ∧ Ev (fun k => testimonyref_GraphCheck.f k g) c ∧ Ev (fun k => graph_Check.f k g) (some c) := by
  by_cases h40 : g.length ≤ 40
  · obtain ⟨h1, h2⟩ := ref_check_l0 h40 _ 0 rfl (by omega)
    have e1 : ∀ k, testimonyref_GraphCheck.f k g = testimonyref_GraphCheck.l0 k g g g.length ((0 : Nat) : Int) := fun k => by
      simp only [testimonyref_GraphCheck.f]; rw [if_neg (by omega)]; rfl
    have e2 : ∀ k, graph_Check.f k g = graph_Check.l0 k g g g.length ((0 : Nat) : Int) := fun k => by
      simp only [graph_Check.f]; rw [if_neg (by omega)]; rfl
    by_cases h : ∀ u, 0 ≤ u → u < g.length → (g.getD u []).length = g.length
    · rw [if_pos h] at h1 h2
      refine .inl ⟨⟨h40, fun r hr => ?_⟩, Ev.congr e1 h1, Ev.congr e2 h2⟩
      obtain ⟨u, hu, rfl⟩ := List.getElem_of_mem hr
      have := h u (Nat.zero_le _) hu
      rwa [List.getD_eq_getElem?_getD, List.getElem?_eq_getElem hu] at this
    · rw [if_neg h] at h1 h2
      exact .inr ⟨3, by decide, Ev.congr e1 h1, Ev.congr e2 h2⟩
  · refine .inr ⟨4, by decide, Ev.congr (fun k => ?_) (Ev.now _), Ev.congr (fun k => ?_) (Ev.now _)⟩
    · simp only [testimonyref_GraphCheck.f]; rw [if_pos (by omega)]
    · simp only [graph_Check.f]; rw [if_pos (by omega)]

theorem flat_ends (g : List (List Bool)) (hm : g.length ≤ 9223372036854775807) (a1 : Int) : ∀ (j i : Nat) (x : Int), g.length - i = j → i ≤ g.length → ∃ b, Ev (fun k => testimonylaw_flat.l0 k g a1 x (i : Int)) b
  | 0, i, x, hj, hi => by
    refine ⟨decide (x ≤ a1), Ev.step (fun k => ?_) (Ev.now _)⟩
    simp only [testimonylaw_flat.l0]; rw [if_neg (by omega)]
  | j + 1, i, x, hj, hi => by
    have hw : wrap64 ((i : Int) + 1) = ((i + 1 : Nat) : Int) := by unfold wrap64; omega
    obtain ⟨b, hb⟩ := flat_ends g hm a1 j (i + 1) (wrap64 (x + ((rd_L1 g (i : Int)).length : Int))) (by omega) (by omega)
    refine ⟨b, Ev.step (fun k => ?_) hb⟩
    simp only [testimonylaw_flat.l0]; rw [if_pos (by omega), if_pos (by omega), hw]

theorem flat (g : List (List Bool)) (hm : g.length ≤ 9223372036854775807) (a1 : Int) : ∃ b, Ev (fun k => testimonylaw_flat.f k g a1) b := by
  obtain ⟨b, hb⟩ := flat_ends g hm a1 _ 0 g.length rfl (by omega)
  exact ⟨b, Ev.congr (fun k => rfl) hb⟩

theorem same_l0 (l : List Int) (hm : l.length < 4611686018427387904) : ∀ (j i : Nat), l.length - i = j → i ≤ l.length → Ev (fun k => testimonylaw_sameInts.l0 k l l (i : Int)) true
  | 0, i, hj, hi => by
    refine Ev.step (fun k => ?_) (Ev.now _)
    simp only [testimonylaw_sameInts.l0]; rw [if_neg (by omega)]
  | j + 1, i, hj, hi => by
    have hw := wrap_nat i (by omega)
    refine Ev.step (fun k => ?_) (same_l0 l hm j (i + 1) (by omega) (by omega))
    simp only [testimonylaw_sameInts.l0]; rw [if_pos (by omega), if_pos (by omega), if_pos (by omega), if_pos trivial, hw]

theorem same (l : List Int) (hm : l.length < 4611686018427387904) : Ev (fun k => testimonylaw_sameInts.f k l l) true :=
  Ev.congr (fun k => by simp only [testimonylaw_sameInts.f]; rw [if_pos trivial]; rfl) (same_l0 l hm _ 0 rfl (by omega))
end Go.Proofs.YtbcbjbmjoncinaaDoor.PureOrder
