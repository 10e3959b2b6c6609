/- GraphCloses in plain lists, second part: the closing over each node in turn, the groups, the law. -/
import Derived.Test.YtbcbjbmjoncinaaDoorPureCloses
import Derived.Test.YtbcbjbmjoncinaaDoorPureOrder2
namespace Go.Proofs.YtbcbjbmjoncinaaDoor.PureCloses
open Go.RowKit Go.Proofs.YtbcbjbmjoncinaaDoorW.PrintWords Go.Proofs.YtbcbjbmjoncinaaDoorW.PrintLast Go.Proofs.YtbcbjbmjoncinaaDoorW.PrintMore Go.Proofs.YtbcbjbmjoncinaaDoor.PA

/-! ### one place of a matrix -/
def upd (x : List (List Bool)) (u v : Nat) (b : Bool) : List (List Bool) := x.set u ((rd_L1 x (u : Int)).set v b)
theorem upd_sq {n : Nat} {x : List (List Bool)} (h : Sq n x) (u v : Nat) (b : Bool) : Sq n (upd x u v b) := by
  refine ⟨by simp [upd, h.1], fun w hw => ?_⟩
  simp only [upd, List.getD_eq_getElem?_getD, List.getElem?_set]
  by_cases e : u = w
  · subst e
    rw [if_pos rfl, if_pos (by rw [h.1]; exact hw)]
    simp only [Option.getD_some, List.length_set]
    exact h.rd hw
  · rw [if_neg e]
    have := h.2 w hw
    rwa [List.getD_eq_getElem?_getD] at this
theorem gb_upd {n : Nat} {x : List (List Bool)} (h : Sq n x) {u v : Nat} (hu : u < n) (hv : v < n) (b : Bool) (a c : Nat) : gb (upd x u v b) a c = if a = u ∧ c = v then b else gb x a c := by
  have hl := h.rd hu
  simp only [gb, upd, List.getD_eq_getElem?_getD, List.getElem?_set]
  by_cases e : u = a
  · subst e
    rw [if_pos rfl, if_pos (by rw [h.1]; exact hu)]
    simp only [Option.getD_some, List.getElem?_set]
    by_cases e2 : v = c
    · subst e2
      rw [if_pos rfl, if_pos (by omega), if_pos (by simp)]; rfl
    · rw [if_neg e2, if_neg (fun hh => e2 hh.2.symm)]
      simp [rd_L1, List.getD_eq_getElem?_getD]
  · rw [if_neg e, if_neg (fun hh => e hh.1.symm)]

section
variable {g : List (List Bool)}

/-- The matrix in the middle of the round of m: rows below u are done, of row u the places below v. -/
def Mid (g : List (List Bool)) (m u v : Nat) (x : List (List Bool)) : Prop :=
  Sq g.length x ∧ ∀ a c, a < g.length → c < g.length → (gb x a c = true ↔ if a < u ∨ (a = u ∧ c < v) then Thru g (m + 1) a c else Thru g m a c)

theorem thru_in {m u : Nat} : Thru g (m + 1) u m ↔ Thru g m u m := ⟨fun h => h.elim id (·.1), .inl⟩
theorem thru_out {m v : Nat} : Thru g (m + 1) m v ↔ Thru g m m v := ⟨fun h => h.elim id (·.2), .inl⟩

theorem mid_step {m u v : Nat} {x : List (List Bool)} (hm : m < g.length) (hu : u < g.length) (hv : v < g.length) (h : Mid g m u v x) :
    Mid g m u (v + 1) (upd x u v (gb x u v || (gb x u m && gb x m v))) := by
  refine ⟨upd_sq h.1 u v _, fun a c ha hc => ?_⟩
  rw [gb_upd h.1 hu hv]
  have e1 : gb x u v = true ↔ Thru g m u v := by
    rw [h.2 u v hu hv, if_neg (by omega)]
  have e2 : gb x u m = true ↔ Thru g m u m := by
    rw [h.2 u m hu hm]; split
    · exact thru_in
    · exact Iff.rfl
  have e3 : gb x m v = true ↔ Thru g m m v := by
    rw [h.2 m v hm hv]; split
    · exact thru_out
    · exact Iff.rfl
  by_cases e : a = u ∧ c = v
  · obtain ⟨rfl, rfl⟩ := e
    rw [if_pos ⟨rfl, rfl⟩, if_pos (by omega), Bool.or_eq_true, Bool.and_eq_true, e1, e2, e3]
    exact Iff.rfl
  · rw [if_neg e, h.2 a c ha hc]
    by_cases e4 : a < u ∨ (a = u ∧ c < v)
    · rw [if_pos e4, if_pos (by omega)]
    · rw [if_neg e4, if_neg (by omega)]

theorem l3_run (h40 : g.length ≤ 40) {m u : Nat} {r : List (List Bool) × Option Int} (hm : m < g.length) (hu : u < g.length) :
    ∀ (j v : Nat) (x : List (List Bool)), g.length - v = j → v ≤ g.length → Mid g m u v x →
    (∀ x', Mid g m u g.length x' → Ev (fun k => graph_Closed.l2 k x' (m : Int) (g.length : Int) (m : Int) (g.length : Int) ((u + 1 : Nat) : Int)) r) →
    Ev (fun k => graph_Closed.l3 k x (m : Int) (u : Int) (g.length : Int) (m : Int) (g.length : Int) (u : Int) (g.length : Int) (v : Int)) r
  | 0, v, x, hj, hv, hx, h => by
    obtain rfl : v = g.length := by omega
    have hw := wrap_nat u (by omega)
    refine Ev.step (fun k => ?_) (h x hx)
    simp only [graph_Closed.l3]; rw [if_neg (by omega), hw]
  | j + 1, v, x, hj, hv, hx, h => by
    have hlt : v < g.length := by omega
    have hw := wrap_nat v (by omega)
    have hl := hx.1.1
    have hru := hx.1.rd hu
    have hrm := hx.1.rd hm
    refine Ev.step (fun k => ?_) (l3_run h40 hm hu j (v + 1) _ (by omega) (by omega) (mid_step hm hu hlt hx) h)
    simp only [graph_Closed.l3]
    rw [if_pos (by omega), if_pos (by omega), if_pos (by omega), if_pos (by omega), if_pos (by omega), rd_gb, hw]
    by_cases e1 : gb x u v = true
    · rw [if_pos e1, e1]; simp only [Bool.true_or, upd, Int.toNat_natCast]
    · have e1' : gb x u v = false := by simpa using e1
      rw [if_neg e1, if_pos (by omega), if_pos (by omega), rd_gb, e1']
      by_cases e2 : gb x u m = true
      · rw [if_pos e2, if_pos (by omega), if_pos (by omega), rd_gb, e2]; simp only [Bool.false_or, Bool.true_and, upd, Int.toNat_natCast]
      · have e2' : gb x u m = false := by simpa using e2
        rw [if_neg e2, e2']; simp only [Bool.false_or, Bool.false_and, upd, Int.toNat_natCast]

theorem l2_run (h40 : g.length ≤ 40) {m : Nat} {r : List (List Bool) × Option Int} (hm : m < g.length) :
    ∀ (j u : Nat) (x : List (List Bool)), g.length - u = j → u ≤ g.length → Mid g m u 0 x →
    (∀ x', Mid g m g.length 0 x' → Ev (fun k => graph_Closed.l1 k x' (g.length : Int) ((m + 1 : Nat) : Int)) r) →
    Ev (fun k => graph_Closed.l2 k x (m : Int) (g.length : Int) (m : Int) (g.length : Int) (u : Int)) r
  | 0, u, x, hj, hu, hx, h => by
    obtain rfl : u = g.length := by omega
    have hw := wrap_nat m (by omega)
    refine Ev.step (fun k => ?_) (h x hx)
    simp only [graph_Closed.l2]; rw [if_neg (by omega), hw]
  | j + 1, u, x, hj, hu, hx, h => by
    have hlt : u < g.length := by omega
    have hl := hx.1.1
    refine Ev.step (fun k => ?_) (l3_run h40 hm hlt _ 0 x rfl (by omega) hx fun x' hx' => l2_run h40 hm j (u + 1) x' (by omega) (by omega) ⟨hx'.1, fun a c ha hc => ?_⟩ h)
    · simp only [graph_Closed.l2]
      rw [if_pos (by omega), hl]; rfl
    · rw [hx'.2 a c ha hc]
      by_cases e : a < u ∨ (a = u ∧ c < g.length)
      · rw [if_pos e, if_pos (by omega)]
      · rw [if_neg e, if_neg (by omega)]

theorem l1_run (h40 : g.length ≤ 40) : ∀ (j m : Nat) (x : List (List Bool)), g.length - m = j → m ≤ g.length → Mid g m 0 0 x →
    ∃ x', Closes g x' ∧ Ev (fun k => graph_Closed.l1 k x (g.length : Int) (m : Int)) (x', (none : Option Int))
  | 0, m, x, hj, hm, hx => by
    obtain rfl : m = g.length := by omega
    refine ⟨x, ⟨hx.1, fun u v hu hv => by rw [hx.2 u v hu hv, if_neg (by omega)]⟩, Ev.step (fun k => ?_) (Ev.now _)⟩
    simp only [graph_Closed.l1]; rw [if_neg (by omega)]
  | j + 1, m, x, hj, hm, hx => by
    have hlt : m < g.length := by omega
    have hl := hx.1.1
    -- the matrix behind the round is one alone
    obtain ⟨y, hy⟩ : ∃ y, Mid g m g.length 0 y := by
      classical
      refine ⟨(List.range g.length).map fun a => (List.range g.length).map fun c => decide (Thru g (m + 1) a c), ⟨by simp, fun u hu => by simp [List.getD_eq_getElem?_getD, hu]⟩, fun a c ha hc => ?_⟩
      rw [if_pos (by omega)]
      simp [gb, List.getD_eq_getElem?_getD, ha, hc]
    have uniq : ∀ x', Mid g m g.length 0 x' → x' = y := fun x' hx' => Sq.ext hx'.1 hy.1 fun u v hu hv => by
      have a := hx'.2 u v hu hv
      have b := hy.2 u v hu hv
      rw [if_pos (by omega)] at a b
      cases e1 : gb x' u v <;> cases e2 : gb y u v <;> simp_all
    obtain ⟨x', h1, h2⟩ := l1_run h40 j (m + 1) y (by omega) (by omega) ⟨hy.1, fun a c ha hc => by rw [hy.2 a c ha hc, if_pos (by omega), if_neg (by omega)]⟩
    refine ⟨x', h1, Ev.step (fun k => ?_) (l2_run h40 hlt _ 0 x rfl (by omega) hx fun x'' hx'' => by rw [uniq x'' hx'']; exact h2)⟩
    simp only [graph_Closed.l1]
    rw [if_pos (by omega), hl]; rfl

theorem l0_run (hG : Sq g.length g) (h40 : g.length ≤ 40) {r : List (List Bool) × Option Int} (h : Ev (fun k => graph_Closed.l1 k g (g.length : Int) ((0 : Nat) : Int)) r) :
    ∀ (j i : Nat) (x : List (List Bool)), g.length - i = j → i ≤ g.length → x.length = g.length → (∀ u, u < i → x.getD u [] = g.getD u []) →
    Ev (fun k => graph_Closed.l0 k x g (g.length : Int) (i : Int)) r
  | 0, i, x, hj, hi, hx, he => by
    obtain rfl : i = g.length := by omega
    have e : x = g := by
      apply List.ext_getElem hx
      intro u h1 h2
      have := he u h2
      rw [List.getD_eq_getElem?_getD, List.getD_eq_getElem?_getD, List.getElem?_eq_getElem h1, List.getElem?_eq_getElem h2] at this
      simpa using this
    subst e
    refine Ev.step (fun k => ?_) h
    simp only [graph_Closed.l0]; rw [if_neg (by omega)]; rfl
  | j + 1, i, x, hj, hi, hx, he => by
    have hlt : i < g.length := by omega
    have hw := wrap_nat i (by omega)
    have hr := hG.rd hlt
    refine Ev.step (fun k => ?_) (l0_run hG h40 h j (i + 1) (x.set i (g.getD i [])) (by omega) (by omega) (by simp [hx]) fun u hu => ?_)
    · simp only [graph_Closed.l0]
      rw [if_pos (by omega), if_pos (by omega), if_pos (by omega), if_pos (by omega), if_pos (by omega)]
      simp only [Option.bind_some, List.length_nil, List.nil_append]
      rw [if_pos (by omega), if_pos (by omega), hw]
      simp [rd_L1]
    · simp only [List.getD_eq_getElem?_getD, List.getElem?_set]
      by_cases e : i = u
      · subst e; rw [if_pos rfl, if_pos (by omega)]; rfl
      · rw [if_neg e]
        have := he u (by omega)
        simpa [List.getD_eq_getElem?_getD] using this

theorem prog_closed (hG : Sq g.length g) (h40 : g.length ≤ 40) (hc : Ev (fun k => graph_Check.f k g) none) : ∃ x, Closes g x ∧ Ev (fun k => graph_Closed.f k g) (x, (none : Option Int)) := by
  obtain ⟨x, h1, h2⟩ := l1_run h40 _ 0 g rfl (by omega) ⟨hG, fun a c _ _ => by rw [if_neg (by omega)]; exact Iff.rfl⟩
  refine ⟨x, h1, ?_⟩
  refine Ev.bind (f := fun k t180 => (if t180.isNone = true then (if 0 ≤ (g.length : Int) then (if ((g.length : Int) : Int).toNat ≤ 11728124029610 then (graph_Closed.l0 k (List.replicate ((g.length : Int) : Int).toNat []) g (g.length : Int) 0) else (none)) else (none)) else (some (([] : List (List Bool)), some (t180.getD 0))))) hc ?_
  refine Ev.congr (fun k => ?_) (l0_run hG h40 h2 _ 0 (List.replicate g.length []) rfl (by omega) (by simp) (fun u hu => by omega))
  rw [if_pos (show (none : Option Int).isNone = true from rfl), if_pos (by omega), if_pos (by omega), Int.toNat_natCast]
  rfl

/-! ### the groups -/
/-- u and v lead to each other. -/
def Mut (r : List (List Bool)) (v u : Nat) : Prop := gb r v u = true ∧ gb r u v = true

theorem least {p : Nat → Prop} (n : Nat) : ∃ v, v ≤ n ∧ (v = n ∨ p v) ∧ ∀ u, u < v → ¬ p u := by
  classical
  induction n with
  | zero => exact ⟨0, Nat.le_refl _, .inl rfl, fun u hu => absurd hu (by omega)⟩
  | succ n ih =>
    obtain ⟨v, h1, h2, h3⟩ := ih
    rcases h2 with rfl | h2
    · by_cases hp : p v
      · exact ⟨v, by omega, .inr hp, h3⟩
      · refine ⟨v + 1, Nat.le_refl _, .inl rfl, fun u hu => ?_⟩
        rcases Nat.lt_succ_iff_lt_or_eq.1 hu with h | rfl
        · exact h3 u h
        · exact hp
    · exact ⟨v, by omega, .inr h2, h3⟩

theorem ref_g_l1 {n : Nat} {r : List (List Bool)} (hr : Sq n r) (hn : n ≤ 40) {out : List Int} (ho : out.length ≤ n) {x11 : Int} {v i : Nat} (hi : i < n) (hvi : v ≤ i) (hv : v = i ∨ Mut r i v) (hl : ∀ u, u < v → ¬ Mut r i u) {q : List Int}
    (h : Ev (fun k => testimonyref_GraphGroups.l0 k r (out ++ [(v : Int)]) x11 ((i + 1 : Nat) : Int)) q) :
    ∀ (k at_ : Nat), k ≤ i → ((at_ = v ∧ k ≤ v) ∨ v < k ∨ (v = i ∧ at_ = i)) →
    Ev (fun f => testimonyref_GraphGroups.l1 f r out (i : Int) (at_ : Int) (wrap64 ((k : Int) - 1)) x11 (i : Int)) q
  | 0, at_, hk, ha => by
    have hw := wrap_nat i (by omega)
    have e : at_ = v := by omega
    subst e
    rw [wrap_zero]
    refine Ev.step (fun f => ?_) h
    simp only [testimonyref_GraphGroups.l1]
    rw [if_neg (by omega), if_pos (by omega), hw]
  | k + 1, at_, hk, ha => by
    have hlt : k < n := by omega
    have r1 := hr.rd hi
    have r2 := hr.rd hlt
    have hl1 := hr.1
    rw [wrap_pred k (by omega)]
    by_cases m1 : gb r i k = true
    · by_cases m2 : gb r k i = true
      · have hkv : ¬ k < v := fun hh => hl k hh ⟨m1, m2⟩
        refine Ev.step (fun f => ?_) (ref_g_l1 hr hn ho hi hvi hv hl h k k (by omega) (by omega))
        simp only [testimonyref_GraphGroups.l1]
        rw [if_pos (by omega), if_pos (by omega), if_pos (by omega), if_pos (by omega), if_pos (by omega), rd_gb, if_pos m1, if_pos (by omega), if_pos (by omega), rd_gb, if_pos m2]
      · have hkv : k ≠ v ∨ v = i := by
          rcases hv with e | e
          · exact .inr e
          · exact .inl fun e2 => m2 (by rw [e2]; exact e.2)
        refine Ev.step (fun f => ?_) (ref_g_l1 hr hn ho hi hvi hv hl h k at_ (by omega) (by omega))
        simp only [testimonyref_GraphGroups.l1]
        rw [if_pos (by omega), if_pos (by omega), if_pos (by omega), if_pos (by omega), if_pos (by omega), rd_gb, if_pos m1, if_pos (by omega), if_pos (by omega), rd_gb, if_neg m2]
    · have hkv : k ≠ v ∨ v = i := by
        rcases hv with e | e
        · exact .inr e
        · exact .inl fun e2 => m1 (by rw [e2]; exact e.1)
      refine Ev.step (fun f => ?_) (ref_g_l1 hr hn ho hi hvi hv hl h k at_ (by omega) (by omega))
      simp only [testimonyref_GraphGroups.l1]
      rw [if_pos (by omega), if_pos (by omega), if_pos (by omega), if_pos (by omega), if_pos (by omega), rd_gb, if_neg m1]

theorem prog_g_l1 {n : Nat} {r : List (List Bool)} (hr : Sq n r) (hn : n ≤ 40) {out : List Int} (ho : out.length ≤ n) {x18 : Int} {v i : Nat} (hi : i < n) (hvi : v ≤ i) (hv : v = i ∨ Mut r i v) (hl : ∀ u, u < v → ¬ Mut r i u) {q : List Int × Option Int}
    (h : Ev (fun k => graph_Groups.l0 k r (out ++ [(v : Int)]) x18 ((i + 1 : Nat) : Int)) q) :
    ∀ (j u : Nat), v - u = j → u ≤ v → Ev (fun f => graph_Groups.l1 f r out (i : Int) (u : Int) x18 (i : Int)) q
  | 0, u, hj, hu => by
    obtain rfl : u = v := by omega
    have hw := wrap_nat i (by omega)
    have r1 := hr.rd hi
    have r2 := hr.rd (show u < n by omega)
    have hl1 := hr.1
    by_cases e : u = i
    · subst e
      refine Ev.step (fun f => ?_) h
      simp only [graph_Groups.l1]
      rw [if_pos trivial, if_pos (by omega), hw]
    · obtain ⟨m1, m2⟩ := hv.resolve_left e
      refine Ev.step (fun f => ?_) h
      simp only [graph_Groups.l1]
      rw [if_neg (by omega), if_pos (by omega), if_pos (by omega), if_pos (by omega), if_pos (by omega), rd_gb, if_pos m1, if_pos (by omega), if_pos (by omega), rd_gb, if_pos m2, if_pos (by omega), hw]
  | j + 1, u, hj, hu => by
    have hw := wrap_nat u (by omega)
    have r1 := hr.rd hi
    have r2 := hr.rd (show u < n by omega)
    have hl1 := hr.1
    refine Ev.step (fun f => ?_) (prog_g_l1 hr hn ho hi hvi hv hl h j (u + 1) (by omega) (by omega))
    have hnm := hl u (by omega)
    simp only [graph_Groups.l1]
    rw [if_neg (by omega), if_pos (by omega), if_pos (by omega), if_pos (by omega), if_pos (by omega), rd_gb]
    by_cases m1 : gb r i u = true
    · rw [if_pos m1, if_pos (by omega), if_pos (by omega), rd_gb, if_neg (fun m2 => hnm ⟨m1, m2⟩), hw]
    · rw [if_neg m1, hw]

theorem groups {n : Nat} {r : List (List Bool)} (hr : Sq n r) (hn : n ≤ 40) : ∀ (j i : Nat) (out : List Int), n - i = j → i ≤ n → out.length = i →
    ∃ l : List Int, l.length = n ∧ Ev (fun k => testimonyref_GraphGroups.l0 k r out (n : Int) (i : Int)) l ∧ Ev (fun k => graph_Groups.l0 k r out (n : Int) (i : Int)) (l, (none : Option Int))
  | 0, i, out, hj, hi, ho => by
    obtain rfl : i = n := by omega
    refine ⟨out, ho, Ev.step (fun k => ?_) (Ev.now _), Ev.step (fun k => ?_) (Ev.now _)⟩
    · simp only [testimonyref_GraphGroups.l0]; rw [if_neg (by omega)]
    · simp only [graph_Groups.l0]; rw [if_neg (by omega)]
  | j + 1, i, out, hj, hi, ho => by
    have hlt : i < n := by omega
    obtain ⟨v, h1, h2, h3⟩ := least (p := fun u => Mut r i u) i
    obtain ⟨l, hl, e1, e2⟩ := groups hr hn j (i + 1) (out ++ [(v : Int)]) (by omega) (by omega) (by simp [ho])
    refine ⟨l, hl, Ev.step (fun k => ?_) (ref_g_l1 hr hn (by omega) hlt h1 h2 h3 e1 i i (Nat.le_refl _) (by omega)), Ev.step (fun k => ?_) (prog_g_l1 hr hn (by omega) hlt h1 h2 h3 e2 _ 0 rfl (by omega))⟩
    · simp only [testimonyref_GraphGroups.l0]; rw [if_pos (by omega)]
    · simp only [graph_Groups.l0]; rw [if_pos (by omega)]; rfl

/-! ### one matrix, held against itself -/
theorem same_b {n : Nat} {r : List (List Bool)} (hr : Sq n r) (hn : n ≤ 40) : Ev (fun k => testimonylaw_sameBools.f k r r) true := by
  have inner : ∀ (i : Nat), i < n → Ev (fun k => testimonylaw_sameBools.l0 k r r ((i + 1 : Nat) : Int)) true → ∀ (j c : Nat), n - c = j → c ≤ n → Ev (fun k => testimonylaw_sameBools.l1 k r r (i : Int) (c : Int)) true := by
    intro i hi h j
    have r1 := hr.rd hi
    have hl1 := hr.1
    induction j with
    | zero =>
      intro c hj hc
      have hw := wrap_nat i (by omega)
      refine Ev.step (fun k => ?_) h
      simp only [testimonylaw_sameBools.l1]; rw [if_pos (by omega), if_pos (by omega), if_neg (by omega), hw]
    | succ j ih =>
      intro c hj hc
      have hw := wrap_nat c (by omega)
      refine Ev.step (fun k => ?_) (ih (c + 1) (by omega) (by omega))
      simp only [testimonylaw_sameBools.l1]; rw [if_pos (by omega), if_pos (by omega), if_pos (by omega), if_pos (by omega), if_pos (by omega), if_pos (by omega), if_neg (by simp), hw]
  have outer : ∀ (j i : Nat), n - i = j → i ≤ n → Ev (fun k => testimonylaw_sameBools.l0 k r r (i : Int)) true := by
    intro j
    have hl1 := hr.1
    induction j with
    | zero =>
      intro i hj hi
      refine Ev.step (fun k => ?_) (Ev.now _)
      simp only [testimonylaw_sameBools.l0]; rw [if_neg (by omega)]
    | succ j ih =>
      intro i hj hi
      refine Ev.step (fun k => ?_) (inner i (by omega) (ih (i + 1) (by omega) (by omega)) _ 0 rfl (by omega))
      simp only [testimonylaw_sameBools.l0]; rw [if_pos (by omega), if_pos (by omega), if_pos (by omega), if_pos trivial]; rfl
  refine Ev.congr (fun k => ?_) (outer _ 0 rfl (by omega))
  simp only [testimonylaw_sameBools.f]; rw [if_pos trivial]; rfl
end

/-! ### the law -/
theorem bare_eq (c : Int) : testimonylaw_bare.f (some c) c = some true := by simp [testimonylaw_bare.f]
theorem bare_ok : testimonylaw_bare.f none 0 = some true := by simp [testimonylaw_bare.f]

theorem j0_of {x0 : List (List Bool)} {x3 : Int} {x4 : List (List Bool)} {x5 : List Int} {r : Bool} (h : Ev (fun k => (graph_Closed.f k x0).bind fun bt239 => ((graph_Groups.f k x0).bind fun bt243 => ((testimonylaw_bare.f bt239.2 x3).bind fun t247 => (if t247 = true then ((testimonylaw_sameBools.f k bt239.1 x4).bind fun t248 => (if t248 = true then ((testimonylaw_bare.f bt243.2 x3).bind fun t249 => (if t249 = true then ((testimonylaw_sameInts.f k bt243.1 x5).bind fun t250 => (some t250)) else (some false))) else (some false))) else (some false))))) r) : Ev (fun k => testimonylaw_GraphCloses.j0 k x0 x3 x4 x5) r :=
  Ev.step (fun k => by simp only [testimonylaw_GraphCloses.j0]) h

theorem law (g : List (List Bool)) (hm : g.length ≤ 9223372036854775807) : ∃ k, testimonylaw_GraphCloses.f k g = some true := by
  obtain ⟨b, hb⟩ := PureOrder.flat g hm 2000
  refine Ev.rounds (g := fun k => testimonylaw_GraphCloses.f k g) (r := true) ?_
  cases b with
  | false => exact Ev.bind hb (Ev.congr (fun k => by rw [if_neg (by decide)]) (Ev.now _))
  | true =>
    rcases PureOrder.checks g with ⟨hG', h1, h2⟩ | ⟨c, hc, h1, h2⟩
    · have hG : Sq g.length g := ⟨rfl, fun u hu => by
        rw [List.getD_eq_getElem?_getD, List.getElem?_eq_getElem hu]; exact hG'.2 _ (List.getElem_mem hu)⟩
      have h40 := hG'.1
      obtain ⟨r, hr, e1⟩ := ref_closed hG h40
      obtain ⟨x, hx, e2⟩ := prog_closed hG h40 h2
      obtain rfl := hx.unique hr
      obtain ⟨l, hl, g1, g2⟩ := groups hx.1 h40 _ 0 [] rfl (by omega) rfl
      have g1' : Ev (fun k => testimonyref_GraphGroups.f k g) l := Ev.bind e1 (Ev.congr (fun k => rfl) g1)
      have g2' : Ev (fun k => graph_Groups.f k g) (l, (none : Option Int)) := Ev.bind e2 (Ev.congr (fun k => by
        rw [if_pos (show (none : Option Int).isNone = true from rfl)]
        simp only [hx.1.1]; rfl) g2)
      have s1 := same_b hx.1 h40
      have s2 := PureOrder.same l (by omega)
      refine Ev.bind hb (Ev.congr (fun k => by rw [if_pos rfl]) (Ev.bind h1 (Ev.congr (fun k => by rw [if_pos rfl]) (Ev.bind e1 (Ev.bind g1' ?_)))))
      refine j0_of (Ev.bind e2 (Ev.bind g2' ?_))
      simp only [bare_ok, Option.bind_some, if_true]
      refine Ev.bind s1 (Ev.congr (fun k => by rw [if_pos rfl]) (Ev.bind s2 (Ev.now _)))
    · have e2 : Ev (fun k => graph_Closed.f k g) (([] : List (List Bool)), some c) := Ev.bind h2 (Ev.congr (fun k => by rw [if_neg (show ¬ (some c).isNone = true by simp)]; rfl) (Ev.now _))
      have g2 : Ev (fun k => graph_Groups.f k g) (([] : List Int), some c) := Ev.bind e2 (Ev.congr (fun k => by rw [if_neg (show ¬ (some c).isNone = true by simp)]; rfl) (Ev.now _))
      have s1 := same_b (n := 0) (r := []) ⟨rfl, fun u hu => by omega⟩ (by omega)
      have s2 := PureOrder.same [] (by decide)
      refine Ev.bind hb (Ev.congr (fun k => by rw [if_pos rfl]) (Ev.bind h1 (Ev.congr (fun k => by rw [if_neg hc]) ?_)))
      refine j0_of (Ev.bind e2 (Ev.bind g2 ?_))
      simp only [bare_eq, Option.bind_some, if_true]
      refine Ev.bind s1 (Ev.congr (fun k => by rw [if_pos rfl]) (Ev.bind s2 (Ev.now _)))
end Go.Proofs.YtbcbjbmjoncinaaDoor.PureCloses
