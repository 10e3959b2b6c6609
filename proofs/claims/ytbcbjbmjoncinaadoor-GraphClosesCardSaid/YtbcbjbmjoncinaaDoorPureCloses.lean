/- GraphCloses in plain lists: walks from each node and the closing over each node in turn tell the same matrix; so do both groupings. -/
import Derived.Test.YtbcbjbmjoncinaaDoorPAxFtestimonylawGraphCloses
namespace Go.Proofs.YtbcbjbmjoncinaaDoor.PureCloses
open Go.RowKit Go.Proofs.YtbcbjbmjoncinaaDoorW.PrintWords Go.Proofs.YtbcbjbmjoncinaaDoorW.PrintLast Go.Proofs.YtbcbjbmjoncinaaDoorW.PrintMore Go.Proofs.YtbcbjbmjoncinaaDoor.PA

theorem wrap_nat (i : Nat) (h : i < 4611686018427387904) : wrap64 ((i : Int) + 1) = ((i + 1 : Nat) : Int) := by
  unfold wrap64; omega
theorem wrap_pred (i : Nat) (h : i < 4611686018427387904) : wrap64 (((i + 1 : Nat) : Int) - 1) = (i : Int) := by
  unfold wrap64; omega
theorem wrap_zero : wrap64 (((0 : Nat) : Int) - 1) = -1 := by unfold wrap64; omega

def gb (g : List (List Bool)) (u v : Nat) : Bool := (g.getD u []).getD v false
theorem rd_gb (g : List (List Bool)) (u v : Nat) : rdOf false (rd_L1 g (u : Int)) (v : Int) = gb g u v := by simp [rdOf, rd_L1, gb]
/-- A square of side n. -/
def Sq (n : Nat) (g : List (List Bool)) : Prop := g.length = n ∧ ∀ u, u < n → (g.getD u []).length = n
theorem Sq.rd {n : Nat} {g : List (List Bool)} (h : Sq n g) {u : Nat} (hu : u < n) : (rd_L1 g (u : Int)).length = n := by
  simp only [rd_L1, Int.toNat_natCast]; exact h.2 u hu
theorem Sq.ext {n : Nat} {a b : List (List Bool)} (ha : Sq n a) (hb : Sq n b) (h : ∀ u v, u < n → v < n → gb a u v = gb b u v) : a = b := by
  apply List.ext_getElem
  · rw [ha.1, hb.1]
  · intro u h1 h2
    have hu : u < n := by rw [← ha.1]; exact h1
    have e1 : a[u] = a.getD u [] := by simp [List.getD_eq_getElem?_getD, List.getElem?_eq_getElem h1]
    have e2 : b[u] = b.getD u [] := by simp [List.getD_eq_getElem?_getD, List.getElem?_eq_getElem h2]
    rw [e1, e2]
    apply List.ext_getElem
    · rw [ha.2 u hu, hb.2 u hu]
    · intro v h3 h4
      have hv : v < n := by rw [← ha.2 u hu]; exact h3
      have := h u v hu hv
      simp only [gb] at this
      rw [List.getD_eq_getElem?_getD, List.getElem?_eq_getElem h3, List.getD_eq_getElem?_getD (l := b.getD u []), List.getElem?_eq_getElem h4] at this
      simpa using this

/-- From u to v by way of nodes below m. -/
def Thru (g : List (List Bool)) : Nat → Nat → Nat → Prop
  | 0, u, v => gb g u v = true
  | m + 1, u, v => Thru g m u v ∨ (Thru g m u m ∧ Thru g m m v)

theorem Thru.up {g : List (List Bool)} {u v : Nat} : ∀ {m : Nat} (j : Nat), Thru g m u v → Thru g (m + j) u v
  | _, 0, h => h
  | _, j + 1, h => .inl (Thru.up j h)
theorem Thru.edge {g : List (List Bool)} {u v : Nat} (m : Nat) (h : gb g u v = true) : Thru g m u v := by
  have := Thru.up (g := g) (m := 0) m h
  rwa [Nat.zero_add] at this
theorem Thru.trans {g : List (List Bool)} {w : Nat} : ∀ {m u v : Nat}, w < m → Thru g m u w → Thru g m w v → Thru g m u v
  | m + 1, u, v, hw, h1, h2 => by
    by_cases e : w = m
    · subst e
      exact .inr ⟨h1.elim id (·.1), h2.elim id (·.2)⟩
    · have hlt : w < m := by omega
      rcases h1 with h1 | ⟨a1, b1⟩
      · rcases h2 with h2 | ⟨a2, b2⟩
        · exact .inl (Thru.trans hlt h1 h2)
        · exact .inr ⟨Thru.trans hlt h1 a2, b2⟩
      · rcases h2 with h2 | ⟨a2, b2⟩
        · exact .inr ⟨a1, Thru.trans hlt b1 h2⟩
        · exact .inr ⟨a1, b2⟩
/-- The matrix of what leads to what. -/
def Closes (g : List (List Bool)) (r : List (List Bool)) : Prop := Sq g.length r ∧ ∀ u v, u < g.length → v < g.length → (gb r u v = true ↔ Thru g g.length u v)
theorem Closes.unique {g a b : List (List Bool)} (ha : Closes g a) (hb : Closes g b) : a = b :=
  Sq.ext ha.1 hb.1 fun u v hu hv => by
    have h1 := ha.2 u v hu hv
    have h2 := hb.2 u v hu hv
    cases e1 : gb a u v <;> cases e2 : gb b u v <;> simp_all

/-! ### walks -/
section
variable {g : List (List Bool)} (hG : Sq g.length g) (h40 : g.length ≤ 40)

theorem lead_at (hG : Sq g.length g) {i k : Nat} (hi : i < g.length) (hk : k < g.length) : gLead g (i : Int) (k : Int) = some (gb g i k) := by
  have hl := hG.rd hi
  simp only [gLead]
  rw [if_pos (by omega), if_pos (by omega), rd_gb]

def seen (s : List Bool) (v : Nat) : Bool := s.getD v false
theorem seen_set {s : List Bool} {k v : Nat} (hk : k < s.length) : seen (s.set k true) v = (if v = k then true else seen s v) := by
  simp only [seen, List.getD_eq_getElem?_getD, List.getElem?_set]
  by_cases e : k = v
  · subst e; simp [hk]
  · rw [if_neg e, if_neg (fun h => e h.symm)]
/-- How many are not seen. -/
def unseen (s : List Bool) : Nat := s.countP (!·)
theorem unseen_set {s : List Bool} {k : Nat} (hk : k < s.length) (h : seen s k = false) : unseen (s.set k true) + 1 = unseen s := by
  induction s generalizing k with
  | nil => simp at hk
  | cons b s ih =>
    cases k with
    | zero =>
      have hb : b = false := by simpa [seen] using h
      subst hb
      simp [unseen]
    | succ k =>
      have := ih (k := k) (by simpa using hk) (by simpa [seen] using h)
      simp only [unseen, List.set_cons_succ, List.countP_cons] at this ⊢
      omega
theorem unseen_le (s : List Bool) : unseen s ≤ s.length := List.countP_le_length

/-- What the search holds: 'from_' is where it began. -/
structure Inv (g : List (List Bool)) (from_ : Nat) (s : List Bool) (T : List Nat) : Prop where
  len : s.length = g.length
  lt : ∀ i ∈ T, i < g.length
  sound : ∀ v, v < g.length → seen s v = true → Thru g g.length from_ v
  todo : ∀ i ∈ T, i = from_ ∨ seen s i = true
  room : T.length + unseen s ≤ 1 + g.length

def ints (T : List Nat) : List Int := T.map fun (i : Nat) => (i : Int)

/-- The row of one node, in the inner loop: i's leads from k on. -/
theorem walks_l2 (hG : Sq g.length g) (h40 : g.length ≤ 40) {from_ i : Nat} {out : List (List Bool)} {x11 x12 : Int} {r : List (List Bool)} (hf : from_ < g.length) (hi : i < g.length) :
    ∀ (j k : Nat) (s : List Bool) (T : List Nat), g.length - k = j → k ≤ g.length → Inv g from_ s T → (i = from_ ∨ seen s i = true) →
    (∀ s' T', Inv g from_ s' T' → (∀ v, seen s v = true → seen s' v = true) → (∀ v, k ≤ v → v < g.length → gb g i v = true → seen s' v = true) → (∀ x ∈ T, x ∈ T') → (∀ v, v < g.length → seen s' v = true → seen s v = true ∨ v ∈ T') → T'.length + unseen s' = T.length + unseen s →
      Ev (fun q => testimonyref_walks.l1 q (g.length : Int) (gLead g) out s' (ints T') x11 x12) r) →
    Ev (fun q => testimonyref_walks.l2 q (g.length : Int) (gLead g) out s (ints T) (i : Int) x11 x12 (g.length : Int) (k : Int)) r
  | 0, k, s, T, hj, hk, hI, hs, h => by
    obtain rfl : k = g.length := by omega
    refine Ev.step (fun q => ?_) (h s T hI (fun _ h => h) (fun v h1 h2 => by omega) (fun _ h => h) (fun v _ h => .inl h) rfl)
    simp only [testimonyref_walks.l2]; rw [if_neg (by omega)]
  | j + 1, k, s, T, hj, hk, hI, hs, h => by
    have hlt : k < g.length := by omega
    have hw := wrap_nat k (by omega)
    have hL := lead_at hG hi hlt
    have hsl := hI.len
    by_cases hgb : gb g i k = true
    · by_cases hsk : seen s k = true
      · refine Ev.step (fun q => ?_) (walks_l2 hG h40 hf hi j (k + 1) s T (by omega) (by omega) hI hs fun s' T' a b c d e f => h s' T' a b (fun v h1 h2 h3 => ?_) d e f)
        · simp only [testimonyref_walks.l2]
          rw [if_pos (by omega), hL, hgb]
          simp only [Option.bind_some]
          rw [if_pos trivial, if_pos (by omega), if_pos (by omega), if_pos (by simpa [rdOf, seen] using hsk), hw]
        · by_cases e1 : v = k
          · subst e1; exact b v hsk
          · exact c v (by omega) h2 h3
      · have hsf : seen s k = false := by simpa using hsk
        have hun := unseen_set (s := s) (k := k) (by omega) hsf
        have hroom := hI.room
        have hI' : Inv g from_ (s.set k true) (T ++ [k]) := by
          refine ⟨by rw [List.length_set]; exact hsl, fun x hx => ?_, fun v hv hvs => ?_, fun x hx => ?_, by rw [List.length_append, List.length_singleton]; omega⟩
          · rcases List.mem_append.1 hx with hx | hx
            · exact hI.lt x hx
            · rw [List.mem_singleton.1 hx]; exact hlt
          · rw [seen_set (by omega)] at hvs
            by_cases e1 : v = k
            · subst e1
              rcases hs with rfl | hs
              · exact Thru.edge _ hgb
              · exact Thru.trans hi (hI.sound i hi hs) (Thru.edge _ hgb)
            · rw [if_neg e1] at hvs; exact hI.sound v hv hvs
          · rw [seen_set (by omega)]
            rcases List.mem_append.1 hx with hx | hx
            · rcases hI.todo x hx with h1 | h1
              · exact .inl h1
              · exact .inr (by split; rfl; exact h1)
            · rw [List.mem_singleton.1 hx]; exact .inr (by rw [if_pos rfl])
        refine Ev.step (fun q => ?_) (walks_l2 hG h40 hf hi j (k + 1) (s.set k true) (T ++ [k]) (by omega) (by omega) hI' ?_ fun s' T' a b c d e f => h s' T' a (fun v hv => ?_) (fun v h1 h2 h3 => ?_) (fun x hx => d x (List.mem_append_left _ hx)) (fun v hv hvs => ?_) ?_)
        · simp only [testimonyref_walks.l2]
          rw [if_pos (by omega), hL, hgb]
          simp only [Option.bind_some]
          rw [if_pos trivial, if_pos (by omega), if_pos (by omega), if_neg (by simpa [rdOf, seen] using hsf), if_pos (by simp only [ints, List.length_map]; omega), hw, Int.toNat_natCast]
          simp only [ints, List.map_append, List.map_cons, List.map_nil]
        · rcases hs with h1 | h1
          · exact .inl h1
          · rw [seen_set (by omega)]; exact .inr (by split; rfl; exact h1)
        · exact b v (by rw [seen_set (by omega)]; split; rfl; exact hv)
        · by_cases e1 : v = k
          · subst e1; exact b v (by rw [seen_set (by omega), if_pos rfl])
          · exact c v (by omega) h2 h3
        · rcases e v hv hvs with h1 | h1
          · rw [seen_set (by omega)] at h1
            by_cases e1 : v = k
            · subst e1; exact .inr (d v (List.mem_append_right _ (List.mem_singleton.2 rfl)))
            · rw [if_neg e1] at h1; exact .inl h1
          · exact .inr h1
        · rw [f, List.length_append, List.length_singleton]; omega
    · have hgf : gb g i k = false := by simpa using hgb
      refine Ev.step (fun q => ?_) (walks_l2 hG h40 hf hi j (k + 1) s T (by omega) (by omega) hI hs fun s' T' a b c d e f => h s' T' a b (fun v h1 h2 h3 => ?_) d e f)
      · simp only [testimonyref_walks.l2]
        rw [if_pos (by omega), hL, hgf]
        simp only [Option.bind_some]
        rw [if_neg (by decide), hw]
      · by_cases e1 : v = k
        · subst e1; exact absurd h3 hgb
        · exact c v (by omega) h2 h3

/-- Who was looked at has all whom it leads to among the seen. -/
def Done (g : List (List Bool)) (from_ : Nat) (s : List Bool) (T : List Nat) : Prop :=
  ∀ u, u < g.length → (u = from_ ∨ seen s u = true) → u ∈ T ∨ ∀ v, v < g.length → gb g u v = true → seen s v = true

theorem walks_l1 (hG : Sq g.length g) (h40 : g.length ≤ 40) {from_ : Nat} {out : List (List Bool)} {x11 x12 : Int} {r : List (List Bool)} (hf : from_ < g.length)
    (h : ∀ s, s.length = g.length → (∀ v, v < g.length → (seen s v = true ↔ Thru g g.length from_ v)) → Ev (fun q => testimonyref_walks.l1 q (g.length : Int) (gLead g) out s (ints []) x11 x12) r) :
    ∀ (j : Nat) (s : List Bool) (T : List Nat), T.length + unseen s = j → Inv g from_ s T → Done g from_ s T →
    Ev (fun q => testimonyref_walks.l1 q (g.length : Int) (gLead g) out s (ints T) x11 x12) r
  | j, s, [], hj, hI, hD => by
    refine h s hI.len fun v hv => ⟨hI.sound v hv, ?_⟩
    have key : ∀ (m : Nat) (u v : Nat), m ≤ g.length → u < g.length → v < g.length → (u = from_ ∨ seen s u = true) → Thru g m u v → seen s v = true := by
      intro m
      induction m with
      | zero =>
        intro u v _ hu hv hs ht
        rcases hD u hu hs with h1 | h1
        · cases h1
        · exact h1 v hv ht
      | succ m ih =>
        intro u v hm hu hv hs ht
        rcases ht with ht | ⟨h1, h2⟩
        · exact ih u v (by omega) hu hv hs ht
        · exact ih m v (by omega) (by omega) hv (.inr (ih u m (by omega) hu (by omega) hs h1)) h2
    exact key _ from_ v (Nat.le_refl _) hf hv (.inl rfl)
  | 0, s, i :: T, hj, hI, hD => by simp at hj
  | j + 1, s, i :: T, hj, hI, hD => by
    have hi : i < g.length := hI.lt i List.mem_cons_self
    have hroom := hI.room
    have hI' : Inv g from_ s T := ⟨hI.len, fun x hx => hI.lt x (List.mem_cons_of_mem _ hx), hI.sound, fun x hx => hI.todo x (List.mem_cons_of_mem _ hx), by simp at hroom; omega⟩
    have hs := hI.todo i List.mem_cons_self
    refine Ev.step (fun q => ?_) (walks_l2 hG h40 (from_ := from_) (i := i) (out := out) (x11 := x11) (x12 := x12) (r := r) hf hi _ 0 s T rfl (by omega) hI' hs fun s' T' a b c d e f => ?_)
    · simp only [testimonyref_walks.l1, ints, List.map_cons, List.length_cons]
      rw [if_pos (by omega), if_pos (by omega), if_pos (by omega)]
      simp [rd]
    · refine walks_l1 hG h40 hf h j s' T' (by simp at hj; omega) a fun u hu hus => ?_
      by_cases e1 : u = i
      · subst e1; exact .inr fun v hv hgb => c v (Nat.zero_le _) hv hgb
      · rcases hus with rfl | hus
        · rcases hD u hu (.inl rfl) with h1 | h1
          · rcases List.mem_cons.1 h1 with h1 | h1
            · exact absurd h1 e1
            · exact .inl (d u h1)
          · exact .inr fun v hv hgb => b v (h1 v hv hgb)
        · rcases e u hu hus with h2 | h2
          · rcases hD u hu (.inr h2) with h1 | h1
            · rcases List.mem_cons.1 h1 with h1 | h1
              · exact absurd h1 e1
              · exact .inl (d u h1)
            · exact .inr fun v hv hgb => b v (h1 v hv hgb)
          · exact .inl h2

theorem walks_l0 (hG : Sq g.length g) (h40 : g.length ≤ 40) : ∀ (j i : Nat) (out : List (List Bool)), g.length - i = j → i ≤ g.length → out.length = i →
    (∀ u, u < i → (out.getD u []).length = g.length ∧ ∀ v, v < g.length → (gb out u v = true ↔ Thru g g.length u v)) →
    ∃ r, Closes g r ∧ Ev (fun q => testimonyref_walks.l0 q (g.length : Int) (gLead g) out (g.length : Int) (i : Int)) r
  | 0, i, out, hj, hi, ho, h => by
    obtain rfl : i = g.length := by omega
    refine ⟨out, ⟨⟨ho, fun u hu => (h u hu).1⟩, fun u v hu hv => (h u hu).2 v hv⟩, Ev.step (fun q => ?_) (Ev.now _)⟩
    simp only [testimonyref_walks.l0]; rw [if_neg (by omega)]
  | j + 1, i, out, hj, hi, ho, h => by
    have hlt : i < g.length := by omega
    have hw := wrap_nat i (by omega)
    -- the row that is found is one alone
    obtain ⟨row, hrl, hrow⟩ : ∃ s : List Bool, s.length = g.length ∧ ∀ v, v < g.length → (seen s v = true ↔ Thru g g.length i v) := by
      classical
      refine ⟨(List.range g.length).map fun v => decide (Thru g g.length i v), by simp, fun v hv => ?_⟩
      simp [seen, List.getD_eq_getElem?_getD, hv]
    have uniq : ∀ s : List Bool, s.length = g.length → (∀ v, v < g.length → (seen s v = true ↔ Thru g g.length i v)) → s = row := by
      intro s hl hs
      apply List.ext_getElem
      · rw [hl, hrl]
      · intro v h1 h2
        have a := hs v (by omega)
        have b := hrow v (by omega)
        simp only [seen, List.getD_eq_getElem?_getD] at a b
        rw [List.getElem?_eq_getElem h1] at a
        rw [List.getElem?_eq_getElem h2] at b
        simp only [Option.getD_some] at a b
        cases e1 : s[v] <;> cases e2 : row[v] <;> simp_all
    have hgbo : ∀ u v, u < i → gb (out ++ [row]) u v = gb out u v := by
      intro u v hu
      simp only [gb, List.getD_eq_getElem?_getD]
      rw [List.getElem?_append_left (by omega)]
    have hgbi : ∀ v, gb (out ++ [row]) i v = seen row v := by
      intro v
      simp only [gb, seen, List.getD_eq_getElem?_getD (l := out ++ [row])]
      rw [List.getElem?_append_right (by omega)]
      simp [ho]
    obtain ⟨r, hr, hE⟩ := walks_l0 hG h40 j (i + 1) (out ++ [row]) (by omega) (by omega) (by simp [ho]) (by
      intro u hu
      by_cases e1 : u = i
      · subst e1
        refine ⟨?_, fun v hv => by rw [hgbi]; exact hrow v hv⟩
        rw [List.getD_eq_getElem?_getD, List.getElem?_append_right (by omega)]
        simp [ho, hrl]
      · obtain ⟨a, b⟩ := h u (by omega)
        refine ⟨?_, fun v hv => by rw [hgbo u v (by omega)]; exact b v hv⟩
        rw [List.getD_eq_getElem?_getD] at a ⊢
        rwa [List.getElem?_append_left (by omega)])
    refine ⟨r, hr, Ev.step (fun q => ?_) (walks_l1 hG h40 (from_ := i) (out := out) (x11 := (g.length : Int)) (x12 := (i : Int)) (r := r) hlt (fun s hl hs => ?_) _ (List.replicate g.length false) [i] rfl ?_ ?_)⟩
    · simp only [testimonyref_walks.l0]
      rw [if_pos (by omega), if_pos (by omega), if_pos (by omega), Int.toNat_natCast]
      rfl
    · rw [uniq s hl hs]
      refine Ev.step (fun q => ?_) hE
      simp only [testimonyref_walks.l1, ints, List.map_nil, List.length_nil]
      rw [if_neg (by omega), if_pos (by omega), hw]
    · refine ⟨by simp, fun x hx => by rw [List.mem_singleton.1 hx]; exact hlt, fun v hv hvs => ?_, fun x hx => .inl (List.mem_singleton.1 hx), ?_⟩
      · simp [seen, List.getD_eq_getElem?_getD, hv] at hvs
      · have := unseen_le (List.replicate g.length false); simp at this ⊢; omega
    · intro u hu hus
      rcases hus with rfl | hus
      · exact .inl (List.mem_singleton.2 rfl)
      · simp [seen, List.getD_eq_getElem?_getD, hu] at hus

theorem ref_closed (hG : Sq g.length g) (h40 : g.length ≤ 40) : ∃ r, Closes g r ∧ Ev (fun q => testimonyref_GraphClosed.f q g) r := by
  obtain ⟨r, h1, h2⟩ := walks_l0 hG h40 _ 0 [] rfl (by omega) rfl (fun u hu => by omega)
  exact ⟨r, h1, Ev.congr (fun q => rfl) h2⟩
end
end Go.Proofs.YtbcbjbmjoncinaaDoor.PureCloses
