/- GraphOrders' walk: out of the contracts of what it calls and the plain law. -/
import Derived.Test.YtbcbjbmjoncinaaDoorPureOrder
import Derived.Test.YtbcbjbmjoncinaaDoorBare
import Derived.Outline
set_option maxRecDepth 100000
namespace Go.Proofs.YtbcbjbmjoncinaaDoor
open Go.RowKit Go.Proofs.YtbcbjbmjoncinaaDoorW.PrintWords Go.Proofs.YtbcbjbmjoncinaaDoorW.PrintLast Go.Proofs.YtbcbjbmjoncinaaDoorW.PrintMore Go.Proofs.YtbcbjbmjoncinaaDoor.PA

theorem C_none {α : Type} (d : Kd α) (w : World) : Kd.C d w none 0 [] := by
  obtain ⟨A, c, he, _, h⟩ := Kd.R_reads (Kd.R_nil d 0 w 0 (fun _ => True))
  simp at he
  obtain ⟨rfl, rfl⟩ := he
  exact h

theorem orders_bad (A : Option Addr) (n : Nat) (l : List (List Bool)) (c : Int) (w : World) (hg : HasErr w) (hr : Kd.C (Kd.slice 4 Kd.bool) w A l.length l) (hn : l.length ≤ n)
    (hm : l.length ≤ 9223372036854775807) (hc0 : c ≠ 0) (h1 : Ev (fun k => testimonyref_GraphCheck.f k l) c) (h2 : Ev (fun k => graph_Check.f k l) (some c)) :
    Calls Tryd.prog 3 #[.slice A l.length n] w fun e w' => e = .returned (.bool true) ∧ Below w.heap.size w w' := by
  obtain ⟨b, hb⟩ := PureOrder.flat l hm 2000
  obtain ⟨kf, hf⟩ := hb.rounds
  obtain ⟨k1, hk1⟩ := h1.rounds
  obtain ⟨k2, hk2⟩ := h2.rounds
  have hk3 : graph_Order.f k2 l = some (([] : List Int), some c) := by
    simp only [graph_Order.f]; rw [hk2]; rfl
  obtain ⟨k4, hk4⟩ := (PureOrder.same [] (by decide)).rounds
  have hc : (c == 0) = false := by simpa using hc0
  have Hr := Lib.hid hr
  have Hf := Lib.hid hf
  have H1 := Lib.hid hk1
  have H2 := Lib.hid hk2
  have H3 := Lib.hid hk3
  have H4 := Lib.hid hk4
  clear hb h1 h2 hr hf hk1 hk2 hk3 hk4 hc0
  cases b with
  | false =>
    go_enter Tryd.func3, Tryd.ntmps3
    go_wp2_with (go_at_call 6; refine (testimonylaw_flat.calls kf A n l 2000 false _ Hr.out hn Hf.out).mono ?_; rintro e w' ⟨rfl, hd⟩)
    go_ret
    exact ⟨rfl, Drawn0.below (by assumption)⟩
  | true =>
    go_enter Tryd.func3, Tryd.ntmps3
    go_wp2_with fail
    refine (testimonylaw_flat.calls kf A n l 2000 true _ Hr.out hn Hf.out).mono ?_
    rintro e w1 ⟨rfl, hd1⟩
    have b1 := Lib.hid hd1.below
    clear hd1
    go_wp2_with fail
    refine (testimonyref_GraphCheck.calls k1 A n l c _ (Kd.C_below Hr.out b1.out) hn H1.out).mono ?_
    rintro e w2 ⟨rfl, hd2⟩
    have b2 := Lib.hid (b1.out.trans (hd2.below.mono b1.out.size))
    clear hd2
    go_wp2_with fail
    refine (graph_Order.calls k2 A n l [] (some c) _ (Kd.C_below Hr.out b2.out) hn H3.out).mono ?_
    rintro e w3 ⟨v0, rfl, hv3, hb3⟩
    have b3 := Lib.hid (b2.out.trans (hb3.mono b2.out.size))
    have R3 := Lib.hid hv3
    have g3 := hg.below b3.out hg.lt
    clear hb3 hv3
    obtain ⟨A3, n3, rfl, hn3, hC3⟩ := Kd.R_reads R3.out
    have C3 := Lib.hid hC3
    clear R3 hC3
    go_wp2_with fail
    refine (bare_yes _ c _ g3 (.inr (.inl ⟨rfl, rfl⟩))).mono ?_
    rintro e w4 ⟨rfl, hb4⟩
    have C4 := Lib.hid (Kd.C_below C3.out hb4)
    have b4 := Lib.hid (b3.out.trans (hb4.mono b3.out.size))
    have g4 := hg.below b4.out hg.lt
    clear hb4
    go_wp2_with fail
    refine (testimonylaw_sameInts.calls k4 A3 n3 [] none 0 [] true _ C4.out hn3 (C_none _ _) (Nat.le_refl _) H4.out).mono ?_
    rintro e w5 ⟨rfl, hd5⟩
    have b5 := Lib.hid (b4.out.trans (hd5.below.mono b4.out.size))
    clear hd5
    go_wp2_with fail
    refine (graph_Check.calls k2 A n l (some c) _ (Kd.C_below Hr.out b5.out) hn H2.out).mono ?_
    rintro e w6 ⟨rfl, hd6⟩
    have b6 := Lib.hid (b5.out.trans (hd6.below.mono b5.out.size))
    clear hd6
    go_wp2_with fail
    refine (testimonyref_GraphCheck.calls k1 A n l c _ (Kd.C_below Hr.out b6.out) hn H1.out).mono ?_
    rintro e w7 ⟨rfl, hd7⟩
    have b7 := Lib.hid (b6.out.trans (hd7.below.mono b6.out.size))
    have g7 := hg.below b7.out hg.lt
    clear hd7
    go_wp2_with fail
    refine (bare_yes _ c _ g7 (.inr (.inl ⟨rfl, rfl⟩))).mono ?_
    rintro e w8 ⟨rfl, hb8⟩
    have b8 := Lib.hid (b7.out.trans (hb8.mono b7.out.size))
    clear hb8
    go_wp2_with fail
    go_ret
    exact ⟨rfl, b8.out⟩

theorem ev_order {l : List (List Bool)} {r : List Int × Option Int} (h40 : l.length ≤ 40) (h1 : Ev (fun k => graph_Check.f k l) none)
    (h2 : Ev (fun k => graph_Order.l0 k l (List.replicate ((l.length : Int) : Int).toNat false) ([] : List Int) (l.length : Int) 0) r) : Ev (fun k => graph_Order.f k l) r := by
  refine Ev.bind (f := fun k t115 => (if t115.isNone = true then (if 0 ≤ (l.length : Int) then (if ((l.length : Int) : Int).toNat ≤ 281474976710656 then (graph_Order.l0 k l (List.replicate ((l.length : Int) : Int).toNat false) ([] : List Int) (l.length : Int) 0) else (none)) else (none)) else (some (([] : List Int), some (t115.getD 0))))) h1 (Ev.congr (fun k => ?_) h2)
  rw [if_pos (show (none : Option Int).isNone = true from rfl), if_pos (by omega), if_pos (by omega)]

theorem orders_some (A : Option Addr) (n : Nat) (l : List (List Bool)) (ns : List Int) (w : World) (hg : HasErr w) (hr : Kd.C (Kd.slice 4 Kd.bool) w A l.length l) (hn : l.length ≤ n)
    (hm : l.length ≤ 9223372036854775807) (hl : ns.length < 4611686018427387904) (h1 : Ev (fun k => testimonyref_GraphCheck.f k l) 0) (h2 : Ev (fun k => graph_Check.f k l) none)
    (h3 : Ev (fun k => testimonyref_GraphOrder.f k l) (ns, true)) (h4 : Ev (fun k => graph_Order.f k l) (ns, none)) :
    Calls Tryd.prog 3 #[.slice A l.length n] w fun e w' => e = .returned (.bool true) ∧ Below w.heap.size w w' := by
  obtain ⟨b, hb⟩ := PureOrder.flat l hm 2000
  obtain ⟨kf, hf⟩ := hb.rounds
  obtain ⟨k1, hk1⟩ := h1.rounds
  obtain ⟨k2, hk2⟩ := h2.rounds
  obtain ⟨k3, hk3⟩ := h3.rounds
  obtain ⟨k4, hk4⟩ := h4.rounds
  obtain ⟨k5, hk5⟩ := (PureOrder.same ns hl).rounds
  have Hr := Lib.hid hr
  have Hf := Lib.hid hf
  have H1 := Lib.hid hk1
  have H2 := Lib.hid hk2
  have H3 := Lib.hid hk3
  have H4 := Lib.hid hk4
  have H5 := Lib.hid hk5
  clear hb h1 h2 h3 h4 hr hf hk1 hk2 hk3 hk4 hk5
  cases b with
  | false =>
    go_enter Tryd.func3, Tryd.ntmps3
    go_wp2_with (go_at_call 6; refine (testimonylaw_flat.calls kf A n l 2000 false _ Hr.out hn Hf.out).mono ?_; rintro e w' ⟨rfl, hd⟩)
    go_ret
    exact ⟨rfl, Drawn0.below (by assumption)⟩
  | true =>
    go_enter Tryd.func3, Tryd.ntmps3
    go_wp2_with fail
    refine (testimonylaw_flat.calls kf A n l 2000 true _ Hr.out hn Hf.out).mono ?_
    rintro e w1 ⟨rfl, hd1⟩
    have b1 := Lib.hid hd1.below
    clear hd1
    go_wp2_with fail
    refine (testimonyref_GraphCheck.calls k1 A n l 0 _ (Kd.C_below Hr.out b1.out) hn H1.out).mono ?_
    rintro e w2 ⟨rfl, hd2⟩
    have b2 := Lib.hid (b1.out.trans (hd2.below.mono b1.out.size))
    clear hd2
    go_wp2_with fail
    refine (testimonyref_GraphOrder.calls k3 A n l ns true _ (Kd.C_below Hr.out b2.out) hn H3.out).mono ?_
    rintro e w2' ⟨u0, rfl, hu3, hb2'⟩
    obtain ⟨B3, m3, rfl, hm3, hD3⟩ := Kd.R_reads hu3
    have D3 := Lib.hid hD3
    have b2' := Lib.hid (b2.out.trans (hb2'.mono b2.out.size))
    clear hb2' hu3 hD3
    go_wp2_with fail
    refine (graph_Order.calls k4 A n l ns none _ (Kd.C_below Hr.out b2'.out) hn H4.out).mono ?_
    rintro e w3 ⟨v0, rfl, hv3, hb3⟩
    obtain ⟨A3, n3, rfl, hn3, hC3⟩ := Kd.R_reads hv3
    have D3' := Lib.hid (Kd.C_below D3.out hb3)
    have b3 := Lib.hid (b2'.out.trans (hb3.mono b2'.out.size))
    have g3 := hg.below b3.out hg.lt
    have C3 := Lib.hid hC3
    clear hb3 hv3 hC3
    go_wp2_with fail
    refine (bare_yes _ 0 _ g3 (.inl ⟨rfl, rfl, rfl⟩)).mono ?_
    rintro e w4 ⟨rfl, hb4⟩
    have C4 := Lib.hid (Kd.C_below C3.out hb4)
    have D4 := Lib.hid (Kd.C_below D3'.out hb4)
    have b4 := Lib.hid (b3.out.trans (hb4.mono b3.out.size))
    have g4 := hg.below b4.out hg.lt
    clear hb4
    go_wp2_with fail
    refine (testimonylaw_sameInts.calls k5 A3 n3 ns B3 m3 ns true _ C4.out hn3 D4.out hm3 H5.out).mono ?_
    rintro e w5 ⟨rfl, hd5⟩
    have b5 := Lib.hid (b4.out.trans (hd5.below.mono b4.out.size))
    clear hd5
    go_wp2_with fail
    refine (graph_Check.calls k2 A n l none _ (Kd.C_below Hr.out b5.out) hn H2.out).mono ?_
    rintro e w6 ⟨rfl, hd6⟩
    have b6 := Lib.hid (b5.out.trans (hd6.below.mono b5.out.size))
    clear hd6
    go_wp2_with fail
    refine (testimonyref_GraphCheck.calls k1 A n l 0 _ (Kd.C_below Hr.out b6.out) hn H1.out).mono ?_
    rintro e w7 ⟨rfl, hd7⟩
    have b7 := Lib.hid (b6.out.trans (hd7.below.mono b6.out.size))
    have g7 := hg.below b7.out hg.lt
    clear hd7
    go_wp2_with fail
    refine (bare_yes _ 0 _ g7 (.inl ⟨rfl, rfl, rfl⟩)).mono ?_
    rintro e w8 ⟨rfl, hb8⟩
    have b8 := Lib.hid (b7.out.trans (hb8.mono b7.out.size))
    clear hb8
    go_wp2_with fail
    go_ret
    exact ⟨rfl, b8.out⟩

theorem orders_none (A : Option Addr) (n : Nat) (l : List (List Bool)) (w : World) (hg : HasErr w) (hr : Kd.C (Kd.slice 4 Kd.bool) w A l.length l) (hn : l.length ≤ n)
    (hm : l.length ≤ 9223372036854775807) (h1 : Ev (fun k => testimonyref_GraphCheck.f k l) 0) (h2 : Ev (fun k => graph_Check.f k l) none)
    (h3 : Ev (fun k => testimonyref_GraphOrder.f k l) ([], false)) (h4 : Ev (fun k => graph_Order.f k l) ([], (some 11))) :
    Calls Tryd.prog 3 #[.slice A l.length n] w fun e w' => e = .returned (.bool true) ∧ Below w.heap.size w w' := by
  obtain ⟨b, hb⟩ := PureOrder.flat l hm 2000
  obtain ⟨kf, hf⟩ := hb.rounds
  obtain ⟨k1, hk1⟩ := h1.rounds
  obtain ⟨k2, hk2⟩ := h2.rounds
  obtain ⟨k3, hk3⟩ := h3.rounds
  obtain ⟨k4, hk4⟩ := h4.rounds
  obtain ⟨k5, hk5⟩ := (PureOrder.same [] (by decide)).rounds
  have Hr := Lib.hid hr
  have Hf := Lib.hid hf
  have H1 := Lib.hid hk1
  have H2 := Lib.hid hk2
  have H3 := Lib.hid hk3
  have H4 := Lib.hid hk4
  have H5 := Lib.hid hk5
  clear hb h1 h2 h3 h4 hr hf hk1 hk2 hk3 hk4 hk5
  cases b with
  | false =>
    go_enter Tryd.func3, Tryd.ntmps3
    go_wp2_with (go_at_call 6; refine (testimonylaw_flat.calls kf A n l 2000 false _ Hr.out hn Hf.out).mono ?_; rintro e w' ⟨rfl, hd⟩)
    go_ret
    exact ⟨rfl, Drawn0.below (by assumption)⟩
  | true =>
    go_enter Tryd.func3, Tryd.ntmps3
    go_wp2_with fail
    refine (testimonylaw_flat.calls kf A n l 2000 true _ Hr.out hn Hf.out).mono ?_
    rintro e w1 ⟨rfl, hd1⟩
    have b1 := Lib.hid hd1.below
    clear hd1
    go_wp2_with fail
    refine (testimonyref_GraphCheck.calls k1 A n l 0 _ (Kd.C_below Hr.out b1.out) hn H1.out).mono ?_
    rintro e w2 ⟨rfl, hd2⟩
    have b2 := Lib.hid (b1.out.trans (hd2.below.mono b1.out.size))
    clear hd2
    go_wp2_with fail
    refine (testimonyref_GraphOrder.calls k3 A n l [] false _ (Kd.C_below Hr.out b2.out) hn H3.out).mono ?_
    rintro e w2' ⟨u0, rfl, hu3, hb2'⟩
    obtain ⟨B3, m3, rfl, hm3, hD3⟩ := Kd.R_reads hu3
    have D3 := Lib.hid hD3
    have b2' := Lib.hid (b2.out.trans (hb2'.mono b2.out.size))
    clear hb2' hu3 hD3
    go_wp2_with fail
    refine (graph_Order.calls k4 A n l [] (some 11) _ (Kd.C_below Hr.out b2'.out) hn H4.out).mono ?_
    rintro e w3 ⟨v0, rfl, hv3, hb3⟩
    obtain ⟨A3, n3, rfl, hn3, hC3⟩ := Kd.R_reads hv3
    have D3' := Lib.hid (Kd.C_below D3.out hb3)
    have b3 := Lib.hid (b2'.out.trans (hb3.mono b2'.out.size))
    have g3 := hg.below b3.out hg.lt
    have C3 := Lib.hid hC3
    clear hb3 hv3 hC3
    go_wp2_with fail
    refine (bare_yes _ 11 _ g3 (.inr (.inl ⟨rfl, rfl⟩))).mono ?_
    rintro e w4 ⟨rfl, hb4⟩
    have C4 := Lib.hid (Kd.C_below C3.out hb4)
    have D4 := Lib.hid (Kd.C_below D3'.out hb4)
    have b4 := Lib.hid (b3.out.trans (hb4.mono b3.out.size))
    have g4 := hg.below b4.out hg.lt
    clear hb4
    go_wp2_with fail
    refine (testimonylaw_sameInts.calls k5 A3 n3 [] B3 m3 [] true _ C4.out hn3 D4.out hm3 H5.out).mono ?_
    rintro e w5 ⟨rfl, hd5⟩
    have b5 := Lib.hid (b4.out.trans (hd5.below.mono b4.out.size))
    clear hd5
    go_wp2_with fail
    refine (graph_Check.calls k2 A n l none _ (Kd.C_below Hr.out b5.out) hn H2.out).mono ?_
    rintro e w6 ⟨rfl, hd6⟩
    have b6 := Lib.hid (b5.out.trans (hd6.below.mono b5.out.size))
    clear hd6
    go_wp2_with fail
    refine (testimonyref_GraphCheck.calls k1 A n l 0 _ (Kd.C_below Hr.out b6.out) hn H1.out).mono ?_
    rintro e w7 ⟨rfl, hd7⟩
    have b7 := Lib.hid (b6.out.trans (hd7.below.mono b6.out.size))
    have g7 := hg.below b7.out hg.lt
    clear hd7
    go_wp2_with fail
    refine (bare_yes _ 0 _ g7 (.inl ⟨rfl, rfl, rfl⟩)).mono ?_
    rintro e w8 ⟨rfl, hb8⟩
    have b8 := Lib.hid (b7.out.trans (hb8.mono b7.out.size))
    clear hb8
    go_wp2_with fail
    go_ret
    exact ⟨rfl, b8.out⟩

theorem graphOrders_walk (A : Option Addr) (n : Nat) (l : List (List Bool)) (w : World) (hg : HasErr w) (hr : Kd.C (Kd.slice 4 Kd.bool) w A l.length l) (hn : l.length ≤ n) :
    Calls Tryd.prog 3 #[.slice A l.length n] w fun e w' => e = .returned (.bool true) ∧ Below w.heap.size w w' := by
  have hm : l.length ≤ 9223372036854775807 := hr.2.1
  rcases PureOrder.checks l with ⟨hG, h1, h2⟩ | ⟨c, hc, h1, h2⟩
  · obtain ⟨a, ha, h3, h4⟩ := PureOrder.both hG
    have h4' := ev_order hG.1 h2 h4
    cases a with
    | some ns => exact orders_some A n l ns w hg hr hn hm (by have := ha ns rfl; have := hG.1; omega) h1 h2 h3 h4'
    | none => exact orders_none A n l w hg hr hn hm h1 h2 h3 h4'
  · exact orders_bad A n l c w hg hr hn hm hc h1 h2
end Go.Proofs.YtbcbjbmjoncinaaDoor
