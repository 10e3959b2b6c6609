/- Encode, Frame and the sum in plain lists: the program's bytes are the document's. -/
import Derived.Test.YtkeakdgibajkeaaDoorPureEvent
import Derived.Test.YtkeakdgibajkeaaDoorPureBits
import Derived.Test.YtkeakdgibajkeaaDoorPAxFrecordEncode
import Derived.Test.YtkeakdgibajkeaaDoorPAxFtestimonyrefEncode
import Derived.Test.YtkeakdgibajkeaaDoorPAxFrecordFrame
import Derived.Test.YtkeakdgibajkeaaDoorPAxFtestimonyrefFrame
namespace Go.Proofs.YtkeakdgibajkeaaDoor.PureEncodes
open Go.RowKit Go.Proofs.YtkeakdgibajkeaaDoorW.PrintWords Go.Proofs.YtkeakdgibajkeaaDoorW.PrintLast Go.Proofs.YtkeakdgibajkeaaDoorW.PrintMore Go.Proofs.YtkeakdgibajkeaaDoor.PA
open PureEvent PureBits

/-- A number's bytes, seven bits a byte, the lowest first. -/
def groups : Nat → Int → List Int
  | 0, z => [z % 256]
  | n + 1, z => if z ≥ 128 then (z % 128 + 128) :: groups n (z / 128) else [z % 256]
def zig (n : Int) : Int := if n < 0 then -2 * n - 1 else 2 * n
def bytes3 (n : Int) : List Int := groups 3 (zig n)

theorem groups_len : ∀ (n : Nat) (z : Int), (groups n z).length ≤ n + 1
  | 0, z => by simp [groups]
  | n + 1, z => by
    unfold groups
    split
    · have := groups_len n (z / 128); simp; omega
    · simp

theorem zig_lt {n : Int} (h : Ok6 n) : 0 ≤ zig n ∧ zig n ≤ 2000000 := by
  unfold Ok6 at h; unfold zig; split <;> omega

/-- the program's inner loop -/
theorem prog_l1 {x33 : List Int} {x34 : Int} {i : Nat} (hi : i < 1000) {r : List Int × Option Int} : ∀ (n : Nat) (z : Int) (out : List Int), 0 ≤ z → z < 128 ^ (n + 1) → out.length + n ≤ 1000000 →
    Ev (fun k => record_Encode.l0 k (out ++ groups n z) x33 x34 ((i + 1 : Nat) : Int)) r →
    Ev (fun k => record_Encode.l1 k out z x33 x34 (i : Int)) r
  | 0, z, out, h0, h1, ho, h => by
    have hw := wrap_nat i (by omega)
    refine Ev.step (fun k => ?_) h
    simp only [record_Encode.l1, groups]
    rw [if_neg (by omega), if_pos (by omega), hw]
  | n + 1, z, out, h0, h1, ho, h => by
    have hw := wrap_nat i (by omega)
    by_cases hz : z ≥ 128
    · have e : groups (n + 1) z = (z % 128 + 128) :: groups n (z / 128) := by simp only [groups]; rw [if_pos hz]
      rw [e] at h
      refine Ev.step (fun k => ?_) (prog_l1 hi n (z / 128) (out ++ [z % 128 + 128]) (by omega) (by rw [Int.pow_succ] at h1; omega) (by simp; omega) (by rw [List.append_assoc]; exact h))
      simp only [record_Encode.l1]
      rw [if_pos hz, if_pos (by omega), or128 _ (by omega) (by omega)]
      rw [show z % 256 % 128 = z % 128 by omega]
    · have e : groups (n + 1) z = [z % 256] := by simp only [groups]; rw [if_neg hz]
      rw [e] at h
      refine Ev.step (fun k => ?_) h
      simp only [record_Encode.l1]
      rw [if_neg hz, if_pos (by omega), hw]

/-- the document's inner loop -/
theorem ref_l1 {x26 : List Int} {x27 : Int} {i : Nat} (hi : i < 1000) {r : List Int} : ∀ (n : Nat) (z : Int) (out : List Int), 0 ≤ z → z < 128 ^ (n + 1) → z < 4611686018427387904 → out.length + n ≤ 1000000 →
    Ev (fun k => testimonyref_Encode.l0 k (out ++ groups n z) x26 x27 ((i + 1 : Nat) : Int)) r →
    Ev (fun k => testimonyref_Encode.l1 k out z x26 x27 (i : Int)) r
  | 0, z, out, h0, h1, hb, ho, h => by
    have hw := wrap_nat i (by omega)
    refine Ev.step (fun k => ?_) h
    simp only [testimonyref_Encode.l1, groups]
    rw [if_neg (by omega), if_pos (by omega), hw]
  | n + 1, z, out, h0, h1, hb, ho, h => by
    have hw := wrap_nat i (by omega)
    by_cases hz : z ≥ 128
    · have e : groups (n + 1) z = (z % 128 + 128) :: groups n (z / 128) := by simp only [groups]; rw [if_pos hz]
      rw [e] at h
      refine Ev.step (fun k => ?_) (ref_l1 hi n (z / 128) (out ++ [z % 128 + 128]) (by omega) (by rw [Int.pow_succ] at h1; omega) (by omega) (by simp; omega) (by rw [List.append_assoc]; exact h))
      simp only [testimonyref_Encode.l1]
      rw [if_pos hz, if_pos (by omega), Int.tmod_eq_emod_of_nonneg h0, Int.tdiv_eq_ediv_of_nonneg h0]
      rw [show wrap64 (z % 128 + 128) % 256 = z % 128 + 128 by unfold wrap64; omega, show wrap64 (z / 128) = z / 128 by unfold wrap64; omega]
    · have e : groups (n + 1) z = [z % 256] := by simp only [groups]; rw [if_neg hz]
      rw [e] at h
      refine Ev.step (fun k => ?_) h
      simp only [testimonyref_Encode.l1]
      rw [if_neg hz, if_pos (by omega), hw]

theorem prog_zig {n : Int} (h : Ok6 n) : Go.bits .xor .u64 (IntKind.u64.wrap ((IntKind.u64.wrap n) * 2)) (IntKind.u64.wrap (n / 9223372036854775808)) = zig n := by
  unfold Ok6 at h
  unfold zig
  rw [u64_wrap, u64_wrap, u64_wrap]
  by_cases hn : n < 0
  · rw [if_pos hn, show n / 9223372036854775808 % 18446744073709551616 = 18446744073709551615 by omega, xor1 _ (by omega) (by omega)]
    omega
  · rw [if_neg hn, show n / 9223372036854775808 % 18446744073709551616 = 0 by omega, xor0 _ (by omega) (by omega)]
    omega

theorem both_l0 (l : List Int) (hm : l.length ≤ 1000) (hok : ∀ x ∈ l, Ok6 x) : ∀ (j i : Nat) (out : List Int), l.length - i = j → i ≤ l.length → out.length + 4 * j ≤ 100000 →
    ∃ b : List Int, b.length ≤ out.length + 4 * j ∧ Ev (fun k => record_Encode.l0 k out l (l.length : Int) (i : Int)) (b, (none : Option Int)) ∧ Ev (fun k => testimonyref_Encode.l0 k out l (l.length : Int) (i : Int)) b
  | 0, i, out, hj, hi, ho => by
    refine ⟨out, by omega, Ev.step (fun k => ?_) (Ev.now _), Ev.step (fun k => ?_) (Ev.now _)⟩
    · simp only [record_Encode.l0]; rw [if_neg (by omega)]
    · simp only [testimonyref_Encode.l0]; rw [if_neg (by omega)]
  | j + 1, i, out, hj, hi, ho => by
    have hlt : i < l.length := by omega
    have hrd : Ok6 (rd l (i : Int)) := by
      have : rd l (i : Int) = l[i] := by simp [rd, List.getD_eq_getElem?_getD, List.getElem?_eq_getElem hlt]
      rw [this]; exact hok _ (List.getElem_mem hlt)
    obtain ⟨z0, z1⟩ := zig_lt hrd
    have hlen := groups_len 3 (zig (rd l (i : Int)))
    obtain ⟨b, hb, e1, e2⟩ := both_l0 l hm hok j (i + 1) (out ++ bytes3 (rd l (i : Int))) (by omega) (by omega) (by simp [bytes3]; omega)
    refine ⟨b, by simp [bytes3] at hb; omega, Ev.step (fun k => ?_) (prog_l1 (by omega) 3 (zig (rd l (i : Int))) out z0 (by omega) (by omega) e1), ?_⟩
    · simp only [record_Encode.l0]; rw [if_pos (by omega), if_pos (by omega), if_pos (by omega), prog_zig hrd]
    · have h1 := ref_l1 (x26 := l) (x27 := (l.length : Int)) (i := i) (by omega) 3 (zig (rd l (i : Int))) out z0 (by omega) (by omega) (by omega) e2
      have h2 : Ev (fun k => testimonyref_Encode.j1 k out (zig (rd l (i : Int))) l (l.length : Int) (i : Int)) b := Ev.step (fun k => by simp only [testimonyref_Encode.j1]) h1
      unfold Ok6 at hrd
      refine Ev.step (fun k => ?_) h2
      simp only [testimonyref_Encode.l0]
      rw [if_pos (by omega), if_pos (by omega), if_pos (by omega)]
      by_cases hn : rd l (i : Int) < 0
      · rw [if_pos hn, show wrap64 (wrap64 (-2 * rd l (i : Int)) - 1) = zig (rd l (i : Int)) by unfold zig wrap64; rw [if_pos hn]; omega]
      · rw [if_neg hn, show wrap64 (2 * rd l (i : Int)) = zig (rd l (i : Int)) by unfold zig wrap64; rw [if_neg hn]; omega]

theorem encodes (p t y k a b r : Int) (ha : Ok6 a) (hb : Ok6 b) (hr : Ok6 r) (h0 : code p t y k a b r = 0) :
    ∃ l : List Int, l.length ≤ 1000 ∧ Ev (fun n => record_Encode.f n p t y k a b r) (l, (none : Option Int)) ∧ Ev (fun n => testimonyref_Encode.f n p t y k a b r) l := by
  obtain ⟨l, hl, e1, e2⟩ := both_l0 [a, b, r] (by simp) (by simp [ha, hb, hr]) _ 0 [p % 256, t % 256, y % 256, k % 256] rfl (by simp) (by simp)
  refine ⟨l, by simp at hl; omega, ?_, ?_⟩
  · have hc := prog_check p t y k a b r
    rw [if_pos h0] at hc
    refine Ev.bind hc (Ev.congr (fun n => ?_) e1)
    rw [if_pos (show (none : Option Int).isNone = true from rfl)]
    rfl
  · exact Ev.congr (fun n => rfl) e2

/-! ### the sum and the frame -/
theorem sums : ∀ (k : Nat), (∀ x3 x7 x8 x9, record_sum.l0 k x3 x7 x8 x9 = testimonyref_Crc.l0 k x3 x7 x8 x9) ∧ (∀ x3 x7 x8 x9 x17, record_sum.l1 k x3 x7 x8 x9 x17 = testimonyref_Crc.l1 k x3 x7 x8 x9 x17)
  | 0 => ⟨fun _ _ _ _ => rfl, fun _ _ _ _ _ => rfl⟩
  | k + 1 => by
    obtain ⟨h1, h2⟩ := sums k
    exact ⟨fun x3 x7 x8 x9 => by simp only [record_sum.l0, testimonyref_Crc.l0, h2], fun x3 x7 x8 x9 x17 => by simp only [record_sum.l1, testimonyref_Crc.l1, h1, h2]⟩

theorem frames (k : Nat) (l : List Int) : record_Frame.f k l = testimonyref_Frame.f k l := by
  simp only [record_Frame.f, testimonyref_Frame.f, record_sum.f, testimonyref_Crc.f, (sums k).1]

theorem crc_ends (l : List Int) (hm : l.length ≤ 1000) : ∃ c, Ev (fun k => testimonyref_Crc.f k l) c := by
  have inner : ∀ (i : Nat), i < l.length → (∀ x, ∃ c, Ev (fun k => testimonyref_Crc.l0 k x l (l.length : Int) ((i + 1 : Nat) : Int)) c) → ∀ (j b : Nat) (x : Int), 8 - b = j → b ≤ 8 → ∃ c, Ev (fun k => testimonyref_Crc.l1 k x l (l.length : Int) (i : Int) (b : Int)) c := by
    intro i hi h j
    induction j with
    | zero =>
      intro b x hj hb
      have hw := wrap_nat i (by omega)
      obtain ⟨c, hc⟩ := h x
      exact ⟨c, Ev.step (fun k => by simp only [testimonyref_Crc.l1]; rw [if_neg (by omega), hw]) hc⟩
    | succ j ih =>
      intro b x hj hb
      have hw := wrap_nat b (by omega)
      by_cases ho : Go.bits .and .u32 x 1 = 1
      · obtain ⟨c, hc⟩ := ih (b + 1) (Go.bits .xor .u32 (x / 2) 3988292384) (by omega) (by omega)
        exact ⟨c, Ev.step (fun k => by simp only [testimonyref_Crc.l1]; rw [if_pos (by omega), if_pos ho, hw]) hc⟩
      · obtain ⟨c, hc⟩ := ih (b + 1) (x / 2) (by omega) (by omega)
        exact ⟨c, Ev.step (fun k => by simp only [testimonyref_Crc.l1]; rw [if_pos (by omega), if_neg ho, hw]) hc⟩
  have outer : ∀ (j i : Nat) (x : Int), l.length - i = j → i ≤ l.length → ∃ c, Ev (fun k => testimonyref_Crc.l0 k x l (l.length : Int) (i : Int)) c := by
    intro j
    induction j with
    | zero =>
      intro i x hj hi
      exact ⟨_, Ev.step (fun k => by simp only [testimonyref_Crc.l0]; rw [if_neg (by omega)]) (Ev.now _)⟩
    | succ j ih =>
      intro i x hj hi
      obtain ⟨c, hc⟩ := inner i (by omega) (fun x => ih (i + 1) x (by omega) (by omega)) _ 0 (Go.bits .xor .u32 x ((rd l (i : Int)) % 4294967296)) rfl (by omega)
      exact ⟨c, Ev.step (fun k => by simp only [testimonyref_Crc.l0]; rw [if_pos (by omega), if_pos (by omega), if_pos (by omega)]; rfl) hc⟩
  obtain ⟨c, hc⟩ := outer _ 0 4294967295 rfl (by omega)
  exact ⟨c, Ev.congr (fun k => rfl) hc⟩

theorem frame_ends (l : List Int) (hm : l.length ≤ 1000) : ∃ f : List Int, Ev (fun k => testimonyref_Frame.f k l) f ∧ Ev (fun k => record_Frame.f k l) f := by
  obtain ⟨c, hc⟩ := crc_ends l hm
  have h : Ev (fun k => testimonyref_Frame.f k l) ([((l.length : Int) / 256) % 256, ((l.length : Int)) % 256, (c / 16777216) % 256, (c / 65536) % 256, (c / 256) % 256, c % 256] ++ l) := by
    refine Ev.bind hc (Ev.congr (fun k => ?_) (Ev.now _))
    simp only [Option.bind_some]
    rw [if_pos (by simp; omega)]
  exact ⟨_, h, Ev.congr (fun k => frames k l) h⟩
end Go.Proofs.YtkeakdgibajkeaaDoor.PureEncodes
