/- The few operations on bits that Encode uses, as arithmetic. -/
import Derived.Test.YtkeakdgibajkeaaDoorPAx0
namespace Go.Proofs.YtkeakdgibajkeaaDoor.PureBits
open Go.RowKit

theorem u64_wrap (n : Int) : IntKind.u64.wrap n = n % 18446744073709551616 := by simp [IntKind.wrap, IntKind.bits, IntKind.signed]

theorem or128 (x : Int) (h0 : 0 ≤ x) (h1 : x < 256) : Go.bits .or .u8 x 128 = x % 128 + 128 := by
  obtain ⟨n, rfl⟩ := Int.eq_ofNat_of_zero_le h0
  have hn : n < 256 := by omega
  have key : ∀ m : Fin 256, Go.bits .or .u8 ((m.val : Nat) : Int) 128 = ((m.val : Nat) : Int) % 128 + 128 := by decide +kernel
  exact key ⟨n, hn⟩

theorem xor0 (x : Int) (h0 : 0 ≤ x) (h1 : x < 18446744073709551616) : Go.bits .xor .u64 x 0 = x := by
  obtain ⟨n, rfl⟩ := Int.eq_ofNat_of_zero_le h0
  have hn : n < 2 ^ 64 := by omega
  show IntKind.u64.wrap (((BitVec.ofInt 64 (n : Int)) ^^^ (BitVec.ofInt 64 0)).toNat : Int) = (n : Int)
  have e : ((BitVec.ofInt 64 (n : Int)) ^^^ (BitVec.ofInt 64 0)).toNat = n := by
    rw [BitVec.toNat_xor]
    simp [BitVec.ofInt_natCast, Nat.mod_eq_of_lt hn]
  rw [e, u64_wrap]
  omega

theorem xor1 (x : Int) (h0 : 0 ≤ x) (h1 : x < 18446744073709551616) : Go.bits .xor .u64 x 18446744073709551615 = 18446744073709551615 - x := by
  obtain ⟨n, rfl⟩ := Int.eq_ofNat_of_zero_le h0
  have hn : n < 2 ^ 64 := by omega
  show IntKind.u64.wrap (((BitVec.ofInt 64 (n : Int)) ^^^ (BitVec.ofInt 64 18446744073709551615)).toNat : Int) = 18446744073709551615 - (n : Int)
  have e : ((BitVec.ofInt 64 (n : Int)) ^^^ (BitVec.ofInt 64 18446744073709551615)) = ~~~ (BitVec.ofInt 64 (n : Int)) := by
    rw [show (BitVec.ofInt 64 18446744073709551615) = BitVec.allOnes 64 by decide, BitVec.xor_allOnes]
  rw [e, BitVec.toNat_not, u64_wrap]
  have e2 : (BitVec.ofInt 64 (n : Int)).toNat = n := by simp [BitVec.ofInt_natCast, Nat.mod_eq_of_lt hn]
  rw [e2]
  omega
end Go.Proofs.YtkeakdgibajkeaaDoor.PureBits
