/- LebZigs: Zig is the document's zigzag, Zag is its inverse on both sides; for every pair of an int and an uint64, no condition. -/
import Derived.Test.YtcpdnoaebbbgcaaPLebZigsx1
namespace Go.Proofs.Ytcpdnoaebbbgcaa.Pure
open Go.RowKit Go.Proofs.Ytcpdnoaebbbgcaa.PLebZigs Go.Proofs.YtcpdnoaebbbgcaaW.PrintWords Go.Proofs.YtcpdnoaebbbgcaaW.PrintLast

theorem u64_wrap (n : Int) : IntKind.u64.wrap n = n % 18446744073709551616 := by simp [IntKind.wrap, IntKind.bits, IntKind.signed]

theorem bits_xor_zero (x : Int) : Go.bits .xor .u64 x 0 = x % 18446744073709551616 := by
  have h : BitVec.ofInt 64 0 = 0#64 := by decide
  show IntKind.u64.wrap (BitVec.ofInt 64 x ^^^ BitVec.ofInt 64 0).toNat = _
  rw [h, BitVec.xor_zero, u64_wrap, BitVec.toNat_ofInt]
  omega

theorem bits_xor_ones (x : Int) : Go.bits .xor .u64 x 18446744073709551615 = 18446744073709551615 - x % 18446744073709551616 := by
  have h : BitVec.ofInt 64 18446744073709551615 = BitVec.allOnes 64 := by decide
  show IntKind.u64.wrap (BitVec.ofInt 64 x ^^^ BitVec.ofInt 64 18446744073709551615).toNat = _
  rw [h, BitVec.xor_allOnes, BitVec.toNat_not, u64_wrap, BitVec.toNat_ofInt]
  omega

theorem bits_and_one (x : Int) (h0 : 0 ≤ x) (h : x < 18446744073709551616) : Go.bits .and .u64 x 1 = x % 2 := by
  have := bits_mask .u64 64 (by decide) (fun n h0 h1 => by rw [u64_wrap]; omega) 1 (by decide) x h0 (by omega)
  simpa using this

theorem i64_xor_zero (x : Int) (h0 : 0 ≤ x) (h : x < 9223372036854775808) : Go.bits .xor .i64 x 0 = x := by
  have h : BitVec.ofInt 64 0 = 0#64 := by decide
  show IntKind.i64.wrap (BitVec.ofInt 64 x ^^^ BitVec.ofInt 64 0).toNat = _
  rw [h, BitVec.xor_zero, IntKind.wrap_i64, BitVec.toNat_ofInt]
  omega

theorem i64_xor_ones (x : Int) (h0 : 0 ≤ x) (h : x < 9223372036854775808) : Go.bits .xor .i64 x (-1) = -1 - x := by
  have h : BitVec.ofInt 64 (-1) = BitVec.allOnes 64 := by decide
  show IntKind.i64.wrap (BitVec.ofInt 64 x ^^^ BitVec.ofInt 64 (-1)).toNat = _
  rw [h, BitVec.xor_allOnes, BitVec.toNat_not, IntKind.wrap_i64, BitVec.toNat_ofInt]
  omega

theorem zig_is (v : Int) (h0 : -9223372036854775808 ≤ v) (h1 : v ≤ 9223372036854775807) :
    leb_Zig.f v = some (if 0 ≤ v then 2 * v else -2 * v - 1) := by
  unfold leb_Zig.f
  simp only [u64_wrap]
  by_cases h : 0 ≤ v
  · rw [if_pos h]
    have : v / 9223372036854775808 % 18446744073709551616 = 0 := by omega
    rw [this, bits_xor_zero]
    congr 1; omega
  · rw [if_neg h]
    have : v / 9223372036854775808 % 18446744073709551616 = 18446744073709551615 := by omega
    rw [this, bits_xor_ones]
    congr 1; omega

theorem zag_is (u : Int) (h0 : 0 ≤ u) (h1 : u ≤ 18446744073709551615) :
    leb_Zag.f u = some (if u % 2 = 0 then u / 2 else -1 - u / 2) := by
  unfold leb_Zag.f
  rw [bits_and_one u h0 (by omega)]
  have e : wrap64 (u / 2) = u / 2 := by unfold wrap64; omega
  rw [e]
  by_cases h : u % 2 = 0
  · rw [if_pos h, h]
    have : wrap64 (-(wrap64 0)) = 0 := by decide +kernel
    rw [this, i64_xor_zero _ (by omega) (by omega)]
  · rw [if_neg h]
    have h' : u % 2 = 1 := by omega
    rw [h']
    have : wrap64 (-(wrap64 1)) = -1 := by decide +kernel
    rw [this, i64_xor_ones _ (by omega) (by omega)]

theorem ref_zig_is (v : Int) (h0 : -9223372036854775808 ≤ v) (h1 : v ≤ 9223372036854775807) :
    hawserref01_Zig.f v = some (if 0 ≤ v then 2 * v else -2 * v - 1) := by
  unfold hawserref01_Zig.f
  simp only [u64_wrap, wrap64]
  by_cases h : 0 ≤ v
  · rw [if_pos h, if_pos h]; congr 1; omega
  · rw [if_neg h, if_neg h]; congr 1; omega

theorem i64_wf {n : Int} (h : (Lit.int .i64 n).wf = true) : -9223372036854775808 ≤ n ∧ n ≤ 9223372036854775807 := by
  simp [Lit.wf, IntKind.min, IntKind.max, IntKind.signed, IntKind.bits] at h; omega
theorem u64_wf {n : Int} (h : (Lit.int .u64 n).wf = true) : 0 ≤ n ∧ n ≤ 18446744073709551615 := by
  simp [Lit.wf, IntKind.min, IntKind.max, IntKind.signed, IntKind.bits] at h; omega

theorem LebZigs : hawserlaw01_LebZigs.Pure := by
  intro v u hv hu
  obtain ⟨v0, v1⟩ := i64_wf hv
  obtain ⟨u0, u1⟩ := u64_wf hu
  unfold hawserlaw01_LebZigs.f
  rw [zig_is v v0 v1, ref_zig_is v v0 v1]
  simp only [Option.bind_some, if_true]
  have e1 : leb_Zag.f (if 0 ≤ v then 2 * v else -2 * v - 1) = some v := by
    rw [zag_is _ (by split <;> omega) (by split <;> omega)]
    congr 1
    by_cases h : 0 ≤ v
    · simp only [if_pos h]; omega
    · simp only [if_neg h]; rw [if_neg (by omega)]; omega
  rw [e1]
  simp only [Option.bind_some, if_true]
  rw [zag_is u u0 u1]
  simp only [Option.bind_some]
  have e2 : leb_Zig.f (if u % 2 = 0 then u / 2 else -1 - u / 2) = some u := by
    rw [zig_is _ (by split <;> omega) (by split <;> omega)]
    congr 1
    by_cases h : u % 2 = 0
    · simp only [if_pos h]; rw [if_pos (by omega)]; omega
    · simp only [if_neg h]; rw [if_neg (by omega)]; omega
  rw [e2]
  simp only [Option.bind_some, if_true]
  rw [zag_is 3 (by omega) (by omega)]
  simp

end Go.Proofs.Ytcpdnoaebbbgcaa.Pure
