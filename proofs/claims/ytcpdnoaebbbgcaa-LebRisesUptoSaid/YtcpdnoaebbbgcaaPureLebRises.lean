/- LebRises: a greater number has no fewer bytes, the sizes of 1<<63 and of 127, 128 are 10 and 3, and of numbers with one sign the farther one from 0 has the greater Zig; for every argument that is together of bulk at most 1048576 (the given second form). -/
import Derived.Test.YtcpdnoaebbbgcaaStmtLebRises
import Derived.Test.YtcpdnoaebbbgcaaLeb
namespace Go.Proofs.Ytcpdnoaebbbgcaa.Pure
open Go.RowKit Go.Proofs.Ytcpdnoaebbbgcaa.G Go.Proofs.Ytcpdnoaebbbgcaa.Leb Go.Proofs.Ytcpdnoaebbbgcaa.LebMath Go.Proofs.YtcpdnoaebbbgcaaW.PrintWords Go.Proofs.YtcpdnoaebbbgcaaW.PrintLast
set_option linter.unusedVariables false
set_option linter.unusedSimpArgs false

theorem bits_xor_zero (x : Int) : Go.bits .xor .u64 x 0 = x % 18446744073709551616 := by
  have h : BitVec.ofInt 64 0 = 0#64 := by decide
  show IntKind.u64.wrap (BitVec.ofInt 64 x ^^^ BitVec.ofInt 64 0).toNat = _
  rw [h, BitVec.xor_zero, u64_wrap, BitVec.toNat_ofInt]
  omega
theorem bits_xor_ones (x : Int) : Go.bits .xor .u64 x 18446744073709551615 = 18446744073709551615 - x % 18446744073709551616 := by
  have h : BitVec.ofInt 64 18446744073709551615 = BitVec.allOnes 64 := by decide
  show IntKind.u64.wrap (BitVec.ofInt 64 x ^^^ BitVec.ofInt 64 18446744073709551615).toNat = _
  rw [h, BitVec.xor_allOnes, BitVec.toNat_not, u64_wrap, BitVec.toNat_ofInt]
  omega
theorem zig_is (v : Int) (h0 : -9223372036854775808 ≤ v) (h1 : v ≤ 9223372036854775807) :
    leb_Zig.f v = some (if 0 ≤ v then 2 * v else -2 * v - 1) := by
  unfold leb_Zig.f
  simp only [u64_wrap]
  by_cases h : 0 ≤ v
  · rw [if_pos h]
    have : v / 9223372036854775808 % 18446744073709551616 = 0 := by omega
    rw [this, bits_xor_zero]
    congr 1; omega
  · rw [if_neg h]
    have : v / 9223372036854775808 % 18446744073709551616 = 18446744073709551615 := by omega
    rw [this, bits_xor_ones]
    congr 1; omega
theorem zigs (a b : Int) (ha : -9223372036854775808 ≤ a ∧ a ≤ 9223372036854775807) (hb : -9223372036854775808 ≤ b ∧ b ≤ 9223372036854775807) :
    Ev (fun k => hawserlaw01_LebRises.j1 k a b false) true := by
  refine ⟨1, fun k hk => ?_⟩
  obtain ⟨k, rfl⟩ : ∃ m, k = m + 1 := ⟨k - 1, by omega⟩
  simp only [hawserlaw01_LebRises.j1]
  rw [if_neg (by decide), zig_is a ha.1 ha.2, zig_is b hb.1 hb.2]
  simp only [Option.bind_some]
  by_cases h0 : a ≥ 0
  · rw [if_pos h0]
    by_cases h1 : b > a
    · rw [if_pos h1, if_neg]
      rw [if_pos (by omega), if_pos (by omega)]; omega
    · rw [if_neg h1]
  · rw [if_neg h0]
    by_cases h1 : b < a
    · rw [if_pos h1, if_neg]
      rw [if_neg (by omega), if_neg (by omega)]; omega
    · rw [if_neg h1]
theorem main (v w a b : Int) (hv : 0 ≤ v) (hvw : v ≤ w) (hw : w ≤ 18446744073709551615) (ha : -9223372036854775808 ≤ a ∧ a ≤ 9223372036854775807) (hb : -9223372036854775808 ≤ b ∧ b ≤ 9223372036854775807) :
    Ev (fun k => hawserlaw01_LebRises.j0 k a b v w) true := by
  have s1 := size_one v hv (by omega)
  have s2 := size_one w (by omega) hw
  have s3 := size_one 9223372036854775808 (by omega) (by omega)
  have s4 := size_ev [127, 128] (by intro x hx; simp at hx; omega) (by simp)
  have e3 : lsz (9223372036854775808 : Int).toNat = 10 := by decide +kernel
  have e4 : (([127, 128] : List Int).map (fun x => lsz x.toNat)).sum = 3 := by decide +kernel
  rw [e3] at s3
  rw [e4] at s4
  have hm := lsz_mono w.toNat v.toNat (by omega)
  have hp := lsz_pos v.toNat
  refine Ev.step (fun k => ?_) (Ev.bind s1 (f := fun k t => (leb_Size.f k [w]).bind fun t2 => (if t > t2 then hawserlaw01_LebRises.j1 k a b true else ((leb_Size.f k [v]).bind fun t3 => if t3 < 1 then hawserlaw01_LebRises.j1 k a b true else ((leb_Size.f k [9223372036854775808]).bind fun t4 => if t4 = 10 then ((leb_Size.f k [127, 128]).bind fun t5 => hawserlaw01_LebRises.j1 k a b (t5 != 3)) else hawserlaw01_LebRises.j1 k a b true))))
    (Ev.bind s2 (f := fun k t2 => (if (lsz v.toNat : Int) > t2 then hawserlaw01_LebRises.j1 k a b true else ((leb_Size.f k [v]).bind fun t3 => if t3 < 1 then hawserlaw01_LebRises.j1 k a b true else ((leb_Size.f k [9223372036854775808]).bind fun t4 => if t4 = 10 then ((leb_Size.f k [127, 128]).bind fun t5 => hawserlaw01_LebRises.j1 k a b (t5 != 3)) else hawserlaw01_LebRises.j1 k a b true)))) ?_))
  · simp only [hawserlaw01_LebRises.j0]
  · refine Ev.congr (fun k => if_neg (by omega)) (Ev.bind s1 (f := fun k t3 => if t3 < 1 then hawserlaw01_LebRises.j1 k a b true else ((leb_Size.f k [9223372036854775808]).bind fun t4 => if t4 = 10 then ((leb_Size.f k [127, 128]).bind fun t5 => hawserlaw01_LebRises.j1 k a b (t5 != 3)) else hawserlaw01_LebRises.j1 k a b true)) ?_)
    refine Ev.congr (fun k => if_neg (by omega)) (Ev.bind s3 (f := fun k t4 => if t4 = 10 then ((leb_Size.f k [127, 128]).bind fun t5 => hawserlaw01_LebRises.j1 k a b (t5 != 3)) else hawserlaw01_LebRises.j1 k a b true) ?_)
    refine Ev.congr (fun k => if_pos (by rfl)) (Ev.bind s4 (f := fun k t5 => hawserlaw01_LebRises.j1 k a b (t5 != 3)) ?_)
    exact zigs a b ha hb

theorem LebRises : hawserlaw01_LebRises.Pure := by
  rintro ⟨v, w, l, m⟩ a b ⟨hv, hw, _, _⟩ ha hb _
  have hv : 0 ≤ v ∧ v ≤ 18446744073709551615 := u64_wf hv
  have hw : 0 ≤ w ∧ w ≤ 18446744073709551615 := u64_wf hw
  have ha := i64_wf ha
  have hb := i64_wf hb
  have : Ev (fun k => hawserlaw01_LebRises.f k v w l m a b) true := by
    by_cases h : v > w
    · exact Ev.congr (fun k => by unfold hawserlaw01_LebRises.f; rw [if_pos h]) (main w v a b (by omega) (by omega) (by omega) ha hb)
    · exact Ev.congr (fun k => by unfold hawserlaw01_LebRises.f; rw [if_neg h]) (main v w a b (by omega) (by omega) (by omega) ha hb)
  exact Ev.rounds this
end Go.Proofs.Ytcpdnoaebbbgcaa.Pure
