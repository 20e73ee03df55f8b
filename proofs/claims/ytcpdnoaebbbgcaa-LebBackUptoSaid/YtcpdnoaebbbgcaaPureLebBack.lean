/- LebBack: what is written is read, whatever stands behind, and what is read is written; for every argument that is of bulk at most 1048576 (the given second form). -/
import Derived.Test.YtcpdnoaebbbgcaaStmtLebBack
import Derived.Test.YtcpdnoaebbbgcaaLeb
namespace Go.Proofs.Ytcpdnoaebbbgcaa.Pure
open Go.RowKit Go.Proofs.Ytcpdnoaebbbgcaa.G Go.Proofs.Ytcpdnoaebbbgcaa.Leb Go.Proofs.Ytcpdnoaebbbgcaa.LebMath Go.Proofs.YtcpdnoaebbbgcaaW.PrintWords Go.Proofs.YtcpdnoaebbbgcaaW.PrintLast
set_option linter.unusedVariables false
set_option linter.unusedSimpArgs false

theorem DEC_err {l : List Int} (h : (DEC l).2.2 ≠ 0) : (DEC l).1 = 0 ∧ (DEC l).2.1 = 0 := by
  unfold DEC at h ⊢
  split
  · simp
  · split
    · simp
    · split
      · simp
      · rename_i a b c; rw [if_neg a, if_neg b, if_neg c] at h; exact absurd rfl h
theorem enc_one (v : Int) (h0 : 0 ≤ v) (h1 : v ≤ 18446744073709551615) : Ev (fun k => leb_Encode.f k [v]) (lput v.toNat) := by
  have := enc_ev [v] (by intro x hx; simp at hx; omega) (by simp)
  simpa [lenc] using this
theorem LebBack : hawserlaw01_LebBack.Pure := by
  intro v l hv hw hl
  rw [sum_ones] at hl
  have hb := IsBytes.of_wf hw
  obtain ⟨v0, v1⟩ := u64_wf hv
  have hten := lsz_ten (v := v.toNat) (by omega)
  have hpos := lsz_pos v.toNat
  have hlen := lput_len v.toNat
  have d1 := enc_one v v0 v1
  have d2 := size_one v v0 v1
  have d3 := dec_ev (lput v.toNat ++ l) ((lput_bytes _).append hb) (by rw [List.length_append]; omega)
  rw [DEC_lput (by omega)] at d3
  have d4 := dec_ev l hb (by omega)
  have hv5 : 0 ≤ (DEC l).1 ∧ (DEC l).1 ≤ 18446744073709551615 := by
    by_cases h : (DEC l).2.2 = 0
    · have := DEC_back hb (show DEC l = ((DEC l).1, (DEC l).2.1, 0) by rw [← h])
      omega
    · have := DEC_err h
      omega
  have d5 := enc_one (DEC l).1 hv5.1 hv5.2
  obtain ⟨K1, h1⟩ := d1
  obtain ⟨K2, h2⟩ := d2
  obtain ⟨K3, h3⟩ := d3
  obtain ⟨K4, h4⟩ := d4
  obtain ⟨K5, h5⟩ := d5
  refine ⟨K1 + K2 + K3 + K4 + K5 + 2, ?_⟩
  unfold hawserlaw01_LebBack.f
  rw [show leb_Encode.f (K1 + K2 + K3 + K4 + K5 + 2) [v] = _ from h1 _ (by omega), Option.bind_some, if_neg (by omega), if_neg (by omega)]
  rw [show leb_Size.f (K1 + K2 + K3 + K4 + K5 + 2) [v] = _ from h2 _ (by omega), Option.bind_some, hlen]
  rw [show (((lsz v.toNat : Nat) : Int) != ((lsz v.toNat : Nat) : Int)) = false from bne_eq_false_iff_eq.2 rfl]
  simp only [hawserlaw01_LebBack.j0]
  rw [if_neg (by decide)]
  unfold hawserref01_Copy.f
  rw [if_pos ⟨by omega, lput_bytes _⟩, Option.bind_some, if_pos (by omega)]
  rw [show leb_Decode.f (K1 + K2 + K3 + K4 + K5 + 1) (lput v.toNat ++ l) = _ from h3 _ (by omega), Option.bind_some]
  dsimp only
  rw [if_pos (by omega), if_pos rfl]
  rw [show ((0 : Int) != 0) = false from rfl]
  simp only [hawserlaw01_LebBack.j1]
  rw [if_neg (by decide)]
  rw [show leb_Decode.f (K1 + K2 + K3 + K4 + K5) l = _ from h4 _ (by omega), Option.bind_some]
  by_cases h : (DEC l).2.2 = 0
  · obtain ⟨b0, b1, b2, b3, b4⟩ := DEC_back hb (show DEC l = ((DEC l).1, (DEC l).2.1, 0) by rw [← h])
    rw [if_pos h, if_pos (by omega), if_pos (by omega)]
    rw [show leb_Encode.f (K1 + K2 + K3 + K4 + K5) [(DEC l).1] = _ from h5 _ (by omega), Option.bind_some, if_pos (by omega)]
    rw [same_eq (lput_bytes _) (hb.take _), b4]
    simp
  · obtain ⟨e1, e2⟩ := DEC_err h
    rw [if_neg h, if_pos e1, e2]
    rfl
end Go.Proofs.Ytcpdnoaebbbgcaa.Pure
