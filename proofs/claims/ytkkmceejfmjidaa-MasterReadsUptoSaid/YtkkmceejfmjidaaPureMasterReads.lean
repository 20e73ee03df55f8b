/- MasterReads: Decode answers what the document's Decode says, of any bytes, which stay; what comes out is one's own, and Encode writes it again; for every argument of bulk at most 1048576 (the given second form). -/
import Derived.Test.YtkkmceejfmjidaaStmtMasterReads
import Derived.Test.YtkkmceejfmjidaaMstReads
namespace Go.Proofs.Ytkkmceejfmjidaa.Pure
open Go.RowKit Go.Proofs.Ytkkmceejfmjidaa.G Go.Proofs.Ytkkmceejfmjidaa.CfgMath Go.Proofs.Ytkkmceejfmjidaa.Mst Go.Proofs.Ytkkmceejfmjidaa.MstReads Go.Proofs.YtkkmceejfmjidaaW.PrintWords Go.Proofs.YtkkmceejfmjidaaW.PrintLast Go.Proofs.YtkkmceejfmjidaaW.PrintMore
theorem one_ans : ∀ r, AnsM [3, 1, 1, 2, 0, 0, 0, 0] r → r = (1, [2], 0, 0, 0, 0, 0) := by
  intro r h
  have hm : mchk 1 [2] 0 0 0 0 = 0 := by decide +kernel
  have hB : mB 1 [2] 0 0 0 0 = [3, 1, 1, 2, 0, 0, 0, 0] := by
    unfold mB CfgEnc.cfgBytes
    simp only [Int.toNat_zero, show ((1 : Int)).toNat = 1 from rfl]
    rw [LebMath.lput_small (v := 1) (by decide), LebMath.lput_small (v := 0) (by decide)]
    simp only [List.length_cons, List.length_nil, List.length_append]
    rw [LebMath.lput_small (by decide)]
    rfl
  exact h.same (.inr ⟨rfl, hm, hB⟩)
theorem MasterReads : hawserlaw21_MasterReads.Pure := by
  intro l hw hb
  rw [CfgMath.sum_ones] at hb
  have hby : LebMath.IsBytes l := LebMath.IsBytes.of_wf hw
  show ∃ k, hawserlaw21_MasterReads.f k l = some true
  obtain ⟨r, ⟨K1, h1⟩, ar⟩ := pm_ev l hby (by omega)
  obtain ⟨s, ⟨K2, h2⟩, bs⟩ := rm_ev l hby (by omega)
  obtain rfl := ar.same bs
  obtain ⟨o, ⟨K3, h3⟩, ao⟩ := pm_ev [3, 1, 1, 2, 0, 0, 0, 0] (by intro x hx; simp at hx; omega) (by decide)
  obtain rfl := one_ans o ao
  obtain ⟨e, ch, a2, a3, a4, a5, er⟩ := r
  have hlen : ch.length ≤ 1048576 := by
    rcases ar with ⟨h, _⟩ | ⟨_, h2, _⟩
    · simp only [Prod.mk.injEq] at h; rw [h.2.1]; simp
    · obtain ⟨hc, _⟩ := mchk_zero h2
      obtain ⟨_, _, _, h4, _⟩ := chk_zero.1 hc
      simp only at h4
      omega
  obtain ⟨K4, h4⟩ := rsame_ev e ch a2 a3 a4 a5 (by omega)
  obtain ⟨K5, h5⟩ := Leb.kept_ev l (by omega)
  refine ⟨K1 + K2 + K3 + K4 + K5, ?_⟩
  unfold hawserlaw21_MasterReads.f
  have e1 : master_Decode.f (K1 + K2 + K3 + K4 + K5) l = _ := h1 _ (by omega)
  have e2 : hawserref21_Decode.f (K1 + K2 + K3 + K4 + K5) l = _ := h2 _ (by omega)
  have e3 : master_Decode.f (K1 + K2 + K3 + K4 + K5) [3, 1, 1, 2, 0, 0, 0, 0] = _ := h3 _ (by omega)
  have e4 : hawserref21_Same.f (K1 + K2 + K3 + K4 + K5) e ch a2 a3 a4 a5 e ch a2 a3 a4 a5 = _ := h4 _ (by omega)
  have e5 : hawserref01_Kept.f (K1 + K2 + K3 + K4 + K5) _ l = _ := h5 _ (by omega)
  rw [Leb.lend_eq l (by omega), Option.bind_some, if_pos rfl, e1, Option.bind_some, e2, Option.bind_some, if_pos ⟨rfl, hlen⟩, e4, Option.bind_some, e5, Option.bind_some, e3, Option.bind_some]
  refine if_pos ⟨⟨rfl, rfl⟩, rfl, ?_, by rw [Leb.same_eq hby hby]; simp⟩
  by_cases he : er = 0
  · rw [if_pos he]
    rcases ar with ⟨h, _⟩ | ⟨_, g2, g3⟩
    · simp only [Prod.mk.injEq] at h
      omega
    · simp only at g2 g3
      rw [menc_f]
      have hm := menc_err g2
      have hz : (menc e ch a2 a3 a4 a5).2 = 0 := by unfold menc; rw [if_pos g2]
      congr 1
      exact Prod.ext (hm.trans g3) hz
  · rw [if_neg he]
end Go.Proofs.Ytkkmceejfmjidaa.Pure
