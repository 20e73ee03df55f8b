/- LebEncodes: Encode writes what the document says, Size counts it, what is handed in stays, what comes out is one's own; for every argument that is together of bulk at most 1048576 (the given second form). -/
import Derived.Test.YtcpdnoaebbbgcaaStmtLebEncodes
import Derived.Test.YtcpdnoaebbbgcaaLebEnc
namespace Go.Proofs.Ytcpdnoaebbbgcaa.Pure
open Go.RowKit Go.Proofs.Ytcpdnoaebbbgcaa.G Go.Proofs.Ytcpdnoaebbbgcaa.LebMath Go.Proofs.Ytcpdnoaebbbgcaa.Leb Go.Proofs.YtcpdnoaebbbgcaaW.PrintWords Go.Proofs.YtcpdnoaebbbgcaaW.PrintLast Go.Proofs.YtcpdnoaebbbgcaaW.PrintMore
theorem same_self {a : List Int} : hawserref01_Same.f a a = some true := by
  unfold hawserref01_Same.f
  simp
theorem tail_ev (l a b c : List Int) (hl : l.length ≤ 1099511627776) (ha : a.length ≤ 1099511627776) (hb : b.length ≤ 1099511627776) (hc : c.length ≤ 1099511627776) : ∀ (d i : Nat), l.length + 3 - i = d → i ≤ l.length + 3 →
    Ev (fun k => hawserlaw01_LebEncodes.l0 k l (l ++ numMarks l.length) a b c ((l ++ numMarks l.length).length : Int) (i : Int)) true := by
  have hlen : (l ++ numMarks l.length).length = l.length + 3 := by rw [List.length_append]; rfl
  intro d
  induction d with
  | zero =>
    intro i hd hi
    have he := enc_ev [5, 300] (by intro x hx; simp only [List.mem_cons, List.not_mem_nil, or_false] at hx; rcases hx with rfl | rfl <;> omega) (by simp)
    have e5 : lenc (List.map Int.toNat [5, 300]) = [5, 172, 2] := by
      show lenc [5, 300] = _
      simp only [lenc, List.flatMap_cons, List.flatMap_nil, List.append_nil]
      rw [lput_small (by decide), lput_big (by decide), lput_small (by decide)]
      rfl
    rw [e5] at he
    refine Ev.step (f := fun k => (leb_Encode.f k (([5, 300] : List Int))).bind fun t166 => ((hawserref01_Same.f t166 (([5, 172, 2] : List Int))).bind fun t172 => (some t172))) (fun k => ?_) (Ev.bind he (Ev.congr (f := fun _ => some true) (fun k => ?_) (Ev.now _)))
    · simp only [hawserlaw01_LebEncodes.l0]
      rw [if_neg (by rw [hlen]; omega)]
      have : hawserref01_Own.f [a, b, c] = some true := by
        unfold hawserref01_Own.f
        rw [if_pos]
        intro x hx
        simp only [List.mem_cons, List.not_mem_nil, or_false] at hx
        rcases hx with rfl | rfl | rfl <;> assumption
      rw [this]
      rfl
    · rw [same_self]; rfl
  | succ d ih =>
    intro i hd hi
    refine Ev.step (fun k => ?_) (ih (i + 1) (by omega) (by omega))
    have ew : wrap64 ((i : Int) + 1) = ((i + 1 : Nat) : Int) := by rw [w64 (by omega) (by omega)]; omega
    simp only [hawserlaw01_LebEncodes.l0]
    rw [if_pos (by rw [hlen]; omega), ew]
    by_cases hlt : i < l.length
    · have e : rd (l ++ numMarks l.length) (i : Int) = rd l (i : Int) := by
        rw [rd_nat, rd_nat, List.getD_eq_getElem?_getD, List.getElem?_append_left hlt, ← List.getD_eq_getElem?_getD]
      rw [if_pos (by omega), if_pos (by omega), if_pos (by rw [hlen]; omega), if_pos e]
    · have e : rd (l ++ numMarks l.length) (i : Int) = IntKind.u64.wrap (wrap64 (1000 + (i : Int))) := by
        rw [w64 (by omega) (by omega), u64_wrap, rd_nat, List.getD_eq_getElem?_getD, List.getElem?_append_right (by omega)]
        obtain h | h | h : i = l.length ∨ i = l.length + 1 ∨ i = l.length + 2 := by omega
        · rw [h, Nat.sub_self]; simp [numMarks]; omega
        · rw [h, show l.length + 1 - l.length = 1 by omega]; simp [numMarks]; omega
        · rw [h, show l.length + 2 - l.length = 2 by omega]; simp [numMarks]; omega
      rw [if_neg (by omega), if_pos (by omega), if_pos (by rw [hlen]; omega), if_pos e]
theorem LebEncodes : hawserlaw01_LebEncodes.Pure := by
  intro l m hl0 hm0 hb
  rw [LebMath.sum_ones, LebMath.sum_ones] at hb
  have hl : ∀ x ∈ l, 0 ≤ x ∧ x ≤ 18446744073709551615 := fun x hx => u64_wf (hl0 x hx)
  have hm : ∀ x ∈ m, 0 ≤ x ∧ x ≤ 18446744073709551615 := fun x hx => u64_wf (hm0 x hx)
  show ∃ k, hawserlaw01_LebEncodes.f k l m = some true
  have h1 := renc_ev l hl (by omega)
  have h2 := renc_ev m hm (by omega)
  have h3 := enc_ev l hl (by omega)
  have h4 := enc_ev m hm (by omega)
  have h5 := size_ev l hl (by omega)
  have hn : hawserlaw01_numbers.f l = some (l ++ numMarks l.length, l) := by unfold hawserlaw01_numbers.f; rw [if_pos (by omega)]
  have hs : (((l.map (fun x => lsz x.toNat)).sum : Nat) : Int) = ((lenc (l.map Int.toNat)).length : Int) := by
    rw [lenc_len, List.map_map]
    rfl
  rw [hs] at h5
  have b1 := lenc_le l hl
  have b2 := lenc_le m hm
  have htail := tail_ev l (lenc (l.map Int.toNat)) (lenc (l.map Int.toNat)) (lenc (m.map Int.toNat)) (by omega) (by omega) (by omega) (by omega) (l.length + 3) 0 (by omega) (by omega)
  have : Ev (fun k => hawserlaw01_LebEncodes.f k l m) true := by
    unfold hawserlaw01_LebEncodes.f
    refine Ev.bind h1 (Ev.bind h2 ?_)
    rw [hn]
    simp only [Option.bind_some]
    refine Ev.bind h3 (Ev.bind h3 (Ev.bind h4 ?_))
    rw [same_self, same_self]
    simp only [Option.bind_some, if_true]
    refine Ev.bind h5 (Ev.step (fun k => ?_) htail)
    have e0 : (((lenc (l.map Int.toNat)).length : Int) != ((lenc (l.map Int.toNat)).length : Int)) = false := by simp
    rw [e0]
    simp only [hawserlaw01_LebEncodes.j0]
    rw [if_neg (by decide)]
    rfl
  exact this.rounds
end Go.Proofs.Ytcpdnoaebbbgcaa.Pure
