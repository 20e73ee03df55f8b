/- LebTells: All over any bytes tells what the document tells, whole, left early, gone over again, and nested, and the bytes stay as they are; for every list that is of bulk at most 1048576 (the given second form). -/
import Derived.Test.YtcpdnoaebbbgcaaStmtLebTells
import Derived.Test.YtcpdnoaebbbgcaaLebTold
namespace Go.Proofs.Ytcpdnoaebbbgcaa.Pure
open Go.RowKit Go.Proofs.Ytcpdnoaebbbgcaa.G Go.Proofs.Ytcpdnoaebbbgcaa.Leb Go.Proofs.Ytcpdnoaebbbgcaa.LebMath Go.Proofs.YtcpdnoaebbbgcaaW.PrintWords Go.Proofs.YtcpdnoaebbbgcaaW.PrintLast
set_option linter.unusedVariables false
set_option linter.unusedSimpArgs false

def mkT (x : Int × Int) : S55 := ⟨x.1, x.2⟩
theorem toldM_len (l : List Int) (hb : IsBytes l) : ∀ (m at_ : Nat), (toldM m l at_).length ≤ l.length - at_
  | 0, at_ => by simp [toldM]
  | m + 1, at_ => by
    simp only [toldM]
    by_cases c : at_ < l.length
    · rw [if_pos c]
      by_cases d : (DEC (l.drop at_)).2.2 = 0
      · rw [if_pos d, List.length_cons]
        have := toldM_len l hb m (at_ + (DEC (l.drop at_)).2.1.toNat)
        have := DEC_ok (hb.drop at_) d
        omega
      · rw [if_neg d]; simp
    · rw [if_neg c]; simp
theorem rall_ev (l : List Int) (hb : IsBytes l) (hl : l.length ≤ 1099511627776) : ∀ (m at_ : Nat) (acc : List S55), l.length - at_ < m → at_ ≤ l.length → acc.length ≤ at_ →
    Ev (fun k => hawserref01_All.l0 k l acc (at_ : Int)) (acc ++ (toldM m l at_).map mkT)
  | 0, _, _, h, _, _ => by omega
  | m + 1, at_, acc, h, hat, hacc => by
    by_cases c : at_ < l.length
    · have hr := read_ev (l.drop at_) (hb.drop at_) (by rw [List.length_drop]; omega)
      by_cases d : (DEC (l.drop at_)).2.2 = 0
      · obtain ⟨h0, h1, h2, h3, h4⟩ := DEC_ok (hb.drop at_) d
        rw [List.length_drop] at h3
        have ih := rall_ev l hb hl m (at_ + (DEC (l.drop at_)).2.1.toNat) (acc ++ [⟨(at_ : Int), (DEC (l.drop at_)).1⟩]) (by omega) (by omega) (by rw [List.length_append, List.length_singleton]; omega)
        have e : ((at_ + (DEC (l.drop at_)).2.1.toNat : Nat) : Int) = (at_ : Int) + (DEC (l.drop at_)).2.1 := by omega
        rw [e] at ih
        refine Ev.step (fun k => ?_) (Ev.bind (f := fun k t => if t.2.2 = 0 then (if acc.length < 8796093022208 then hawserref01_All.l0 k l (acc ++ [(⟨(at_ : Int), t.1⟩ : S55)]) (wrap64 ((at_ : Int) + t.2.1)) else none) else some acc) hr ?_)
        · simp only [hawserref01_All.l0]
          rw [if_pos (by omega), if_pos (by omega), Int.toNat_natCast]
        · simp only [toldM]
          rw [if_pos c, if_pos d, List.map_cons]
          rw [List.append_assoc, List.singleton_append] at ih
          refine Ev.congr (fun k => ?_) ih
          show (if (DEC (l.drop at_)).2.2 = 0 then _ else _) = _
          rw [if_pos d, if_pos (by omega), w64 (by omega) (by omega)]
      · refine Ev.step (fun k => ?_) (Ev.bind (f := fun k t => if t.2.2 = 0 then (if acc.length < 8796093022208 then hawserref01_All.l0 k l (acc ++ [(⟨(at_ : Int), t.1⟩ : S55)]) (wrap64 ((at_ : Int) + t.2.1)) else none) else some acc) hr ?_)
        · simp only [hawserref01_All.l0]
          rw [if_pos (by omega), if_pos (by omega), Int.toNat_natCast]
        · simp only [toldM]
          rw [if_pos c, if_neg d]
          exact ⟨0, fun k _ => by show (if (DEC (l.drop at_)).2.2 = 0 then _ else _) = _; rw [if_neg d]; simp⟩
    · refine ⟨1, fun k hk => ?_⟩
      obtain ⟨k, rfl⟩ : ∃ m, k = m + 1 := ⟨k - 1, by omega⟩
      simp only [hawserref01_All.l0, toldM]
      rw [if_neg (by omega), if_neg c]
      simp
theorem told_ev (l : List Int) (hb : IsBytes l) (hl : l.length ≤ 1099511627776) : Ev (fun k => leb_told k k l 0) (toldM (l.length + 1) l 0) := by
  obtain ⟨K, hK⟩ := dec_all l hb hl
  refine ⟨K + l.length + 1, fun k hk => ?_⟩
  show leb_told k k l 0 = _
  rw [told_eq l hb k (hK k (by omega)).1 k 0 (by omega), toldM_fuel l hb k (l.length + 1) 0 (by omega) (by omega)]
theorem LebTells : hawserlaw01_LebTells.Pure := by
  intro l leave hw hn hl
  rw [sum_ones] at hl
  have hb := IsBytes.of_wf hw
  have d1 := rall_ev l hb (by omega) (l.length + 1) 0 [] (by omega) (by omega) (by simp)
  have d2 := told_ev l hb (by omega)
  have d3 := kept_ev l (by omega)
  have d4 := told_ev [5, 128, 1, 7] (by intro x hx; simp at hx; omega) (by simp)
  have d5 := told_ev [1, 2] (by intro x hx; simp at hx; omega) (by simp)
  have e4 : (toldM (([5, 128, 1, 7] : List Int).length + 1) [5, 128, 1, 7] 0).length = 3 := by decide +kernel
  have e5 : (toldM (([1, 2] : List Int).length + 1) [1, 2] 0).length = 2 := by decide +kernel
  obtain ⟨K1, h1⟩ := d1
  obtain ⟨K2, h2⟩ := d2
  obtain ⟨K3, h3⟩ := d3
  obtain ⟨K4, h4⟩ := d4
  obtain ⟨K5, h5⟩ := d5
  refine ⟨K1 + K2 + K3 + K4 + K5, ?_⟩
  unfold hawserlaw01_LebTells.f hawserref01_All.f
  rw [show hawserref01_All.l0 (K1 + K2 + K3 + K4 + K5) l [] 0 = _ from h1 _ (by omega), Option.bind_some, lend_eq l (by omega), Option.bind_some]
  rw [show leb_told (K1 + K2 + K3 + K4 + K5) (K1 + K2 + K3 + K4 + K5) l 0 = _ from h2 _ (by omega), Option.bind_some]
  have hlen := toldM_len l hb (l.length + 1) 0
  rw [if_pos ⟨by omega, rfl, by simp; omega, by simp [mkT, Function.comp_def]⟩]
  rw [show leb_told (K1 + K2 + K3 + K4 + K5) (K1 + K2 + K3 + K4 + K5) [5, 128, 1, 7] 0 = _ from h4 _ (by omega), Option.bind_some]
  rw [show leb_told (K1 + K2 + K3 + K4 + K5) (K1 + K2 + K3 + K4 + K5) [1, 2] 0 = _ from h5 _ (by omega), Option.bind_some, if_pos ⟨e4, e5⟩]
  rw [show hawserref01_Kept.f (K1 + K2 + K3 + K4 + K5) _ l = _ from h3 _ (by omega)]
  rfl
end Go.Proofs.Ytcpdnoaebbbgcaa.Pure
