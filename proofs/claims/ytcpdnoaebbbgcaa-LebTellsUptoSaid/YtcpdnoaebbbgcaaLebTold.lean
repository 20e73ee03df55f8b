/- LebTold: the numbers that stand behind one another, and the place behind so many of them, said by LebMath. -/
import Derived.Test.YtcpdnoaebbbgcaaLeb
namespace Go.Proofs.Ytcpdnoaebbbgcaa.Leb
open Go.RowKit Go.Proofs.Ytcpdnoaebbbgcaa.G Go.Proofs.Ytcpdnoaebbbgcaa.LebMath Go.Proofs.YtcpdnoaebbbgcaaW.PrintWords Go.Proofs.YtcpdnoaebbbgcaaW.PrintLast Go.Proofs.YtcpdnoaebbbgcaaW.PrintMore
set_option linter.unusedVariables false
set_option linter.unusedSimpArgs false

theorem ev_all {α : Type} (g : Nat → Nat → Option α) (r : Nat → α) : ∀ n : Nat, (∀ i, i ≤ n → Ev (fun k => g k i) (r i)) → ∃ K, ∀ k, K ≤ k → ∀ i, i ≤ n → g k i = some (r i)
  | 0, h => by
    obtain ⟨K, hK⟩ := h 0 (Nat.le_refl _)
    refine ⟨K, fun k hk i hi => ?_⟩
    obtain rfl : i = 0 := by omega
    exact hK k hk
  | n + 1, h => by
    obtain ⟨K, hK⟩ := h (n + 1) (Nat.le_refl _)
    obtain ⟨K', hK'⟩ := ev_all g r n (fun i hi => h i (by omega))
    refine ⟨K + K', fun k hk i hi => ?_⟩
    by_cases e : i = n + 1
    · subst e; exact hK k (by omega)
    · exact hK' k (by omega) i (by omega)

/-- The numbers from a place on, with their places. -/
def toldM : Nat → List Int → Nat → List (Int × Int)
  | 0, _, _ => []
  | m + 1, l, at_ => if at_ < l.length then (if (DEC (l.drop at_)).2.2 = 0 then ((at_ : Int), (DEC (l.drop at_)).1) :: toldM m l (at_ + (DEC (l.drop at_)).2.1.toNat) else []) else []
theorem DEC_ok {l : List Int} (hb : IsBytes l) (h : (DEC l).2.2 = 0) : 0 ≤ (DEC l).1 ∧ (DEC l).1 < 18446744073709551616 ∧ 1 ≤ (DEC l).2.1 ∧ (DEC l).2.1 ≤ l.length ∧ lput (DEC l).1.toNat = l.take (DEC l).2.1.toNat := by
  have e : DEC l = ((DEC l).1, (DEC l).2.1, 0) := by rw [← h]
  exact DEC_back hb e
theorem DEC_size {l : List Int} (hb : IsBytes l) (h : (DEC l).2.2 = 0) : (lsz (DEC l).1.toNat : Int) = (DEC l).2.1 := by
  obtain ⟨h0, h1, h2, h3, h4⟩ := DEC_ok hb h
  have := congrArg List.length h4
  rw [lput_len, List.length_take] at this
  omega
theorem DEC_v {l : List Int} (hb : IsBytes l) : 0 ≤ (DEC l).1 ∧ (DEC l).1 ≤ 18446744073709551615 := by
  by_cases h : (DEC l).2.2 = 0
  · have := DEC_ok hb h; omega
  · unfold DEC at h ⊢
    split
    · simp
    · split
      · simp
      · split
        · simp
        · rename_i a b c; rw [if_neg a, if_neg b, if_neg c] at h; exact absurd rfl h
theorem DEC_nil : DEC [] = (0, 0, 10) := by decide +kernel
theorem toldM_fuel (l : List Int) (hb : IsBytes l) : ∀ (m m' at_ : Nat), l.length - at_ < m → l.length - at_ < m' → toldM m l at_ = toldM m' l at_
  | 0, _, _, h, _ => by omega
  | _, 0, _, _, h => by omega
  | m + 1, m' + 1, at_, h, h' => by
    simp only [toldM]
    by_cases c : at_ < l.length
    · rw [if_pos c, if_pos c]
      by_cases d : (DEC (l.drop at_)).2.2 = 0
      · rw [if_pos d, if_pos d]
        have := DEC_ok (hb.drop at_) d
        rw [toldM_fuel l hb m m' _ (by omega) (by omega)]
      · rw [if_neg d, if_neg d]
    · rw [if_neg c, if_neg c]
/-- What is needed of Decode, and of Size, at every place of a list. -/
theorem dec_all (l : List Int) (hb : IsBytes l) (hl : l.length ≤ 1099511627776) : ∃ K, ∀ k, K ≤ k → (∀ i, i ≤ l.length → leb_Decode.f k (l.drop i) = some (DEC (l.drop i))) ∧ ∀ i, i ≤ l.length → leb_Size.f k [(DEC (l.drop i)).1] = some ((lsz (DEC (l.drop i)).1.toNat : Nat) : Int) := by
  obtain ⟨K, hK⟩ := ev_all (fun k i => leb_Decode.f k (l.drop i)) (fun i => DEC (l.drop i)) l.length (fun i _ => dec_ev _ (hb.drop i) (by rw [List.length_drop]; omega))
  obtain ⟨K', hK'⟩ := ev_all (fun k i => leb_Size.f k [(DEC (l.drop i)).1]) (fun i => ((lsz (DEC (l.drop i)).1.toNat : Nat) : Int)) l.length (fun i _ => size_one _ (DEC_v (hb.drop i)).1 (DEC_v (hb.drop i)).2)
  exact ⟨K + K', fun k hk => ⟨hK k (by omega), hK' k (by omega)⟩⟩
theorem told_eq (l : List Int) (hb : IsBytes l) (k : Nat) (hD : ∀ i, i ≤ l.length → leb_Decode.f k (l.drop i) = some (DEC (l.drop i))) : ∀ (m at_ : Nat), l.length - at_ < m → leb_told k m l at_ = some (toldM m l at_)
  | 0, _, h => by omega
  | m + 1, at_, h => by
    simp only [leb_told, toldM]
    by_cases c : at_ < l.length
    · rw [if_pos c, if_pos c, hD at_ (by omega), Option.bind_some]
      by_cases d : (DEC (l.drop at_)).2.2 = 0
      · obtain ⟨h0, h1, h2, h3, h4⟩ := DEC_ok (hb.drop at_) d
        rw [List.length_drop] at h3
        rw [if_pos d, if_pos d, if_pos (by omega), told_eq l hb k hD m _ (by omega)]
        rfl
      · rw [if_neg d, if_neg d]
    · rw [if_neg c, if_neg c]
/-- Each that is told stands at its place. -/
theorem toldM_mem (l : List Int) : ∀ (m at_ : Nat) (x : Int × Int), x ∈ toldM m l at_ → ∃ i : Nat, i ≤ l.length ∧ x = ((i : Int), (DEC (l.drop i)).1)
  | 0, _, _, h => by simp [toldM] at h
  | m + 1, at_, x, h => by
    simp only [toldM] at h
    split at h
    · split at h
      · rcases List.mem_cons.1 h with rfl | h
        · exact ⟨at_, by omega, rfl⟩
        · exact toldM_mem l m _ x h
      · simp at h
    · simp at h
/-- The place behind so many numbers, or the error that ends them. -/
def SK : Nat → List Int → Int → Nat → Int × Int
  | 0, _, _, at_ => ((at_ : Int), 0)
  | m + 1, l, n, at_ => if n > 0 then (if (DEC (l.drop at_)).2.2 = 0 then SK m l (n - 1) (at_ + (DEC (l.drop at_)).2.1.toNat) else (0, (DEC (l.drop at_)).2.2)) else ((at_ : Int), 0)
theorem skip_eq (l : List Int) (hb : IsBytes l) (hl : l.length ≤ 1099511627776) (k : Nat) (hS : ∀ i, i ≤ l.length → leb_Size.f k [(DEC (l.drop i)).1] = some ((lsz (DEC (l.drop i)).1.toNat : Nat) : Int)) :
    ∀ (m at_ : Nat) (n : Int), l.length - at_ < m → at_ ≤ l.length → 0 ≤ n → n ≤ 9223372036854775807 → ∃ (b : Bool) (n' : Int) (at' : Nat), leb_skipAt k (toldM m l at_) n (at_ : Int) = some (b, n', (at' : Int)) ∧ at' ≤ l.length ∧
      (if n' > 0 then SK m l n at_ = (0, (DEC (l.drop at')).2.2) else SK m l n at_ = ((at' : Int), 0))
  | 0, _, _, h, _, _, _ => by omega
  | m + 1, at_, n, h, hat, hn, hn2 => by
    simp only [toldM]
    by_cases c : at_ < l.length
    · rw [if_pos c]
      by_cases d : (DEC (l.drop at_)).2.2 = 0
      · obtain ⟨h0, h1, h2, h3, h4⟩ := DEC_ok (hb.drop at_) d
        have hs := DEC_size (hb.drop at_) d
        rw [List.length_drop] at h3
        rw [if_pos d]
        by_cases e : n = 0
        · subst e
          exact ⟨true, 0, at_, by simp [leb_skipAt], hat, by rw [if_neg (by omega)]; simp [SK]⟩
        · obtain ⟨b, n', at', e1, e2, e3⟩ := skip_eq l hb hl k hS m (at_ + (DEC (l.drop at_)).2.1.toNat) (n - 1) (by omega) (by omega) (by omega) (by omega)
          refine ⟨b, n', at', ?_, e2, ?_⟩
          · simp only [leb_skipAt]
            rw [if_neg e, hS at_ hat, Option.bind_some, hs, w64 (by omega) (by omega), w64 (by omega) (by omega)]
            have : ((at_ + (DEC (l.drop at_)).2.1.toNat : Nat) : Int) = (at_ : Int) + (DEC (l.drop at_)).2.1 := by omega
            rw [← this]
            exact e1
          · simp only [SK]
            rw [if_pos (by omega : n > 0), if_pos d]
            exact e3
      · rw [if_neg d]
        refine ⟨false, n, at_, rfl, hat, ?_⟩
        simp only [SK]
        split <;> simp_all
    · rw [if_neg c]
      refine ⟨false, n, at_, rfl, hat, ?_⟩
      have e : l.drop at_ = [] := List.drop_of_length_le (by omega)
      simp only [SK]
      rw [e, DEC_nil]
      split <;> simp_all
theorem pskip_ev (l : List Int) (hb : IsBytes l) (hl : l.length ≤ 1099511627776) (n : Int) (hn2 : n ≤ 9223372036854775807) : Ev (fun k => leb_Skip.f k l n) (if n < 0 then (0, 1) else SK (l.length + 1) l n 0) := by
  obtain ⟨K, hK⟩ := dec_all l hb hl
  refine ⟨K + l.length + 1, fun k hk => ?_⟩
  obtain ⟨hD, hS⟩ := hK k (by omega)
  show leb_Skip.f k l n = _
  unfold leb_Skip.f
  rw [if_pos hl]
  by_cases c : n < 0
  · rw [if_pos c, if_pos c]
  · rw [if_neg c, if_neg c, told_eq l hb k hD k 0 (by omega), Option.bind_some, toldM_fuel l hb k (l.length + 1) 0 (by omega) (by omega)]
    obtain ⟨b, n', at', e1, e2, e3⟩ := skip_eq l hb hl k hS (l.length + 1) 0 n (by omega) (by omega) (by omega) hn2
    rw [if_pos (fun x hx => by obtain ⟨i, hi, rfl⟩ := toldM_mem l _ _ x hx; rw [hS i hi]; rfl)]
    rw [show leb_skipAt k (toldM (l.length + 1) l 0) n 0 = _ from e1, Option.bind_some]
    show (if n' > 0 then (if 0 ≤ (at' : Int) then (if (at' : Int) ≤ l.length then (leb_Decode.f k (l.drop (at' : Int).toNat)).bind fun u => some (0, u.2.2) else none) else none) else some ((at' : Int), 0)) = _
    by_cases p : n' > 0
    · rw [if_pos p] at e3
      rw [if_pos p, if_pos (by omega), if_pos (by omega), e3]
      simp only [Int.toNat_natCast]
      rw [hD at' e2]
      rfl
    · rw [if_neg p] at e3
      rw [if_neg p, e3]
theorem rskip_ev (l : List Int) (hb : IsBytes l) (hl : l.length ≤ 1099511627776) : ∀ (m at_ : Nat) (n : Int), l.length - at_ < m → at_ ≤ l.length → 0 ≤ n → n ≤ 9223372036854775807 → Ev (fun k => hawserref01_Skip.l0 k l n (at_ : Int)) (SK m l n at_)
  | 0, _, _, h, _, _, _ => by omega
  | m + 1, at_, n, h, hat, hn, hn2 => by
    by_cases c : n > 0
    · have hr := read_ev (l.drop at_) (hb.drop at_) (by rw [List.length_drop]; omega)
      by_cases d : (DEC (l.drop at_)).2.2 = 0
      · obtain ⟨h0, h1, h2, h3, h4⟩ := DEC_ok (hb.drop at_) d
        rw [List.length_drop] at h3
        have ih := rskip_ev l hb hl m (at_ + (DEC (l.drop at_)).2.1.toNat) (n - 1) (by omega) (by omega) (by omega) (by omega)
        have e : ((at_ + (DEC (l.drop at_)).2.1.toNat : Nat) : Int) = (at_ : Int) + (DEC (l.drop at_)).2.1 := by omega
        rw [e] at ih
        refine Ev.step (fun k => ?_) (Ev.bind (f := fun k t => if t.2.2 = 0 then hawserref01_Skip.l0 k l (wrap64 (n - 1)) (wrap64 ((at_ : Int) + t.2.1)) else some (0, t.2.2)) hr ?_)
        · simp only [hawserref01_Skip.l0]
          rw [if_pos c, if_pos (by omega), if_pos (by omega), Int.toNat_natCast]
        · simp only [SK]
          rw [if_pos c, if_pos d]
          refine Ev.congr (fun k => ?_) ih
          show (if (DEC (l.drop at_)).2.2 = 0 then _ else _) = _
          rw [if_pos d, w64 (by omega) (by omega), w64 (by omega) (by omega)]
      · refine Ev.step (fun k => ?_) (Ev.bind (f := fun k t => if t.2.2 = 0 then hawserref01_Skip.l0 k l (wrap64 (n - 1)) (wrap64 ((at_ : Int) + t.2.1)) else some (0, t.2.2)) hr ?_)
        · simp only [hawserref01_Skip.l0]
          rw [if_pos c, if_pos (by omega), if_pos (by omega), Int.toNat_natCast]
        · simp only [SK]
          rw [if_pos c, if_neg d]
          exact ⟨0, fun k _ => by show (if (DEC (l.drop at_)).2.2 = 0 then _ else _) = _; rw [if_neg d]⟩
    · refine ⟨1, fun k hk => ?_⟩
      obtain ⟨k, rfl⟩ : ∃ m, k = m + 1 := ⟨k - 1, by omega⟩
      simp only [hawserref01_Skip.l0, SK]
      rw [if_neg c, if_neg c]
theorem rskip (l : List Int) (hb : IsBytes l) (hl : l.length ≤ 1099511627776) (n : Int) (hn2 : n ≤ 9223372036854775807) : Ev (fun k => hawserref01_Skip.f k l n) (if n < 0 then (0, 1) else SK (l.length + 1) l n 0) := by
  by_cases c : n < 0
  · exact ⟨0, fun k _ => by show hawserref01_Skip.f k l n = _; unfold hawserref01_Skip.f; rw [if_pos c, if_pos c]⟩
  · rw [if_neg c]
    refine Ev.congr (fun k => ?_) (rskip_ev l hb hl (l.length + 1) 0 n (by omega) (by omega) (by omega) hn2)
    unfold hawserref01_Skip.f
    rw [if_neg c]
    rfl
end Go.Proofs.Ytcpdnoaebbbgcaa.Leb
