/- CfgOrd: what hawserlaw16.ordered computes where the shared nodes stand in one order. -/
import Derived.Test.YtjhijklgpgdlaaaCfgFolMath
import Derived.Test.YtjhijklgpgdlaaaGx7
namespace Go.Proofs.Ytjhijklgpgdlaaa.CfgMath
open Go.RowKit Go.Proofs.Ytjhijklgpgdlaaa.G Go.Proofs.YtjhijklgpgdlaaaW.PrintWords Go.Proofs.YtjhijklgpgdlaaaW.PrintLast Go.Proofs.YtjhijklgpgdlaaaW.PrintMore
set_option linter.unusedVariables false
set_option linter.unusedSimpArgs false
theorem ord_l1 (l m : List Int) (hm : m.Nodup) (hl : l.length ≤ 8) (hml : m.length ≤ 9) (i : Nat) (hi : i < l.length) (last shared : Int) (hs : 0 ≤ shared ∧ shared ≤ 1000) (hlast : pos m l[i] ≠ 0 → last ≤ pos m l[i] - 1) :
    Ev (fun k => hawserlaw16_ordered.l0 k l m (if pos m l[i] = 0 then last else pos m l[i] - 1) (if pos m l[i] = 0 then shared else shared + 1) ((i + 1 : Nat) : Int)) true →
    Ev (fun k => hawserlaw16_ordered.l1 k l m last shared (i : Int) 0) true := by
  intro h
  have h0 := pos_nonneg m l[i]
  have hle := pos_le m l[i]
  -- behind the place, or with no place at all
  have after : ∀ (d j : Nat), m.length - j = d → j ≤ m.length → (pos m l[i] = 0 ∨ pos m l[i] ≤ j) →
      Ev (fun k => hawserlaw16_ordered.l1 k l m (if pos m l[i] = 0 then last else pos m l[i] - 1) (if pos m l[i] = 0 then shared else shared + 1) (i : Int) (j : Int)) true := by
    intro d
    induction d with
    | zero =>
      intro j hd hj _
      refine Ev.step (fun k => ?_) h
      simp only [hawserlaw16_ordered.l1]
      rw [if_neg (by omega), w64 (n := (i : Int) + 1) (by omega) (by omega)]
      rfl
    | succ d ih =>
      intro j hd hj hp
      have hjm : j < m.length := by omega
      have hne : l[i] ≠ m[j] := by
        intro e
        have := pos_nodup m hm j hjm
        rw [← e] at this
        omega
      refine Ev.step (fun k => ?_) (ih (j + 1) (by omega) (by omega) (by omega))
      simp only [hawserlaw16_ordered.l1]
      rw [if_pos (by omega), if_pos (by omega), if_pos (by omega), if_pos (by omega), rd_nat l i hi, rd_nat m j hjm, if_neg hne, w64 (n := (j : Int) + 1) (by omega) (by omega)]
      rfl
  have before : ∀ (d j : Nat), m.length - j = d → j ≤ m.length → (pos m l[i] ≠ 0 → (j : Int) < pos m l[i]) →
      Ev (fun k => hawserlaw16_ordered.l1 k l m last shared (i : Int) (j : Int)) true := by
    intro d
    induction d with
    | zero =>
      intro j hd hj hp
      have hz : pos m l[i] = 0 := by
        apply Classical.byContradiction
        intro hz
        have := hp hz
        omega
      have := after 0 j hd hj (.inl hz)
      rw [if_pos hz, if_pos hz] at this
      exact this
    | succ d ih =>
      intro j hd hj hp
      have hjm : j < m.length := by omega
      by_cases he : l[i] = m[j]
      · have hpj : pos m l[i] = (j : Int) + 1 := by rw [he]; exact pos_nodup m hm j hjm
        have hx := after d (j + 1) (by omega) (by omega) (.inr (by omega))
        rw [if_neg (by omega), if_neg (by omega), hpj] at hx
        have hl2 := hlast (by omega)
        refine Ev.step (fun k => ?_) hx
        simp only [hawserlaw16_ordered.l1]
        rw [if_pos (by omega), if_pos (by omega), if_pos (by omega), if_pos (by omega), rd_nat l i hi, rd_nat m j hjm, if_pos he, if_neg (by omega), w64 (n := shared + 1) (by omega) (by omega), w64 (n := (j : Int) + 1) (by omega) (by omega), show (j : Int) + 1 - 1 = j by omega]
        rfl
      · refine Ev.step (fun k => ?_) (ih (j + 1) (by omega) (by omega) (fun hz => by
          have h1 := hp hz
          have h2 : pos m l[i] ≠ (j : Int) + 1 := by
            intro e
            have h3 := pos_rd m l[i] hz
            rw [e, show (j : Int) + 1 - 1 = j by omega, rd_nat m j hjm] at h3
            exact he h3.symm
          omega))
        simp only [hawserlaw16_ordered.l1]
        rw [if_pos (by omega), if_pos (by omega), if_pos (by omega), if_pos (by omega), rd_nat l i hi, rd_nat m j hjm, if_neg he, w64 (n := (j : Int) + 1) (by omega) (by omega)]
        rfl
  exact before m.length 0 (by omega) (by omega) (by omega)
theorem ord_l0 (l m : List Int) (hm : m.Nodup) (hl : l.length ≤ 8) (hml : m.length ≤ 9)
    (mono : ∀ i j (hi : i < l.length) (hj : j < l.length), i < j → pos m l[i] ≠ 0 → pos m l[j] ≠ 0 → pos m l[i] < pos m l[j]) :
    ∀ (d i : Nat) (last shared : Int), l.length - i = d → i ≤ l.length → 0 ≤ shared → shared ≤ i →
    (0 < shared ∨ ∃ j, ∃ (hj : j < l.length), i ≤ j ∧ pos m l[j] ≠ 0) → (∀ j (hj : j < l.length), i ≤ j → pos m l[j] ≠ 0 → last ≤ pos m l[j] - 1) →
    Ev (fun k => hawserlaw16_ordered.l0 k l m last shared (i : Int)) true := by
  intro d
  induction d with
  | zero =>
    intro i last shared hd hi h0 h1 hsome hlast
    have : 0 < shared := by
      rcases hsome with h | ⟨j, hj, hij, _⟩
      · exact h
      · omega
    refine Ev.step (f := fun _ => some true) (fun k => ?_) (Ev.now _)
    simp only [hawserlaw16_ordered.l0]
    rw [if_neg (by omega), decide_eq_true (by omega)]
  | succ d ih =>
    intro i last shared hd hi h0 h1 hsome hlast
    have hlt : i < l.length := by omega
    have hp0 := pos_nonneg m l[i]
    refine Ev.step (f := fun k => hawserlaw16_ordered.l1 k l m last shared (i : Int) 0) (fun k => ?_) (ord_l1 l m hm hl hml i hlt last shared ⟨h0, by omega⟩ (hlast i hlt (by omega)) ?_)
    · simp only [hawserlaw16_ordered.l0]
      rw [if_pos (by omega)]
    · by_cases hz : pos m l[i] = 0
      · rw [if_pos hz, if_pos hz]
        refine ih (i + 1) last shared (by clear hsome; omega) (by clear hsome; omega) h0 (by clear hsome; omega) ?_ (fun j hj hij => hlast j hj (by clear hsome; omega))
        rcases hsome with h | ⟨j, hj, hij, hjz⟩
        · exact .inl h
        · refine .inr ⟨j, hj, ?_, hjz⟩
          have : j ≠ i := by rintro rfl; exact hjz hz
          omega
      · rw [if_neg hz, if_neg hz]
        clear hsome
        refine ih (i + 1) _ _ (by omega) (by omega) (by omega) (by omega) (.inl (by omega)) (fun j hj hij hjz => ?_)
        have := mono i j hlt hj (by omega) hz hjz
        omega
theorem ord_ev (l m : List Int) (hm : m.Nodup) (hl : l.length ≤ 8) (hml : m.length ≤ 9)
    (mono : ∀ i j (hi : i < l.length) (hj : j < l.length), i < j → pos m l[i] ≠ 0 → pos m l[j] ≠ 0 → pos m l[i] < pos m l[j])
    (some' : ∃ j, ∃ (hj : j < l.length), pos m l[j] ≠ 0) : Ev (fun k => hawserlaw16_ordered.f k l m) true := by
  obtain ⟨j, hj, hjz⟩ := some'
  exact ord_l0 l m hm hl hml mono l.length 0 (-1) 0 (by omega) (by omega) (by omega) (by omega) (.inr ⟨j, hj, by omega, hjz⟩) (fun j hj _ hz => by have := pos_nonneg m l[j]; omega)
theorem pos_erase (l : List Int) (hn : l.Nodup) (j : Nat) (hj : j < l.length) (i : Nat) (hi : i < l.length) : pos (l.eraseIdx j) l[i] = if i < j then (i : Int) + 1 else if i = j then 0 else i := by
  have hs : (l.eraseIdx j).Nodup := hn.sublist (List.eraseIdx_sublist l j)
  have hlen : (l.eraseIdx j).length = l.length - 1 := List.length_eraseIdx_of_lt hj
  by_cases h1 : i < j
  · rw [if_pos h1]
    have h2 : i < (l.eraseIdx j).length := by omega
    have h3 := pos_nodup _ hs i h2
    rw [List.getElem_eraseIdx_of_lt h2 h1] at h3
    exact h3
  · rw [if_neg h1]
    by_cases h2 : i = j
    · subst h2
      rw [if_pos rfl, pos_zero]
      intro hmem
      rw [List.eraseIdx_eq_take_drop_succ, List.mem_append] at hmem
      have hsplit : l = l.take i ++ l[i] :: l.drop (i + 1) := by rw [← List.drop_eq_getElem_cons hi, List.take_append_drop]
      rw [hsplit] at hn
      have hn' := List.nodup_append.1 hn
      rcases hmem with h | h
      · exact hn'.2.2 _ h _ List.mem_cons_self rfl
      · exact (List.nodup_cons.1 hn'.2.1).1 h
    · rw [if_neg h2]
      have h4 : i - 1 < (l.eraseIdx j).length := by omega
      have h3 := pos_nodup _ hs (i - 1) h4
      rw [List.getElem_eraseIdx_of_ge h4 (by omega)] at h3
      have e : i - 1 + 1 = i := by omega
      simp only [e] at h3
      rw [h3]
      omega
theorem ord_snoc (l : List Int) (x : Int) (hk : okl [] (l ++ [x]) = true) (h1 : 1 ≤ l.length) : Ev (fun k => hawserlaw16_ordered.f k l (l ++ [x])) true := by
  have hn := ((okl_iff _ []).1 hk).2.1
  have hl := okl_len _ hk
  rw [List.length_append] at hl
  simp only [List.length_cons, List.length_nil] at hl
  have hp : ∀ i (hi : i < l.length), pos (l ++ [x]) l[i] = (i : Int) + 1 := by
    intro i hi
    have := pos_nodup _ hn i (by rw [List.length_append]; omega)
    rw [List.getElem_append_left hi] at this
    exact this
  refine ord_ev l (l ++ [x]) hn (by omega) (by rw [List.length_append]; simp only [List.length_cons, List.length_nil]; omega) (fun i j hi hj hij _ _ => by rw [hp i hi, hp j hj]; omega) ⟨0, by omega, by rw [hp 0 (by omega)]; omega⟩
theorem ord_erase (l : List Int) (j : Nat) (hk : okl [] l = true) (hj : j < l.length) (h2 : 2 ≤ l.length) : Ev (fun k => hawserlaw16_ordered.f k l (l.eraseIdx j)) true := by
  have hn := ((okl_iff _ []).1 hk).2.1
  have hl := okl_len _ hk
  have hlen : (l.eraseIdx j).length = l.length - 1 := List.length_eraseIdx_of_lt hj
  refine ord_ev l (l.eraseIdx j) (hn.sublist (List.eraseIdx_sublist l j)) (by omega) (by omega) (fun a b ha hb hab hza hzb => ?_) ?_
  · rw [pos_erase l hn j hj a ha] at hza ⊢
    rw [pos_erase l hn j hj b hb] at hzb ⊢
    by_cases h1 : a < j
    · rw [if_pos h1]
      by_cases h3 : b < j
      · rw [if_pos h3]; omega
      · rw [if_neg h3] at hzb ⊢
        by_cases h4 : b = j
        · rw [if_pos h4] at hzb; exact absurd rfl hzb
        · rw [if_neg h4]; omega
    · rw [if_neg h1] at hza ⊢
      by_cases h4 : a = j
      · rw [if_pos h4] at hza; exact absurd rfl hza
      · rw [if_neg h4, if_neg (show ¬ b < j by omega), if_neg (show ¬ b = j by omega)]; omega
  · by_cases h0 : j = 0
    · exact ⟨1, by omega, by rw [pos_erase l hn j hj 1 (by omega), if_neg (by omega), if_neg (by omega)]; omega⟩
    · exact ⟨0, by omega, by rw [pos_erase l hn j hj 0 (by omega), if_pos (by omega)]; omega⟩
end Go.Proofs.Ytjhijklgpgdlaaa.CfgMath
