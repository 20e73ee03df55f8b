/- CfgFolMath: when one chain comes right behind another one: by a node gone, or by one behind the tail; in plain Lean. -/
import Derived.Test.YtjhijklgpgdlaaaCfgMath
namespace Go.Proofs.Ytjhijklgpgdlaaa.CfgMath
open Go.RowKit Go.Proofs.Ytjhijklgpgdlaaa.G Go.Proofs.YtjhijklgpgdlaaaW.PrintWords Go.Proofs.YtjhijklgpgdlaaaW.PrintLast Go.Proofs.YtjhijklgpgdlaaaW.PrintMore
set_option linter.unusedVariables false
set_option linter.unusedSimpArgs false
/-- Is the short one the long one without one place? -/
def del (L s : List Int) : Bool := (List.range (s.length + 1)).any fun j => decide (s = L.eraseIdx j)
theorem del_iff {L s : List Int} : del L s = true ↔ ∃ j, j ≤ s.length ∧ s = L.eraseIdx j := by
  unfold del
  rw [List.any_eq_true]
  constructor
  · rintro ⟨j, hj, h⟩
    rw [List.mem_range] at hj
    exact ⟨j, by omega, of_decide_eq_true h⟩
  · rintro ⟨j, hj, h⟩
    exact ⟨j, List.mem_range.2 (by omega), decide_eq_true h⟩
theorem del_at {L s : List Int} (hL : L.length = s.length + 1) (i : Nat) (hi : i ≤ s.length) (ht : s.take i = L.take i) (hne : i = s.length ∨ ∃ (h : i < s.length), s[i] ≠ L[i]) :
    del L s = decide (s.drop i = L.drop (i + 1)) := by
  rw [Bool.eq_iff_iff, del_iff, decide_eq_true_eq]
  constructor
  · rintro ⟨j, hj, hs⟩
    have hji : j ≤ i := by
      rcases hne with h | ⟨h, hne⟩
      · omega
      · apply Classical.byContradiction
        intro hlt
        apply hne
        have : s[i]? = (L.eraseIdx j)[i]? := by rw [← hs]
        rw [List.getElem?_eraseIdx_of_lt (by omega), List.getElem?_eq_getElem h, List.getElem?_eq_getElem (by omega)] at this
        exact Option.some.inj this
    rw [List.eraseIdx_eq_take_drop_succ] at hs
    have h1 : (L.take j).length = j := by rw [List.length_take]; omega
    rw [hs, List.drop_append, h1, List.drop_drop, List.drop_of_length_le (by omega), List.nil_append]
    congr 1
    omega
  · intro h
    refine ⟨i, hi, ?_⟩
    rw [List.eraseIdx_eq_take_drop_succ, ← ht, ← h, List.take_append_drop]
def fol (a : Int) (l : List Int) (b : Int) (m : List Int) : Bool :=
  decide (chk a l = 0 ∧ chk b m = 0 ∧ b = a + 1) && (if l.length < m.length then decide (m.length = l.length + 1 ∧ l = m.take l.length) else decide (l.length = m.length + 1) && del l m)
def folR (a : Int) (l : List Int) (b : Int) (m : List Int) : Bool := [1, 2, 3, 4, 5, 6, 7, 8].any fun n => decide (wo a l n = (b, m, 0)) || decide (wi a l n = (b, m, 0))
theorem folR_iff {a : Int} {l : List Int} {b : Int} {m : List Int} : folR a l b m = true ↔ ∃ n : Int, 1 ≤ n ∧ n ≤ 8 ∧ (wo a l n = (b, m, 0) ∨ wi a l n = (b, m, 0)) := by
  unfold folR
  rw [List.any_eq_true]
  constructor
  · rintro ⟨n, hn, h⟩
    rw [Bool.or_eq_true, decide_eq_true_eq, decide_eq_true_eq] at h
    simp only [List.mem_cons, List.not_mem_nil, or_false] at hn
    exact ⟨n, by omega, by omega, h⟩
  · rintro ⟨n, h1, h8, h⟩
    refine ⟨n, ?_, by rw [Bool.or_eq_true, decide_eq_true_eq, decide_eq_true_eq]; exact h⟩
    simp only [List.mem_cons, List.not_mem_nil, or_false]
    omega
theorem wo_ok {a : Int} {l : List Int} {n b : Int} {m : List Int} (h : wo a l n = (b, m, 0)) : chk a l = 0 ∧ pos l n ≠ 0 ∧ l.length ≠ 1 ∧ a ≠ 1099511627776 ∧ b = a + 1 ∧ m = l.eraseIdx (pos l n - 1).toNat := by
  unfold wo at h
  split at h
  · rename_i hc; exact absurd (congrArg (fun x => x.2.2) h) hc
  · rename_i hc
    split at h
    · exact absurd (show (161 : Int) = 0 from congrArg (fun x => x.2.2) h) (by decide)
    · rename_i hp
      split at h
      · exact absurd (show (162 : Int) = 0 from congrArg (fun x => x.2.2) h) (by decide)
      · rename_i h1
        split at h
        · exact absurd (show (160 : Int) = 0 from congrArg (fun x => x.2.2) h) (by decide)
        · rename_i he
          have h0 := pos_nonneg l n
          refine ⟨Classical.not_not.1 hc, hp, h1, he, (congrArg (fun x => x.1) h).symm, ?_⟩
          rw [List.eraseIdx_eq_take_drop_succ, show (pos l n - 1).toNat + 1 = (pos l n).toNat by omega]
          exact (congrArg (fun x => x.2.1) h).symm
theorem wi_ok {a : Int} {l : List Int} {n b : Int} {m : List Int} (h : wi a l n = (b, m, 0)) : chk a l = 0 ∧ 1 ≤ n ∧ n ≤ 8 ∧ pos l n = 0 ∧ a ≠ 1099511627776 ∧ b = a + 1 ∧ m = l ++ [n] := by
  unfold wi at h
  split at h
  · rename_i hc; exact absurd (congrArg (fun x => x.2.2) h) hc
  · rename_i hc
    split at h
    · exact absurd (show (161 : Int) = 0 from congrArg (fun x => x.2.2) h) (by decide)
    · rename_i hp
      split at h
      · exact absurd (show (160 : Int) = 0 from congrArg (fun x => x.2.2) h) (by decide)
      · rename_i he
        have h0 := pos_nonneg l n
        exact ⟨Classical.not_not.1 hc, by omega, by omega, by omega, he, (congrArg (fun x => x.1) h).symm, (congrArg (fun x => x.2.1) h).symm⟩
theorem okl_erase {l : List Int} (h : okl [] l = true) (j : Nat) : okl [] (l.eraseIdx j) = true := by
  have := (okl_iff l []).1 h
  rw [okl_iff]
  exact ⟨fun x hx => this.1 x (List.mem_of_mem_eraseIdx hx), this.2.1.sublist (List.eraseIdx_sublist l j), by simp⟩
theorem okl_snoc {l : List Int} {x : Int} : okl [] (l ++ [x]) = true ↔ okl [] l = true ∧ 1 ≤ x ∧ x ≤ 8 ∧ x ∉ l := by
  constructor
  · intro h
    have := (okl_iff _ []).1 h
    have hn := List.nodup_append.1 this.2.1
    refine ⟨(okl_iff l []).2 ⟨fun y hy => this.1 y (List.mem_append.2 (.inl hy)), hn.1, by simp⟩, (this.1 x (by simp)).1, (this.1 x (by simp)).2, fun hx => ?_⟩
    exact hn.2.2 x hx x (by simp) rfl
  · rintro ⟨h, h1, h8, hx⟩
    have := okl_nxt l x h
    unfold nxt at this
    rwa [if_pos ⟨hx, h1, h8⟩] at this
theorem fol_eq (a : Int) (l : List Int) (b : Int) (m : List Int) : fol a l b m = folR a l b m := by
  rw [Bool.eq_iff_iff, folR_iff]
  unfold fol
  rw [Bool.and_eq_true, decide_eq_true_eq]
  constructor
  · rintro ⟨⟨ha, hb, rfl⟩, h⟩
    obtain ⟨a1, a2, a3, a4, a5⟩ := chk_zero.1 ha
    obtain ⟨b1, b2, b3, b4, b5⟩ := chk_zero.1 hb
    by_cases hlt : l.length < m.length
    · rw [if_pos hlt, decide_eq_true_eq] at h
      obtain ⟨hlen, ht⟩ := h
      have hm : m = l ++ [m[l.length]] := by
        have := List.take_append_drop l.length m
        rw [← ht] at this
        rw [List.drop_eq_getElem_cons hlt, List.drop_of_length_le (by omega)] at this
        exact this.symm
      have hx := okl_snoc.1 (hm ▸ b5)
      refine ⟨m[l.length], hx.2.1, hx.2.2.1, .inr ?_⟩
      unfold wi
      rw [if_neg (fun h => h ha), if_neg (by rw [(pos_zero l _).2 hx.2.2.2]; omega), if_neg (by omega), ← hm]
    · rw [if_neg hlt, Bool.and_eq_true, decide_eq_true_eq, del_iff] at h
      obtain ⟨hlen, j, hj, hm⟩ := h
      have hjl : j < l.length := by omega
      have hp : pos l l[j] = (j : Int) + 1 := pos_nodup l ((okl_iff l []).1 a5).2.1 j hjl
      have hr := ((okl_iff l []).1 a5).1 l[j] (List.getElem_mem hjl)
      refine ⟨l[j], hr.1, hr.2, .inl ?_⟩
      unfold wo
      rw [if_neg (fun h => h ha), hp, if_neg (by omega), if_neg (by omega), if_neg (by omega), hm, List.eraseIdx_eq_take_drop_succ, show ((j : Int) + 1 - 1).toNat = j by omega, show ((j : Int) + 1).toNat = j + 1 by omega]
  · rintro ⟨n, n1, n8, h | h⟩
    · obtain ⟨ha, hp, h1, he, rfl, rfl⟩ := wo_ok h
      obtain ⟨a1, a2, a3, a4, a5⟩ := chk_zero.1 ha
      have h0 := pos_nonneg l n
      have hle := pos_le l n
      have hlen : (l.eraseIdx (pos l n - 1).toNat).length = l.length - 1 := List.length_eraseIdx_of_lt (by omega)
      refine ⟨⟨ha, chk_zero.2 ⟨by omega, by omega, by omega, by omega, okl_erase a5 _⟩, rfl⟩, ?_⟩
      rw [if_neg (by omega), Bool.and_eq_true, decide_eq_true_eq, del_iff]
      exact ⟨by omega, _, by omega, rfl⟩
    · obtain ⟨ha, h1, h8, hp, he, rfl, rfl⟩ := wi_ok h
      obtain ⟨a1, a2, a3, a4, a5⟩ := chk_zero.1 ha
      have hk : okl [] (l ++ [n]) = true := okl_snoc.2 ⟨a5, h1, h8, (pos_zero l n).1 hp⟩
      have hlen : (l ++ [n]).length = l.length + 1 := by simp
      have := okl_len _ hk
      refine ⟨⟨ha, chk_zero.2 ⟨by omega, by omega, by omega, by omega, hk⟩, rfl⟩, ?_⟩
      rw [if_pos (by omega), decide_eq_true_eq]
      exact ⟨hlen, by simp⟩
end Go.Proofs.Ytjhijklgpgdlaaa.CfgMath
