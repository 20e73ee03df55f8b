/- CliRef: what the document's CheckConfig and Same compute: in plain Lean (as in Mst). -/
import Derived.Test.YtepkaaplhcbkbaaGreatCfgMath
import Derived.Test.YtepkaaplhcbkbaaGreatHx1
import Derived.Test.YtepkaaplhcbkbaaGreatHx3
namespace Go.Proofs.YtepkaaplhcbkbaaGreat.CliRef
open Go.RowKit Go.Proofs.YtepkaaplhcbkbaaGreat.G Go.Proofs.YtepkaaplhcbkbaaGreat.H Go.Proofs.YtepkaaplhcbkbaaGreat.CfgMath Go.Proofs.YtepkaaplhcbkbaaGreatW.PrintWords Go.Proofs.YtepkaaplhcbkbaaGreatW.PrintLast Go.Proofs.YtepkaaplhcbkbaaGreatW.PrintMore
set_option linter.unusedVariables false
set_option linter.unusedSimpArgs false
theorem cc1 (e : Int) (l : List Int) (n : Int) (i : Nat) (hi : i < l.length) (hl : l.length ≤ 8) : ∀ (d j m : Nat), i - j = d → j ≤ i →
    hawserref21_CheckConfig.l1 (m + d + 1) n l (l.length : Int) (i : Int) (l.take i) ((l.take i).length : Int) (j : Int) e l = if pos ((l.take i).drop j) n ≠ 0 then some 161 else hawserref21_CheckConfig.l0 m l (l.length : Int) ((i + 1 : Nat) : Int) e l := by
  have ht : (l.take i).length = i := by rw [List.length_take]; omega
  intro d
  induction d with
  | zero =>
    intro j m hd hj
    rw [hawserref21_CheckConfig.l1, if_neg (by omega), List.drop_of_length_le (by omega), w64 (by omega) (by omega), if_neg (by simp [pos])]
    congr 1
  | succ d ih =>
    intro j m hd hj
    have hlt : j < (l.take i).length := by omega
    have h0 := pos_nonneg ((l.take i).drop (j + 1)) n
    have hpe : pos ((l.take i).drop j) n = if (l.take i)[j] = n then 1 else if pos ((l.take i).drop (j + 1)) n = 0 then 0 else pos ((l.take i).drop (j + 1)) n + 1 := by rw [List.drop_eq_getElem_cons hlt]; rfl
    rw [show m + (d + 1) + 1 = (m + d + 1) + 1 by omega, hawserref21_CheckConfig.l1, if_pos (by omega), if_pos (by omega), if_pos (by omega), rd_nat (l.take i) j hlt]
    by_cases c : (l.take i)[j] = n
    · rw [if_pos c, hpe, if_pos c, if_pos (by omega)]
    · rw [if_neg c, w64 (by omega) (by omega), show ((j : Int) + 1) = ((j + 1 : Nat) : Int) by omega, ih (j + 1) m (by omega) (by omega), hpe, if_neg c]
      by_cases z : pos ((l.take i).drop (j + 1)) n = 0
      · rw [if_neg (by omega), if_neg (by rw [if_pos z]; omega)]
      · rw [if_pos z, if_pos (by rw [if_neg z]; omega)]
theorem okl_drop (l : List Int) (i : Nat) (h : i < l.length) : okl (l.take i) (l.drop i) = (decide (1 ≤ rd l i ∧ rd l i ≤ 8 ∧ pos (l.take i) (rd l i) = 0) && okl (l.take (i + 1)) (l.drop (i + 1))) := by
  rw [List.drop_eq_getElem_cons h, okl, rd_nat l i h, ← List.take_succ_eq_append_getElem h]
theorem cc0 (e : Int) (l : List Int) (hl : l.length ≤ 8) : ∀ (d i k : Nat), l.length - i = d → i ≤ l.length → 11 * d + 1 ≤ k →
    hawserref21_CheckConfig.l0 k l (l.length : Int) (i : Int) e l = some (if okl (l.take i) (l.drop i) = true then 0 else 161) := by
  intro d
  induction d with
  | zero =>
    intro i k hd hi hk
    obtain ⟨k, rfl⟩ : ∃ m, k = m + 1 := ⟨k - 1, by omega⟩
    rw [hawserref21_CheckConfig.l0, if_neg (by omega), List.drop_of_length_le (by omega)]
    rfl
  | succ d ih =>
    intro i k hd hi hk
    have hlt : i < l.length := by omega
    obtain ⟨m, rfl⟩ : ∃ m, k = (m + i + 1) + 1 + 1 := ⟨k - i - 3, by omega⟩
    have ht : (l.take i).length = i := by rw [List.length_take]; omega
    rw [okl_drop l i hlt, hawserref21_CheckConfig.l0, if_pos (by omega), if_pos (by omega), if_pos (by omega)]
    have j3 : ∀ b, (b = true ↔ (rd l (i : Int) < 1 ∨ 8 < rd l (i : Int))) → hawserref21_CheckConfig.j3 (m + i + 1 + 1) (i : Int) (rd l (i : Int)) l (l.length : Int) (i : Int) b e l = some (if (decide (1 ≤ rd l i ∧ rd l i ≤ 8 ∧ pos (l.take i) (rd l i) = 0) && okl (l.take (i + 1)) (l.drop (i + 1))) = true then 0 else 161) := by
      intro b hb
      rw [hawserref21_CheckConfig.j3]
      by_cases h : rd l (i : Int) < 1 ∨ 8 < rd l (i : Int)
      · rw [if_pos (hb.2 h), show decide (1 ≤ rd l i ∧ rd l i ≤ 8 ∧ pos (l.take i) (rd l i) = 0) = false from decide_eq_false (by omega), Bool.false_and, if_neg (by simp)]
      · rw [if_neg (fun x => h (hb.1 x)), if_pos (by omega), if_pos (by omega), Int.toNat_natCast]
        have := cc1 e l (rd l (i : Int)) i hlt hl i 0 m (by omega) (by omega)
        rw [Int.natCast_zero, List.drop_zero] at this
        rw [this]
        by_cases z : pos (l.take i) (rd l (i : Int)) = 0
        · rw [if_neg (by omega), ih (i + 1) m (by omega) (by omega) (by omega), show decide (1 ≤ rd l i ∧ rd l i ≤ 8 ∧ pos (l.take i) (rd l i) = 0) = true from decide_eq_true (by omega), Bool.true_and]
        · rw [if_pos z, show decide (1 ≤ rd l i ∧ rd l i ≤ 8 ∧ pos (l.take i) (rd l i) = 0) = false from decide_eq_false (by omega), Bool.false_and, if_neg (by simp)]
    by_cases h1 : rd l (i : Int) < 1
    · rw [if_pos h1]
      exact j3 true ⟨fun _ => .inl h1, fun _ => rfl⟩
    · rw [if_neg h1]
      exact j3 _ ⟨fun x => .inr (of_decide_eq_true x), fun x => decide_eq_true (by omega)⟩
theorem cc_at (e : Int) (l : List Int) (k : Nat) (hk : 95 ≤ k) : hawserref21_CheckConfig.f k e l = some (chk e l) := by
  obtain ⟨k, rfl⟩ : ∃ m, k = m + 1 + 1 := ⟨k - 2, by omega⟩
  unfold chk
  have j1 : ∀ b, (b = true ↔ (l.length < 1 ∨ 8 < l.length)) → hawserref21_CheckConfig.j1 (k + 1) b e l = some (if l.length < 1 ∨ 8 < l.length then 162 else if okl [] l = true then 0 else 161) := by
    intro b hb
    rw [hawserref21_CheckConfig.j1]
    by_cases h : l.length < 1 ∨ 8 < l.length
    · rw [if_pos h, if_pos (hb.2 h)]
    · rw [if_neg h, if_neg (fun x => h (hb.1 x))]
      have := cc0 e l (by omega) l.length 0 k (by omega) (by omega) (by omega)
      simpa using this
  have j0 : ∀ b, (b = true ↔ (e < 1 ∨ 1099511627776 < e)) → hawserref21_CheckConfig.j0 (k + 1 + 1) b e l = some (if e < 1 ∨ 1099511627776 < e then 160 else if l.length < 1 ∨ 8 < l.length then 162 else if okl [] l = true then 0 else 161) := by
    intro b hb
    rw [hawserref21_CheckConfig.j0]
    by_cases h : e < 1 ∨ 1099511627776 < e
    · rw [if_pos h, if_pos (hb.2 h)]
    · rw [if_neg h, if_neg (fun x => h (hb.1 x))]
      by_cases h1 : (l.length : Int) < 1
      · rw [if_pos h1]
        exact j1 true ⟨fun _ => by omega, fun _ => rfl⟩
      · rw [if_neg h1]
        exact j1 _ ⟨fun x => by have := of_decide_eq_true x; omega, fun x => decide_eq_true (by omega)⟩
  unfold hawserref21_CheckConfig.f
  by_cases h1 : e < 1
  · rw [if_pos h1]
    exact j0 true ⟨fun _ => .inl h1, fun _ => rfl⟩
  · rw [if_neg h1]
    exact j0 _ ⟨fun x => .inr (of_decide_eq_true x), fun x => decide_eq_true (by omega)⟩
theorem rsame0 (e : Int) (l : List Int) (a2 a3 a4 a5 : Int) (hl : l.length ≤ 1099511627776) : ∀ (d i : Nat), l.length - i = d → i ≤ l.length →
    Ev (fun k => hawserref21_Same.l0 k (l.length : Int) (i : Int) e l a2 a3 a4 a5 e l a2 a3 a4 a5) true := by
  intro d
  induction d with
  | zero =>
    intro i hd hi
    refine Ev.step (f := fun _ => some true) (fun k => ?_) (Ev.now _)
    rw [hawserref21_Same.l0, if_neg (by omega)]
  | succ d ih =>
    intro i hd hi
    have h := ih (i + 1) (by omega) (by omega)
    refine Ev.step (fun k => ?_) h
    rw [hawserref21_Same.l0, if_pos (by omega), if_pos (by omega), if_pos (by omega), if_pos (by omega), if_pos rfl, w64 (by omega) (by omega)]
    congr 1
theorem rsame_ev (e : Int) (l : List Int) (a2 a3 a4 a5 : Int) (hl : l.length ≤ 1099511627776) : Ev (fun k => hawserref21_Same.f k e l a2 a3 a4 a5 e l a2 a3 a4 a5) true := by
  have h := rsame0 e l a2 a3 a4 a5 hl l.length 0 (by omega) (by omega)
  refine Ev.congr (f := fun k => hawserref21_Same.j0 k false e l a2 a3 a4 a5 e l a2 a3 a4 a5) (fun k => ?_) (Ev.step (fun k => ?_) h)
  · unfold hawserref21_Same.f
    rw [if_pos rfl, if_pos rfl, if_pos rfl, if_pos rfl, if_pos rfl]
    congr 1
    simp
  · rw [hawserref21_Same.j0, if_neg (by simp)]
    congr 1
end Go.Proofs.YtepkaaplhcbkbaaGreat.CliRef
