/- CfgMay: what hawserlaw16.may and config.First compute: a chain that may be. -/
import Derived.Test.YtjhijklgpgdlaaaCfgFirst
import Derived.Test.YtjhijklgpgdlaaaGx4
namespace Go.Proofs.Ytjhijklgpgdlaaa.CfgMath
open Go.RowKit Go.Proofs.Ytjhijklgpgdlaaa.G Go.Proofs.YtjhijklgpgdlaaaW.PrintWords Go.Proofs.YtjhijklgpgdlaaaW.PrintLast Go.Proofs.YtjhijklgpgdlaaaW.PrintMore
set_option linter.unusedVariables false
set_option linter.unusedSimpArgs false
theorem may_l1 (l out : List Int) (i : Nat) (hi : i < l.length) (hl : l.length ≤ 1099511627776) (ho : out.length ≤ 8) (r : List Int)
    (h : Ev (fun k => hawserlaw16_may.l0 k l (nxt out (rd l i)) ((i + 1 : Nat) : Int)) r) : ∀ (d j : Nat), out.length - j = d → j ≤ out.length →
    Ev (fun k => hawserlaw16_may.l1 k l out (i : Int) (decide (rd l i ∈ out.take j)) (j : Int)) r := by
  intro d
  induction d with
  | zero =>
    intro j hd hj
    have hj : j = out.length := by omega
    subst hj
    refine Ev.step (fun k => ?_) h
    simp only [hawserlaw16_may.l1, List.take_length]
    rw [if_neg (by omega), w64 (by omega) (by omega)]
    unfold nxt
    by_cases hm : rd l i ∈ out
    · rw [decide_eq_true hm, if_pos rfl, if_neg (by simp [hm])]; rfl
    · rw [decide_eq_false hm, if_neg (by simp), if_pos (by omega), if_pos (by omega)]
      by_cases h1 : rd l i ≥ 1
      · rw [if_pos h1]
        by_cases h8 : rd l i ≤ 8
        · rw [if_pos h8, if_pos (by omega), if_pos ⟨hm, h1, h8⟩]; rfl
        · rw [if_neg h8, if_neg (by omega)]; rfl
      · rw [if_neg h1, if_neg (by omega)]; rfl
  | succ d ih =>
    intro j hd hj
    have hjl : j < out.length := by omega
    refine Ev.step (fun k => ?_) (ih (j + 1) (by omega) (by omega))
    have et : out.take (j + 1) = out.take j ++ [out[j]] := List.take_succ_eq_append_getElem hjl
    have er := rd_nat out j hjl
    simp only [hawserlaw16_may.l1]
    rw [if_pos (by omega), w64 (by omega) (by omega), et]
    by_cases hm : rd l i ∈ out.take j
    · rw [decide_eq_true hm, if_pos rfl, decide_eq_true (show rd l i ∈ out.take j ++ [out[j]] from List.mem_append.2 (.inl hm))]; rfl
    · rw [decide_eq_false hm, if_neg (by simp), if_pos (by omega), if_pos (by omega), if_pos (by omega), er]
      have : (out[j] == rd l i) = decide (rd l i ∈ out.take j ++ [out[j]]) := by
        rw [Bool.eq_iff_iff, beq_iff_eq, decide_eq_true_eq, List.mem_append, List.mem_singleton]
        exact ⟨fun e => .inr e.symm, fun e => (e.resolve_left hm).symm⟩
      rw [this]; rfl
theorem may_l0 (l : List Int) (hl : l.length ≤ 1099511627776) : ∀ (d i : Nat) (out : List Int), l.length - i = d → i ≤ l.length → okl [] out = true →
    ∃ m, Ev (fun k => hawserlaw16_may.l0 k l out (i : Int)) m ∧ 1 ≤ m.length ∧ okl [] m = true := by
  intro d
  induction d with
  | zero =>
    intro i out hd hi ho
    by_cases he : out.length = 0
    · refine ⟨[3], Ev.step (f := fun _ => some [3]) (fun k => ?_) (Ev.now _), by simp, by decide⟩
      simp only [hawserlaw16_may.l0]
      rw [if_neg (by omega), if_pos (by omega)]
    · refine ⟨out, Ev.step (f := fun _ => some out) (fun k => ?_) (Ev.now _), by omega, ho⟩
      simp only [hawserlaw16_may.l0]
      rw [if_neg (by omega), if_neg (by omega)]
  | succ d ih =>
    intro i out hd hi ho
    obtain ⟨m, hm, h1, h2⟩ := ih (i + 1) (nxt out (rd l i)) (by omega) (by omega) (okl_nxt _ _ ho)
    refine ⟨m, Ev.step (fun k => ?_) (may_l1 l out i (by omega) hl (okl_len out ho) m hm out.length 0 (by omega) (by omega)), h1, h2⟩
    simp only [hawserlaw16_may.l0]
    rw [if_pos (by omega)]
    simp
theorem may_ev (l : List Int) (hl : l.length ≤ 1099511627776) : ∃ m, Ev (fun k => hawserlaw16_may.f k l) m ∧ 1 ≤ m.length ∧ m.length ≤ 8 ∧ okl [] m = true := by
  obtain ⟨m, hm, h1, h2⟩ := may_l0 l hl l.length 0 [] (by omega) (by omega) rfl
  exact ⟨m, hm, h1, okl_len m h2, h2⟩
end Go.Proofs.Ytjhijklgpgdlaaa.CfgMath
