/- CfgRef: what the document's answer (hawserref16) computes, said by CfgMath. -/
import Derived.Test.YtjhijklgpgdlaaaCfgMath
import Derived.Test.YtjhijklgpgdlaaaGx1
import Derived.Test.YtjhijklgpgdlaaaGx2
import Derived.Test.YtjhijklgpgdlaaaGx1
import Derived.Test.YtjhijklgpgdlaaaGx1
import Derived.Test.YtjhijklgpgdlaaaGx6
import Derived.Test.YtjhijklgpgdlaaaGx5
namespace Go.Proofs.Ytjhijklgpgdlaaa.CfgMath
open Go.RowKit Go.Proofs.Ytjhijklgpgdlaaa.G Go.Proofs.YtjhijklgpgdlaaaW.PrintWords Go.Proofs.YtjhijklgpgdlaaaW.PrintLast Go.Proofs.YtjhijklgpgdlaaaW.PrintMore
set_option linter.unusedVariables false
set_option linter.unusedSimpArgs false
theorem rplace0 (l : List Int) (n : Int) (hl : l.length ≤ 1099511627776) : ∀ (d i : Nat), l.length - i = d → i ≤ l.length →
    Ev (fun k => hawserref16_place.l0 k l n (i : Int)) (if pos (l.drop i) n = 0 then -1 else i + pos (l.drop i) n - 1) := by
  intro d
  induction d with
  | zero =>
    intro i hd hi
    refine Ev.step (f := fun _ => some (-1)) (fun k => ?_) (by rw [List.drop_of_length_le (by omega)]; exact Ev.now _)
    simp only [hawserref16_place.l0]
    rw [if_neg (by omega)]
  | succ d ih =>
    intro i hd hi
    have hlt : i < l.length := by omega
    have hdrop : l.drop i = l[i] :: l.drop (i + 1) := List.drop_eq_getElem_cons hlt
    have h := ih (i + 1) (by omega) (by omega)
    have h0 := pos_nonneg (l.drop (i + 1)) n
    have hpe : pos (l.drop i) n = if l[i] = n then 1 else if pos (l.drop (i + 1)) n = 0 then 0 else pos (l.drop (i + 1)) n + 1 := by rw [hdrop]; rfl
    by_cases e : l[i] = n
    · have hp1 : pos (l.drop i) n = 1 := by rw [hpe, if_pos e]
      rw [hp1, if_neg (by omega)]
      refine Ev.step (f := fun _ => some (i : Int)) (fun k => ?_) (by rw [show (i : Int) + 1 - 1 = i by omega]; exact Ev.now (i : Int))
      simp only [hawserref16_place.l0]
      rw [if_pos (by omega), if_pos (by omega), rd_nat l i hlt, if_pos e]
    · have hp1 : pos (l.drop i) n = if pos (l.drop (i + 1)) n = 0 then 0 else pos (l.drop (i + 1)) n + 1 := by rw [hpe, if_neg e]
      refine Ev.step (fun k => ?_) (f := fun k => hawserref16_place.l0 k l n ((i + 1 : Nat) : Int)) ?_
      · simp only [hawserref16_place.l0]
        rw [if_pos (by omega), if_pos (by omega), rd_nat l i hlt, if_neg e, w64 (by omega) (by omega)]
        congr 1
      · by_cases z : pos (l.drop (i + 1)) n = 0
        · rw [if_pos z] at h hp1
          rw [hp1, if_pos rfl]; exact h
        · rw [if_neg z] at h hp1
          rw [hp1, if_neg (by omega)]
          have : (i : Int) + (pos (l.drop (i + 1)) n + 1) - 1 = ((i + 1 : Nat) : Int) + pos (l.drop (i + 1)) n - 1 := by omega
          rw [this]; exact h
theorem rplace_ev (l : List Int) (n : Int) (hl : l.length ≤ 1099511627776) : Ev (fun k => hawserref16_place.f k l n) (pos l n - 1) := by
  have := rplace0 l n hl l.length 0 (by omega) (by omega)
  rw [List.drop_zero] at this
  have e : (if pos l n = 0 then -1 else ((0 : Nat) : Int) + pos l n - 1) = pos l n - 1 := by split <;> omega
  rw [e] at this
  exact this
theorem okl_drop (l : List Int) (i : Nat) (h : i < l.length) : okl (l.take i) (l.drop i) = (decide (1 ≤ rd l i ∧ rd l i ≤ 8 ∧ pos (l.take i) (rd l i) = 0) && okl (l.take (i + 1)) (l.drop (i + 1))) := by
  rw [List.drop_eq_getElem_cons h, okl, rd_nat l i h, ← List.take_succ_eq_append_getElem h]
theorem rcheck0 (e : Int) (l : List Int) (hl : l.length ≤ 8) : ∀ (d i : Nat), l.length - i = d → i ≤ l.length →
    Ev (fun k => hawserref16_Check.l0 k (i : Int) e l) (if okl (l.take i) (l.drop i) = true then 0 else 161) := by
  intro d
  induction d with
  | zero =>
    intro i hd hi
    refine Ev.step (f := fun _ => some 0) (fun k => ?_) (by rw [List.drop_of_length_le (by omega)]; exact Ev.now _)
    simp only [hawserref16_Check.l0]
    rw [if_neg (by omega)]
  | succ d ih =>
    intro i hd hi
    have hlt : i < l.length := by omega
    have h := ih (i + 1) (by omega) (by omega)
    rw [okl_drop l i hlt]
    by_cases h1 : rd l i < 1
    · rw [show decide (1 ≤ rd l i ∧ rd l i ≤ 8 ∧ pos (l.take i) (rd l i) = 0) = false from decide_eq_false (by omega), Bool.false_and, if_neg (by simp)]
      refine Ev.step (f := fun _ => some 161) (fun k => ?_) (Ev.now _)
      simp only [hawserref16_Check.l0]
      rw [if_pos (by omega), if_pos (by omega), if_pos h1]
    · by_cases h8 : rd l i > 8
      · rw [show decide (1 ≤ rd l i ∧ rd l i ≤ 8 ∧ pos (l.take i) (rd l i) = 0) = false from decide_eq_false (by omega), Bool.false_and, if_neg (by simp)]
        refine Ev.step (f := fun _ => some 161) (fun k => ?_) (Ev.now _)
        simp only [hawserref16_Check.l0]
        rw [if_pos (by omega), if_pos (by omega), if_neg h1, if_pos h8]
      · have hp := rplace_ev (l.take i) (rd l i) (by rw [List.length_take]; omega)
        have h0 := pos_nonneg (l.take i) (rd l i)
        have hs : ∀ k, hawserref16_Check.l0 (k + 1) (i : Int) e l = (hawserref16_place.f k (l.take i) (rd l i)).bind fun t => (if t ≥ 0 then (some 161) else (hawserref16_Check.l0 k ((i + 1 : Nat) : Int) e l)) := by
          intro k
          simp only [hawserref16_Check.l0]
          rw [if_pos (by omega), if_pos (by omega), if_neg h1, if_neg h8, w64 (by omega) (by omega)]
          rfl
        refine Ev.step hs (Ev.bind hp ?_)
        by_cases z : pos (l.take i) (rd l i) = 0
        · rw [show decide (1 ≤ rd l i ∧ rd l i ≤ 8 ∧ pos (l.take i) (rd l i) = 0) = true from decide_eq_true (by omega), Bool.true_and]
          refine Ev.congr (fun k => ?_) h
          rw [if_neg (by omega)]
        · rw [show decide (1 ≤ rd l i ∧ rd l i ≤ 8 ∧ pos (l.take i) (rd l i) = 0) = false from decide_eq_false (by omega), Bool.false_and, if_neg (by simp)]
          refine Ev.congr (f := fun _ => some 161) (fun k => ?_) (Ev.now _)
          rw [if_pos (by omega)]
theorem rcheck_ev (e : Int) (l : List Int) : Ev (fun k => hawserref16_Check.f k e l) (chk e l) := by
  unfold chk
  have j1 : ∀ b, (b = true ↔ (l.length < 1 ∨ 8 < l.length)) → Ev (fun k => hawserref16_Check.j1 k b e l) (if l.length < 1 ∨ 8 < l.length then 162 else if okl [] l = true then 0 else 161) := by
    intro b hb
    by_cases h : l.length < 1 ∨ 8 < l.length
    · rw [if_pos h]
      refine Ev.step (f := fun _ => some 162) (fun k => ?_) (Ev.now _)
      simp only [hawserref16_Check.j1]
      rw [if_pos (hb.2 h)]
    · rw [if_neg h]
      have := rcheck0 e l (by omega) l.length 0 (by omega) (by omega)
      refine Ev.step (fun k => ?_) (by simpa using this)
      simp only [hawserref16_Check.j1]
      rw [if_neg (fun x => h (hb.1 x))]
  have j0 : ∀ b, (b = true ↔ (e < 1 ∨ 1099511627776 < e)) → Ev (fun k => hawserref16_Check.j0 k b e l) (if e < 1 ∨ 1099511627776 < e then 160 else if l.length < 1 ∨ 8 < l.length then 162 else if okl [] l = true then 0 else 161) := by
    intro b hb
    by_cases h : e < 1 ∨ 1099511627776 < e
    · rw [if_pos h]
      refine Ev.step (f := fun _ => some 160) (fun k => ?_) (Ev.now _)
      simp only [hawserref16_Check.j0]
      rw [if_pos (hb.2 h)]
    · rw [if_neg h]
      by_cases h1 : (l.length : Int) < 1
      · refine Ev.step (fun k => ?_) (j1 true ⟨fun _ => by omega, fun _ => rfl⟩)
        simp only [hawserref16_Check.j0]
        rw [if_neg (fun x => h (hb.1 x)), if_pos h1]
      · refine Ev.step (fun k => ?_) (j1 (decide ((l.length : Int) > 8)) ⟨fun x => by have := of_decide_eq_true x; omega, fun x => decide_eq_true (by omega)⟩)
        simp only [hawserref16_Check.j0]
        rw [if_neg (fun x => h (hb.1 x)), if_neg h1]
  by_cases h1 : e < 1
  · refine Ev.congr (fun k => ?_) (j0 true ⟨fun _ => .inl h1, fun _ => rfl⟩)
    unfold hawserref16_Check.f
    rw [if_pos h1]
  · refine Ev.congr (fun k => ?_) (j0 (decide (e > 1099511627776)) ⟨fun x => .inr (of_decide_eq_true x), fun x => decide_eq_true (by omega)⟩)
    unfold hawserref16_Check.f
    rw [if_neg h1]
theorem ralike0 (a b : Int) (l m : List Int) (hl : l.length ≤ 1099511627776) : ∀ (d i : Nat), l.length - i = d → i ≤ l.length → i ≤ m.length →
    Ev (fun k => hawserref16_Alike.l0 k (i : Int) a l b m) (decide (a = b ∧ l.drop i = m.drop i)) := by
  have fin : ∀ (i : Nat), i ≤ l.length → i ≤ m.length → (i = l.length ∨ i = m.length) → Ev (fun k => hawserref16_Alike.j1 k (i : Int) false a l b m) (decide (a = b ∧ l.drop i = m.drop i)) := by
    intro i hi hm he
    have hz : (l.drop i = m.drop i) ↔ ((l.length : Int) = (m.length : Int)) := by
      constructor
      · intro h
        have := congrArg List.length h
        simp only [List.length_drop] at this
        omega
      · intro h
        rw [List.drop_of_length_le (by omega), List.drop_of_length_le (by omega)]
    refine Ev.step (f := fun _ => some (decide (a = b ∧ l.drop i = m.drop i))) (fun k => ?_) (Ev.now _)
    simp only [hawserref16_Alike.j1]
    rw [if_neg (by simp)]
    by_cases h : a = b
    · rw [if_pos h]
      congr 1
      rw [Bool.eq_iff_iff, beq_iff_eq, decide_eq_true_eq, hz]
      exact ⟨fun x => ⟨h, x⟩, fun x => x.2⟩
    · rw [if_neg h, decide_eq_false (fun x => h x.1)]
  intro d
  induction d with
  | zero =>
    intro i hd hi hm
    refine Ev.step (fun k => ?_) (fin i hi hm (.inl (by omega)))
    simp only [hawserref16_Alike.l0]
    rw [if_neg (by omega)]
  | succ d ih =>
    intro i hd hi hm
    have hlt : i < l.length := by omega
    by_cases hmm : i < m.length
    · have hd1 : l.drop i = l[i] :: l.drop (i + 1) := List.drop_eq_getElem_cons hlt
      have hd2 : m.drop i = m[i] :: m.drop (i + 1) := List.drop_eq_getElem_cons hmm
      have j1 : Ev (fun k => hawserref16_Alike.j1 k (i : Int) true a l b m) (decide (a = b ∧ l.drop i = m.drop i)) := by
        by_cases hx : l[i] = m[i]
        · have h := ih (i + 1) (by omega) (by omega) (by omega)
          have he : (a = b ∧ l.drop i = m.drop i) ↔ (a = b ∧ l.drop (i + 1) = m.drop (i + 1)) := by
            rw [hd1, hd2, hx]
            exact ⟨fun x => ⟨x.1, (List.cons.inj x.2).2⟩, fun x => ⟨x.1, by rw [x.2]⟩⟩
          rw [show decide (a = b ∧ l.drop i = m.drop i) = decide (a = b ∧ l.drop (i + 1) = m.drop (i + 1)) from by rw [Bool.eq_iff_iff]; simp only [decide_eq_true_eq]; exact he]
          refine Ev.step (fun k => ?_) h
          simp only [hawserref16_Alike.j1]
          rw [if_pos True.intro, if_pos (by omega), if_pos (by omega), if_pos (by omega), rd_nat l i hlt, rd_nat m i hmm, if_pos hx, w64 (by omega) (by omega)]
          rfl
        · rw [decide_eq_false (fun x => hx (by have := x.2; rw [hd1, hd2] at this; exact (List.cons.inj this).1))]
          refine Ev.step (f := fun _ => some false) (fun k => ?_) (Ev.now _)
          simp only [hawserref16_Alike.j1]
          rw [if_pos True.intro, if_pos (by omega), if_pos (by omega), if_pos (by omega), rd_nat l i hlt, rd_nat m i hmm, if_neg hx]
      refine Ev.step (fun k => ?_) j1
      simp only [hawserref16_Alike.l0]
      rw [if_pos (by omega), decide_eq_true (by omega)]
    · refine Ev.step (fun k => ?_) (fin i hi hm (.inr (by omega)))
      simp only [hawserref16_Alike.l0]
      rw [if_pos (by omega), decide_eq_false (by omega)]
theorem ralike_ev (a b : Int) (l m : List Int) (hl : l.length ≤ 1099511627776) : Ev (fun k => hawserref16_Alike.f k a l b m) (decide (a = b ∧ l = m)) := by
  have := ralike0 a b l m hl l.length 0 (by omega) (by omega) (by omega)
  rw [List.drop_zero, List.drop_zero] at this
  exact this
theorem kept_ev (e : Int) (l : List Int) (hl : l.length ≤ 1099511627776) : Ev (fun k => hawserlaw16_kept.f k e l e l) true := by
  have := ralike_ev e e l l hl
  rw [decide_eq_true ⟨rfl, rfl⟩] at this
  exact this
theorem twin_f (e : Int) (l : List Int) (hl : l.length ≤ 1099511627776) : hawserlaw16_twin.f e l = some (e, l) := if_pos hl
end Go.Proofs.Ytjhijklgpgdlaaa.CfgMath
