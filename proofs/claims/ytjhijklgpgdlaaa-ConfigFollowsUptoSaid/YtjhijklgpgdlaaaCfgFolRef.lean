/- CfgFolRef: what hawserref16.Follows computes. -/
import Derived.Test.YtjhijklgpgdlaaaCfgFolMath
import Derived.Test.YtjhijklgpgdlaaaCfgStep
import Derived.Test.YtjhijklgpgdlaaaGx9
namespace Go.Proofs.Ytjhijklgpgdlaaa.CfgMath
open Go.RowKit Go.Proofs.Ytjhijklgpgdlaaa.G Go.Proofs.YtjhijklgpgdlaaaW.PrintWords Go.Proofs.YtjhijklgpgdlaaaW.PrintLast Go.Proofs.YtjhijklgpgdlaaaW.PrintMore
set_option linter.unusedVariables false
set_option linter.unusedSimpArgs false
theorem wo_len (e : Int) (l : List Int) (n : Int) : (wo e l n).2.1.length ≤ 8 := by
  unfold wo
  split
  · simp
  · rename_i hc
    have := (chk_zero.1 (Classical.not_not.1 hc)).2.2.2.1
    split
    · simp
    · split
      · simp
      · split
        · simp
        · show (l.take (pos l n - 1).toNat ++ l.drop (pos l n).toNat).length ≤ 8
          rename_i hp _ _
          have h0 := pos_nonneg l n
          rw [List.length_append, List.length_take, List.length_drop]; omega
theorem wi_len (e : Int) (l : List Int) (n : Int) : (wi e l n).2.1.length ≤ 9 := by
  unfold wi
  split
  · simp
  · rename_i hc
    have := (chk_zero.1 (Classical.not_not.1 hc)).2.2.2.1
    split
    · simp
    · split
      · simp
      · show (l ++ [n]).length ≤ 9
        rw [List.length_append]; simp only [List.length_cons, List.length_nil]; omega
/-- One number's answer. -/
def hit (a : Int) (l : List Int) (b : Int) (m : List Int) (n : Int) : Bool := decide (wo a l n = (b, m, 0)) || decide (wi a l n = (b, m, 0))
theorem triple {x : Int × List Int × Int} {b : Int} {m : List Int} : x = (b, m, 0) ↔ x.2.2 = 0 ∧ x.1 = b ∧ x.2.1 = m := by
  obtain ⟨p, q, r⟩ := x
  constructor
  · intro h; cases h; exact ⟨rfl, rfl, rfl⟩
  · rintro ⟨h1, h2, h3⟩
    have h1 : r = 0 := h1
    have h2 : p = b := h2
    have h3 : q = m := h3
    rw [h1, h2, h3]
theorem rfol0 (a : Int) (l : List Int) (b : Int) (m : List Int) : ∀ (d i : Nat), 9 - i = d → i ≤ 9 →
    Ev (fun k => hawserref16_Follows.l0 k (i : Int) a l b m) (((List.range d).map fun j : Nat => (i : Int) + j).any (hit a l b m)) := by
  intro d
  induction d with
  | zero =>
    intro i hd hi
    refine Ev.step (f := fun _ => some false) (fun k => ?_) (Ev.now _)
    simp only [hawserref16_Follows.l0]
    rw [if_neg (by omega)]
  | succ d ih =>
    intro i hd hi
    have h := ih (i + 1) (by omega) (by omega)
    have hr : ((List.range (d + 1)).map fun j : Nat => (i : Int) + j).any (hit a l b m) = (hit a l b m (i : Int) || (((List.range d).map fun j : Nat => ((i + 1 : Nat) : Int) + j).any (hit a l b m))) := by
      rw [List.range_succ_eq_map, List.map_cons, List.any_cons, List.map_map]
      have e0 : (i : Int) + ((0 : Nat) : Int) = (i : Int) := by omega
      rw [e0]
      congr 2
      apply List.map_congr_left
      intro j _
      show (i : Int) + ((j + 1 : Nat) : Int) = ((i + 1 : Nat) : Int) + j
      omega
    rw [hr]
    have h1 := rwithout_ev a l (i : Int)
    have h2 := rwith_ev a l (i : Int)
    have l1 := wo_len a l (i : Int)
    have l2 := wi_len a l (i : Int)
    unfold hit
    generalize wo a l (i : Int) = x at h1 l1
    generalize wi a l (i : Int) = y at h2 l2
    have a1 := ralike_ev x.1 b x.2.1 m (by omega)
    have a2 := ralike_ev y.1 b y.2.1 m (by omega)
    have hs : ∀ k, hawserref16_Follows.l0 (k + 1) (i : Int) a l b m = (hawserref16_Without.f k a l (i : Int)).bind fun bt494 => ((hawserref16_With.f k a l (i : Int)).bind fun bt500 => (if bt494.2.2 = 0 then ((hawserref16_Alike.f k bt494.1 bt494.2.1 b m).bind fun t506 => (if t506 = true then (some true) else (if bt500.2.2 = 0 then ((hawserref16_Alike.f k bt500.1 bt500.2.1 b m).bind fun t507 => (if t507 = true then (some true) else (hawserref16_Follows.l0 k ((i + 1 : Nat) : Int) a l b m))) else (hawserref16_Follows.l0 k ((i + 1 : Nat) : Int) a l b m)))) else (if bt500.2.2 = 0 then ((hawserref16_Alike.f k bt500.1 bt500.2.1 b m).bind fun t508 => (if t508 = true then (some true) else (hawserref16_Follows.l0 k ((i + 1 : Nat) : Int) a l b m))) else (hawserref16_Follows.l0 k ((i + 1 : Nat) : Int) a l b m)))) := by
      intro k
      simp only [hawserref16_Follows.l0]
      rw [if_pos (by omega), w64 (by omega) (by omega)]
      rfl
    refine Ev.step hs (Ev.bind h1 (Ev.bind h2 ?_))
    -- behind the first: With's answer
    have tail : Ev (fun k => (if y.2.2 = 0 then ((hawserref16_Alike.f k y.1 y.2.1 b m).bind fun t507 => (if t507 = true then (some true) else (hawserref16_Follows.l0 k ((i + 1 : Nat) : Int) a l b m))) else (hawserref16_Follows.l0 k ((i + 1 : Nat) : Int) a l b m))) (decide (y = (b, m, 0)) || (((List.range d).map fun j : Nat => ((i + 1 : Nat) : Int) + j).any (hit a l b m))) := by
      by_cases hy : y.2.2 = 0
      · refine Ev.congr (fun k => if_pos hy) (Ev.bind a2 ?_)
        by_cases hq : y.1 = b ∧ y.2.1 = m
        · rw [decide_eq_true hq, decide_eq_true (triple.2 ⟨hy, hq.1, hq.2⟩), Bool.true_or]
          exact Ev.congr (f := fun _ => some true) (fun k => if_pos rfl) (Ev.now _)
        · rw [decide_eq_false hq, decide_eq_false (fun e => hq ⟨(triple.1 e).2.1, (triple.1 e).2.2⟩), Bool.false_or]
          exact Ev.congr (fun k => if_neg (by simp)) h
      · rw [decide_eq_false (fun e => hy (triple.1 e).1), Bool.false_or]
        exact Ev.congr (fun k => if_neg hy) h
    rw [Bool.or_assoc]
    by_cases hx : x.2.2 = 0
    · refine Ev.congr (fun k => if_pos hx) (Ev.bind a1 ?_)
      by_cases hq : x.1 = b ∧ x.2.1 = m
      · rw [decide_eq_true hq, decide_eq_true (triple.2 ⟨hx, hq.1, hq.2⟩), Bool.true_or]
        exact Ev.congr (f := fun _ => some true) (fun k => if_pos rfl) (Ev.now _)
      · rw [decide_eq_false hq, decide_eq_false (fun e => hq ⟨(triple.1 e).2.1, (triple.1 e).2.2⟩), Bool.false_or]
        exact Ev.congr (fun k => if_neg (by simp)) tail
    · rw [decide_eq_false (fun e => hx (triple.1 e).1), Bool.false_or]
      exact Ev.congr (fun k => if_neg hx) tail
theorem rfollows_ev (a : Int) (l : List Int) (b : Int) (m : List Int) : Ev (fun k => hawserref16_Follows.f k a l b m) (fol a l b m) := by
  rw [fol_eq]
  exact rfol0 a l b m 8 1 (by omega) (by omega)
end Go.Proofs.Ytjhijklgpgdlaaa.CfgMath
