/- CfgMath: what a chain's places are, and when a configuration may be: in plain Lean. -/
import Derived.Test.YtjhijklgpgdlaaaGx10
import Derived.Test.YtjhijklgpgdlaaaGx10
import Derived.Test.YtjhijklgpgdlaaaGx9
import Derived.Test.YtjhijklgpgdlaaaGx2
import Derived.Test.YtjhijklgpgdlaaaGx9
import Derived.Test.YtjhijklgpgdlaaaGx12
namespace Go.Proofs.Ytjhijklgpgdlaaa.CfgMath
open Go.RowKit Go.Proofs.Ytjhijklgpgdlaaa.G Go.Proofs.YtjhijklgpgdlaaaW.PrintWords Go.Proofs.YtjhijklgpgdlaaaW.PrintLast Go.Proofs.YtjhijklgpgdlaaaW.PrintMore
set_option linter.unusedVariables false
set_option linter.unusedSimpArgs false

theorem w64 {n : Int} (h0 : -9223372036854775808 ≤ n) (h1 : n ≤ 9223372036854775807) : wrap64 n = n := by unfold wrap64; omega
/-- A node's place, from 1 on; 0: it is not there. -/
def pos : List Int → Int → Int
  | [], _ => 0
  | x :: l, n => if x = n then 1 else if pos l n = 0 then 0 else pos l n + 1
theorem pos_nonneg : ∀ (l : List Int) (n : Int), 0 ≤ pos l n
  | [], _ => by simp [pos]
  | x :: l, n => by
    have := pos_nonneg l n
    simp only [pos]
    split
    · omega
    · split <;> omega
theorem pos_le : ∀ (l : List Int) (n : Int), pos l n ≤ l.length
  | [], _ => by simp [pos]
  | x :: l, n => by
    have := pos_le l n
    simp only [pos, List.length_cons]
    have h0 := pos_nonneg l n
    split
    · omega
    · split <;> omega
theorem pos_zero : ∀ (l : List Int) (n : Int), pos l n = 0 ↔ n ∉ l
  | [], _ => by simp [pos]
  | x :: l, n => by
    have h := pos_zero l n
    have h0 := pos_nonneg l n
    simp only [pos, List.mem_cons, not_or]
    by_cases e : x = n
    · rw [if_pos e]; constructor
      · intro h; omega
      · rintro ⟨h, _⟩; exact absurd e.symm h
    · rw [if_neg e]
      by_cases z : pos l n = 0
      · rw [if_pos z]; exact ⟨fun _ => ⟨fun h => e h.symm, h.1 z⟩, fun _ => rfl⟩
      · rw [if_neg z]; constructor
        · intro h; omega
        · rintro ⟨_, hn⟩; exact absurd (h.2 hn) z
theorem pos_rd : ∀ (l : List Int) (n : Int), pos l n ≠ 0 → rd l (pos l n - 1) = n
  | [], _, h => absurd (by simp [pos]) h
  | x :: l, n, h => by
    have ih := pos_rd l n
    have h0 := pos_nonneg l n
    simp only [pos] at h ⊢
    by_cases e : x = n
    · simp only [if_pos e]; simp [rd, e]
    · simp only [if_neg e] at h ⊢
      by_cases z : pos l n = 0
      · simp only [if_pos z] at h; exact absurd rfl h
      · simp only [if_neg z] at h ⊢
        have := ih z
        have e1 : (pos l n + 1 - 1).toNat = (pos l n - 1).toNat + 1 := by omega
        unfold rd at this ⊢
        rw [e1, List.getD_cons_succ]
        exact this
theorem pos_app : ∀ (l m : List Int) (n : Int), pos (l ++ m) n = if pos l n ≠ 0 then pos l n else if pos m n = 0 then 0 else l.length + pos m n
  | [], m, n => by simp [pos]
  | x :: l, m, n => by
    have ih := pos_app l m n
    have h0 := pos_nonneg l n
    have h1 := pos_nonneg m n
    simp only [List.cons_append, pos, List.length_cons]
    by_cases e : x = n
    · simp [e]
    · rw [if_neg e, if_neg e, ih]
      by_cases z : pos l n = 0
      · rw [if_pos z, if_neg (show ¬ pos l n ≠ 0 by omega), if_neg (show ¬ (0 : Int) ≠ 0 by omega)]
        by_cases y : pos m n = 0
        · rw [if_pos y, if_pos y, if_pos rfl]
        · rw [if_neg y, if_neg y, if_neg (by omega)]
          omega
      · rw [if_pos z, if_neg z, if_pos (by omega)]
theorem pos_one (n m : Int) : pos [n] m = if n = m then 1 else 0 := by simp [pos]
/-- May these nodes come behind those? -/
def okl : List Int → List Int → Bool
  | _, [] => true
  | s, n :: l => decide (1 ≤ n ∧ n ≤ 8 ∧ pos s n = 0) && okl (s ++ [n]) l
theorem okl_iff : ∀ (l s : List Int), okl s l = true ↔ ((∀ x ∈ l, 1 ≤ x ∧ x ≤ 8) ∧ l.Nodup ∧ ∀ x ∈ l, x ∉ s)
  | [], s => by simp [okl]
  | n :: l, s => by
    simp only [okl, Bool.and_eq_true, decide_eq_true_eq, okl_iff l (s ++ [n]), pos_zero, List.mem_cons, List.nodup_cons, List.mem_append, List.mem_singleton, List.not_mem_nil, or_false]
    constructor
    · rintro ⟨⟨a, b, c⟩, d, e, f⟩
      refine ⟨?_, ⟨?_, e⟩, ?_⟩
      · rintro x (rfl | hx)
        · exact ⟨a, b⟩
        · exact d x hx
      · intro hn; exact f n hn (.inr rfl)
      · rintro x (rfl | hx)
        · exact c
        · intro hs; exact f x hx (.inl hs)
    · rintro ⟨a, ⟨b, c⟩, d⟩
      refine ⟨⟨(a n (.inl rfl)).1, (a n (.inl rfl)).2, d n (.inl rfl)⟩, fun x hx => a x (.inr hx), c, ?_⟩
      rintro x hx (hs | rfl)
      · exact d x (.inr hx) hs
      · exact b hx
theorem getD_set (a : List Int) (i j : Nat) (x : Int) (h : i < a.length) : (a.set i x).getD j 0 = if i = j then x else a.getD j 0 := by
  simp only [List.getD_eq_getElem?_getD, List.getElem?_set]
  by_cases e : i = j
  · subst e; simp [h]
  · simp [e]
theorem plc_spec : ∀ (l s a : List Int), (∀ m : Int, 1 ≤ m → m ≤ 8 → a.getD m.toNat 0 = pos s m) → a.length = 9 →
    (okl s l = true → ∃ b, plc l s.length a = some b ∧ ∀ m : Int, 1 ≤ m → m ≤ 8 → b.getD m.toNat 0 = pos (s ++ l) m) ∧ (okl s l = false → plc l s.length a = none)
  | [], s, a, h, _ => by
    refine ⟨fun _ => ⟨a, rfl, fun m h1 h8 => by rw [List.append_nil]; exact h m h1 h8⟩, fun h => by simp [okl] at h⟩
  | n :: l, s, a, h, h9 => by
    have key : (n < 1 ∨ 8 < n ∨ 0 < a.getD n.toNat 0) ↔ ¬ (1 ≤ n ∧ n ≤ 8 ∧ pos s n = 0) := by
      by_cases h1 : 1 ≤ n
      · by_cases h8 : n ≤ 8
        · rw [h n h1 h8]; have := pos_nonneg s n; omega
        · omega
      · omega
    have e : (s ++ [n]).length = s.length + 1 := by simp
    by_cases hb : 1 ≤ n ∧ n ≤ 8 ∧ pos s n = 0
    · obtain ⟨h1, h8, hp⟩ := hb
      have ih := plc_spec l (s ++ [n]) (a.set n.toNat ((s.length : Int) + 1)) (by
        intro m m1 m8
        rw [getD_set _ _ _ _ (by omega), pos_app, pos_one]
        by_cases e : n = m
        · subst e; rw [if_pos rfl, hp]; simp
        · rw [if_neg (by omega), h m m1 m8, if_neg e]
          by_cases z : pos s m = 0 <;> simp [z]) (by rw [List.length_set]; exact h9)
      simp only [plc, okl]
      rw [if_neg (by rw [key]; exact not_not_intro ⟨h1, h8, hp⟩), show decide (1 ≤ n ∧ n ≤ 8 ∧ pos s n = 0) = true from decide_eq_true ⟨h1, h8, hp⟩, Bool.true_and]
      rw [e] at ih
      simpa [List.append_assoc] using ih
    · simp only [plc, okl]
      rw [if_pos (key.2 hb), show decide (1 ≤ n ∧ n ≤ 8 ∧ pos s n = 0) = false from decide_eq_false hb, Bool.false_and]
      exact ⟨fun h => by simp at h, fun _ => rfl⟩
theorem zeros (m : Int) (h1 : 1 ≤ m) (h8 : m ≤ 8) : zeros9.getD m.toNat 0 = pos [] m := by
  simp only [pos]
  have : m = 1 ∨ m = 2 ∨ m = 3 ∨ m = 4 ∨ m = 5 ∨ m = 6 ∨ m = 7 ∨ m = 8 := by omega
  rcases this with rfl | rfl | rfl | rfl | rfl | rfl | rfl | rfl <;> rfl
/-- May a configuration be? -/
def chk (e : Int) (l : List Int) : Int := if e < 1 ∨ 1099511627776 < e then 160 else if l.length < 1 ∨ 8 < l.length then 162 else if okl [] l = true then 0 else 161
theorem cfgCheck_eq (e : Int) (l : List Int) : cfgCheck e l = chk e l := by
  have h := plc_spec l [] zeros9 zeros rfl
  unfold cfgCheck chk
  by_cases a : okl [] l = true
  · obtain ⟨b, hb, _⟩ := h.1 a
    rw [if_pos a, show plc l 0 zeros9 = some b from hb]
    rfl
  · rw [if_neg a, show plc l 0 zeros9 = none from h.2 (by simpa using a)]
    rfl
theorem chk_zero {e : Int} {l : List Int} : chk e l = 0 ↔ 1 ≤ e ∧ e ≤ 1099511627776 ∧ 1 ≤ l.length ∧ l.length ≤ 8 ∧ okl [] l = true := by
  unfold chk
  constructor
  · intro h
    split at h
    · omega
    · split at h
      · omega
      · split at h
        · rename_i h1 h2 h3; exact ⟨by omega, by omega, by omega, by omega, h3⟩
        · omega
  · rintro ⟨a, b, c, d, g⟩
    rw [if_neg (by omega), if_neg (by omega), if_pos g]
theorem cfgPlace_eq (e : Int) (l : List Int) (n : Int) : cfgPlace e l n = if chk e l = 0 then pos l n else 0 := by
  unfold cfgPlace
  rw [cfgCheck_eq]
  by_cases hc : chk e l = 0
  · rw [if_pos hc]
    have hg := (chk_zero.1 hc).2.2.2.2
    have hr := (okl_iff l []).1 hg
    by_cases hn : n < 1 ∨ 8 < n
    · rw [if_pos (by omega)]
      have : n ∉ l := fun h => by have := hr.1 n h; omega
      rw [(pos_zero l n).2 this]
    · rw [if_neg (by omega)]
      obtain ⟨b, hb, hm⟩ := (plc_spec l [] zeros9 zeros rfl).1 hg
      rw [show plc l 0 zeros9 = some b from hb]
      exact hm n (by omega) (by omega)
  · rw [if_neg hc, if_pos (by omega)]
theorem check_f (e : Int) (l : List Int) : config_Check.f e l = some (chk e l) := by rw [← cfgCheck_eq]; rfl
theorem place_f (e : Int) (l : List Int) (n : Int) : config_place.f e l n = some (if chk e l = 0 then pos l n else 0) := by rw [← cfgPlace_eq]; rfl
/-- The node in a place. -/
def nth (e : Int) (l : List Int) (p : Int) : Int := if 1 ≤ p ∧ p ≤ l.length ∧ chk e l = 0 then rd l (p - 1) else 0
theorem at_f (e : Int) (l : List Int) (p : Int) (hl : l.length ≤ 1099511627776) : config_at.f e l p = some (nth e l p) := by
  unfold config_at.f nth
  by_cases h1 : p < 1
  · rw [if_pos h1, if_neg (by omega)]
  · rw [if_neg h1]
    by_cases h2 : p > (l.length : Int)
    · rw [if_pos h2, if_neg (by omega)]
    · rw [if_neg h2, check_f, Option.bind_some]
      by_cases h3 : chk e l = 0
      · rw [if_pos h3, w64 (by omega) (by omega), if_pos (by omega), if_pos (by omega), if_pos ⟨by omega, by omega, h3⟩]
      · rw [if_neg h3, if_neg (by omega)]
theorem head_f (e : Int) (l : List Int) (hl : l.length ≤ 1099511627776) : config_Head.f e l = some (nth e l 1) := by
  unfold config_Head.f; rw [at_f _ _ _ hl]; rfl
theorem tail_f (e : Int) (l : List Int) (hl : l.length ≤ 1099511627776) : config_Tail.f e l = some (nth e l l.length) := by
  unfold config_Tail.f; rw [at_f _ _ _ hl]; rfl
theorem prev_f (e : Int) (l : List Int) (n : Int) (hl : l.length ≤ 1099511627776) : config_Prev.f e l n = some (nth e l ((if chk e l = 0 then pos l n else 0) - 1)) := by
  have h0 := pos_nonneg l n
  have h1 := pos_le l n
  unfold config_Prev.f
  rw [place_f, Option.bind_some, w64 (by split <;> omega) (by split <;> omega), at_f _ _ _ hl]; rfl
theorem next_f (e : Int) (l : List Int) (n : Int) (hl : l.length ≤ 1099511627776) : config_Next.f e l n = some (if (if chk e l = 0 then pos l n else 0) = 0 then 0 else nth e l ((if chk e l = 0 then pos l n else 0) + 1)) := by
  have h0 := pos_nonneg l n
  have h1 := pos_le l n
  unfold config_Next.f
  rw [place_f, Option.bind_some]
  generalize hp : (if chk e l = 0 then pos l n else 0) = p
  have hp' : 0 ≤ p ∧ p ≤ l.length := by subst hp; split <;> omega
  by_cases z : p = 0
  · rw [if_pos z, if_pos z]
  · rw [if_neg z, if_neg z, w64 (by omega) (by omega), at_f _ _ _ hl]; rfl
def role (e : Int) (l : List Int) (n : Int) : Int := if chk e l = 0 ∧ pos l n ≠ 0 then (if l.length = 1 then 4 else if pos l n = 1 then 1 else if pos l n = l.length then 3 else 2) else 0
theorem role_f (e : Int) (l : List Int) (n : Int) : config_Role.f e l n = some (role e l n) := by
  unfold config_Role.f role
  rw [place_f, Option.bind_some]
  by_cases h : chk e l = 0
  · by_cases z : pos l n = 0
    · rw [if_pos h, if_pos z, if_neg (show ¬ (chk e l = 0 ∧ pos l n ≠ 0) by omega)]
    · rw [if_pos (show chk e l = 0 ∧ pos l n ≠ 0 from ⟨h, z⟩), if_pos h, if_neg z]
      by_cases h1 : l.length = 1
      · rw [if_pos (show (l.length : Int) = 1 by omega), if_pos h1]
      · rw [if_neg (show ¬ (l.length : Int) = 1 by omega), if_neg h1]
        by_cases h2 : pos l n = 1
        · rw [if_pos h2, if_pos h2]
        · rw [if_neg h2, if_neg h2]
          by_cases h3 : pos l n = l.length
          · rw [if_pos h3, if_pos h3]
          · rw [if_neg h3, if_neg h3]
  · rw [if_neg (show ¬ (chk e l = 0 ∧ pos l n ≠ 0) by omega), if_neg h, if_pos rfl]
end Go.Proofs.Ytjhijklgpgdlaaa.CfgMath
