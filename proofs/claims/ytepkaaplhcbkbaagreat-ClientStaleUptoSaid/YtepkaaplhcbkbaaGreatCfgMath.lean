/- CfgMath: what a chain's places are, and when a configuration may be: in plain Lean. -/
import Derived.Test.YtepkaaplhcbkbaaGreatGx4
namespace Go.Proofs.YtepkaaplhcbkbaaGreat.CfgMath
open Go.RowKit Go.Proofs.YtepkaaplhcbkbaaGreat.G Go.Proofs.YtepkaaplhcbkbaaGreatW.PrintWords Go.Proofs.YtepkaaplhcbkbaaGreatW.PrintLast Go.Proofs.YtepkaaplhcbkbaaGreatW.PrintMore
set_option linter.unusedVariables false
set_option linter.unusedSimpArgs false
theorem w64 {n : Int} (h0 : -9223372036854775808 ≤ n) (h1 : n ≤ 9223372036854775807) : wrap64 n = n := by unfold wrap64; omega
/-- A node's place, from 1 on; 0: it is not there. -/
def pos : List Int → Int → Int
  | [], _ => 0
  | x :: l, n => if x = n then 1 else if pos l n = 0 then 0 else pos l n + 1
theorem pos_nonneg : ∀ (l : List Int) (n : Int), 0 ≤ pos l n
  | [], _ => by simp [pos]
  | x :: l, n => by
    have := pos_nonneg l n
    simp only [pos]
    split
    · omega
    · split <;> omega
theorem pos_le : ∀ (l : List Int) (n : Int), pos l n ≤ l.length
  | [], _ => by simp [pos]
  | x :: l, n => by
    have := pos_le l n
    simp only [pos, List.length_cons]
    have h0 := pos_nonneg l n
    split
    · omega
    · split <;> omega
theorem pos_zero : ∀ (l : List Int) (n : Int), pos l n = 0 ↔ n ∉ l
  | [], _ => by simp [pos]
  | x :: l, n => by
    have h := pos_zero l n
    have h0 := pos_nonneg l n
    simp only [pos, List.mem_cons, not_or]
    by_cases e : x = n
    · rw [if_pos e]; constructor
      · intro h; omega
      · rintro ⟨h, _⟩; exact absurd e.symm h
    · rw [if_neg e]
      by_cases z : pos l n = 0
      · rw [if_pos z]; exact ⟨fun _ => ⟨fun h => e h.symm, h.1 z⟩, fun _ => rfl⟩
      · rw [if_neg z]; constructor
        · intro h; omega
        · rintro ⟨_, hn⟩; exact absurd (h.2 hn) z
theorem pos_rd : ∀ (l : List Int) (n : Int), pos l n ≠ 0 → rd l (pos l n - 1) = n
  | [], _, h => absurd (by simp [pos]) h
  | x :: l, n, h => by
    have ih := pos_rd l n
    have h0 := pos_nonneg l n
    simp only [pos] at h ⊢
    by_cases e : x = n
    · simp only [if_pos e]; simp [rd, e]
    · simp only [if_neg e] at h ⊢
      by_cases z : pos l n = 0
      · simp only [if_pos z] at h; exact absurd rfl h
      · simp only [if_neg z] at h ⊢
        have := ih z
        have e1 : (pos l n + 1 - 1).toNat = (pos l n - 1).toNat + 1 := by omega
        unfold rd at this ⊢
        rw [e1, List.getD_cons_succ]
        exact this
theorem pos_app : ∀ (l m : List Int) (n : Int), pos (l ++ m) n = if pos l n ≠ 0 then pos l n else if pos m n = 0 then 0 else l.length + pos m n
  | [], m, n => by simp [pos]
  | x :: l, m, n => by
    have ih := pos_app l m n
    have h0 := pos_nonneg l n
    have h1 := pos_nonneg m n
    simp only [List.cons_append, pos, List.length_cons]
    by_cases e : x = n
    · simp [e]
    · rw [if_neg e, if_neg e, ih]
      by_cases z : pos l n = 0
      · rw [if_pos z, if_neg (show ¬ pos l n ≠ 0 by omega), if_neg (show ¬ (0 : Int) ≠ 0 by omega)]
        by_cases y : pos m n = 0
        · rw [if_pos y, if_pos y, if_pos rfl]
        · rw [if_neg y, if_neg y, if_neg (by omega)]
          omega
      · rw [if_pos z, if_neg z, if_pos (by omega)]
theorem pos_one (n m : Int) : pos [n] m = if n = m then 1 else 0 := by simp [pos]
/-- May these nodes come behind those? -/
def okl : List Int → List Int → Bool
  | _, [] => true
  | s, n :: l => decide (1 ≤ n ∧ n ≤ 8 ∧ pos s n = 0) && okl (s ++ [n]) l
theorem okl_iff : ∀ (l s : List Int), okl s l = true ↔ ((∀ x ∈ l, 1 ≤ x ∧ x ≤ 8) ∧ l.Nodup ∧ ∀ x ∈ l, x ∉ s)
  | [], s => by simp [okl]
  | n :: l, s => by
    simp only [okl, Bool.and_eq_true, decide_eq_true_eq, okl_iff l (s ++ [n]), pos_zero, List.mem_cons, List.nodup_cons, List.mem_append, List.mem_singleton, List.not_mem_nil, or_false]
    constructor
    · rintro ⟨⟨a, b, c⟩, d, e, f⟩
      refine ⟨?_, ⟨?_, e⟩, ?_⟩
      · rintro x (rfl | hx)
        · exact ⟨a, b⟩
        · exact d x hx
      · intro hn; exact f n hn (.inr rfl)
      · rintro x (rfl | hx)
        · exact c
        · intro hs; exact f x hx (.inl hs)
    · rintro ⟨a, ⟨b, c⟩, d⟩
      refine ⟨⟨(a n (.inl rfl)).1, (a n (.inl rfl)).2, d n (.inl rfl)⟩, fun x hx => a x (.inr hx), c, ?_⟩
      rintro x hx (hs | rfl)
      · exact d x (.inr hx) hs
      · exact b hx
theorem getD_set (a : List Int) (i j : Nat) (x : Int) (h : i < a.length) : (a.set i x).getD j 0 = if i = j then x else a.getD j 0 := by
  simp only [List.getD_eq_getElem?_getD, List.getElem?_set]
  by_cases e : i = j
  · subst e; simp [h]
  · simp [e]
theorem plc_spec : ∀ (l s a : List Int), (∀ m : Int, 1 ≤ m → m ≤ 8 → a.getD m.toNat 0 = pos s m) → a.length = 9 →
    (okl s l = true → ∃ b, plc l s.length a = some b ∧ ∀ m : Int, 1 ≤ m → m ≤ 8 → b.getD m.toNat 0 = pos (s ++ l) m) ∧ (okl s l = false → plc l s.length a = none)
  | [], s, a, h, _ => by
    refine ⟨fun _ => ⟨a, rfl, fun m h1 h8 => by rw [List.append_nil]; exact h m h1 h8⟩, fun h => by simp [okl] at h⟩
  | n :: l, s, a, h, h9 => by
    have key : (n < 1 ∨ 8 < n ∨ 0 < a.getD n.toNat 0) ↔ ¬ (1 ≤ n ∧ n ≤ 8 ∧ pos s n = 0) := by
      by_cases h1 : 1 ≤ n
      · by_cases h8 : n ≤ 8
        · rw [h n h1 h8]; have := pos_nonneg s n; omega
        · omega
      · omega
    have e : (s ++ [n]).length = s.length + 1 := by simp
    by_cases hb : 1 ≤ n ∧ n ≤ 8 ∧ pos s n = 0
    · obtain ⟨h1, h8, hp⟩ := hb
      have ih := plc_spec l (s ++ [n]) (a.set n.toNat ((s.length : Int) + 1)) (by
        intro m m1 m8
        rw [getD_set _ _ _ _ (by omega), pos_app, pos_one]
        by_cases e : n = m
        · subst e; rw [if_pos rfl, hp]; simp
        · rw [if_neg (by omega), h m m1 m8, if_neg e]
          by_cases z : pos s m = 0 <;> simp [z]) (by rw [List.length_set]; exact h9)
      simp only [plc, okl]
      rw [if_neg (by rw [key]; exact not_not_intro ⟨h1, h8, hp⟩), show decide (1 ≤ n ∧ n ≤ 8 ∧ pos s n = 0) = true from decide_eq_true ⟨h1, h8, hp⟩, Bool.true_and]
      rw [e] at ih
      simpa [List.append_assoc] using ih
    · simp only [plc, okl]
      rw [if_pos (key.2 hb), show decide (1 ≤ n ∧ n ≤ 8 ∧ pos s n = 0) = false from decide_eq_false hb, Bool.false_and]
      exact ⟨fun h => by simp at h, fun _ => rfl⟩
theorem zeros (m : Int) (h1 : 1 ≤ m) (h8 : m ≤ 8) : zeros9.getD m.toNat 0 = pos [] m := by
  simp only [pos]
  have : m = 1 ∨ m = 2 ∨ m = 3 ∨ m = 4 ∨ m = 5 ∨ m = 6 ∨ m = 7 ∨ m = 8 := by omega
  rcases this with rfl | rfl | rfl | rfl | rfl | rfl | rfl | rfl <;> rfl
/-- May a configuration be? -/
def chk (e : Int) (l : List Int) : Int := if e < 1 ∨ 1099511627776 < e then 160 else if l.length < 1 ∨ 8 < l.length then 162 else if okl [] l = true then 0 else 161
theorem cfgCheck_eq (e : Int) (l : List Int) : cfgCheck e l = chk e l := by
  have h := plc_spec l [] zeros9 zeros rfl
  unfold cfgCheck chk
  by_cases a : okl [] l = true
  · obtain ⟨b, hb, _⟩ := h.1 a
    rw [if_pos a, show plc l 0 zeros9 = some b from hb]
    rfl
  · rw [if_neg a, show plc l 0 zeros9 = none from h.2 (by simpa using a)]
    rfl
theorem chk_zero {e : Int} {l : List Int} : chk e l = 0 ↔ 1 ≤ e ∧ e ≤ 1099511627776 ∧ 1 ≤ l.length ∧ l.length ≤ 8 ∧ okl [] l = true := by
  unfold chk
  constructor
  · intro h
    split at h
    · omega
    · split at h
      · omega
      · split at h
        · rename_i h1 h2 h3; exact ⟨by omega, by omega, by omega, by omega, h3⟩
        · omega
  · rintro ⟨a, b, c, d, g⟩
    rw [if_neg (by omega), if_neg (by omega), if_pos g]
theorem check_f (e : Int) (l : List Int) : config_Check.f e l = some (chk e l) := by rw [← cfgCheck_eq]; rfl
theorem sum_ones {α : Type} (l : List α) : (l.map (fun _ => 1)).sum = l.length := by induction l <;> simp_all [Nat.add_comm]
theorem rd_nat (l : List Int) (i : Nat) (h : i < l.length) : rd l (i : Int) = l[i] := by simp [rd, List.getD_eq_getElem?_getD, List.getElem?_eq_getElem h]
theorem rd_range (m : List Int) (hok : okl [] m = true) (i : Nat) (h : i < m.length) : 1 ≤ rd m (i : Int) ∧ rd m (i : Int) ≤ 8 := by
  rw [rd_nat m i h]
  exact ((okl_iff m []).1 hok).1 _ (List.getElem_mem h)
theorem pos_nodup : ∀ (m : List Int), m.Nodup → ∀ i (h : i < m.length), pos m m[i] = (i : Int) + 1
  | [], _, i, h => by simp at h
  | x :: m, hn, i, h => by
    rw [List.nodup_cons] at hn
    match i with
    | 0 => simp [pos]
    | i + 1 =>
      have hi : i < m.length := by simpa using h
      have ih := pos_nodup m hn.2 i hi
      have hne : x ≠ m[i] := fun e => hn.1 (by rw [e]; exact List.getElem_mem hi)
      simp only [List.getElem_cons_succ, pos]
      rw [if_neg hne, ih, if_neg (by omega)]
      omega
theorem pos_of_rd (m : List Int) (hok : okl [] m = true) (i : Nat) (h : i < m.length) : pos m (rd m (i : Int)) = (i : Int) + 1 := by
  rw [rd_nat m i h]
  exact pos_nodup m ((okl_iff m []).1 hok).2.1 i h
theorem nodup_le : ∀ (n : Nat) (l : List Int), l.Nodup → (∀ x ∈ l, 1 ≤ x ∧ x ≤ n) → l.length ≤ n
  | 0, l, _, h => by
    rcases l with _ | ⟨x, l⟩
    · simp
    · have := h x (by simp); omega
  | n + 1, l, hn, h => by
    by_cases hm : ((n : Int) + 1) ∈ l
    · have := nodup_le n (l.erase ((n : Int) + 1)) (hn.erase _) (fun x hx => by
        rw [hn.mem_erase_iff] at hx
        have := h x hx.2
        have := hx.1
        omega)
      rw [List.length_erase_of_mem hm] at this
      omega
    · have := nodup_le n l hn (fun x hx => by
        have := h x hx
        have : x ≠ (n : Int) + 1 := fun e => hm (e ▸ hx)
        omega)
      omega
theorem okl_len (m : List Int) (hok : okl [] m = true) : m.length ≤ 8 := by
  have := (okl_iff m []).1 hok
  exact nodup_le 8 m this.2.1 this.1
def nxt (out : List Int) (x : Int) : List Int := if x ∉ out ∧ 1 ≤ x ∧ x ≤ 8 then out ++ [x] else out
theorem okl_nxt (out : List Int) (x : Int) (h : okl [] out = true) : okl [] (nxt out x) = true := by
  unfold nxt
  split
  · rename_i hx
    have := (okl_iff out []).1 h
    rw [okl_iff]
    refine ⟨?_, ?_, by simp⟩
    · intro y hy
      rw [List.mem_append, List.mem_singleton] at hy
      rcases hy with hy | rfl
      · exact this.1 y hy
      · exact hx.2
    · rw [List.nodup_append]
      refine ⟨this.2.1, by simp, ?_⟩
      intro a ha b hb
      rw [List.mem_singleton] at hb
      subst hb
      intro e
      subst e
      exact hx.1 ha
  · exact h
def wo (e : Int) (l : List Int) (n : Int) : Int × List Int × Int := if chk e l ≠ 0 then (0, [], chk e l) else if pos l n = 0 then (0, [], 161) else if l.length = 1 then (0, [], 162) else if e = 1099511627776 then (0, [], 160) else (e + 1, l.take (pos l n - 1).toNat ++ l.drop (pos l n).toNat, 0)
def wi (e : Int) (l : List Int) (n : Int) : Int × List Int × Int := if chk e l ≠ 0 then (0, [], chk e l) else if n < 1 ∨ 8 < n ∨ 0 < pos l n then (0, [], 161) else if e = 1099511627776 then (0, [], 160) else (e + 1, l ++ [n], 0)
end Go.Proofs.YtepkaaplhcbkbaaGreat.CfgMath
