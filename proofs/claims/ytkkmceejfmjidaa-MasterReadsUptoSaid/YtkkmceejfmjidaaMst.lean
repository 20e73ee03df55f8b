/- Mst: what the master's Check and Encode compute, and the document's (hawserref21): in plain Lean. -/
import Derived.Test.YtkkmceejfmjidaaCfgPlace
import Derived.Test.YtkkmceejfmjidaaGx11
import Derived.Test.YtkkmceejfmjidaaGx12
import Derived.Test.YtkkmceejfmjidaaGx3
import Derived.Test.YtkkmceejfmjidaaGx4
import Derived.Test.YtkkmceejfmjidaaGx5
namespace Go.Proofs.Ytkkmceejfmjidaa.Mst
open Go.RowKit Go.Proofs.Ytkkmceejfmjidaa.G Go.Proofs.Ytkkmceejfmjidaa.CfgMath Go.Proofs.YtkkmceejfmjidaaW.PrintWords Go.Proofs.YtkkmceejfmjidaaW.PrintLast Go.Proofs.YtkkmceejfmjidaaW.PrintMore
set_option linter.unusedVariables false
set_option linter.unusedSimpArgs false
theorem u64_wrap (x : Int) : IntKind.u64.wrap x = x % 18446744073709551616 := Wri_wrap_u64_eq x
theorem rhas0 (l : List Int) (n : Int) (hl : l.length ≤ 1099511627776) : ∀ (d i k : Nat), l.length - i = d → i ≤ l.length → d + 1 ≤ k → hawserref21_Has.l0 k n l (l.length : Int) (i : Int) = some (decide (pos (l.drop i) n ≠ 0)) := by
  intro d
  induction d with
  | zero =>
    intro i k hd hi hk
    obtain ⟨k, rfl⟩ : ∃ m, k = m + 1 := ⟨k - 1, by omega⟩
    rw [hawserref21_Has.l0, if_neg (by omega), List.drop_of_length_le (by omega)]
    simp [pos]
  | succ d ih =>
    intro i k hd hi hk
    obtain ⟨k, rfl⟩ : ∃ m, k = m + 1 := ⟨k - 1, by omega⟩
    have hlt : i < l.length := by omega
    have h0 := pos_nonneg (l.drop (i + 1)) n
    have hpe : pos (l.drop i) n = if l[i] = n then 1 else if pos (l.drop (i + 1)) n = 0 then 0 else pos (l.drop (i + 1)) n + 1 := by rw [List.drop_eq_getElem_cons hlt]; rfl
    rw [hawserref21_Has.l0, if_pos (by omega), if_pos (by omega), if_pos (by omega), rd_nat l i hlt]
    by_cases e : l[i] = n
    · rw [if_pos e, hpe, if_pos e]; rfl
    · rw [if_neg e, w64 (by omega) (by omega)]
      have := ih (i + 1) k (by omega) (by omega) (by omega)
      rw [show ((i : Int) + 1) = ((i + 1 : Nat) : Int) by omega, this, hpe, if_neg e]
      congr 1
      by_cases z : pos (l.drop (i + 1)) n = 0
      · rw [if_pos z]; simp [z]
      · rw [if_neg z]; simp [z]; omega
theorem rhas_at (e : Int) (l : List Int) (n : Int) (hl : l.length ≤ 8) (k : Nat) (hk : 9 ≤ k) : hawserref21_Has.f k e l n = some (decide (pos l n ≠ 0)) := by
  have := rhas0 l n (by omega) l.length 0 k (by omega) (by omega) (by omega)
  rw [List.drop_zero] at this
  exact this
theorem cc1 (e : Int) (l : List Int) (n : Int) (i : Nat) (hi : i < l.length) (hl : l.length ≤ 8) : ∀ (d j m : Nat), i - j = d → j ≤ i →
    hawserref21_CheckConfig.l1 (m + d + 1) n l (l.length : Int) (i : Int) (l.take i) ((l.take i).length : Int) (j : Int) e l = if pos ((l.take i).drop j) n ≠ 0 then some 161 else hawserref21_CheckConfig.l0 m l (l.length : Int) ((i + 1 : Nat) : Int) e l := by
  have ht : (l.take i).length = i := by rw [List.length_take]; omega
  intro d
  induction d with
  | zero =>
    intro j m hd hj
    rw [hawserref21_CheckConfig.l1, if_neg (by omega), List.drop_of_length_le (by omega), w64 (by omega) (by omega), if_neg (by simp [pos])]
    congr 1
  | succ d ih =>
    intro j m hd hj
    have hlt : j < (l.take i).length := by omega
    have h0 := pos_nonneg ((l.take i).drop (j + 1)) n
    have hpe : pos ((l.take i).drop j) n = if (l.take i)[j] = n then 1 else if pos ((l.take i).drop (j + 1)) n = 0 then 0 else pos ((l.take i).drop (j + 1)) n + 1 := by rw [List.drop_eq_getElem_cons hlt]; rfl
    rw [show m + (d + 1) + 1 = (m + d + 1) + 1 by omega, hawserref21_CheckConfig.l1, if_pos (by omega), if_pos (by omega), if_pos (by omega), rd_nat (l.take i) j hlt]
    by_cases c : (l.take i)[j] = n
    · rw [if_pos c, hpe, if_pos c, if_pos (by omega)]
    · rw [if_neg c, w64 (by omega) (by omega), show ((j : Int) + 1) = ((j + 1 : Nat) : Int) by omega, ih (j + 1) m (by omega) (by omega), hpe, if_neg c]
      by_cases z : pos ((l.take i).drop (j + 1)) n = 0
      · rw [if_neg (by omega), if_neg (by rw [if_pos z]; omega)]
      · rw [if_pos z, if_pos (by rw [if_neg z]; omega)]
theorem okl_drop (l : List Int) (i : Nat) (h : i < l.length) : okl (l.take i) (l.drop i) = (decide (1 ≤ rd l i ∧ rd l i ≤ 8 ∧ pos (l.take i) (rd l i) = 0) && okl (l.take (i + 1)) (l.drop (i + 1))) := by
  rw [List.drop_eq_getElem_cons h, okl, rd_nat l i h, ← List.take_succ_eq_append_getElem h]
theorem cc0 (e : Int) (l : List Int) (hl : l.length ≤ 8) : ∀ (d i k : Nat), l.length - i = d → i ≤ l.length → 11 * d + 1 ≤ k →
    hawserref21_CheckConfig.l0 k l (l.length : Int) (i : Int) e l = some (if okl (l.take i) (l.drop i) = true then 0 else 161) := by
  intro d
  induction d with
  | zero =>
    intro i k hd hi hk
    obtain ⟨k, rfl⟩ : ∃ m, k = m + 1 := ⟨k - 1, by omega⟩
    rw [hawserref21_CheckConfig.l0, if_neg (by omega), List.drop_of_length_le (by omega)]
    rfl
  | succ d ih =>
    intro i k hd hi hk
    have hlt : i < l.length := by omega
    obtain ⟨m, rfl⟩ : ∃ m, k = (m + i + 1) + 1 + 1 := ⟨k - i - 3, by omega⟩
    have ht : (l.take i).length = i := by rw [List.length_take]; omega
    rw [okl_drop l i hlt, hawserref21_CheckConfig.l0, if_pos (by omega), if_pos (by omega), if_pos (by omega)]
    have j3 : ∀ b, (b = true ↔ (rd l (i : Int) < 1 ∨ 8 < rd l (i : Int))) → hawserref21_CheckConfig.j3 (m + i + 1 + 1) (i : Int) (rd l (i : Int)) l (l.length : Int) (i : Int) b e l = some (if (decide (1 ≤ rd l i ∧ rd l i ≤ 8 ∧ pos (l.take i) (rd l i) = 0) && okl (l.take (i + 1)) (l.drop (i + 1))) = true then 0 else 161) := by
      intro b hb
      rw [hawserref21_CheckConfig.j3]
      by_cases h : rd l (i : Int) < 1 ∨ 8 < rd l (i : Int)
      · rw [if_pos (hb.2 h), show decide (1 ≤ rd l i ∧ rd l i ≤ 8 ∧ pos (l.take i) (rd l i) = 0) = false from decide_eq_false (by omega), Bool.false_and, if_neg (by simp)]
      · rw [if_neg (fun x => h (hb.1 x)), if_pos (by omega), if_pos (by omega), Int.toNat_natCast]
        have := cc1 e l (rd l (i : Int)) i hlt hl i 0 m (by omega) (by omega)
        rw [Int.natCast_zero, List.drop_zero] at this
        rw [this]
        by_cases z : pos (l.take i) (rd l (i : Int)) = 0
        · rw [if_neg (by omega), ih (i + 1) m (by omega) (by omega) (by omega), show decide (1 ≤ rd l i ∧ rd l i ≤ 8 ∧ pos (l.take i) (rd l i) = 0) = true from decide_eq_true (by omega), Bool.true_and]
        · rw [if_pos z, show decide (1 ≤ rd l i ∧ rd l i ≤ 8 ∧ pos (l.take i) (rd l i) = 0) = false from decide_eq_false (by omega), Bool.false_and, if_neg (by simp)]
    by_cases h1 : rd l (i : Int) < 1
    · rw [if_pos h1]
      exact j3 true ⟨fun _ => .inl h1, fun _ => rfl⟩
    · rw [if_neg h1]
      exact j3 _ ⟨fun x => .inr (of_decide_eq_true x), fun x => decide_eq_true (by omega)⟩
theorem cc_at (e : Int) (l : List Int) (k : Nat) (hk : 95 ≤ k) : hawserref21_CheckConfig.f k e l = some (chk e l) := by
  obtain ⟨k, rfl⟩ : ∃ m, k = m + 1 + 1 := ⟨k - 2, by omega⟩
  unfold chk
  have j1 : ∀ b, (b = true ↔ (l.length < 1 ∨ 8 < l.length)) → hawserref21_CheckConfig.j1 (k + 1) b e l = some (if l.length < 1 ∨ 8 < l.length then 162 else if okl [] l = true then 0 else 161) := by
    intro b hb
    rw [hawserref21_CheckConfig.j1]
    by_cases h : l.length < 1 ∨ 8 < l.length
    · rw [if_pos h, if_pos (hb.2 h)]
    · rw [if_neg h, if_neg (fun x => h (hb.1 x))]
      have := cc0 e l (by omega) l.length 0 k (by omega) (by omega) (by omega)
      simpa using this
  have j0 : ∀ b, (b = true ↔ (e < 1 ∨ 1099511627776 < e)) → hawserref21_CheckConfig.j0 (k + 1 + 1) b e l = some (if e < 1 ∨ 1099511627776 < e then 160 else if l.length < 1 ∨ 8 < l.length then 162 else if okl [] l = true then 0 else 161) := by
    intro b hb
    rw [hawserref21_CheckConfig.j0]
    by_cases h : e < 1 ∨ 1099511627776 < e
    · rw [if_pos h, if_pos (hb.2 h)]
    · rw [if_neg h, if_neg (fun x => h (hb.1 x))]
      by_cases h1 : (l.length : Int) < 1
      · rw [if_pos h1]
        exact j1 true ⟨fun _ => by omega, fun _ => rfl⟩
      · rw [if_neg h1]
        exact j1 _ ⟨fun x => by have := of_decide_eq_true x; omega, fun x => decide_eq_true (by omega)⟩
  unfold hawserref21_CheckConfig.f
  by_cases h1 : e < 1
  · rw [if_pos h1]
    exact j0 true ⟨fun _ => .inl h1, fun _ => rfl⟩
  · rw [if_neg h1]
    exact j0 _ ⟨fun x => .inr (of_decide_eq_true x), fun x => decide_eq_true (by omega)⟩
/-- May what is told of the one who comes in be so? -/
def com (l : List Int) (a2 a3 a4 a5 : Int) : Bool :=
  if a5 = 0 then decide (a3 = 0 ∧ a4 = 0) else decide ((a5 = 1 ∨ a5 = 5) ∧ a2 ≠ 0 ∧ 1 ≤ a3 ∧ a3 ≤ 8 ∧ pos l a3 = 0 ∧ 1 ≤ a4 ∧ a4 ≤ 1152921504606846976)
/-- May a state be? -/
def mchk (e : Int) (l : List Int) (a2 a3 a4 a5 : Int) : Int :=
  if chk e l = 0 then if a2 < 0 ∨ 1152921504606846976 < a2 ∨ com l a2 a3 a4 a5 = false then 1 else 0 else chk e l
theorem role0 (e : Int) (l : List Int) (n : Int) (hc : chk e l = 0) : ∃ t, config_Role.f e l n = some t ∧ (t = 0 ↔ pos l n = 0) := by
  have h0 := pos_nonneg l n
  unfold config_Role.f
  rw [place_f, Option.bind_some, if_pos hc]
  by_cases h : pos l n = 0
  · rw [if_pos h]; exact ⟨0, rfl, by simp [h]⟩
  · rw [if_neg h]
    split
    · exact ⟨4, rfl, by omega⟩
    · split
      · exact ⟨1, rfl, by omega⟩
      · split
        · exact ⟨3, rfl, by omega⟩
        · exact ⟨2, rfl, by omega⟩
theorem coming_f (e : Int) (l : List Int) (a2 a3 a4 a5 : Int) (hc : chk e l = 0) : master_coming.f e l a2 a3 a4 a5 = some (com l a2 a3 a4 a5) := by
  unfold master_coming.f com
  obtain ⟨t, ht, hz⟩ := role0 e l a3 hc
  rw [ht]
  simp only [Option.bind_some]
  by_cases h0 : a5 = 0
  · rw [if_pos h0, if_pos h0]
    by_cases h3 : a3 = 0
    · rw [if_pos h3]
      congr 1
      rw [Bool.eq_iff_iff]
      simp [h3]
    · rw [if_neg h3, decide_eq_false (by omega)]
  · rw [if_neg h0, if_neg h0]
    have key : (if a2 = 0 then some false else if a3 ≥ 1 then if a3 ≤ 8 then if t = 0 then if a4 ≥ 1 then some (decide (a4 ≤ 1152921504606846976)) else some false else some false else some false else some false) = some (decide (a2 ≠ 0 ∧ 1 ≤ a3 ∧ a3 ≤ 8 ∧ pos l a3 = 0 ∧ 1 ≤ a4 ∧ a4 ≤ 1152921504606846976)) := by
      by_cases c2 : a2 = 0
      · rw [if_pos c2, decide_eq_false (by omega)]
      rw [if_neg c2]
      by_cases c3 : a3 ≥ 1
      · rw [if_pos c3]
        by_cases c8 : a3 ≤ 8
        · rw [if_pos c8]
          by_cases ct : t = 0
          · rw [if_pos ct]
            have := hz.1 ct
            by_cases c4 : a4 ≥ 1
            · rw [if_pos c4]
              congr 1
              rw [Bool.eq_iff_iff]
              simp only [decide_eq_true_eq]
              omega
            · rw [if_neg c4, decide_eq_false (by omega)]
          · rw [if_neg ct]
            have : pos l a3 ≠ 0 := fun h => ct (hz.2 h)
            rw [decide_eq_false (by omega)]
        · rw [if_neg c8, decide_eq_false (by omega)]
      · rw [if_neg c3, decide_eq_false (by omega)]
    by_cases h1 : a5 = 1
    · rw [if_pos h1, key]
      congr 1
      rw [Bool.eq_iff_iff]
      simp only [decide_eq_true_eq]
      omega
    · rw [if_neg h1]
      by_cases h5 : a5 = 5
      · rw [if_pos h5, key]
        congr 1
        rw [Bool.eq_iff_iff]
        simp only [decide_eq_true_eq]
        omega
      · rw [if_neg h5, decide_eq_false (by omega)]
theorem mcheck_f (e : Int) (l : List Int) (a2 a3 a4 a5 : Int) : master_Check.f e l a2 a3 a4 a5 = some (mchk e l a2 a3 a4 a5) := by
  unfold master_Check.f mchk
  rw [check_f, Option.bind_some]
  by_cases hc : chk e l = 0
  · rw [if_pos hc, if_pos hc, coming_f e l a2 a3 a4 a5 hc, Option.bind_some]
    by_cases h1 : a2 < 0
    · rw [if_pos h1, if_pos (.inl h1)]
    · rw [if_neg h1]
      by_cases h2 : a2 > 1152921504606846976
      · rw [if_pos h2, if_pos (.inr (.inl h2))]
      · rw [if_neg h2]
        cases hh : com l a2 a3 a4 a5
        · rw [if_neg (by simp), if_pos (.inr (.inr rfl))]
        · rw [if_pos rfl, if_neg (by simp; omega)]
  · rw [if_neg hc, if_neg hc]
theorem rcheck_at (e : Int) (l : List Int) (a2 a3 a4 a5 : Int) (k : Nat) (hk : 100 ≤ k) : hawserref21_Check.f k e l a2 a3 a4 a5 = some (mchk e l a2 a3 a4 a5) := by
  obtain ⟨k, rfl⟩ : ∃ m, k = m + 1 + 1 := ⟨k - 2, by omega⟩
  unfold hawserref21_Check.f mchk
  rw [cc_at e l _ (by omega), Option.bind_some]
  by_cases hc : chk e l = 0
  · rw [if_pos hc, if_pos hc]
    have hl : l.length ≤ 8 := (chk_zero.1 hc).2.2.2.1
    have j1 : ∀ b, (b = true ↔ (a5 = 1 ∨ a5 = 5)) → a5 ≠ 0 → hawserref21_Check.j1 (k + 1) b e l a2 a3 a4 a5 = some (if com l a2 a3 a4 a5 = false then 1 else 0) := by
      intro b hb h0
      unfold com
      rw [hawserref21_Check.j1, rhas_at e l a3 hl k (by omega), Option.bind_some, if_neg h0]
      by_cases h : a5 = 1 ∨ a5 = 5
      · rw [if_pos (hb.2 h)]
        by_cases c2 : a2 = 0
        · rw [if_pos c2, if_pos (decide_eq_false (by omega))]
        rw [if_neg c2]
        by_cases c3 : a3 < 1
        · rw [if_pos c3, if_pos (decide_eq_false (by omega))]
        rw [if_neg c3]
        by_cases c8 : a3 > 8
        · rw [if_pos c8, if_pos (decide_eq_false (by omega))]
        rw [if_neg c8]
        by_cases cp : pos l a3 = 0
        · rw [if_neg (by simp [cp])]
          by_cases c4 : a4 < 1
          · rw [if_pos c4, if_pos (decide_eq_false (by omega))]
          rw [if_neg c4]
          by_cases c5 : a4 > 1152921504606846976
          · rw [if_pos c5, if_pos (decide_eq_false (by omega))]
          rw [if_neg c5, if_neg]
          rw [decide_eq_true (by omega)]
          simp
        · rw [if_pos (by simp [cp]), if_pos (decide_eq_false (by omega))]
      · rw [if_neg (fun x => h (hb.1 x)), if_pos (decide_eq_false (by omega))]
    have j0 : ∀ b, (b = true ↔ (a2 < 0 ∨ 1152921504606846976 < a2)) → hawserref21_Check.j0 (k + 1 + 1) b e l a2 a3 a4 a5 = some (if a2 < 0 ∨ 1152921504606846976 < a2 ∨ com l a2 a3 a4 a5 = false then 1 else 0) := by
      intro b hb
      rw [hawserref21_Check.j0]
      by_cases h : a2 < 0 ∨ 1152921504606846976 < a2
      · rw [if_pos (hb.2 h), if_pos (by omega)]
      · rw [if_neg (fun x => h (hb.1 x))]
        have hs : (a2 < 0 ∨ 1152921504606846976 < a2 ∨ com l a2 a3 a4 a5 = false) ↔ com l a2 a3 a4 a5 = false := ⟨fun x => by rcases x with x | x | x; exact absurd (.inl x) h; exact absurd (.inr x) h; exact x, fun x => .inr (.inr x)⟩
        rw [show (if a2 < 0 ∨ 1152921504606846976 < a2 ∨ com l a2 a3 a4 a5 = false then (1 : Int) else 0) = if com l a2 a3 a4 a5 = false then 1 else 0 from by
          by_cases z : com l a2 a3 a4 a5 = false
          · rw [if_pos (hs.2 z), if_pos z]
          · rw [if_neg (fun x => z (hs.1 x)), if_neg z]]
        by_cases h0 : a5 = 0
        · rw [if_pos h0]
          unfold com
          rw [if_pos h0]
          by_cases h3 : a3 = 0
          · rw [if_pos h3]
            by_cases h4 : a4 = 0
            · rw [if_pos h4, if_neg (by rw [decide_eq_true ⟨h3, h4⟩]; simp)]
            · rw [if_neg h4, if_pos (decide_eq_false (by omega))]
          · rw [if_neg h3, if_pos (decide_eq_false (by omega))]
        · rw [if_neg h0]
          by_cases h1 : a5 = 1
          · rw [if_pos h1]
            exact j1 _ (by simp [h1]) h0
          · rw [if_neg h1]
            exact j1 _ (by simp [h1]) h0
    by_cases h1 : a2 < 0
    · rw [if_pos h1]
      exact j0 true ⟨fun _ => .inl h1, fun _ => rfl⟩
    · rw [if_neg h1]
      exact j0 _ ⟨fun x => .inr (of_decide_eq_true x), fun x => decide_eq_true (by omega)⟩
  · rw [if_neg hc, if_neg hc]
theorem refB_at (v : Int) (h0 : 0 ≤ v) (h1 : v < 18446744073709551616) (k : Nat) (hk : 100 ≤ k) : hawserref01_Bytes.f k v = some (Wri_refB v) :=
  at_rounds (hawserref01_Bytes.mono v) hk (Wri_refB_ok v h0 h1).1
theorem put_at (v : Int) (h0 : 0 ≤ v) (h1 : v < 18446744073709551616) (b : List Int) (hb : b.length ≤ 1000000) (k : Nat) (hk : 100 ≤ k) (hk' : k ≤ 1000000) : leb_put.f k b v = some (b ++ Wri_refB v) :=
  Wri_put_bytes k v b _ h0 h1 (by omega) (refB_at v h0 h1 k hk)
theorem enc1_at (v : Int) (h0 : 0 ≤ v) (h1 : v < 18446744073709551616) (k : Nat) (hk : 101 ≤ k) (hk' : k ≤ 1000000) : leb_Encode.f k [v] = some (Wri_refB v) := by
  obtain ⟨k, rfl⟩ : ∃ m, k = m + 1 := ⟨k - 1, by omega⟩
  rw [leb_Encode.f, leb_Encode.l0, if_pos (by simp), if_pos (by omega), if_pos (by simp), show rd [v] 0 = v from rfl, put_at v h0 h1 [] (by simp) k (by omega) (by omega), List.nil_append, Option.bind_some]
  obtain ⟨k, rfl⟩ : ∃ m, k = m + 1 := ⟨k - 1, by omega⟩
  rw [show wrap64 (0 + 1) = 1 from by simp [wrap64], leb_Encode.l0, if_neg (by simp)]
theorem enc2_at (u v : Int) (h0 : 0 ≤ v) (h1 : v < 18446744073709551616) (g0 : 0 ≤ u) (g1 : u < 18446744073709551616) (k : Nat) (hk : 103 ≤ k) (hk' : k ≤ 1000000) : leb_Encode.f k [u, v] = some (Wri_refB u ++ Wri_refB v) := by
  have hl := (Wri_refB_ok u g0 g1).2
  obtain ⟨k, rfl⟩ : ∃ m, k = m + 1 := ⟨k - 1, by omega⟩
  rw [leb_Encode.f, leb_Encode.l0, if_pos (by simp), if_pos (by omega), if_pos (by simp), show rd [u, v] 0 = u from rfl, put_at u g0 g1 [] (by simp) k (by omega) (by omega), List.nil_append, Option.bind_some]
  obtain ⟨k, rfl⟩ : ∃ m, k = m + 1 := ⟨k - 1, by omega⟩
  rw [show wrap64 (0 + 1) = 1 from by simp [wrap64], leb_Encode.l0, if_pos (by simp), if_pos (by omega), if_pos (by simp), show rd [u, v] 1 = v from rfl, put_at v h0 h1 _ (by omega) k (by omega) (by omega), Option.bind_some]
  obtain ⟨k, rfl⟩ : ∃ m, k = m + 1 := ⟨k - 1, by omega⟩
  rw [show wrap64 (1 + 1) = 2 from by simp [wrap64], leb_Encode.l0, if_neg (by simp)]
theorem cenc0 (l : List Int) (hl : l.length ≤ 8) (hr : ∀ i, i < l.length → 1 ≤ rd l (i : Int) ∧ rd l (i : Int) ≤ 8) : ∀ (d i k : Nat) (b : List Int), l.length - i = d → i ≤ l.length → b.length + 100 * d ≤ 100000 → 103 + d ≤ k → k ≤ 1000000 → config_Encode.l0 k b l (l.length : Int) (i : Int) = some (b ++ Wri_refBs (l.drop i), 0) := by
  intro d
  induction d with
  | zero =>
    intro i k b hd hi hb hk hk'
    obtain ⟨k, rfl⟩ : ∃ m, k = m + 1 := ⟨k - 1, by omega⟩
    rw [config_Encode.l0, if_neg (by omega), List.drop_of_length_le (by omega)]
    simp [Wri_refBs]
  | succ d ih =>
    intro i k b hd hi hb hk hk'
    obtain ⟨k, rfl⟩ : ∃ m, k = m + 1 := ⟨k - 1, by omega⟩
    have hlt : i < l.length := by omega
    have hx := hr i hlt
    have hw : IntKind.u64.wrap (rd l (i : Int)) = rd l (i : Int) := by rw [u64_wrap]; omega
    have hL := (Wri_refB_ok (rd l (i : Int)) (by omega) (by omega)).2
    rw [config_Encode.l0, if_pos (by omega), if_pos (by omega), if_pos (by omega), hw, enc1_at _ (by omega) (by omega) k (by omega) (by omega), Option.bind_some, if_pos (by omega), w64 (by omega) (by omega), show ((i : Int) + 1) = ((i + 1 : Nat) : Int) by omega, ih (i + 1) k _ (by omega) (by omega) (by rw [List.length_append]; omega) (by omega) (by omega), List.append_assoc]
    congr 3
    rw [List.drop_eq_getElem_cons hlt, ← rd_nat l i hlt]
    simp only [Wri_refBs, List.flatMap_cons, hw]
theorem cenc_at (e : Int) (l : List Int) (hc : chk e l = 0) (k : Nat) (hk : 120 ≤ k) (hk' : k ≤ 1000000) : config_Encode.f k e l = some (Wri_refCfg e l, 0) := by
  obtain ⟨h1, h2, h3, h4, h5⟩ := chk_zero.1 hc
  have hw : IntKind.u64.wrap e = e := by rw [u64_wrap]; omega
  have hL1 := (Wri_refB_ok e (by omega) (by omega)).2
  have hL2 := (Wri_refB_ok (l.length : Int) (by omega) (by omega)).2
  have hwl : IntKind.u64.wrap (l.length : Int) = (l.length : Int) := by rw [u64_wrap]; omega
  unfold config_Encode.f
  rw [check_f, Option.bind_some, if_pos hc, hw, hwl, enc2_at e _ (by omega) (by omega) (by omega) (by omega) k (by omega) (by omega), Option.bind_some]
  have := cenc0 l h4 (fun i hi => rd_range l h5 i hi) l.length 0 k (Wri_refB e ++ Wri_refB (l.length : Int)) (by omega) (by omega) (by rw [List.length_append]; omega) (by omega) (by omega)
  rw [Int.natCast_zero, List.drop_zero] at this
  rw [this, Wri_refCfg, hw]
theorem refB_len (n : Nat) (hn : n < 100) (v : Int) (h0 : 0 ≤ v) (h1 : v < 18446744073709551616) (h : v < 128 ^ (n + 1)) : (Wri_refB v).length ≤ n + 1 := by
  obtain ⟨r, hr, hl⟩ := Wri_bytes_ok n v (by omega) h0 h1 h
  have := at_rounds (hawserref01_Bytes.mono v) (show n + 1 ≤ 100 by omega) hr
  rw [(Wri_refB_ok v h0 h1).1] at this
  rw [Option.some.inj this]
  exact hl
theorem refBs_len : ∀ (l : List Int), (∀ x ∈ l, 1 ≤ x ∧ x ≤ 8) → (Wri_refBs l).length ≤ l.length
  | [], _ => by simp [Wri_refBs]
  | x :: l, h => by
    have h1 := refBs_len l (fun y hy => h y (List.mem_cons_of_mem _ hy))
    have hx := h x List.mem_cons_self
    have hw : IntKind.u64.wrap x = x := by rw [u64_wrap]; omega
    have h2 := refB_len 0 (by omega) x (by omega) (by omega) (by simp; omega)
    simp only [Wri_refBs, List.flatMap_cons, List.length_append, List.length_cons, hw] at h1 ⊢
    omega
theorem refCfg_len64 (e : Int) (l : List Int) (hc : chk e l = 0) : (Wri_refCfg e l).length ≤ 64 := by
  obtain ⟨h1, h2, h3, h4, h5⟩ := chk_zero.1 hc
  have hw : IntKind.u64.wrap e = e := by rw [u64_wrap]; omega
  have hL1 := refB_len 5 (by omega) e (by omega) (by omega) (by simp; omega)
  have hL2 := refB_len 0 (by omega) (l.length : Int) (by omega) (by omega) (by simp; omega)
  have hL3 := refBs_len l ((okl_iff l []).1 h5).1
  rw [Wri_refCfg, hw]
  simp only [List.length_append]
  omega
theorem mchk_zero {e : Int} {l : List Int} {a2 a3 a4 a5 : Int} (h : mchk e l a2 a3 a4 a5 = 0) : chk e l = 0 ∧ (0 ≤ a2 ∧ a2 ≤ 1152921504606846976) ∧ (0 ≤ a3 ∧ a3 ≤ 8) ∧ (0 ≤ a4 ∧ a4 ≤ 1152921504606846976) ∧ (0 ≤ a5 ∧ a5 ≤ 7) := by
  unfold mchk at h
  by_cases hc : chk e l = 0
  · rw [if_pos hc] at h
    split at h
    · cases h
    · next hn =>
      have hm : com l a2 a3 a4 a5 = true := by
        cases hh : com l a2 a3 a4 a5
        · exact absurd (.inr (.inr hh)) hn
        · rfl
      have h2 : ¬ a2 < 0 := fun x => hn (.inl x)
      have h3 : ¬ 1152921504606846976 < a2 := fun x => hn (.inr (.inl x))
      unfold com at hm
      split at hm
      · have := of_decide_eq_true hm
        exact ⟨hc, by omega, by omega, by omega, by omega⟩
      · have := of_decide_eq_true hm
        exact ⟨hc, by omega, by omega, by omega, by omega⟩
  · rw [if_neg hc] at h
    exact absurd h hc
/-- What the two Encodes answer. -/
def menc (e : Int) (l : List Int) (a2 a3 a4 a5 : Int) : List Int × Int := if mchk e l a2 a3 a4 a5 = 0 then (Wri_refEnc e l a2 a3 a4 a5, 0) else ([], mchk e l a2 a3 a4 a5)
theorem renc_f (e : Int) (l : List Int) (a2 a3 a4 a5 : Int) (hl : l.length ≤ 1048576) : hawserref21_Encode.f e l a2 a3 a4 a5 = some (menc e l a2 a3 a4 a5) := by
  unfold hawserref21_Encode.f menc
  rw [if_pos hl, rcheck_at e l a2 a3 a4 a5 100 (by omega), Option.bind_some]
  by_cases h : mchk e l a2 a3 a4 a5 = 0
  · rw [if_pos h, if_pos h, h]
  · rw [if_neg h, if_neg h]
theorem menc_f (e : Int) (l : List Int) (a2 a3 a4 a5 : Int) : master_Encode.f e l a2 a3 a4 a5 = some (menc e l a2 a3 a4 a5) := by
  unfold master_Encode.f menc
  rw [mcheck_f, Option.bind_some]
  by_cases h : mchk e l a2 a3 a4 a5 = 0
  · obtain ⟨hc, h2, h3, h4, h5⟩ := mchk_zero h
    rw [if_pos h, if_pos h, cenc_at e l hc 200 (by omega) (by omega), Option.bind_some, if_pos ⟨rfl, refCfg_len64 e l hc, h2, h3, h4, h5⟩]
    have w2 : IntKind.u64.wrap a2 = a2 := by rw [u64_wrap]; omega
    have w3 : IntKind.u64.wrap a3 = a3 := by rw [u64_wrap]; omega
    have w4 : IntKind.u64.wrap a4 = a4 := by rw [u64_wrap]; omega
    have w5 : IntKind.u64.wrap a5 = a5 := by rw [u64_wrap]; omega
    rw [Wri_mstEnc, Wri_refEnc, w2, w3, w4, w5]
    simp only [List.append_assoc, List.nil_append]
  · rw [if_neg h, if_neg h]
theorem menc_len (e : Int) (l : List Int) (a2 a3 a4 a5 : Int) : (menc e l a2 a3 a4 a5).1.length ≤ 1000 := by
  unfold menc
  by_cases h : mchk e l a2 a3 a4 a5 = 0
  · obtain ⟨hc, h2, h3, h4, h5⟩ := mchk_zero h
    have h64 := refCfg_len64 e l hc
    rw [if_pos h, Wri_refEnc]
    have w2 : IntKind.u64.wrap a2 = a2 := by rw [u64_wrap]; omega
    have w3 : IntKind.u64.wrap a3 = a3 := by rw [u64_wrap]; omega
    have w4 : IntKind.u64.wrap a4 = a4 := by rw [u64_wrap]; omega
    have w5 : IntKind.u64.wrap a5 = a5 := by rw [u64_wrap]; omega
    have hs := Wri_strOfNums_size' (Wri_refCfg e l)
    have b1 := (Wri_refB_ok ((strOfNums (Wri_refCfg e l)).size : Int) (by omega) (by omega)).2
    have b2 := (Wri_refB_ok a2 (by omega) (by omega)).2
    have b3 := (Wri_refB_ok a3 (by omega) (by omega)).2
    have b4 := (Wri_refB_ok a4 (by omega) (by omega)).2
    have b5 := (Wri_refB_ok a5 (by omega) (by omega)).2
    rw [w2, w3, w4, w5]
    simp only [List.length_append, List.length_nil, Wri_bytesOf_len]
    omega
  · rw [if_neg h]; simp
theorem rsame0 (e : Int) (l : List Int) (a2 a3 a4 a5 : Int) (hl : l.length ≤ 1099511627776) : ∀ (d i : Nat), l.length - i = d → i ≤ l.length →
    Ev (fun k => hawserref21_Same.l0 k (l.length : Int) (i : Int) e l a2 a3 a4 a5 e l a2 a3 a4 a5) true := by
  intro d
  induction d with
  | zero =>
    intro i hd hi
    refine Ev.step (f := fun _ => some true) (fun k => ?_) (Ev.now _)
    rw [hawserref21_Same.l0, if_neg (by omega)]
  | succ d ih =>
    intro i hd hi
    have h := ih (i + 1) (by omega) (by omega)
    refine Ev.step (fun k => ?_) h
    rw [hawserref21_Same.l0, if_pos (by omega), if_pos (by omega), if_pos (by omega), if_pos (by omega), if_pos rfl, w64 (by omega) (by omega)]
    congr 1
theorem rsame_ev (e : Int) (l : List Int) (a2 a3 a4 a5 : Int) (hl : l.length ≤ 1099511627776) : Ev (fun k => hawserref21_Same.f k e l a2 a3 a4 a5 e l a2 a3 a4 a5) true := by
  have h := rsame0 e l a2 a3 a4 a5 hl l.length 0 (by omega) (by omega)
  refine Ev.congr (f := fun k => hawserref21_Same.j0 k false e l a2 a3 a4 a5 e l a2 a3 a4 a5) (fun k => ?_) (Ev.step (fun k => ?_) h)
  · unfold hawserref21_Same.f
    rw [if_pos rfl, if_pos rfl, if_pos rfl, if_pos rfl, if_pos rfl]
    congr 1
    simp
  · rw [hawserref21_Same.j0, if_neg (by simp)]
    congr 1
end Go.Proofs.Ytkkmceejfmjidaa.Mst
