/- LebMath: numbers as bytes of seven bits, in plain Lean: the bytes of a number, how many they are, what bytes say. No program in sight. -/
import Derived.Laws.BitsLemmas
import Derived.Test.YtkkmceejfmjidaaWMore
namespace Go.Proofs.Ytkkmceejfmjidaa.LebMath
open Go.RowKit Go.Proofs.YtkkmceejfmjidaaW.PrintWords Go.Proofs.YtkkmceejfmjidaaW.PrintLast Go.Proofs.YtkkmceejfmjidaaW.PrintMore
set_option linter.unusedVariables false
set_option linter.unusedSimpArgs false

theorem u64_wrap (n : Int) : IntKind.u64.wrap n = n % 18446744073709551616 := by simp [IntKind.wrap, IntKind.bits, IntKind.signed]
theorem i64_wf {n : Int} (h : (Lit.int .i64 n).wf = true) : -9223372036854775808 ≤ n ∧ n ≤ 9223372036854775807 := by
  simp [Lit.wf, IntKind.min, IntKind.max, IntKind.signed, IntKind.bits] at h; omega
theorem u64_wf {n : Int} (h : (Lit.int .u64 n).wf = true) : 0 ≤ n ∧ n ≤ 18446744073709551615 := by
  simp [Lit.wf, IntKind.min, IntKind.max, IntKind.signed, IntKind.bits] at h; omega
theorem u8_wf {n : Int} (h : (Lit.int .u8 n).wf = true) : 0 ≤ n ∧ n ≤ 255 := by
  simp [Lit.wf, IntKind.min, IntKind.max, IntKind.signed, IntKind.bits] at h; omega
theorem sum_ones {α : Type} (l : List α) : (l.map (fun _ => 1)).sum = l.length := by
  induction l with
  | nil => rfl
  | cons a l ih => simp [ih, Nat.add_comm]
def IsBytes (l : List Int) : Prop := ∀ x ∈ l, 0 ≤ x ∧ x ≤ 255
theorem IsBytes.of_wf {l : List Int} (h : ∀ x ∈ l, (Lit.int .u8 x).wf = true) : IsBytes l := fun x hx => u8_wf (h x hx)
theorem IsBytes.append {a b : List Int} (ha : IsBytes a) (hb : IsBytes b) : IsBytes (a ++ b) := fun x hx => (List.mem_append.1 hx).elim (ha x) (hb x)
theorem IsBytes.drop {a : List Int} (ha : IsBytes a) (k : Nat) : IsBytes (a.drop k) := fun x hx => ha x (List.mem_of_mem_drop hx)
theorem IsBytes.take {a : List Int} (ha : IsBytes a) (k : Nat) : IsBytes (a.take k) := fun x hx => ha x (List.mem_of_mem_take hx)
theorem IsBytes.cons {a : Int} {l : List Int} (h : IsBytes (a :: l)) : (0 ≤ a ∧ a ≤ 255) ∧ IsBytes l := ⟨h a List.mem_cons_self, fun x hx => h x (List.mem_cons_of_mem _ hx)⟩
theorem IsBytes.at {l : List Int} (h : IsBytes l) (i : Nat) : 0 ≤ l.getD i 0 ∧ l.getD i 0 ≤ 255 := by
  rw [List.getD_eq_getElem?_getD]
  rcases Nat.lt_or_ge i l.length with hi | hi
  · rw [List.getElem?_eq_getElem hi]; exact h _ (List.getElem_mem hi)
  · rw [List.getElem?_eq_none hi]; simp
theorem rd_nat (l : List Int) (i : Nat) : rd l (i : Int) = l.getD i 0 := by simp [rd]

/-! ### the bytes of a number -/
def lsz (v : Nat) : Nat := if h : v ≤ 127 then 1 else lsz (v / 128) + 1
decreasing_by omega
def lput (v : Nat) : List Int := if h : v ≤ 127 then [(v : Int)] else ((v % 128 + 128 : Nat) : Int) :: lput (v / 128)
decreasing_by omega
theorem lsz_small {v : Nat} (h : v ≤ 127) : lsz v = 1 := by unfold lsz; rw [dif_pos h]
theorem lsz_big {v : Nat} (h : ¬ v ≤ 127) : lsz v = lsz (v / 128) + 1 := by rw [lsz, dif_neg h]
theorem lput_small {v : Nat} (h : v ≤ 127) : lput v = [(v : Int)] := by unfold lput; rw [dif_pos h]
theorem lput_big {v : Nat} (h : ¬ v ≤ 127) : lput v = ((v % 128 + 128 : Nat) : Int) :: lput (v / 128) := by rw [lput, dif_neg h]
theorem lsz_pos (v : Nat) : 1 ≤ lsz v := by
  by_cases h : v ≤ 127
  · rw [lsz_small h]; omega
  · rw [lsz_big h]; omega
theorem lput_len (v : Nat) : (lput v).length = lsz v := by
  induction v using Nat.strongRecOn with
  | _ v ih =>
    by_cases h : v ≤ 127
    · rw [lsz_small h, lput_small h]; rfl
    · rw [lsz_big h, lput_big h, List.length_cons, ih _ (by omega)]
theorem lsz_mono : ∀ (w v : Nat), v ≤ w → lsz v ≤ lsz w := by
  intro w
  induction w using Nat.strongRecOn with
  | _ w ih =>
    intro v hv
    by_cases h : v ≤ 127
    · rw [lsz_small h]; exact lsz_pos w
    · rw [lsz_big h, lsz_big (v := w) (by omega)]
      have := ih (w / 128) (by omega) (v / 128) (Nat.div_le_div_right hv)
      omega
theorem lsz_le : ∀ (j v : Nat), v < 128 ^ (j + 1) → lsz v ≤ j + 1 := by
  intro j
  induction j with
  | zero => intro v h; rw [lsz_small (by simpa using (by omega : v ≤ 127))]; omega
  | succ j ih =>
    intro v h
    by_cases h7 : v ≤ 127
    · rw [lsz_small h7]; omega
    · rw [lsz_big h7]
      have := ih (v / 128) (by rw [Nat.pow_succ] at h; exact Nat.div_lt_of_lt_mul (by rw [Nat.mul_comm]; exact h))
      omega
theorem lsz_ten {v : Nat} (h : v < 18446744073709551616) : lsz v ≤ 10 := by
  refine lsz_le 9 v (Nat.lt_of_lt_of_le h (by decide))
theorem lput_bytes (v : Nat) : IsBytes (lput v) := by
  induction v using Nat.strongRecOn with
  | _ v ih =>
    by_cases h : v ≤ 127
    · rw [lput_small h]; intro x hx; simp at hx; omega
    · rw [lput_big h]
      intro x hx
      rcases List.mem_cons.1 hx with rfl | hx
      · omega
      · exact ih _ (by omega) x hx
/-- No number's bytes begin another one's. -/
theorem lput_cancel : ∀ (v w : Nat) (s t : List Int), lput v ++ s = lput w ++ t → v = w ∧ s = t := by
  intro v
  induction v using Nat.strongRecOn with
  | _ v ih =>
    intro w s t h
    by_cases hv : v ≤ 127
    · by_cases hw : w ≤ 127
      · rw [lput_small hv, lput_small hw] at h
        simp at h
        exact ⟨by omega, h.2⟩
      · rw [lput_small hv, lput_big hw] at h
        simp at h
        omega
    · by_cases hw : w ≤ 127
      · rw [lput_big hv, lput_small hw] at h
        simp at h
        omega
      · rw [lput_big hv, lput_big hw] at h
        simp only [List.cons_append, List.cons.injEq] at h
        obtain ⟨h1, h2⟩ := ih _ (by omega) _ _ _ h.2
        refine ⟨?_, h2⟩
        have h3 := h.1
        omega
def lenc (l : List Nat) : List Int := l.flatMap lput
theorem lenc_inj : ∀ (a b : List Nat), lenc a = lenc b → a = b
  | [], [], _ => rfl
  | [], w :: b, h => by
    have := congrArg List.length h
    have h1 := lsz_pos w
    simp [lenc, lput_len] at this
    omega
  | v :: a, [], h => by
    have := congrArg List.length h
    have h1 := lsz_pos v
    simp [lenc, lput_len] at this
    omega
  | v :: a, w :: b, h => by
    obtain ⟨h1, h2⟩ := lput_cancel v w (lenc a) (lenc b) (by simpa [lenc] using h)
    rw [h1, lenc_inj a b h2]

/-! ### what bytes say -/
def val : List Int → Int
  | [] => 0
  | b :: l => b % 128 + 128 * val l
theorem val_snoc (p : List Int) (b : Int) : val (p ++ [b]) = val p + 128 ^ p.length * (b % 128) := by
  induction p with
  | nil => simp [val]
  | cons a p ih =>
    simp only [List.cons_append, val, ih, List.length_cons, Int.pow_succ, Int.mul_add]
    rw [Int.mul_comm (128 ^ p.length) 128, Int.mul_assoc]
    omega
theorem val_bounds (p : List Int) : 0 ≤ val p ∧ val p < 128 ^ p.length := by
  induction p with
  | nil => simp [val]
  | cons a p ih =>
    simp only [val, List.length_cons, Int.pow_succ]
    omega
theorem val_lput (v : Nat) : val (lput v) = v := by
  induction v using Nat.strongRecOn with
  | _ v ih =>
    by_cases h : v ≤ 127
    · rw [lput_small h]; simp [val]; omega
    · rw [lput_big h]
      simp only [val]
      rw [ih _ (by omega)]
      omega
def run : List Int → Nat
  | [] => 0
  | b :: l => if 128 ≤ b then run l + 1 else 0
theorem run_le (l : List Int) : run l ≤ l.length := by
  induction l with
  | nil => simp [run]
  | cons b l ih => simp only [run]; split <;> simp <;> omega
theorem run_all (l : List Int) : ∀ j, j < run l → 128 ≤ l.getD j 0 := by
  induction l with
  | nil => intro j h; simp [run] at h
  | cons b l ih =>
    intro j h
    simp only [run] at h
    split at h
    · rename_i hb
      cases j with
      | zero => simpa using hb
      | succ j => simpa using ih j (by omega)
    · omega
theorem run_stop (l : List Int) : run l < l.length → l.getD (run l) 0 < 128 := by
  induction l with
  | nil => intro h; simp at h
  | cons b l ih =>
    intro h
    simp only [run] at h ⊢
    split
    · rename_i hb
      rw [if_pos hb] at h
      simpa using ih (by simpa using h)
    · simpa using (by omega : b < 128)
/-- What a list begins with, by the document. -/
def DEC (l : List Int) : Int × Int × Int :=
  if run l = l.length ∧ l.length < 10 then (0, 0, 10)
  else if 10 ≤ run l ∨ run l = l.length ∨ (run l = 9 ∧ 1 < l.getD (run l) 0) then (0, 0, 11)
  else if 0 < run l ∧ l.getD (run l) 0 = 0 then (0, 0, 12)
  else (val (l.take (run l + 1)), run l + 1, 0)
theorem run_lput (v : Nat) (t : List Int) : run (lput v ++ t) + 1 = lsz v := by
  induction v using Nat.strongRecOn with
  | _ v ih =>
    by_cases h : v ≤ 127
    · rw [lput_small h, lsz_small h]; simp [run]; omega
    · rw [lput_big h, lsz_big h]
      simp only [List.cons_append, run]
      rw [if_pos (by omega), ih _ (by omega)]
theorem last_lput (v : Nat) (t : List Int) : (lput v ++ t).getD (run (lput v ++ t)) 0 = (v / 128 ^ run (lput v ++ t) : Nat) := by
  induction v using Nat.strongRecOn with
  | _ v ih =>
    by_cases h : v ≤ 127
    · rw [lput_small h]
      have : run ([(v : Int)] ++ t) = 0 := by simp [run]; omega
      rw [this]; simp
    · rw [lput_big h]
      simp only [List.cons_append, run]
      rw [if_pos (by omega)]
      have := ih (v / 128) (by omega)
      simp only [List.getD_cons_succ]
      rw [this, Nat.pow_succ, Nat.mul_comm, Nat.div_div_eq_div_mul]
theorem last_pos (v : Nat) (t : List Int) (h : 0 < run (lput v ++ t)) : (lput v ++ t).getD (run (lput v ++ t)) 0 ≠ 0 := by
  induction v using Nat.strongRecOn with
  | _ v ih =>
    by_cases h7 : v ≤ 127
    · have : run (lput v ++ t) = 0 := by rw [lput_small h7]; simp [run]; omega
      omega
    · rw [lput_big h7]
      simp only [List.cons_append, run]
      rw [if_pos (by omega), List.getD_cons_succ]
      by_cases h0 : 0 < run (lput (v / 128) ++ t)
      · exact ih _ (by omega) h0
      · have hz : run (lput (v / 128) ++ t) = 0 := by omega
        rw [last_lput, hz]
        simp
        omega
theorem take_lput (v : Nat) (t : List Int) : (lput v ++ t).take (run (lput v ++ t) + 1) = lput v := by
  rw [run_lput, ← lput_len, List.take_left]
/-- What is written is read. -/
theorem DEC_lput {v : Nat} (hv : v < 18446744073709551616) (t : List Int) : DEC (lput v ++ t) = ((v : Int), (lsz v : Int), 0) := by
  have h1 := run_lput v t
  have h2 : lsz v ≤ 10 := lsz_ten hv
  have h3 := lput_len v
  have h4 : (lput v ++ t).length = lsz v + t.length := by rw [List.length_append, h3]
  unfold DEC
  rw [if_neg (by omega), if_neg, if_neg, take_lput, val_lput]
  · rw [← h1]; simp
  · rintro ⟨ha, hb⟩
    exact last_pos v t ha hb
  · rintro (h | h | ⟨h, hc⟩)
    · omega
    · omega
    · rw [last_lput, h] at hc
      have : v / 128 ^ 9 ≤ 1 := by
        have : v / 128 ^ 9 < 2 := Nat.div_lt_of_lt_mul (by omega)
        omega
      omega
/-- What is read is written. -/
theorem lput_val : ∀ (l : List Int), IsBytes l → run l < l.length → ¬ (0 < run l ∧ l.getD (run l) 0 = 0) → lput (val (l.take (run l + 1))).toNat = l.take (run l + 1) := by
  intro l
  induction l with
  | nil => intro _ h; simp at h
  | cons b l ih =>
    intro hb hr hz
    obtain ⟨⟨b0, b1⟩, hl⟩ := hb.cons
    simp only [run] at hr hz ⊢
    by_cases h : 128 ≤ b
    · rw [if_pos h] at hr hz ⊢
      have hr' : run l < l.length := by simpa using hr
      have ih' := ih hl hr' (by
        rintro ⟨h0, h1⟩
        exact hz ⟨by omega, by simpa using h1⟩)
      rw [List.take_succ_cons]
      simp only [val]
      obtain ⟨v0, v1⟩ := val_bounds (l.take (run l + 1))
      -- the rest is not 0
      have hne : val (l.take (run l + 1)) ≠ 0 := by
        intro h0
        rw [h0] at ih'
        have hz0 : lput (0 : Int).toNat = [0] := by rw [lput_small (by decide)]; rfl
        rw [hz0] at ih'
        have hlen := congrArg List.length ih'
        rw [List.length_take] at hlen
        simp at hlen
        have hrl : run l = 0 := by omega
        apply hz
        refine ⟨by omega, ?_⟩
        rw [hrl] at ih' ⊢
        cases l with
        | nil => simp at hr'
        | cons c l => simp at ih'; simpa using ih'.symm
      have hbig : ¬ (b % 128 + 128 * val (l.take (run l + 1))).toNat ≤ 127 := by omega
      rw [lput_big hbig]
      have e1 : (b % 128 + 128 * val (l.take (run l + 1))).toNat / 128 = (val (l.take (run l + 1))).toNat := by omega
      rw [e1, ih']
      congr 1
      omega
    · rw [if_neg h]
      simp only [List.take_succ_cons, List.take_zero, val]
      have : (b % 128 + 128 * 0).toNat ≤ 127 := by omega
      rw [lput_small this]
      congr 1
      omega
theorem DEC_back {l : List Int} (hb : IsBytes l) {v k : Int} (h : DEC l = (v, k, 0)) : 0 ≤ v ∧ v < 18446744073709551616 ∧ 1 ≤ k ∧ k ≤ l.length ∧ lput v.toNat = l.take k.toNat := by
  unfold DEC at h
  split at h
  · cases h
  · rename_i h1
    split at h
    · cases h
    · rename_i h2
      split at h
      · cases h
      · rename_i h3
        injection h with e1 h
        injection h with e2 _
        have hr := run_le l
        have hlt : run l < l.length := by omega
        have hp := lput_val l hb hlt h3
        obtain ⟨v0, v1⟩ := val_bounds (l.take (run l + 1))
        have hlen : (l.take (run l + 1)).length = run l + 1 := by rw [List.length_take]; omega
        rw [hlen] at v1
        subst e1
        subst e2
        refine ⟨v0, ?_, by omega, by omega, by rw [hp]; congr 1⟩
        by_cases h9 : run l = 9
        · have hx : l.getD (run l) 0 ≤ 1 := by
            have := (hb.at (run l)).1
            omega
          have ht : l.take (run l + 1) = l.take (run l) ++ [l.getD (run l) 0] := by
            rw [List.take_succ_eq_append_getElem hlt, List.getD_eq_getElem?_getD, List.getElem?_eq_getElem hlt]; rfl
          rw [ht, val_snoc]
          obtain ⟨w0, w1⟩ := val_bounds (l.take (run l))
          have hl9 : (l.take (run l)).length = 9 := by rw [List.length_take]; omega
          rw [hl9] at w1 ⊢
          have := (hb.at (run l)).1
          have e : l.getD (run l) 0 % 128 = l.getD (run l) 0 := by omega
          rw [e]
          omega
        · have : run l + 1 ≤ 9 := by omega
          refine Int.lt_of_lt_of_le v1 ?_
          have h128 : (128 : Int) ^ (run l + 1) ≤ 128 ^ 9 := by exact_mod_cast Nat.pow_le_pow_right (by decide) this
          exact Int.le_trans h128 (by decide)
end Go.Proofs.Ytkkmceejfmjidaa.LebMath
