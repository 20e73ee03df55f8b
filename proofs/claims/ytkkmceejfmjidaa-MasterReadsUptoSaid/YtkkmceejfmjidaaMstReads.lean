/- MstReads: what master.Decode and the document's Decode (hawserref21) answer: of bytes that are those of a state that may be, this one; else 32. -/
import Derived.Test.YtkkmceejfmjidaaLebDec
import Derived.Test.YtkkmceejfmjidaaGx
import Derived.Test.YtkkmceejfmjidaaCfgReads
import Derived.Test.YtkkmceejfmjidaaMst
import Derived.Test.YtkkmceejfmjidaaGx8
import Derived.Test.YtkkmceejfmjidaaGx15
namespace Go.Proofs.Ytkkmceejfmjidaa.Leb
open Go.RowKit Go.Proofs.Ytkkmceejfmjidaa.G Go.Proofs.Ytkkmceejfmjidaa.LebMath Go.Proofs.YtkkmceejfmjidaaW.PrintWords Go.Proofs.YtkkmceejfmjidaaW.PrintLast Go.Proofs.YtkkmceejfmjidaaW.PrintMore
set_option linter.unusedVariables false
set_option linter.unusedSimpArgs false

theorem same_eq {a b : List Int} (ha : IsBytes a) (hb : IsBytes b) : hawserref01_Same.f a b = some (decide (a = b)) := by
  unfold hawserref01_Same.f
  congr 1
  rw [Bool.eq_iff_iff]
  simp only [beq_iff_eq, decide_eq_true_eq, toList_data, strOfNums_data]
  exact ⟨fun h => str_inj ha hb h, fun h => by rw [h]⟩

theorem read_val (l : List Int) (hb : IsBytes l) (hl : l.length ≤ 1099511627776) (x5 : Int) : ∀ (i : Nat) (v : Int), i < l.length → i ≤ 9 → 0 ≤ v → (v + 1) * 128 ^ (i + 1) ≤ 18446744073709551616 ∨ (i = 9 ∧ v = 0 ∧ l.getD 9 0 ≤ 1) →
    Ev (fun k => hawserref01_Read.l1 k l x5 v (i : Int)) (v * 128 ^ (i + 1) + val (l.take (i + 1)), wrap64 (x5 + 1), 0) := by
  intro i
  induction i with
  | zero =>
    intro v hi _ h0 h1
    have hv : (v + 1) * 128 ≤ 18446744073709551616 := by
      rcases h1 with h1 | h1
      · simpa using h1
      · omega
    have hby := hb.at 0
    refine ⟨2, fun k hk => ?_⟩
    obtain ⟨k, rfl⟩ : ∃ m, k = m + 2 := ⟨k - 2, by omega⟩
    simp only [hawserref01_Read.l1]
    rw [if_pos (by omega), if_pos (by omega)]
    have e : wrap64 (((0 : Nat) : Int) - 1) = -1 := by rw [w64 (by omega) (by omega)]; rfl
    rw [e, if_neg (by omega), rd_nat, Int.tmod_eq_emod_of_nonneg hby.1]
    have hvt := val_take l 0 hi
    simp only [List.take_zero, val] at hvt
    rw [hvt]
    simp only [u64_wrap]
    congr 2
    omega
  | succ i ih =>
    intro v hi h9 h0 h1
    have hby := hb.at (i + 1)
    have hpp : (0 : Int) < 128 ^ (i + 1) := Int.pow_pos (by decide)
    have hvb : v * 128 + l.getD (i + 1) 0 % 128 < 18446744073709551616 ∧ ((v * 128 + l.getD (i + 1) 0 % 128) + 1) * 128 ^ (i + 1) ≤ 18446744073709551616 := by
      rcases h1 with h1 | ⟨h99, rfl, hx⟩
      · have e : (v + 1) * 128 ^ (i + 1 + 1) = ((v + 1) * 128) * 128 ^ (i + 1) := by rw [Int.pow_succ (128 : Int) (i + 1), Int.mul_comm (128 ^ (i + 1)) 128, ← Int.mul_assoc]
        rw [e] at h1
        have h2 : ((v * 128 + l.getD (i + 1) 0 % 128) + 1) * 128 ^ (i + 1) ≤ ((v + 1) * 128) * 128 ^ (i + 1) := Int.mul_le_mul_of_nonneg_right (by omega) (Int.le_of_lt hpp)
        have h3 : (v + 1) * 128 * 1 ≤ (v + 1) * 128 * 128 ^ (i + 1) := Int.mul_le_mul_of_nonneg_left (by omega) (by omega)
        omega
      · have h8 : i = 8 := by omega
        subst h8
        have : l.getD (8 + 1) 0 % 128 ≤ 1 := by
          have := hb.at 9
          show l.getD 9 0 % 128 ≤ 1
          omega
        have h2 : (0 * 128 + l.getD (8 + 1) 0 % 128 + 1) * 128 ^ (8 + 1) ≤ 2 * 128 ^ (8 + 1) := Int.mul_le_mul_of_nonneg_right (by omega) (Int.le_of_lt hpp)
        have h3 : (2 : Int) * 128 ^ (8 + 1) = 18446744073709551616 := by decide
        omega
    have hnext := ih (v * 128 + l.getD (i + 1) 0 % 128) (by omega) (by omega) (by omega) (.inl hvb.2)
    have e2 : (v * 128 + l.getD (i + 1) 0 % 128) * 128 ^ (i + 1) + val (l.take (i + 1)) = v * 128 ^ (i + 1 + 1) + val (l.take (i + 1 + 1)) := by
      rw [val_take l (i + 1) hi, Int.add_mul, Int.pow_succ (128 : Int) (i + 1), Int.mul_comm (128 ^ (i + 1)) 128, ← Int.mul_assoc, Int.mul_comm (l.getD (i + 1) 0 % 128)]
      omega
    rw [e2] at hnext
    refine Ev.step (fun k => ?_) hnext
    simp only [hawserref01_Read.l1]
    rw [if_pos (by omega), if_pos (by omega), rd_nat, Int.tmod_eq_emod_of_nonneg hby.1]
    have e3 : wrap64 (((i + 1 : Nat) : Int) - 1) = (i : Int) := by rw [w64 (by omega) (by omega)]; omega
    rw [e3]
    simp only [u64_wrap]
    congr 1
    omega
theorem read_tail (l : List Int) (hb : IsBytes l) (hl : l.length ≤ 1099511627776) : Ev (fun k => hawserref01_Read.j1 k l (run l : Int)) (DEC l) := by
  have hle := run_le l
  unfold DEC
  by_cases h1 : run l = l.length ∧ l.length < 10
  · rw [if_pos h1]
    refine ⟨2, fun k hk => ?_⟩
    obtain ⟨k, rfl⟩ : ∃ m, k = m + 2 := ⟨k - 2, by omega⟩
    simp only [hawserref01_Read.j1, hawserref01_Read.j2]
    rw [if_pos (by omega), if_pos (by simp; omega)]
  · rw [if_neg h1]
    have hj1 : ∀ k, hawserref01_Read.j1 (k + 1) l (run l : Int) = hawserref01_Read.j2 k l (run l : Int) false := by
      intro k
      simp only [hawserref01_Read.j1]
      split
      · have : decide ((l.length : Int) < 10) = false := decide_eq_false (by omega)
        rw [this]
      · rfl
    refine Ev.step hj1 ?_
    by_cases h2 : 10 ≤ run l ∨ run l = l.length ∨ (run l = 9 ∧ 1 < l.getD (run l) 0)
    · rw [if_pos h2]
      refine ⟨2, fun k hk => ?_⟩
      obtain ⟨k, rfl⟩ : ∃ m, k = m + 2 := ⟨k - 2, by omega⟩
      show hawserref01_Read.j2 (k + 2) l (run l : Int) false = some (0, 0, 11)
      have hj3 : hawserref01_Read.j2 (k + 2) l (run l : Int) false = hawserref01_Read.j3 (k + 1) l (run l : Int) true := by
        simp only [hawserref01_Read.j2]
        rw [if_neg (by decide)]
        by_cases ha : 10 ≤ run l
        · rw [if_pos (by omega)]
        · rw [if_neg (by omega)]
          by_cases hb' : run l = l.length
          · rw [if_pos (by omega)]
          · rw [if_neg (by omega), if_pos (by omega), if_pos (by omega), if_pos (by omega), rd_nat]
            have : decide (l.getD (run l) 0 > 1) = true := decide_eq_true (by omega)
            rw [this]
      rw [hj3]
      simp only [hawserref01_Read.j3]
      rw [if_pos True.intro]
    · rw [if_neg h2]
      have hlt : run l < l.length := by omega
      have hj2 : ∀ k, hawserref01_Read.j2 (k + 1) l (run l : Int) false = hawserref01_Read.j3 k l (run l : Int) false := by
        intro k
        simp only [hawserref01_Read.j2]
        rw [if_neg (by decide), if_neg (by omega), if_neg (by omega)]
        by_cases h9 : run l = 9
        · rw [if_pos (by omega), if_pos (by omega), if_pos (by omega), rd_nat]
          have : decide (l.getD (run l) 0 > 1) = false := decide_eq_false (by omega)
          rw [this]
        · rw [if_neg (by omega)]
      refine Ev.step hj2 ?_
      by_cases h3 : 0 < run l ∧ l.getD (run l) 0 = 0
      · rw [if_pos h3]
        refine ⟨2, fun k hk => ?_⟩
        obtain ⟨k, rfl⟩ : ∃ m, k = m + 2 := ⟨k - 2, by omega⟩
        simp only [hawserref01_Read.j3, hawserref01_Read.j4]
        rw [if_neg (by decide), if_pos (by omega), if_pos (by omega), rd_nat, if_pos (by simpa using h3.2)]
      · rw [if_neg h3]
        have hj3 : ∀ k, hawserref01_Read.j3 (k + 1) l (run l : Int) false = hawserref01_Read.j4 k l (run l : Int) false := by
          intro k
          simp only [hawserref01_Read.j3]
          rw [if_neg (by decide)]
          by_cases h0 : 0 < run l
          · rw [if_pos (by omega), if_pos (by omega), rd_nat]
            have : (l.getD (run l) 0 == 0) = false := by
              rw [beq_eq_false_iff_ne]; exact fun e => h3 ⟨h0, e⟩
            rw [this]
          · rw [if_neg (by omega)]
        refine Ev.step hj3 ?_
        have hv := read_val l hb hl (run l : Int) (run l) 0 hlt (by omega) (by omega) (by
          by_cases h9 : run l = 9
          · right
            have := hb.at 9
            refine ⟨h9, rfl, ?_⟩
            rw [h9] at h2
            omega
          · left
            have : 128 ^ (run l + 1) ≤ 128 ^ 9 := Nat.pow_le_pow_right (by decide) (by omega)
            have h9' : (128 : Nat) ^ 9 = 9223372036854775808 := by decide
            rw [h9'] at this
            have h10 : (128 : Int) ^ (run l + 1) ≤ 9223372036854775808 := cast_le this
            omega)
        rw [w64 (by omega) (by omega)] at hv
        simp only [Int.zero_mul, Int.zero_add] at hv
        refine Ev.step (fun k => ?_) hv
        simp only [hawserref01_Read.j4]
        rw [if_neg (by decide)]
theorem read0 (l : List Int) (hb : IsBytes l) (hl : l.length ≤ 1099511627776) : ∀ (d i : Nat), run l - i = d → i ≤ run l → Ev (fun k => hawserref01_Read.l0 k l (i : Int)) (DEC l) := by
  intro d
  have hle := run_le l
  induction d with
  | zero =>
    intro i hd hi
    obtain rfl : i = run l := by omega
    refine Ev.step (fun k => ?_) (read_tail l hb hl)
    simp only [hawserref01_Read.l0]
    by_cases hlt : run l < l.length
    · have := run_stop l hlt
      rw [if_pos (by omega), if_pos (by omega), rd_nat, if_neg (by omega)]
    · rw [if_neg (by omega)]
  | succ d ih =>
    intro i hd hi
    have hge := run_all l i (by omega)
    refine Ev.step (fun k => ?_) (ih (i + 1) (by omega) (by omega))
    simp only [hawserref01_Read.l0]
    rw [if_pos (by omega), if_pos (by omega), rd_nat, if_pos (by omega), w64 (by omega) (by omega)]
    congr 1
theorem read_ev (l : List Int) (hb : IsBytes l) (hl : l.length ≤ 1099511627776) : Ev (fun k => hawserref01_Read.f k l) (DEC l) := by
  have := read0 l hb hl (run l) 0 (by omega) (by omega)
  simpa [hawserref01_Read.f] using this

/-! ### Lend and Kept -/
theorem kept0 (l w : List Int) (hw : w = l ++ (lendMarks l.length).drop l.length) (hl : l.length ≤ 1099511627776) : ∀ (d i : Nat), l.length + 9 - i = d → i ≤ l.length + 9 → Ev (fun k => hawserref01_Kept.l0 k w l ((l.length + 9 : Nat) : Int) (i : Int)) true := by
  have hlen : w.length = l.length + 9 := by rw [hw, List.length_append, List.length_drop, lendMarks_len]; omega
  intro d
  induction d with
  | zero =>
    intro i hd hi
    refine ⟨1, fun k hk => ?_⟩
    obtain ⟨k, rfl⟩ : ∃ m, k = m + 1 := ⟨k - 1, by omega⟩
    simp only [hawserref01_Kept.l0]
    rw [if_neg (by omega)]
  | succ d ih =>
    intro i hd hi
    refine Ev.step (fun k => ?_) (ih (i + 1) (by omega) (by omega))
    simp only [hawserref01_Kept.l0]
    have ew : wrap64 ((i : Int) + 1) = ((i + 1 : Nat) : Int) := by rw [w64 (by omega) (by omega)]; omega
    rw [if_pos (by omega), ew]
    by_cases hlt : i < l.length
    · have e : rd w (i : Int) = rd l (i : Int) := by
        rw [rd_nat, rd_nat, hw, List.getD_eq_getElem?_getD, List.getElem?_append_left hlt, ← List.getD_eq_getElem?_getD]
      rw [if_pos (by omega), if_pos (by omega), if_pos (by omega), if_pos e]
    · have e : rd w (i : Int) = (wrap64 (201 + (i : Int))) % 256 := by
        rw [rd_nat, hw, List.getD_eq_getElem?_getD, List.getElem?_append_right (by omega), List.getElem?_drop, w64 (by omega) (by omega)]
        have : l.length + (i - l.length) = i := by omega
        rw [this]
        simp [lendMarks, List.getElem?_range (show i < l.length + 9 by omega)]
      rw [if_neg (by omega), if_pos (by omega), if_pos (by omega), if_pos e]
theorem kept_ev (l : List Int) (hl : l.length ≤ 1099511627776) : Ev (fun k => hawserref01_Kept.f k (l ++ (lendMarks l.length).drop l.length) l) true := by
  have hlen : (l ++ (lendMarks l.length).drop l.length).length = l.length + 9 := by rw [List.length_append, List.length_drop, lendMarks_len]; omega
  have := kept0 l _ rfl hl (l.length + 9) 0 (by omega) (by omega)
  obtain ⟨K, hK⟩ := this
  refine ⟨K, fun k hk => ?_⟩
  show hawserref01_Kept.f k _ l = some true
  unfold hawserref01_Kept.f
  rw [if_pos (by rw [hlen, w64 (by omega) (by omega)]; omega), hlen]
  exact hK k hk
theorem lend_eq (l : List Int) (hl : l.length ≤ 1099511627776) : hawserref01_Lend.f l = some (l ++ (lendMarks l.length).drop l.length, l) := by
  unfold hawserref01_Lend.f
  rw [if_pos hl]
end Go.Proofs.Ytkkmceejfmjidaa.Leb
namespace Go.Proofs.Ytkkmceejfmjidaa.MstReads
open Go.RowKit Go.Proofs.Ytkkmceejfmjidaa.G Go.Proofs.Ytkkmceejfmjidaa.LebMath Go.Proofs.Ytkkmceejfmjidaa.CfgMath Go.Proofs.Ytkkmceejfmjidaa.CfgEnc Go.Proofs.Ytkkmceejfmjidaa.CfgReads Go.Proofs.Ytkkmceejfmjidaa.Mst Go.Proofs.Ytkkmceejfmjidaa.Leb Go.Proofs.YtkkmceejfmjidaaW.PrintWords Go.Proofs.YtkkmceejfmjidaaW.PrintLast Go.Proofs.YtkkmceejfmjidaaW.PrintMore
set_option linter.unusedVariables false
set_option linter.unusedSimpArgs false
theorem rbytes_ev (v : Nat) : v < 18446744073709551616 → Ev (fun k => hawserref01_Bytes.f k (v : Int)) (lput v) := by
  induction v using Nat.strongRecOn with
  | _ v ih =>
    intro hv
    by_cases h : v ≤ 127
    · rw [lput_small h]
      refine ⟨1, fun k hk => ?_⟩
      obtain ⟨k, rfl⟩ : ∃ m, k = m + 1 := ⟨k - 1, by omega⟩
      simp only [hawserref01_Bytes.f]
      rw [if_pos (by omega)]
      congr 2
      omega
    · rw [lput_big h]
      have e1 : Int.tdiv (v : Int) 128 = ((v / 128 : Nat) : Int) := rfl
      have e2 : Int.tmod (v : Int) 128 = ((v % 128 : Nat) : Int) := rfl
      have e3 : IntKind.u64.wrap ((v / 128 : Nat) : Int) = ((v / 128 : Nat) : Int) := by rw [LebMath.u64_wrap]; omega
      refine Ev.step (f := fun k => (hawserref01_Bytes.f k ((v / 128 : Nat) : Int)).bind fun t118 => (if ([(((v % 128 : Nat) : Int) % 256 + 128) % 256] : List Int).length + t118.length < 140737488355328 then (some (([(((v % 128 : Nat) : Int) % 256 + 128) % 256] : List Int) ++ t118)) else (none))) (fun k => ?_) (Ev.bind (ih (v / 128) (by omega) (by omega)) (Ev.congr (f := fun _ => some (((v % 128 + 128 : Nat) : Int) :: lput (v / 128))) (fun k => ?_) (Ev.now _)))
      · simp only [hawserref01_Bytes.f, Option.bind_some]
        rw [if_neg (by omega), e1, e2, e3]
      · have := lsz_ten (v := v / 128) (by omega)
        rw [if_pos (by rw [lput_len]; simp only [List.length_cons, List.length_nil]; omega)]
        rw [show (((v % 128 : Nat) : Int) % 256 + 128) % 256 = ((v % 128 + 128 : Nat) : Int) by omega]
        rfl
theorem w6 {n : Int} (h0 : -9223372036854775808 ≤ n) (h1 : n ≤ 9223372036854775807) : wrap64 n = n := CfgEnc.w64 h0 h1
/-! ### numbers, one taken up -/
theorem DEC_cases (l : List Int) : (DEC l).2.2 = 0 ∨ (DEC l = (0, 0, 10) ∨ DEC l = (0, 0, 11) ∨ DEC l = (0, 0, 12)) := by
  unfold DEC
  split
  · exact .inr (.inl rfl)
  · split
    · exact .inr (.inr (.inl rfl))
    · split
      · exact .inr (.inr (.inr rfl))
      · exact .inl rfl
def NUM (l : List Int) (a : Nat) (most : Int) : Int × Nat × Int :=
  if (DEC (l.drop a)).2.2 = 0 then (if (DEC (l.drop a)).1 ≤ most then ((DEC (l.drop a)).1, a + (DEC (l.drop a)).2.1.toNat, 0) else (0, a, 31)) else (0, a, Rdr.perr (DEC (l.drop a)).2.2)
theorem NUM_ok {l : List Int} (hb : IsBytes l) {a : Nat} (ha : a ≤ l.length) {most : Int} (h : (NUM l a most).2.2 = 0) : (0 ≤ (NUM l a most).1 ∧ (NUM l a most).1 ≤ most ∧ (NUM l a most).1 < 18446744073709551616) ∧ (NUM l a most).2.1 ≤ l.length ∧ l.drop a = lput (NUM l a most).1.toNat ++ l.drop (NUM l a most).2.1 := by
  unfold NUM at h ⊢
  rcases DEC_cases (l.drop a) with hz | hz | hz | hz
  · rw [if_pos hz] at h ⊢
    obtain ⟨h0, h1, h2, h3, h4⟩ := DEC_ok (hb.drop a) hz
    by_cases hm : (DEC (l.drop a)).1 ≤ most
    · rw [if_pos hm]
      rw [List.length_drop] at h3
      refine ⟨⟨h0, hm, h1⟩, ?_, ?_⟩
      · show a + (DEC (l.drop a)).2.1.toNat ≤ l.length
        omega
      · show l.drop a = lput (DEC (l.drop a)).1.toNat ++ l.drop (a + (DEC (l.drop a)).2.1.toNat)
        rw [h4, ← List.drop_drop, List.take_append_drop]
    · rw [if_neg hm] at h
      exact absurd (show (31 : Int) = 0 from h) (by decide)
  all_goals
    rw [hz] at h
    simp [Rdr.perr] at h
theorem NUM_err {l : List Int} {a : Nat} {most : Int} (h : (NUM l a most).2.2 ≠ 0) : (NUM l a most).1 = 0 ∧ (NUM l a most).2.1 = a := by
  unfold NUM at h ⊢
  split
  · rename_i h0
    rw [if_pos h0] at h
    split
    · rename_i h1
      rw [if_pos h1] at h
      exact absurd rfl h
    · exact ⟨rfl, rfl⟩
  · exact ⟨rfl, rfl⟩
theorem NUM_fwd {l : List Int} {a : Nat} {v : Int} {rest : List Int} (hd : l.drop a = lput v.toNat ++ rest) (h0 : 0 ≤ v) (h1 : v < 18446744073709551616) {most : Int} (hm : v ≤ most) : NUM l a most = (v, a + lsz v.toNat, 0) ∧ l.drop (a + lsz v.toNat) = rest := by
  have hD := DEC_lput (v := v.toNat) (by omega) rest
  have hv : ((v.toNat : Nat) : Int) = v := by omega
  rw [hv] at hD
  constructor
  · unfold NUM
    rw [hd, hD]
    simp only [if_true]
    rw [if_pos hm, Int.toNat_natCast]
  · rw [← List.drop_drop, hd, ← lput_len, List.drop_left]
theorem NUM_le {l : List Int} (hb : IsBytes l) {a : Nat} (ha : a ≤ l.length) (most : Int) : (NUM l a most).2.1 ≤ l.length := by
  by_cases h : (NUM l a most).2.2 = 0
  · exact (NUM_ok hb ha h).2.1
  · rw [(NUM_err h).2]; exact ha
def NUMS (l : List Int) (s : Nat × Int) (most : Int) : Int × Nat × Int := if s.2 = 0 then NUM l s.1 most else (0, s.1, s.2)
theorem NUMS_le {l : List Int} (hb : IsBytes l) {s : Nat × Int} (ha : s.1 ≤ l.length) (most : Int) : (NUMS l s most).2.1 ≤ l.length := by
  unfold NUMS
  split
  · exact NUM_le hb ha most
  · exact ha
theorem NUMS_ok {l : List Int} (hb : IsBytes l) {s : Nat × Int} (ha : s.1 ≤ l.length) {most : Int} (h : (NUMS l s most).2.2 = 0) : s.2 = 0 ∧ (0 ≤ (NUMS l s most).1 ∧ (NUMS l s most).1 ≤ most ∧ (NUMS l s most).1 < 18446744073709551616) ∧ (NUMS l s most).2.1 ≤ l.length ∧ l.drop s.1 = lput (NUMS l s most).1.toNat ++ l.drop (NUMS l s most).2.1 := by
  unfold NUMS at h ⊢
  by_cases hs : s.2 = 0
  · rw [if_pos hs] at h ⊢
    exact ⟨hs, NUM_ok hb ha h⟩
  · rw [if_neg hs] at h
    exact absurd h hs
theorem NUMS_val {l : List Int} (hb : IsBytes l) {s : Nat × Int} (ha : s.1 ≤ l.length) {most : Int} (hm : 0 ≤ most) : 0 ≤ (NUMS l s most).1 ∧ (NUMS l s most).1 ≤ most := by
  by_cases h : (NUMS l s most).2.2 = 0
  · obtain ⟨_, ⟨h0, h1, _⟩, _⟩ := NUMS_ok hb ha h
    exact ⟨h0, h1⟩
  · unfold NUMS at h ⊢
    split
    · rename_i hs
      rw [if_pos hs] at h
      rw [(NUM_err h).1]; omega
    · exact ⟨Int.le_refl _, hm⟩
/-- From such a number of rounds on every place of these bytes is decoded so. -/
structure At (l : List Int) (k : Nat) : Prop where
  p : ∀ i, i ≤ l.length → leb_Decode.f k (l.drop i) = some (DEC (l.drop i))
  r : ∀ i, i ≤ l.length → hawserref01_Read.f k (l.drop i) = some (DEC (l.drop i))
theorem at_all (l : List Int) (hb : IsBytes l) (hl : l.length ≤ 1099511627776) : ∃ K, ∀ k, K ≤ k → At l k := by
  obtain ⟨K, hK⟩ := dec_all l hb hl
  obtain ⟨K2, hK2⟩ := ev_all (fun k i => hawserref01_Read.f k (l.drop i)) (fun i => DEC (l.drop i)) l.length (fun i _ => read_ev (l.drop i) (hb.drop i) (by rw [List.length_drop]; omega))
  exact ⟨K + K2, fun k hk => ⟨(hK k (by omega)).1, hK2 k (by omega)⟩⟩
theorem pint_eq {l : List Int} (hb : IsBytes l) {k a : Nat} (ha : a ≤ l.length) (h : At l k) (most : Int) : Rdr.pint k l a most = some (NUM l a most) := by
  unfold Rdr.pint NUM
  rw [h.p a ha, Option.bind_some]
  rcases DEC_cases (l.drop a) with hz | hz | hz | hz
  · obtain ⟨h0, h1, h2, h3, h4⟩ := DEC_ok (hb.drop a) hz
    rw [List.length_drop] at h3
    rw [if_pos ⟨⟨h0, h1⟩, ⟨by omega, by omega⟩, .inl hz⟩, if_pos hz, if_pos hz]
    split <;> rfl
  all_goals
    rw [hz, if_pos ⟨⟨by decide, by decide⟩, ⟨by decide, by simp; omega⟩, by decide⟩]
    rfl
theorem PInt_eq {l : List Int} (hb : IsBytes l) {k : Nat} {s : Nat × Int} (ha : s.1 ≤ l.length) (h : At l k) (most : Int) : Rdr.PInt k l s.1 s.2 most = some (NUMS l s most) := by
  unfold Rdr.PInt NUMS
  split
  · exact pint_eq hb ha h most
  · rfl
def cst (t : Int × Nat × Int) : Int × Int × Int := (t.1, (t.2.1 : Int), t.2.2)
theorem upto_eq {l : List Int} (hb : IsBytes l) (hl : l.length ≤ 1048576) {k a : Nat} (ha : a ≤ l.length) (h : At l (k + 1)) {most : Int} (h0 : 0 ≤ most) (h1 : most ≤ 1152921504606846976) :
    hawserref03_upto.f (k + 1) l a most = some (if (NUM l a most).2.2 = 0 then cst (NUM l a most) else (0, 0, (NUM l a most).2.2)) := by
  unfold hawserref03_upto.f hawserref03_number.f NUM
  rw [if_neg (by omega), if_pos (by omega), if_pos (by omega), Int.toNat_natCast, h.r a ha, Option.bind_some]
  rcases DEC_cases (l.drop a) with hz | hz | hz | hz
  · obtain ⟨g0, g1, g2, g3, g4⟩ := DEC_ok (hb.drop a) hz
    rw [List.length_drop] at g3
    have hw : IntKind.u64.wrap most = most := by rw [LebMath.u64_wrap]; omega
    rw [hz]
    simp only [hz, if_neg (show ¬ ((0 : Int) = 10) by decide), if_neg (show ¬ ((0 : Int) = 11) by decide), if_neg (show ¬ ((0 : Int) = 12) by decide), Option.bind_some, if_true, hw, hawserref03_upto.j0]
    by_cases hm : (DEC (l.drop a)).1 ≤ most
    · have hd : decide ((DEC (l.drop a)).1 > most) = false := decide_eq_false (by omega)
      rw [hd, if_pos hm, if_neg (by decide), w6 (by omega) (by omega), w6 (by omega) (by omega)]
      simp only [if_true, cst]
      congr 2
      simp only [Prod.mk.injEq, and_true]
      omega
    · have hd : decide ((DEC (l.drop a)).1 > most) = true := decide_eq_true (by omega)
      rw [hd, if_neg hm, if_pos rfl]
      rfl
  all_goals
    rw [hz]
    simp [Rdr.perr, hawserref03_upto.j0]
theorem RInt_eq {l : List Int} (hb : IsBytes l) (hl : l.length ≤ 1048576) {k : Nat} {s : Nat × Int} (ha : s.1 ≤ l.length) (h : At l (k + 1)) {most : Int} (h0 : 0 ≤ most) (h1 : most ≤ 1152921504606846976) : Rdr.RInt (k + 1) l (s.1 : Int) s.2 most = some (cst (NUMS l s most)) := by
  unfold Rdr.RInt NUMS
  split
  · rw [upto_eq hb hl ha h h0 h1, Option.bind_some]
    by_cases hz : (NUM l s.1 most).2.2 = 0
    · rw [if_pos hz]
      rw [if_pos (show (cst (NUM l s.1 most)).2.2 = 0 from hz)]
    · rw [if_neg hz, if_neg hz]
      obtain ⟨e1, e2⟩ := NUM_err hz
      unfold cst
      rw [e1, e2]
  · rfl
/-! ### a text at the front -/
def TX (l : List Int) (most : Int) : ByteArray × Nat × Int := if (NUM l 0 most).2.2 = 0 then (if (NUM l 0 most).2.1 + (NUM l 0 most).1.toNat ≤ l.length then (strOfNums ((l.take ((NUM l 0 most).2.1 + (NUM l 0 most).1.toNat)).drop (NUM l 0 most).2.1), (NUM l 0 most).2.1 + (NUM l 0 most).1.toNat, 0) else (⟨#[]⟩, 0, 30)) else (⟨#[]⟩, 0, (NUM l 0 most).2.2)
theorem size_str (l : List Int) : (strOfNums l).size = l.length := by
  have : (strOfNums l).size = (strOfNums l).data.toList.length := by rw [Array.length_toList]; rfl
  rw [this, strOfNums_data, List.length_map]
theorem bytes_str {l : List Int} (hb : IsBytes l) : Rdr.bytesOf (strOfNums l) = l := by
  unfold Rdr.bytesOf
  rw [strOfNums_data, List.map_map]
  refine (List.map_congr_left (g := id) fun x hx => ?_).trans (List.map_id _)
  have := hb x hx
  simp only [Function.comp, id]
  rw [UInt8.toNat_ofNat_of_lt' (by show x.toNat < 256; omega)]
  omega
theorem bytes_ok (s : ByteArray) : IsBytes (Rdr.bytesOf s) := by
  intro x hx
  unfold Rdr.bytesOf at hx
  obtain ⟨b, _, rfl⟩ := List.mem_map.1 hx
  have := b.toNat_lt
  omega
theorem TX_size {l : List Int} (most : Int) : (TX l most).1.size ≤ l.length := by
  unfold TX
  split
  · split
    · show (strOfNums _).size ≤ _
      rw [size_str, List.length_drop, List.length_take]
      omega
    · exact Nat.zero_le _
  · exact Nat.zero_le _
theorem TX_le {l : List Int} (hb : IsBytes l) (most : Int) : (TX l most).2.1 ≤ l.length := by
  unfold TX
  split
  · split
    · assumption
    · exact Nat.zero_le _
  · exact Nat.zero_le _
theorem TX_ok {l : List Int} (hb : IsBytes l) {most : Int} (h : (TX l most).2.2 = 0) : l = lput (Rdr.bytesOf (TX l most).1).length ++ (Rdr.bytesOf (TX l most).1 ++ l.drop (TX l most).2.1) := by
  unfold TX at h ⊢
  split at h
  · rename_i hz
    rw [if_pos hz]
    split at h
    · rename_i hle
      rw [if_pos hle]
      obtain ⟨⟨h0, h1, h2⟩, h3, h4⟩ := NUM_ok hb (Nat.zero_le _) hz
      rw [List.drop_zero] at h4
      generalize NUM l 0 most = t at h0 h1 h2 h3 h4 hle ⊢
      simp only
      have e3 : ((l.take (t.2.1 + t.1.toNat)).drop t.2.1).length = t.1.toNat := by rw [List.length_drop, List.length_take]; omega
      rw [bytes_str ((hb.take _).drop _), e3]
      conv => lhs; rw [h4]
      congr 1
      rw [← List.drop_drop, List.drop_take, show t.2.1 + t.1.toNat - t.2.1 = t.1.toNat by omega, List.take_append_drop]
    · exact absurd h (by decide)
  · rename_i hz
    exact absurd h hz
theorem TX_fwd {l : List Int} {c rest : List Int} (hc : IsBytes c) (hl : l = lput c.length ++ (c ++ rest)) {most : Int} (hm : (c.length : Int) ≤ most) (h9 : c.length ≤ 1048576) : TX l most = (strOfNums c, lsz c.length + c.length, 0) ∧ l.drop (lsz c.length + c.length) = rest := by
  have hd : l.drop 0 = lput ((c.length : Int)).toNat ++ (c ++ rest) := by rw [List.drop_zero, Int.toNat_natCast]; exact hl
  obtain ⟨h1, h2⟩ := NUM_fwd (a := 0) hd (by omega) (by omega) hm
  rw [Int.toNat_natCast, Nat.zero_add] at h1 h2
  constructor
  · unfold TX
    rw [h1]
    simp only [if_true, Int.toNat_natCast]
    have hlen : lsz c.length + c.length ≤ l.length := by rw [hl, List.length_append, List.length_append, lput_len]; omega
    rw [if_pos hlen]
    congr 2
    rw [List.drop_take, show lsz c.length + c.length - lsz c.length = c.length by omega, h2, List.take_left]
  · rw [← List.drop_drop, h2, List.drop_left]
theorem PText_eq {l : List Int} (hb : IsBytes l) {k : Nat} (h : At l k) (most : Int) : Rdr.PText k l 0 0 most = some (TX l most) := by
  unfold Rdr.PText Rdr.ptext TX
  rw [if_pos rfl, pint_eq hb (Nat.zero_le _) h, Option.bind_some]
  by_cases hz : (NUM l 0 most).2.2 = 0
  · rw [if_pos hz, if_pos hz]
    split <;> rfl
  · rw [if_neg hz, if_neg hz]
theorem RText_eq {l : List Int} (hb : IsBytes l) (hl : l.length ≤ 1048576) {k : Nat} (h : At l (k + 1)) {most : Int} (h0 : 0 ≤ most) (h1 : most ≤ 1152921504606846976) : Rdr.RText (k + 1) l 0 0 most = some ((TX l most).1, ((TX l most).2.1 : Int), (TX l most).2.2) := by
  unfold Rdr.RText hawserref03_text.f TX
  have hu : hawserref03_upto.f (k + 1) l 0 most = _ := upto_eq hb hl (a := 0) (Nat.zero_le _) h h0 h1
  rw [if_pos rfl, hu, Option.bind_some]
  by_cases hz : (NUM l 0 most).2.2 = 0
  · obtain ⟨⟨g0, g1, g2⟩, g3, g4⟩ := NUM_ok hb (Nat.zero_le _) hz
    rw [if_pos hz, if_pos (show (cst (NUM l 0 most)).2.2 = 0 from hz), if_pos hz]
    have e1 : (cst (NUM l 0 most)).2.1 = ((NUM l 0 most).2.1 : Int) := rfl
    have e2 : (cst (NUM l 0 most)).1 = (NUM l 0 most).1 := rfl
    rw [e1, e2]
    generalize NUM l 0 most = t at g0 g1 g2 g3 ⊢
    rw [if_pos ⟨⟨by omega, by omega⟩, ⟨g0, by omega⟩, by omega⟩]
    by_cases hle : t.2.1 + t.1.toNat ≤ l.length
    · rw [if_pos hle, if_pos (by omega), Option.bind_some]
      have e7 : (t.2.1 : Int) + t.1 = ((t.2.1 + t.1.toNat : Nat) : Int) := by omega
      rw [if_pos rfl, e7, Int.toNat_natCast, Int.toNat_natCast]
    · rw [if_neg hle, if_neg (by omega), Option.bind_some]
      rw [if_neg (by decide)]
      rfl
  · rw [if_neg hz, if_neg (by exact hz), Option.bind_some, if_neg (by exact hz), if_neg hz]
    rfl
/-! ### the chain's numbers, by the document's reader -/
def RCH (ys : List Int) : Nat → Nat × Int → List Int → (Nat × Int) × List Int
  | 0, s, ch => (s, ch)
  | m + 1, s, ch => RCH ys m (NUMS ys s 8).2 (ch ++ [(NUMS ys s 8).1])
theorem rchain_eq {ys : List Int} (hb : IsBytes ys) (hl : ys.length ≤ 1048576) {k : Nat} (h : At ys (k + 1)) : ∀ (m : Nat) (s : Nat × Int) (ch : List Int), s.1 ≤ ys.length → Rdr.rchain (k + 1) ys m (s.1 : Int) s.2 ch = some (((RCH ys m s ch).1.1 : Int), (RCH ys m s ch).1.2, (RCH ys m s ch).2) ∧ (RCH ys m s ch).1.1 ≤ ys.length
  | 0, s, ch, hs => ⟨rfl, hs⟩
  | m + 1, s, ch, hs => by
    have ih := rchain_eq hb hl h m (NUMS ys s 8).2 (ch ++ [(NUMS ys s 8).1]) (NUMS_le hb hs 8)
    refine ⟨?_, ih.2⟩
    rw [Rdr.rchain, RInt_eq hb hl hs h (by decide) (by decide), Option.bind_some]
    exact ih.1
theorem RCH_fwd (ys : List Int) : ∀ (c : List Int) (a : Nat) (ch : List Int), (∀ x ∈ c, 1 ≤ x ∧ x ≤ 8) → ys.drop a = c → RCH ys c.length (a, 0) ch = ((a + c.length, 0), ch ++ c)
  | [], a, ch, _, _ => by simp [RCH]
  | x :: c, a, ch, hx, hd => by
    have h1 := hx x List.mem_cons_self
    obtain ⟨h2, h3⟩ := NUM_fwd (l := ys) (a := a) (v := x) (rest := c) (by rw [lput_small (by omega), hd, show ((x.toNat : Nat) : Int) = x by omega]; rfl) (by omega) (by omega) (most := 8) (by omega)
    rw [lsz_small (by omega)] at h2 h3
    have hn : NUMS ys (a, 0) 8 = (x, a + 1, 0) := by unfold NUMS; rw [if_pos rfl, h2]
    rw [List.length_cons, RCH, hn]
    rw [RCH_fwd ys c (a + 1) (ch ++ [x]) (fun y hy => hx y (List.mem_cons_of_mem _ hy)) h3]
    simp
    omega
/-! ### the bytes of a state -/
def mB (e : Int) (l : List Int) (a2 a3 a4 a5 : Int) : List Int := lput (cfgBytes e l).length ++ (cfgBytes e l ++ (lput a2.toNat ++ (lput a3.toNat ++ (lput a4.toNat ++ (lput a5.toNat ++ [])))))
theorem refB_lput (v : Int) (h0 : 0 ≤ v) (h1 : v < 18446744073709551616) : Wri_refB v = lput v.toNat := by
  obtain ⟨K, hK⟩ := rbytes_ev v.toNat (by omega)
  have h1 : hawserref01_Bytes.f (K + 100) ((v.toNat : Nat) : Int) = _ := hK (K + 100) (by omega)
  rw [show ((v.toNat : Nat) : Int) = v by omega, refB_at v h0 (by omega) (K + 100) (by omega)] at h1
  exact Option.some.inj h1
theorem refBs_cfg : ∀ (l : List Int), (∀ x ∈ l, 1 ≤ x ∧ x ≤ 8) → Wri_refBs l = l
  | [], _ => rfl
  | x :: l, h => by
    have hx := h x List.mem_cons_self
    have ih := refBs_cfg l (fun y hy => h y (List.mem_cons_of_mem _ hy))
    unfold Wri_refBs at ih ⊢
    rw [List.flatMap_cons, ih, show IntKind.u64.wrap x = x by rw [LebMath.u64_wrap]; omega, refB_lput x (by omega) (by omega), lput_small (by omega), show ((x.toNat : Nat) : Int) = x by omega]
    rfl
theorem refCfg_cfg {e : Int} {l : List Int} (h : chk e l = 0) : Wri_refCfg e l = cfgBytes e l := by
  obtain ⟨h1, h2, h3, h4, _⟩ := chk_zero.1 h
  unfold Wri_refCfg cfgBytes
  rw [show IntKind.u64.wrap e = e by rw [LebMath.u64_wrap]; omega, refB_lput e (by omega) (by omega), refB_lput _ (by omega) (by omega), Int.toNat_natCast, lput_small (v := l.length) (by omega), refBs_cfg l (ch_range h), List.append_assoc]
  rfl
theorem bytesOf_same (s : ByteArray) : Wri_bytesOf s = Rdr.bytesOf s := rfl
theorem cfg_len {e : Int} {l : List Int} (h : chk e l = 0) : (cfgBytes e l).length ≤ 64 := by
  rw [← refCfg_cfg h]; exact refCfg_len64 e l h
theorem refEnc_mB {e : Int} {l : List Int} {a2 a3 a4 a5 : Int} (h : mchk e l a2 a3 a4 a5 = 0) : Wri_refEnc e l a2 a3 a4 a5 = mB e l a2 a3 a4 a5 := by
  obtain ⟨hc, h2, h3, h4, h5⟩ := mchk_zero h
  have hcb := cfgBytes_bytes hc
  have hln := cfg_len hc
  unfold Wri_refEnc mB
  rw [refCfg_cfg hc, bytesOf_same, bytes_str hcb, size_str, refB_lput _ (by omega) (by omega), Int.toNat_natCast]
  have hw : ∀ x : Int, 0 ≤ x → x ≤ 1152921504606846976 → Wri_refB (IntKind.u64.wrap x) = lput x.toNat := fun x g0 g1 => by
    rw [show IntKind.u64.wrap x = x by rw [LebMath.u64_wrap]; omega, refB_lput x g0 (by omega)]
  rw [hw a2 h2.1 h2.2, hw a3 (by omega) (by omega), hw a4 h4.1 h4.2, hw a5 (by omega) (by omega)]
  simp only [List.nil_append, List.append_assoc, List.append_nil]
theorem mB_bytes {e : Int} {l : List Int} {a2 a3 a4 a5 : Int} (h : mchk e l a2 a3 a4 a5 = 0) : IsBytes (mB e l a2 a3 a4 a5) := by
  obtain ⟨hc, _⟩ := mchk_zero h
  unfold mB
  exact (lput_bytes _).append ((cfgBytes_bytes hc).append ((lput_bytes _).append ((lput_bytes _).append ((lput_bytes _).append ((lput_bytes _).append (fun x hx => by cases hx))))))
theorem mB_inj {e f : Int} {l m : List Int} {a2 a3 a4 a5 b2 b3 b4 b5 : Int} (h : mchk e l a2 a3 a4 a5 = 0) (g : mchk f m b2 b3 b4 b5 = 0) (he : mB e l a2 a3 a4 a5 = mB f m b2 b3 b4 b5) : e = f ∧ l = m ∧ a2 = b2 ∧ a3 = b3 ∧ a4 = b4 ∧ a5 = b5 := by
  obtain ⟨hc, h2, h3, h4, h5⟩ := mchk_zero h
  obtain ⟨gc, g2, g3, g4, g5⟩ := mchk_zero g
  unfold mB at he
  obtain ⟨e0, he⟩ := lput_cancel _ _ _ _ he
  obtain ⟨e1, he⟩ := List.append_inj he e0
  obtain ⟨e2, he⟩ := lput_cancel _ _ _ _ he
  obtain ⟨e3, he⟩ := lput_cancel _ _ _ _ he
  obtain ⟨e4, he⟩ := lput_cancel _ _ _ _ he
  obtain ⟨e5, he⟩ := lput_cancel _ _ _ _ he
  obtain ⟨q1, q2⟩ := cfgBytes_inj hc gc e1
  exact ⟨q1, q2, by omega, by omega, by omega, by omega⟩
/-- An answer of one of the Decodes. -/
def AnsM (l : List Int) (r : Int × List Int × Int × Int × Int × Int × Int) : Prop :=
  (r = (0, [], 0, 0, 0, 0, 32) ∧ ∀ e ch a2 a3 a4 a5, mchk e ch a2 a3 a4 a5 = 0 → mB e ch a2 a3 a4 a5 ≠ l) ∨ (r.2.2.2.2.2.2 = 0 ∧ mchk r.1 r.2.1 r.2.2.1 r.2.2.2.1 r.2.2.2.2.1 r.2.2.2.2.2.1 = 0 ∧ mB r.1 r.2.1 r.2.2.1 r.2.2.2.1 r.2.2.2.2.1 r.2.2.2.2.2.1 = l)
theorem AnsM.same {l : List Int} {r s : Int × List Int × Int × Int × Int × Int × Int} (h : AnsM l r) (g : AnsM l s) : r = s := by
  obtain ⟨r1, r2, r3, r4, r5, r6, r7⟩ := r
  obtain ⟨s1, s2, s3, s4, s5, s6, s7⟩ := s
  rcases h with ⟨h1, h2⟩ | ⟨h1, h2, h3⟩ <;> rcases g with ⟨g1, g2⟩ | ⟨g1, g2, g3⟩
  · rw [h1, g1]
  · exact absurd g3 (h2 _ _ _ _ _ _ g2)
  · exact absurd h3 (g2 _ _ _ _ _ _ h2)
  · obtain ⟨e1, e2, e3, e4, e5, e6⟩ := mB_inj h2 g2 (h3.trans g3.symm)
    simp only at e1 e2 e3 e4 e5 e6 h1 g1
    rw [e1, e2, e3, e4, e5, e6, h1, g1]
/-- Reading what was written. -/
theorem fwd {l : List Int} {e : Int} {ch : List Int} {a2 a3 a4 a5 : Int} (h : mchk e ch a2 a3 a4 a5 = 0) (hl : mB e ch a2 a3 a4 a5 = l) (h9 : l.length ≤ 1048576) : ∃ p0 p1 p2 p3 : Nat,
    (∀ most : Int, 64 ≤ most ∨ (l.length : Int) ≤ most → TX l most = (strOfNums (cfgBytes e ch), p0, 0)) ∧ (∀ m, a2 ≤ m → NUMS l (p0, 0) m = (a2, p1, 0)) ∧ (∀ m, a3 ≤ m → NUMS l (p1, 0) m = (a3, p2, 0)) ∧ (∀ m, a4 ≤ m → NUMS l (p2, 0) m = (a4, p3, 0)) ∧ (∀ m, a5 ≤ m → NUMS l (p3, 0) m = (a5, l.length, 0)) := by
  obtain ⟨hc, h2, h3, h4, h5⟩ := mchk_zero h
  have hcb := cfgBytes_bytes hc
  have hln := cfg_len hc
  have hL : l = lput (cfgBytes e ch).length ++ (cfgBytes e ch ++ (lput a2.toNat ++ (lput a3.toNat ++ (lput a4.toNat ++ (lput a5.toNat ++ []))))) := hl.symm
  have hcl : (cfgBytes e ch).length ≤ l.length := by rw [hL]; simp only [List.length_append]; omega
  have d0 := (TX_fwd hcb hL (most := 64) (by omega) (by omega)).2
  have n0 := fun m hm => (NUM_fwd d0 (by omega) (by omega) (most := m) hm).1
  have d1 := (NUM_fwd d0 (by omega) (by omega) (Int.le_refl _)).2
  have n1 := fun m hm => (NUM_fwd d1 (by omega) (by omega) (most := m) hm).1
  have d2 := (NUM_fwd d1 (by omega) (by omega) (Int.le_refl _)).2
  have n2 := fun m hm => (NUM_fwd d2 (by omega) (by omega) (most := m) hm).1
  have d3 := (NUM_fwd d2 (by omega) (by omega) (Int.le_refl _)).2
  have n3 := fun m hm => (NUM_fwd d3 (by omega) (by omega) (most := m) hm).1
  have d4 := (NUM_fwd d3 (by omega) (by omega) (Int.le_refl _)).2
  refine ⟨lsz (cfgBytes e ch).length + (cfgBytes e ch).length, lsz (cfgBytes e ch).length + (cfgBytes e ch).length + lsz a2.toNat, lsz (cfgBytes e ch).length + (cfgBytes e ch).length + lsz a2.toNat + lsz a3.toNat, lsz (cfgBytes e ch).length + (cfgBytes e ch).length + lsz a2.toNat + lsz a3.toNat + lsz a4.toNat, fun m hm => (TX_fwd hcb hL (by omega) (by omega)).1, fun m hm => ?_, fun m hm => ?_, fun m hm => ?_, fun m hm => ?_⟩
  · unfold NUMS; rw [if_pos rfl]; exact n0 m hm
  · unfold NUMS; rw [if_pos rfl]; exact n1 m hm
  · unfold NUMS; rw [if_pos rfl]; exact n2 m hm
  · unfold NUMS; rw [if_pos rfl]
    refine (n3 m hm).trans ?_
    have hlen := congrArg List.length hL
    simp only [List.length_append, lput_len, List.length_nil] at hlen
    simp only [Prod.mk.injEq, true_and, and_true]
    omega
/-- What master.Decode comes to, out of what config.Decode makes of the text. -/
def PM (l : List Int) (c : Int × List Int × Int) : Int × List Int × Int × Int × Int × Int × Int :=
  if Rdr.PEnd l (NUMS l (NUMS l (NUMS l (NUMS l (TX l 64).2 1152921504606846976).2 8).2 1152921504606846976).2 7).2.1 (NUMS l (NUMS l (NUMS l (NUMS l (TX l 64).2 1152921504606846976).2 8).2 1152921504606846976).2 7).2.2 = 0 then
    (if c.2.2 = 0 then (if mchk c.1 c.2.1 (NUMS l (TX l 64).2 1152921504606846976).1 (NUMS l (NUMS l (TX l 64).2 1152921504606846976).2 8).1 (NUMS l (NUMS l (NUMS l (TX l 64).2 1152921504606846976).2 8).2 1152921504606846976).1 (NUMS l (NUMS l (NUMS l (NUMS l (TX l 64).2 1152921504606846976).2 8).2 1152921504606846976).2 7).1 = 0 then
      (c.1, c.2.1, (NUMS l (TX l 64).2 1152921504606846976).1, (NUMS l (NUMS l (TX l 64).2 1152921504606846976).2 8).1, (NUMS l (NUMS l (NUMS l (TX l 64).2 1152921504606846976).2 8).2 1152921504606846976).1, (NUMS l (NUMS l (NUMS l (NUMS l (TX l 64).2 1152921504606846976).2 8).2 1152921504606846976).2 7).1, 0) else (0, [], 0, 0, 0, 0, 32)) else (0, [], 0, 0, 0, 0, 32)) else (0, [], 0, 0, 0, 0, 32)
theorem PM_f {l : List Int} (hb : IsBytes l) (hl : l.length ≤ 1048576) {k : Nat} (h : At l k) (c : Int × List Int × Int) (hc : config_Decode.f k (Rdr.bytesOf (TX l 64).1) = some c) : master_Decode.f k l = some (PM l c) := by
  have l0 := TX_le hb (l := l) 64
  have l1 := NUMS_le hb (s := (TX l 64).2) l0 1152921504606846976
  have l2 := NUMS_le hb (s := (NUMS l (TX l 64).2 1152921504606846976).2) l1 8
  have l3 := NUMS_le hb (s := (NUMS l (NUMS l (TX l 64).2 1152921504606846976).2 8).2) l2 1152921504606846976
  have hsz := TX_size (l := l) 64
  unfold master_Decode.f
  rw [if_pos hl, PText_eq hb h 64, Option.bind_some, if_pos (by omega), hc, Option.bind_some, PInt_eq hb l0 h, Option.bind_some, PInt_eq hb l1 h, Option.bind_some, PInt_eq hb l2 h, Option.bind_some, PInt_eq hb l3 h, Option.bind_some, mcheck_f, Option.bind_some]
  unfold PM
  repeat' split
  all_goals rfl
theorem PM_ans {l : List Int} (hb : IsBytes l) (hl : l.length ≤ 1048576) {c : Int × List Int × Int} (hc : Ans (Rdr.bytesOf (TX l 64).1) c) : AnsM l (PM l c) := by
  have l0 := TX_le hb (l := l) 64
  have l1 := NUMS_le hb (s := (TX l 64).2) l0 1152921504606846976
  have l2 := NUMS_le hb (s := (NUMS l (TX l 64).2 1152921504606846976).2) l1 8
  have l3 := NUMS_le hb (s := (NUMS l (NUMS l (TX l 64).2 1152921504606846976).2 8).2) l2 1152921504606846976
  have l4 := NUMS_le hb (s := (NUMS l (NUMS l (NUMS l (TX l 64).2 1152921504606846976).2 8).2 1152921504606846976).2) l3 7
  by_cases ok : Rdr.PEnd l (NUMS l (NUMS l (NUMS l (NUMS l (TX l 64).2 1152921504606846976).2 8).2 1152921504606846976).2 7).2.1 (NUMS l (NUMS l (NUMS l (NUMS l (TX l 64).2 1152921504606846976).2 8).2 1152921504606846976).2 7).2.2 = 0 ∧ c.2.2 = 0 ∧ mchk c.1 c.2.1 (NUMS l (TX l 64).2 1152921504606846976).1 (NUMS l (NUMS l (TX l 64).2 1152921504606846976).2 8).1 (NUMS l (NUMS l (NUMS l (TX l 64).2 1152921504606846976).2 8).2 1152921504606846976).1 (NUMS l (NUMS l (NUMS l (NUMS l (TX l 64).2 1152921504606846976).2 8).2 1152921504606846976).2 7).1 = 0
  · obtain ⟨o1, o2, o3⟩ := ok
    refine .inr ?_
    unfold PM
    rw [if_pos o1, if_pos o2, if_pos o3]
    refine ⟨rfl, o3, ?_⟩
    rcases hc with ⟨h1, _⟩ | ⟨_, hk, hcb⟩
    · rw [h1] at o2; cases o2
    · have o4 : (NUMS l (NUMS l (NUMS l (NUMS l (TX l 64).2 1152921504606846976).2 8).2 1152921504606846976).2 7).2.2 = 0 := by
        unfold Rdr.PEnd at o1
        split at o1
        · assumption
        · exact o1
      have o5 : ¬ (NUMS l (NUMS l (NUMS l (NUMS l (TX l 64).2 1152921504606846976).2 8).2 1152921504606846976).2 7).2.1 < l.length := by
        unfold Rdr.PEnd at o1
        rw [if_pos o4] at o1
        split at o1
        · cases o1
        · assumption
      obtain ⟨z3, _, _, d4⟩ := NUMS_ok hb l3 o4
      obtain ⟨z2, _, _, d3⟩ := NUMS_ok hb l2 z3
      obtain ⟨z1, _, _, d2⟩ := NUMS_ok hb l1 z2
      obtain ⟨z0, _, _, d1⟩ := NUMS_ok hb l0 z1
      have d0 := TX_ok hb z0
      have dn : l.drop (NUMS l (NUMS l (NUMS l (NUMS l (TX l 64).2 1152921504606846976).2 8).2 1152921504606846976).2 7).2.1 = [] := List.drop_of_length_le (by omega)
      rw [dn] at d4
      unfold mB
      simp only
      rw [hcb, ← d4, ← d3, ← d2, ← d1]
      exact d0.symm
  · refine .inl ⟨?_, fun e ch a2 a3 a4 a5 hm he => ok ?_⟩
    · unfold PM
      by_cases o1 : Rdr.PEnd l (NUMS l (NUMS l (NUMS l (NUMS l (TX l 64).2 1152921504606846976).2 8).2 1152921504606846976).2 7).2.1 (NUMS l (NUMS l (NUMS l (NUMS l (TX l 64).2 1152921504606846976).2 8).2 1152921504606846976).2 7).2.2 = 0
      · rw [if_pos o1]
        by_cases o2 : c.2.2 = 0
        · rw [if_pos o2, if_neg (fun o3 => ok ⟨o1, o2, o3⟩)]
        · rw [if_neg o2]
      · rw [if_neg o1]
    · obtain ⟨hch, h2, h3, h4, h5⟩ := mchk_zero hm
      obtain ⟨p0, p1, p2, p3, f0, f1, f2, f3, f4⟩ := fwd hm he hl
      have f0' := f0 64 (.inl (by decide))
      have hcc : c = (e, ch, 0) := hc.same (by rw [f0', bytes_str (cfgBytes_bytes hch)]; exact .inr ⟨rfl, hch, rfl⟩)
      rw [f0', f1 _ h2.2, f2 _ h3.2, f3 _ h4.2, f4 _ h5.2, hcc]
      refine ⟨?_, rfl, hm⟩
      unfold Rdr.PEnd
      rw [if_pos rfl, if_neg (Nat.lt_irrefl _)]
theorem pm_ev (l : List Int) (hb : IsBytes l) (hl : l.length ≤ 1048576) : ∃ r, Ev (fun k => master_Decode.f k l) r ∧ AnsM l r := by
  have hsz := TX_size (l := l) 64
  obtain ⟨c, ⟨K1, hK1⟩, hc⟩ := pdecode_ev (Rdr.bytesOf (TX l 64).1) (bytes_ok _) (by rw [Rdr.bytesOf_len]; omega)
  obtain ⟨K2, hK2⟩ := at_all l hb (by omega)
  exact ⟨PM l c, ⟨K1 + K2, fun k hk => PM_f hb hl (hK2 k (by omega)) c (hK1 k (by omega))⟩, PM_ans hb hl hc⟩
theorem RCH_len (ys : List Int) : ∀ (m : Nat) (s : Nat × Int) (ch : List Int), (RCH ys m s ch).2.length = ch.length + m
  | 0, _, _ => rfl
  | m + 1, s, ch => by rw [RCH, RCH_len ys m, List.length_append, List.length_singleton]; omega
theorem menc_err {e : Int} {l : List Int} {a2 a3 a4 a5 : Int} (h : mchk e l a2 a3 a4 a5 = 0) : (menc e l a2 a3 a4 a5).1 = mB e l a2 a3 a4 a5 := by
  unfold menc
  rw [if_pos h]
  exact refEnc_mB h
theorem REnd_end (l : List Int) : Rdr.REnd l ((l.length : Nat) : Int) 0 = 0 := by
  unfold Rdr.REnd
  rw [if_pos rfl, if_neg (by omega)]
theorem rm_ev (l : List Int) (hb : IsBytes l) (hl : l.length ≤ 1048576) : ∃ r, Ev (fun k => hawserref21_Decode.f k l) r ∧ AnsM l r := by
  obtain ⟨K, hK⟩ := at_all l hb (by omega)
  obtain ⟨ys, hys⟩ : ∃ ys, ys = Rdr.bytesOf (TX l l.length).1 := ⟨_, rfl⟩
  have yb : IsBytes ys := by rw [hys]; exact bytes_ok _
  have yl : ys.length ≤ 1048576 := by rw [hys, Rdr.bytesOf_len]; have := TX_size (l := l) l.length; omega
  obtain ⟨K2, hK2⟩ := at_all ys yb (by omega)
  obtain ⟨c, hc⟩ : ∃ c, c = NUMS ys (0, 0) 1099511627776 := ⟨_, rfl⟩
  obtain ⟨n, hn⟩ : ∃ n, n = NUMS ys c.2 8 := ⟨_, rfl⟩
  obtain ⟨d, hd⟩ : ∃ d, d = RCH ys n.1.toNat n.2 [] := ⟨_, rfl⟩
  obtain ⟨i1, h1⟩ : ∃ i, i = NUMS l (TX l l.length).2 1152921504606846976 := ⟨_, rfl⟩
  obtain ⟨i2, h2⟩ : ∃ i, i = NUMS l i1.2 1152921504606846976 := ⟨_, rfl⟩
  obtain ⟨i3, h3⟩ : ∃ i, i = NUMS l i2.2 1152921504606846976 := ⟨_, rfl⟩
  obtain ⟨i4, h4⟩ : ∃ i, i = NUMS l i3.2 1152921504606846976 := ⟨_, rfl⟩
  have l0 := TX_le hb (l := l) l.length
  have l1 : i1.2.1 ≤ l.length := by rw [h1]; exact NUMS_le hb l0 _
  have l2 : i2.2.1 ≤ l.length := by rw [h2]; exact NUMS_le hb l1 _
  have l3 : i3.2.1 ≤ l.length := by rw [h3]; exact NUMS_le hb l2 _
  have l4 : i4.2.1 ≤ l.length := by rw [h4]; exact NUMS_le hb l3 _
  have m0 : c.2.1 ≤ ys.length := by rw [hc]; exact NUMS_le yb (Nat.zero_le _) _
  have m1 : n.2.1 ≤ ys.length := by rw [hn]; exact NUMS_le yb m0 _
  have nv : 0 ≤ n.1 ∧ n.1 ≤ 8 := by rw [hn]; exact NUMS_val yb m0 (by decide)
  have hall : ∀ k, K + K2 + 200 ≤ k → hawserref21_Decode.f k l = some (if Rdr.REnd l (i4.2.1 : Int) i4.2.2 = 0 then (if Rdr.REnd ys (d.1.1 : Int) d.1.2 = 0 then (if mchk c.1 d.2 i1.1 i2.1 i3.1 i4.1 = 0 then (if (strOfNums (menc c.1 d.2 i1.1 i2.1 i3.1 i4.1).1).toList = (strOfNums l).toList then (c.1, d.2, i1.1, i2.1, i3.1, i4.1, 0) else (0, [], 0, 0, 0, 0, 32)) else (0, [], 0, 0, 0, 0, 32)) else (0, [], 0, 0, 0, 0, 32)) else (0, [], 0, 0, 0, 0, 32)) := by
    intro k hk
    obtain ⟨k, rfl⟩ : ∃ m, k = m + 1 := ⟨k - 1, by omega⟩
    have hA := hK (k + 1) (by omega)
    have hY := hK2 (k + 1) (by omega)
    obtain ⟨r1, r2⟩ := rchain_eq yb yl hY n.1.toNat n.2 [] m1
    have e0 := RText_eq hb hl hA (most := (l.length : Int)) (by omega) (by omega)
    have ec : Rdr.RInt (k + 1) ys 0 0 1099511627776 = some (cst (NUMS ys (0, 0) 1099511627776)) := RInt_eq yb yl (s := (0, 0)) (Nat.zero_le _) hY (by decide) (by decide)
    have en := RInt_eq yb yl m0 hY (most := 8) (by decide) (by decide)
    have g1 := RInt_eq hb hl l0 hA (most := 1152921504606846976) (by decide) (by decide)
    have g2 := RInt_eq hb hl l1 hA (most := 1152921504606846976) (by decide) (by decide)
    have g3 := RInt_eq hb hl l2 hA (most := 1152921504606846976) (by decide) (by decide)
    have g4 := RInt_eq hb hl l3 hA (most := 1152921504606846976) (by decide) (by decide)
    rw [← hc] at ec
    rw [← hn] at en
    rw [← hd] at r1
    rw [← h1] at g1
    rw [← h2] at g2
    rw [← h3] at g3
    rw [← h4] at g4
    have hsz := TX_size (l := l) l.length
    unfold hawserref21_Decode.f
    rw [if_pos hl, e0, Option.bind_some]
    simp only
    rw [← hys, if_pos (by omega), ec, Option.bind_some]
    simp only [cst] at en ⊢
    rw [en, Option.bind_some]
    simp only
    rw [if_pos (by omega), r1, Option.bind_some]
    simp only [cst] at g1 g2 g3 g4 ⊢
    rw [g1, Option.bind_some]
    simp only
    rw [g2, Option.bind_some]
    simp only
    rw [g3, Option.bind_some]
    simp only
    rw [g4, Option.bind_some]
    simp only
    have hdl : d.2.length ≤ 1048576 := by
      rw [hd, RCH_len]
      simp only [List.length_nil]
      omega
    rw [rcheck_at _ _ _ _ _ _ (k + 1) (by omega), Option.bind_some, renc_f _ _ _ _ _ _ hdl, Option.bind_some]
    repeat' split
    all_goals first | rfl | contradiction
  refine ⟨_, ⟨K + K2 + 200, hall⟩, ?_⟩
  by_cases ok : Rdr.REnd l (i4.2.1 : Int) i4.2.2 = 0 ∧ Rdr.REnd ys (d.1.1 : Int) d.1.2 = 0 ∧ mchk c.1 d.2 i1.1 i2.1 i3.1 i4.1 = 0 ∧ (strOfNums (menc c.1 d.2 i1.1 i2.1 i3.1 i4.1).1).toList = (strOfNums l).toList
  · obtain ⟨o1, o2, o3, o4⟩ := ok
    rw [if_pos o1, if_pos o2, if_pos o3, if_pos o4]
    refine .inr ⟨rfl, o3, ?_⟩
    rw [menc_err o3] at o4
    exact (str_eq (mB_bytes o3) hb).1 o4
  · refine .inl ⟨?_, fun e ch a2 a3 a4 a5 hm he => ok ?_⟩
    · by_cases o1 : Rdr.REnd l (i4.2.1 : Int) i4.2.2 = 0
      · rw [if_pos o1]
        by_cases o2 : Rdr.REnd ys (d.1.1 : Int) d.1.2 = 0
        · rw [if_pos o2]
          by_cases o3 : mchk c.1 d.2 i1.1 i2.1 i3.1 i4.1 = 0
          · rw [if_pos o3, if_neg (fun o4 => ok ⟨o1, o2, o3, o4⟩)]
          · rw [if_neg o3]
        · rw [if_neg o2]
      · rw [if_neg o1]
    · obtain ⟨hch, g2, g3, g4, g5⟩ := mchk_zero hm
      obtain ⟨q1, q2, q3, q4, _⟩ := chk_zero.1 hch
      obtain ⟨p0, p1, p2, p3, f0, f1, f2, f3, f4⟩ := fwd hm he hl
      have f0' := f0 l.length (.inr (Int.le_refl _))
      rw [f0'] at hys h1
      rw [bytes_str (cfgBytes_bytes hch)] at hys
      rw [f1 _ g2.2] at h1
      rw [h1, f2 _ (by omega)] at h2
      rw [h2, f3 _ g4.2] at h3
      rw [h3, f4 _ (by omega)] at h4
      have y0 : ys.drop 0 = lput e.toNat ++ ((ch.length : Int) :: ch) := by rw [List.drop_zero, hys]; rfl
      obtain ⟨c1, c2⟩ := NUM_fwd y0 (by omega) (by omega) (most := 1099511627776) (by omega)
      have y1 : ys.drop (0 + lsz e.toNat) = lput ((ch.length : Int)).toNat ++ ch := by rw [c2, Int.toNat_natCast, lput_small (by omega)]; rfl
      obtain ⟨n1, n2⟩ := NUM_fwd y1 (by omega) (by omega) (most := 8) (by omega)
      have c3 : c = (e, 0 + lsz e.toNat, 0) := by rw [hc]; unfold NUMS; rw [if_pos rfl]; exact c1
      have n3 : n = ((ch.length : Int), 0 + lsz e.toNat + lsz ((ch.length : Int)).toNat, 0) := by rw [hn, c3]; unfold NUMS; rw [if_pos rfl]; exact n1
      have d3 : d = ((0 + lsz e.toNat + lsz ((ch.length : Int)).toNat + ch.length, 0), ch) := by rw [hd, n3]; simp only [Int.toNat_natCast]; rw [RCH_fwd ys ch _ [] (ch_range hch) (by rw [Int.toNat_natCast] at n2; exact n2)]; rfl
      have hyl : ys.length = 0 + lsz e.toNat + lsz ((ch.length : Int)).toNat + ch.length := by
        have := congrArg List.length y0
        rw [List.drop_zero, List.length_append, lput_len, List.length_cons] at this
        rw [this, Int.toNat_natCast, lsz_small (v := ch.length) (by omega)]
        omega
      rw [h4, h3, h2, h1, c3, d3]
      refine ⟨REnd_end l, ?_, hm, ?_⟩
      · show Rdr.REnd ys ((0 + lsz e.toNat + lsz ((ch.length : Int)).toNat + ch.length : Nat) : Int) 0 = 0
        rw [← hyl]
        exact REnd_end ys
      · show (strOfNums (menc e ch a2 a3 a4 a5).1).toList = _
        rw [menc_err hm, he]
end Go.Proofs.Ytkkmceejfmjidaa.MstReads
