/- LebDec: what leb.Decode and leb.Size compute, said by LebMath: the part of Leb that needs no reference's function. And the numbers that are told one behind another. -/
import Derived.Test.YtkkmceejfmjidaaLebMath
import Derived.Test.YtkkmceejfmjidaaGx
namespace Go.Proofs.Ytkkmceejfmjidaa.Leb
open Go.RowKit Go.Proofs.Ytkkmceejfmjidaa.G Go.Proofs.Ytkkmceejfmjidaa.LebMath Go.Proofs.YtkkmceejfmjidaaW.PrintWords Go.Proofs.YtkkmceejfmjidaaW.PrintLast Go.Proofs.YtkkmceejfmjidaaW.PrintMore
set_option linter.unusedVariables false
set_option linter.unusedSimpArgs false

theorem ev_step {α : Type} {g f : Nat → Option α} {r : α} (h : ∀ k, g (k + 1) = f k) (k : Ev f r) : Ev g r := Ev.step h k
theorem w64 {n : Int} (h0 : -9223372036854775808 ≤ n) (h1 : n ≤ 9223372036854775807) : wrap64 n = n := by unfold wrap64; omega

theorem size1 (xs : List Int) (len i : Int) (r : Int) (v : Nat) : ∀ n : Int, 0 ≤ n → n + lsz v ≤ 4611686018427387999 → Ev (fun k => leb_Size.l0 k (n + lsz v - 1) xs len (wrap64 (i + 1))) r → Ev (fun k => leb_Size.l1 k n (v : Int) xs len i) r := by
  induction v using Nat.strongRecOn with
  | _ v ih =>
    intro n h0 h1 h
    by_cases hv : v ≤ 127
    · rw [lsz_small hv] at h
      refine Ev.step (fun k => ?_) h
      simp only [leb_Size.l1]
      rw [if_neg (by omega)]
      congr 1
      simp
    · rw [lsz_big hv] at h h1
      have := ih (v / 128) (by omega) (n + 1) (by omega) (by omega) (by
        have e : n + 1 + (lsz (v / 128) : Int) - 1 = n + ((lsz (v / 128) + 1 : Nat) : Int) - 1 := by omega
        rw [e]; exact h)
      refine Ev.step (fun k => ?_) this
      simp only [leb_Size.l1]
      rw [if_pos (by omega), w64 (by omega) (by omega)]
      congr 1
theorem size0 (xs : List Int) (hx : ∀ x ∈ xs, 0 ≤ x ∧ x ≤ 18446744073709551615) (hl : xs.length ≤ 1099511627776) : ∀ (d : Nat) (i : Nat) (n : Int), xs.length - i = d → i ≤ xs.length → 0 ≤ n → n + 10 * d ≤ 4611686018427387904 →
    Ev (fun k => leb_Size.l0 k n xs (xs.length : Int) (i : Int)) (n + (((xs.drop i).map (fun x => lsz x.toNat)).sum : Nat)) := by
  intro d
  induction d with
  | zero =>
    intro i n hd hi h0 h1
    refine ⟨1, fun k hk => ?_⟩
    obtain ⟨k, rfl⟩ : ∃ m, k = m + 1 := ⟨k - 1, by omega⟩
    simp only [leb_Size.l0]
    rw [if_neg (by omega), List.drop_of_length_le (by omega)]
    simp
  | succ d ih =>
    intro i n hd hi h0 h1
    have hlt : i < xs.length := by omega
    obtain ⟨x0, x1⟩ := hx _ (List.getElem_mem hlt)
    have hr : rd xs (i : Int) = xs[i] := by rw [rd_nat, List.getD_eq_getElem?_getD, List.getElem?_eq_getElem hlt]; rfl
    have h10 : lsz (xs[i]).toNat ≤ 10 := lsz_ten (by omega)
    have hp := lsz_pos (xs[i]).toNat
    have hnext := ih (i + 1) (n + lsz (xs[i]).toNat) (by omega) (by omega) (by omega) (by omega)
    have h1' := size1 xs (xs.length : Int) (i : Int) (n + (((xs.drop i).map (fun x => lsz x.toNat)).sum : Nat)) (xs[i]).toNat (n + 1) (by omega) (by omega) (by
      rw [w64 (by omega) (by omega)]
      have e1 : n + 1 + (lsz (xs[i]).toNat : Int) - 1 = n + lsz (xs[i]).toNat := by omega
      rw [e1, List.drop_eq_getElem_cons hlt]
      simp only [List.map_cons, List.sum_cons]
      have e2 : n + ((lsz (xs[i]).toNat + ((xs.drop (i + 1)).map (fun x => lsz x.toNat)).sum : Nat) : Int) = n + lsz (xs[i]).toNat + (((xs.drop (i + 1)).map (fun x => lsz x.toNat)).sum : Nat) := by omega
      rw [e2]
      exact hnext)
    rw [Int.toNat_of_nonneg x0] at h1'
    refine Ev.step (fun k => ?_) h1'
    simp only [leb_Size.l0]
    rw [if_pos (by omega), if_pos (by omega), if_pos (by omega), hr, w64 (by omega) (by omega)]
theorem size_ev (xs : List Int) (hx : ∀ x ∈ xs, 0 ≤ x ∧ x ≤ 18446744073709551615) (hl : xs.length ≤ 1099511627776) :
    Ev (fun k => leb_Size.f k xs) (((xs.map (fun x => lsz x.toNat)).sum : Nat) : Int) := by
  have := size0 xs hx hl xs.length 0 0 (by omega) (by omega) (by omega) (by omega)
  simpa [leb_Size.f] using this
theorem size_one (v : Int) (h0 : 0 ≤ v) (h1 : v ≤ 18446744073709551615) : Ev (fun k => leb_Size.f k [v]) (lsz v.toNat : Int) := by
  have := size_ev [v] (by intro x hx; simp at hx; omega) (by simp)
  simpa using this

theorem ofNat_inj {a b : Int} (ha : 0 ≤ a ∧ a ≤ 255) (hb : 0 ≤ b ∧ b ≤ 255) (h : UInt8.ofNat a.toNat = UInt8.ofNat b.toNat) : a = b := by
  have := congrArg UInt8.toNat h
  simp at this
  omega
theorem str_inj : ∀ {a b : List Int}, IsBytes a → IsBytes b → (a.map fun n => UInt8.ofNat n.toNat) = (b.map fun n => UInt8.ofNat n.toNat) → a = b
  | [], [], _, _, _ => rfl
  | x :: a, y :: b, ha, hb, h => by
    simp only [List.map_cons, List.cons.injEq] at h
    rw [ofNat_inj ha.cons.1 hb.cons.1 h.1, str_inj ha.cons.2 hb.cons.2 h.2]
  | [], _ :: _, _, _, h => by simp at h
  | _ :: _, [], _, _, h => by simp at h
theorem toList_data (s : ByteArray) : s.toList = s.data.toList := by
  have : ∀ (n i : Nat) (r : List UInt8), s.size - i = n → ByteArray.toList.loop s i r = r.reverse ++ s.data.toList.drop i := by
    intro n
    induction n with
    | zero =>
      intro i r h
      unfold ByteArray.toList.loop
      rw [if_neg (by omega), List.drop_of_length_le (by rw [Array.length_toList]; show s.size ≤ i; omega)]
      simp
    | succ n ih =>
      intro i r h
      unfold ByteArray.toList.loop
      rw [if_pos (by omega), ih (i + 1) _ (by omega)]
      have hi : i < s.data.toList.length := by rw [Array.length_toList]; show i < s.size; omega
      rw [List.drop_eq_getElem_cons hi]
      have hs : i < s.data.size := by simpa using hi
      have : s.get! i = s.data.toList[i] := by
        rw [show s.get! i = s.data[i]! from rfl, getElem!_pos s.data i hs]
        simp
      rw [this]
      simp
  have h := this s.size 0 [] (by omega)
  simpa [ByteArray.toList] using h
/-! ### Decode -/
theorem cast_pow (i : Nat) : ((128 ^ i : Nat) : Int) = (128 : Int) ^ i := by rw [Int.natCast_pow]; rfl
theorem cast_le {i n : Nat} (h : 128 ^ i ≤ n) : (128 : Int) ^ i ≤ (n : Int) := by rw [← cast_pow]; exact Int.ofNat_le.2 h
theorem or_high (i : Nat) (v y : Int) (v0 : 0 ≤ v) (v1 : v < 128 ^ i) (y0 : 0 ≤ y) (hi : y * 128 ^ i < 18446744073709551616) (hp : (128 : Int) ^ i ≤ 18446744073709551616) : Go.bits .or .u64 v (y * 128 ^ i) = v + y * 128 ^ i := by
  have hy : 0 ≤ y * (128 : Int) ^ i := Int.mul_nonneg y0 (Int.le_of_lt (Int.pow_pos (by decide)))
  obtain ⟨a, rfl⟩ := Int.eq_ofNat_of_zero_le v0
  obtain ⟨b, rfl⟩ := Int.eq_ofNat_of_zero_le y0
  have e : ((b : Int) * 128 ^ i) = ((b * 128 ^ i : Nat) : Int) := by rw [Int.natCast_mul, Int.natCast_pow]; rfl
  rw [e] at hi hy ⊢
  have ha : a < 128 ^ i := by rw [← cast_pow] at v1; exact Int.ofNat_lt.1 v1
  have hpn : 128 ^ i ≤ 18446744073709551616 := by rw [← cast_pow] at hp; omega
  rw [(bits_nat .u64 64 (by decide) (fun n h0 h1 => by rw [u64_wrap]; omega) a (b * 128 ^ i) (by omega) (by omega)).2]
  have h7 : 128 ^ i = 2 ^ (7 * i) := by rw [Nat.pow_mul]
  rw [h7] at ha ⊢
  rw [Nat.or_comm, Nat.mul_comm, ← Nat.two_pow_add_eq_or_of_lt ha b]
  rw [Int.natCast_add]
  omega
theorem pow7 (i : Nat) : (2 : Int) ^ (7 * i) = 128 ^ i := by
  have : (2 : Nat) ^ (7 * i) = 128 ^ i := by rw [Nat.pow_mul]
  rw [← cast_pow, ← this, Int.natCast_pow]
  rfl
theorem pow_small : ∀ i : Nat, i ≤ 9 → (128 : Int) ^ i ≤ 9223372036854775808 := by
  intro i hi
  have : 128 ^ i ≤ 128 ^ 9 := Nat.pow_le_pow_right (by decide) hi
  have h9 : (128 : Nat) ^ 9 = 9223372036854775808 := by decide
  rw [h9] at this
  exact cast_le this
/-- One byte more. -/
theorem or_step (i : Nat) (hi : i ≤ 9) (v c : Int) (v0 : 0 ≤ v) (v1 : v < 128 ^ i) (c0 : 0 ≤ c) (c1 : c < 128) (h9 : i = 9 → c ≤ 1) :
    Go.bits .or .u64 v (shl .u64 c (wrap64 (7 * (i : Int)))) = v + 128 ^ i * c := by
  have hp := pow_small i hi
  have hpp : (0 : Int) < 128 ^ i := Int.pow_pos (by decide)
  have hlt : c * 128 ^ i < 18446744073709551616 := by
    by_cases h : i = 9
    · have : c * 128 ^ i ≤ 1 * 128 ^ i := Int.mul_le_mul_of_nonneg_right (h9 h) (Int.le_of_lt hpp)
      omega
    · have h8 : (128 : Int) ^ i ≤ 72057594037927936 := by
        have : 128 ^ i ≤ 128 ^ 8 := Nat.pow_le_pow_right (by decide) (by omega)
        have h9 : (128 : Nat) ^ 8 = 72057594037927936 := by decide
        rw [h9] at this
        exact cast_le this
      have : c * 128 ^ i ≤ 127 * 128 ^ i := Int.mul_le_mul_of_nonneg_right (by omega) (Int.le_of_lt hpp)
      omega
  have hc : 0 ≤ c * (128 : Int) ^ i := Int.mul_nonneg c0 (Int.le_of_lt hpp)
  have es : shl .u64 c (wrap64 (7 * (i : Int))) = c * 128 ^ i := by
    unfold shl
    rw [w64 (by omega) (by omega)]
    have e7 : (7 * (i : Int)).toNat = 7 * i := by omega
    rw [e7, show min (7 * i) IntKind.u64.bits = 7 * i from Nat.min_eq_left (by show 7 * i ≤ 64; omega), pow7, u64_wrap]
    omega
  rw [es, or_high i v c v0 v1 c0 hlt (by omega), Int.mul_comm]
theorem take_snoc' (l : List Int) (i : Nat) (h : i < l.length) : l.take (i + 1) = l.take i ++ [l.getD i 0] := by
  rw [List.take_succ_eq_append_getElem h, List.getD_eq_getElem?_getD, List.getElem?_eq_getElem h]; rfl
theorem val_take (l : List Int) (i : Nat) (h : i < l.length) : val (l.take (i + 1)) = val (l.take i) + 128 ^ i * (l.getD i 0 % 128) := by
  rw [take_snoc' l i h, val_snoc, List.length_take, Nat.min_eq_left (by omega)]
theorem u8_and127 (b : Int) (h : 0 ≤ b ∧ b ≤ 255) : IntKind.u64.wrap (Go.bits .and .u8 b 127) = b % 128 := by
  have := bits_mask .u8 8 (by decide) wraps_u8 7 (by decide) b h.1 (by omega)
  rw [show ((2 : Int) ^ 7 - 1) = 127 from rfl] at this
  rw [this, u64_wrap]
  omega
theorem dec_end (l : List Int) (hl : l.length ≤ 1099511627776) (h10 : 10 ≤ run l) (v : Int) : Ev (fun k => leb_Decode.l0 k l v l (l.length : Int) (10 : Int)) (0, 0, 11) := by
  have := run_le l
  refine ⟨1, fun k hk => ?_⟩
  obtain ⟨k, rfl⟩ : ∃ m, k = m + 1 := ⟨k - 1, by omega⟩
  simp only [leb_Decode.l0]
  by_cases h : (10 : Int) < l.length
  · rw [if_pos h, if_pos (by omega), if_pos h, if_pos True.intro, if_neg (by omega)]
  · rw [if_neg h, if_neg (by omega)]
theorem dec0 (l : List Int) (hb : IsBytes l) (hl : l.length ≤ 1099511627776) : ∀ (d i : Nat), run l - i = d → i ≤ run l → i ≤ 9 → Ev (fun k => leb_Decode.l0 k l (val (l.take i)) l (l.length : Int) (i : Int)) (DEC l) := by
  intro d
  induction d with
  | zero =>
    intro i hd hi h9
    obtain rfl : i = run l := by omega
    have hle := run_le l
    by_cases hlt : run l < l.length
    · have hstop := run_stop l hlt
      have hby := hb.at (run l)
      obtain ⟨v0, v1⟩ := val_bounds (l.take (run l))
      rw [List.length_take, Nat.min_eq_left (by omega)] at v1
      have hval := val_take l (run l) hlt
      have emod : l.getD (run l) 0 % 128 = l.getD (run l) 0 := by omega
      rw [emod] at hval
      refine ⟨2, fun k hk => ?_⟩
      obtain ⟨k, rfl⟩ : ∃ m, k = m + 2 := ⟨k - 2, by omega⟩
      simp only [leb_Decode.l0]
      rw [if_pos (by omega), if_pos (by omega), if_pos (by omega), if_neg (by omega), rd_nat, if_neg (by omega)]
      by_cases hc : run l = 9 ∧ 1 < l.getD (run l) 0
      · rw [if_pos (by omega)]
        simp only [leb_Decode.j1]
        rw [if_pos (by simpa using hc.2)]
        unfold DEC
        rw [if_neg (by omega), if_pos (.inr (.inr hc))]
      · have hj : (if (run l : Int) = 9 then leb_Decode.j1 (k + 1) (val (l.take (run l))) (run l : Int) (l.getD (run l) 0) (decide (l.getD (run l) 0 > 1)) else leb_Decode.j1 (k + 1) (val (l.take (run l))) (run l : Int) (l.getD (run l) 0) false) = leb_Decode.j1 (k + 1) (val (l.take (run l))) (run l : Int) (l.getD (run l) 0) false := by
          split
          · have : decide (l.getD (run l) 0 > 1) = false := decide_eq_false (by omega)
            rw [this]
          · rfl
        rw [hj]
        simp only [leb_Decode.j1]
        rw [if_neg (by decide)]
        have hu : IntKind.u64.wrap (l.getD (run l) 0) = l.getD (run l) 0 := by rw [u64_wrap]; omega
        have h7 : 0 ≤ wrap64 (7 * (run l : Int)) := by rw [w64 (by omega) (by omega)]; omega
        have hs := or_step (run l) h9 (val (l.take (run l))) (l.getD (run l) 0) v0 v1 hby.1 hstop (fun h => by omega)
        have hfin : (some (Go.bits .or .u64 (val (l.take (run l))) (shl .u64 (IntKind.u64.wrap (l.getD (run l) 0)) (wrap64 (7 * (run l : Int)))), wrap64 ((run l : Int) + 1), (0 : Int))) = some (val (l.take (run l + 1)), (run l : Int) + 1, (0 : Int)) := by
          rw [hu, hs, hval, w64 (by omega) (by omega)]
        unfold DEC
        rw [if_neg (by omega : ¬ (run l = l.length ∧ l.length < 10)), if_neg (by omega : ¬ (10 ≤ run l ∨ run l = l.length ∨ run l = 9 ∧ 1 < l.getD (run l) 0))]
        by_cases h0 : 0 < run l
        · rw [if_pos (by omega)]
          by_cases hz : l.getD (run l) 0 = 0
          · rw [if_pos hz, if_pos ⟨h0, hz⟩]
          · rw [if_neg hz, if_pos h7, hfin, if_neg (fun h => hz h.2)]
        · rw [if_neg (by omega), if_pos h7, hfin, if_neg (fun h => h0 h.1)]
    · have he : run l = l.length := by omega
      refine ⟨1, fun k hk => ?_⟩
      obtain ⟨k, rfl⟩ : ∃ m, k = m + 1 := ⟨k - 1, by omega⟩
      simp only [leb_Decode.l0]
      rw [if_neg (by omega), if_pos (by omega)]
      unfold DEC
      rw [if_pos ⟨he, by omega⟩]
  | succ d ih =>
    intro i hd hi h9
    have hle := run_le l
    have hlt : i < l.length := by omega
    have hge := run_all l i (by omega)
    have hby := hb.at i
    have hstep : ∀ r, Ev (fun k => leb_Decode.l0 k l (Go.bits .or .u64 (val (l.take i)) (shl .u64 (l.getD i 0 % 128) (wrap64 (7 * (i : Int))))) l (l.length : Int) ((i : Int) + 1)) r → Ev (fun k => leb_Decode.l0 k l (val (l.take i)) l (l.length : Int) (i : Int)) r := by
      intro r h
      refine Ev.step (fun k => ?_) h
      simp only [leb_Decode.l0]
      rw [if_pos (by omega), if_pos (by omega), if_pos (by omega), if_neg (by omega), rd_nat, if_pos (by omega), if_pos (by rw [w64 (by omega) (by omega)]; omega), u8_and127 _ hby, w64 (n := (i : Int) + 1) (by omega) (by omega)]
    by_cases h : i = 9
    · subst h
      have hD : DEC l = (0, 0, 11) := by
        unfold DEC
        rw [if_neg (by omega), if_pos (.inl (by omega))]
      rw [hD]
      exact hstep _ (dec_end l hl (by omega) _)
    · obtain ⟨v0, v1⟩ := val_bounds (l.take i)
      rw [List.length_take, Nat.min_eq_left (by omega)] at v1
      have hs := or_step i h9 (val (l.take i)) (l.getD i 0 % 128) v0 v1 (by omega) (by omega) (fun e => absurd e h)
      have := ih (i + 1) (by omega) (by omega) (by omega)
      refine hstep _ ?_
      rw [hs, ← val_take l i hlt]
      exact this
theorem dec_ev (l : List Int) (hb : IsBytes l) (hl : l.length ≤ 1099511627776) : Ev (fun k => leb_Decode.f k l) (DEC l) := by
  have := dec0 l hb hl (run l) 0 (by omega) (by omega) (by omega)
  simpa [leb_Decode.f, val] using this

theorem ev_all {α : Type} (g : Nat → Nat → Option α) (r : Nat → α) : ∀ n : Nat, (∀ i, i ≤ n → Ev (fun k => g k i) (r i)) → ∃ K, ∀ k, K ≤ k → ∀ i, i ≤ n → g k i = some (r i)
  | 0, h => by
    obtain ⟨K, hK⟩ := h 0 (Nat.le_refl _)
    refine ⟨K, fun k hk i hi => ?_⟩
    obtain rfl : i = 0 := by omega
    exact hK k hk
  | n + 1, h => by
    obtain ⟨K, hK⟩ := h (n + 1) (Nat.le_refl _)
    obtain ⟨K', hK'⟩ := ev_all g r n (fun i hi => h i (by omega))
    refine ⟨K + K', fun k hk i hi => ?_⟩
    by_cases e : i = n + 1
    · subst e; exact hK k (by omega)
    · exact hK' k (by omega) i (by omega)

/-- The numbers from a place on, with their places. -/
def toldM : Nat → List Int → Nat → List (Int × Int)
  | 0, _, _ => []
  | m + 1, l, at_ => if at_ < l.length then (if (DEC (l.drop at_)).2.2 = 0 then ((at_ : Int), (DEC (l.drop at_)).1) :: toldM m l (at_ + (DEC (l.drop at_)).2.1.toNat) else []) else []
theorem DEC_ok {l : List Int} (hb : IsBytes l) (h : (DEC l).2.2 = 0) : 0 ≤ (DEC l).1 ∧ (DEC l).1 < 18446744073709551616 ∧ 1 ≤ (DEC l).2.1 ∧ (DEC l).2.1 ≤ l.length ∧ lput (DEC l).1.toNat = l.take (DEC l).2.1.toNat := by
  have e : DEC l = ((DEC l).1, (DEC l).2.1, 0) := by rw [← h]
  exact DEC_back hb e
theorem DEC_size {l : List Int} (hb : IsBytes l) (h : (DEC l).2.2 = 0) : (lsz (DEC l).1.toNat : Int) = (DEC l).2.1 := by
  obtain ⟨h0, h1, h2, h3, h4⟩ := DEC_ok hb h
  have := congrArg List.length h4
  rw [lput_len, List.length_take] at this
  omega
theorem DEC_v {l : List Int} (hb : IsBytes l) : 0 ≤ (DEC l).1 ∧ (DEC l).1 ≤ 18446744073709551615 := by
  by_cases h : (DEC l).2.2 = 0
  · have := DEC_ok hb h; omega
  · unfold DEC at h ⊢
    split
    · simp
    · split
      · simp
      · split
        · simp
        · rename_i a b c; rw [if_neg a, if_neg b, if_neg c] at h; exact absurd rfl h
theorem DEC_nil : DEC [] = (0, 0, 10) := by decide +kernel
theorem toldM_fuel (l : List Int) (hb : IsBytes l) : ∀ (m m' at_ : Nat), l.length - at_ < m → l.length - at_ < m' → toldM m l at_ = toldM m' l at_
  | 0, _, _, h, _ => by omega
  | _, 0, _, _, h => by omega
  | m + 1, m' + 1, at_, h, h' => by
    simp only [toldM]
    by_cases c : at_ < l.length
    · rw [if_pos c, if_pos c]
      by_cases d : (DEC (l.drop at_)).2.2 = 0
      · rw [if_pos d, if_pos d]
        have := DEC_ok (hb.drop at_) d
        rw [toldM_fuel l hb m m' _ (by omega) (by omega)]
      · rw [if_neg d, if_neg d]
    · rw [if_neg c, if_neg c]
/-- What is needed of Decode, and of Size, at every place of a list. -/
theorem dec_all (l : List Int) (hb : IsBytes l) (hl : l.length ≤ 1099511627776) : ∃ K, ∀ k, K ≤ k → (∀ i, i ≤ l.length → leb_Decode.f k (l.drop i) = some (DEC (l.drop i))) ∧ ∀ i, i ≤ l.length → leb_Size.f k [(DEC (l.drop i)).1] = some ((lsz (DEC (l.drop i)).1.toNat : Nat) : Int) := by
  obtain ⟨K, hK⟩ := ev_all (fun k i => leb_Decode.f k (l.drop i)) (fun i => DEC (l.drop i)) l.length (fun i _ => dec_ev _ (hb.drop i) (by rw [List.length_drop]; omega))
  obtain ⟨K', hK'⟩ := ev_all (fun k i => leb_Size.f k [(DEC (l.drop i)).1]) (fun i => ((lsz (DEC (l.drop i)).1.toNat : Nat) : Int)) l.length (fun i _ => size_one _ (DEC_v (hb.drop i)).1 (DEC_v (hb.drop i)).2)
  exact ⟨K + K', fun k hk => ⟨hK k (by omega), hK' k (by omega)⟩⟩
theorem told_eq (l : List Int) (hb : IsBytes l) (k : Nat) (hD : ∀ i, i ≤ l.length → leb_Decode.f k (l.drop i) = some (DEC (l.drop i))) : ∀ (m at_ : Nat), l.length - at_ < m → leb_told k m l at_ = some (toldM m l at_)
  | 0, _, h => by omega
  | m + 1, at_, h => by
    simp only [leb_told, toldM]
    by_cases c : at_ < l.length
    · rw [if_pos c, if_pos c, hD at_ (by omega), Option.bind_some]
      by_cases d : (DEC (l.drop at_)).2.2 = 0
      · obtain ⟨h0, h1, h2, h3, h4⟩ := DEC_ok (hb.drop at_) d
        rw [List.length_drop] at h3
        rw [if_pos d, if_pos d, if_pos (by omega), told_eq l hb k hD m _ (by omega)]
        rfl
      · rw [if_neg d, if_neg d]
    · rw [if_neg c, if_neg c]
/-- Each that is told stands at its place. -/
theorem toldM_mem (l : List Int) : ∀ (m at_ : Nat) (x : Int × Int), x ∈ toldM m l at_ → ∃ i : Nat, i ≤ l.length ∧ x = ((i : Int), (DEC (l.drop i)).1)
  | 0, _, _, h => by simp [toldM] at h
  | m + 1, at_, x, h => by
    simp only [toldM] at h
    split at h
    · split at h
      · rcases List.mem_cons.1 h with rfl | h
        · exact ⟨at_, by omega, rfl⟩
        · exact toldM_mem l m _ x h
      · simp at h
    · simp at h
end Go.Proofs.Ytkkmceejfmjidaa.Leb
