/- Leb: what the functions of package leb and of its reference compute, said by LebMath. -/
import Derived.Test.YtcpdnoaebbbgcaaLebMath
import Derived.Test.YtcpdnoaebbbgcaaGx
namespace Go.Proofs.Ytcpdnoaebbbgcaa.Leb
open Go.RowKit Go.Proofs.Ytcpdnoaebbbgcaa.G Go.Proofs.Ytcpdnoaebbbgcaa.LebMath Go.Proofs.YtcpdnoaebbbgcaaW.PrintWords Go.Proofs.YtcpdnoaebbbgcaaW.PrintLast Go.Proofs.YtcpdnoaebbbgcaaW.PrintMore
set_option linter.unusedVariables false
set_option linter.unusedSimpArgs false

theorem ev_step {α : Type} {g f : Nat → Option α} {r : α} (h : ∀ k, g (k + 1) = f k) (k : Ev f r) : Ev g r := Ev.step h k
theorem w64 {n : Int} (h0 : -9223372036854775808 ≤ n) (h1 : n ≤ 9223372036854775807) : wrap64 n = n := by unfold wrap64; omega

theorem size1 (xs : List Int) (len i : Int) (r : Int) (v : Nat) : ∀ n : Int, 0 ≤ n → n + lsz v ≤ 4611686018427387999 → Ev (fun k => leb_Size.l0 k (n + lsz v - 1) xs len (wrap64 (i + 1))) r → Ev (fun k => leb_Size.l1 k n (v : Int) xs len i) r := by
  induction v using Nat.strongRecOn with
  | _ v ih =>
    intro n h0 h1 h
    by_cases hv : v ≤ 127
    · rw [lsz_small hv] at h
      refine Ev.step (fun k => ?_) h
      simp only [leb_Size.l1]
      rw [if_neg (by omega)]
      congr 1
      simp
    · rw [lsz_big hv] at h h1
      have := ih (v / 128) (by omega) (n + 1) (by omega) (by omega) (by
        have e : n + 1 + (lsz (v / 128) : Int) - 1 = n + ((lsz (v / 128) + 1 : Nat) : Int) - 1 := by omega
        rw [e]; exact h)
      refine Ev.step (fun k => ?_) this
      simp only [leb_Size.l1]
      rw [if_pos (by omega), w64 (by omega) (by omega)]
      congr 1
theorem size0 (xs : List Int) (hx : ∀ x ∈ xs, 0 ≤ x ∧ x ≤ 18446744073709551615) (hl : xs.length ≤ 1099511627776) : ∀ (d : Nat) (i : Nat) (n : Int), xs.length - i = d → i ≤ xs.length → 0 ≤ n → n + 10 * d ≤ 4611686018427387904 →
    Ev (fun k => leb_Size.l0 k n xs (xs.length : Int) (i : Int)) (n + (((xs.drop i).map (fun x => lsz x.toNat)).sum : Nat)) := by
  intro d
  induction d with
  | zero =>
    intro i n hd hi h0 h1
    refine ⟨1, fun k hk => ?_⟩
    obtain ⟨k, rfl⟩ : ∃ m, k = m + 1 := ⟨k - 1, by omega⟩
    simp only [leb_Size.l0]
    rw [if_neg (by omega), List.drop_of_length_le (by omega)]
    simp
  | succ d ih =>
    intro i n hd hi h0 h1
    have hlt : i < xs.length := by omega
    obtain ⟨x0, x1⟩ := hx _ (List.getElem_mem hlt)
    have hr : rd xs (i : Int) = xs[i] := by rw [rd_nat, List.getD_eq_getElem?_getD, List.getElem?_eq_getElem hlt]; rfl
    have h10 : lsz (xs[i]).toNat ≤ 10 := lsz_ten (by omega)
    have hp := lsz_pos (xs[i]).toNat
    have hnext := ih (i + 1) (n + lsz (xs[i]).toNat) (by omega) (by omega) (by omega) (by omega)
    have h1' := size1 xs (xs.length : Int) (i : Int) (n + (((xs.drop i).map (fun x => lsz x.toNat)).sum : Nat)) (xs[i]).toNat (n + 1) (by omega) (by omega) (by
      rw [w64 (by omega) (by omega)]
      have e1 : n + 1 + (lsz (xs[i]).toNat : Int) - 1 = n + lsz (xs[i]).toNat := by omega
      rw [e1, List.drop_eq_getElem_cons hlt]
      simp only [List.map_cons, List.sum_cons]
      have e2 : n + ((lsz (xs[i]).toNat + ((xs.drop (i + 1)).map (fun x => lsz x.toNat)).sum : Nat) : Int) = n + lsz (xs[i]).toNat + (((xs.drop (i + 1)).map (fun x => lsz x.toNat)).sum : Nat) := by omega
      rw [e2]
      exact hnext)
    rw [Int.toNat_of_nonneg x0] at h1'
    refine Ev.step (fun k => ?_) h1'
    simp only [leb_Size.l0]
    rw [if_pos (by omega), if_pos (by omega), if_pos (by omega), hr, w64 (by omega) (by omega)]
theorem size_ev (xs : List Int) (hx : ∀ x ∈ xs, 0 ≤ x ∧ x ≤ 18446744073709551615) (hl : xs.length ≤ 1099511627776) :
    Ev (fun k => leb_Size.f k xs) (((xs.map (fun x => lsz x.toNat)).sum : Nat) : Int) := by
  have := size0 xs hx hl xs.length 0 0 (by omega) (by omega) (by omega) (by omega)
  simpa [leb_Size.f] using this
theorem size_one (v : Int) (h0 : 0 ≤ v) (h1 : v ≤ 18446744073709551615) : Ev (fun k => leb_Size.f k [v]) (lsz v.toNat : Int) := by
  have := size_ev [v] (by intro x hx; simp at hx; omega) (by simp)
  simpa using this

theorem or128 (a : Nat) (h : a < 256) : a ||| 128 = a % 128 + 128 := by
  revert a
  decide +kernel
theorem u8_or128' (x : Int) (h0 : 0 ≤ x) : Go.bits .or .u8 (x % 256) 128 = x % 128 + 128 := by
  have := (bits_nat .u8 8 (by decide) wraps_u8 (x % 256).toNat 128 (by omega) (by decide)).2
  have e : (((x % 256).toNat : Nat) : Int) = x % 256 := by omega
  rw [e] at this
  have h128 : ((128 : Nat) : Int) = 128 := rfl
  rw [h128] at this
  rw [this, or128 _ (by omega)]
  omega
theorem put_ev (v : Nat) : ∀ b : List Int, b.length + lsz v ≤ 140737488355328 → Ev (fun k => leb_put.l0 k b (v : Int)) (b ++ lput v) := by
  induction v using Nat.strongRecOn with
  | _ v ih =>
    intro b hl
    by_cases hv : v ≤ 127
    · rw [lsz_small hv] at hl
      refine ⟨1, fun k hk => ?_⟩
      obtain ⟨k, rfl⟩ : ∃ m, k = m + 1 := ⟨k - 1, by omega⟩
      simp only [leb_put.l0]
      rw [if_neg (by omega), if_pos (by omega), lput_small hv]
      congr 3
      omega
    · rw [lsz_big hv] at hl
      have hp := lsz_pos (v / 128)
      have := ih (v / 128) (by omega) (b ++ [((v % 128 + 128 : Nat) : Int)]) (by rw [List.length_append]; simp; omega)
      rw [List.append_assoc, List.singleton_append, ← lput_big hv] at this
      refine Ev.step (fun k => ?_) this
      simp only [leb_put.l0]
      rw [if_pos (by omega), if_pos (by omega), u8_or128' _ (by omega)]
      congr 1
theorem enc0 (xs : List Int) (hx : ∀ x ∈ xs, 0 ≤ x ∧ x ≤ 18446744073709551615) (hl : xs.length ≤ 1099511627776) : ∀ (d : Nat) (i : Nat) (b : List Int), xs.length - i = d → i ≤ xs.length → b.length + 10 * d ≤ 140737488355328 →
    Ev (fun k => leb_Encode.l0 k b xs (xs.length : Int) (i : Int)) (b ++ lenc ((xs.drop i).map Int.toNat)) := by
  intro d
  induction d with
  | zero =>
    intro i b hd hi hb
    refine ⟨1, fun k hk => ?_⟩
    obtain ⟨k, rfl⟩ : ∃ m, k = m + 1 := ⟨k - 1, by omega⟩
    simp only [leb_Encode.l0]
    rw [if_neg (by omega), List.drop_of_length_le (by omega)]
    simp [lenc]
  | succ d ih =>
    intro i b hd hi hb
    have hlt : i < xs.length := by omega
    obtain ⟨x0, x1⟩ := hx _ (List.getElem_mem hlt)
    have hr : rd xs (i : Int) = xs[i] := by rw [rd_nat, List.getD_eq_getElem?_getD, List.getElem?_eq_getElem hlt]; rfl
    have h10 : lsz (xs[i]).toNat ≤ 10 := lsz_ten (by omega)
    have hput := put_ev (xs[i]).toNat b (by omega)
    rw [Int.toNat_of_nonneg x0] at hput
    have hnext := ih (i + 1) (b ++ lput (xs[i]).toNat) (by omega) (by omega) (by rw [List.length_append, lput_len]; omega)
    have e : b ++ lput (xs[i]).toNat ++ lenc ((xs.drop (i + 1)).map Int.toNat) = b ++ lenc ((xs.drop i).map Int.toNat) := by
      rw [List.drop_eq_getElem_cons hlt]; simp only [List.map_cons, lenc, List.flatMap_cons, List.append_assoc]
    rw [e] at hnext
    refine Ev.step (fun k => ?_) (Ev.bind (f := fun k t => leb_Encode.l0 k t xs (xs.length : Int) (wrap64 ((i : Int) + 1))) hput (by rw [w64 (by omega) (by omega)]; exact hnext))
    simp only [leb_Encode.l0, leb_put.f]
    rw [if_pos (by omega), if_pos (by omega), if_pos (by omega), hr]
theorem enc_ev (xs : List Int) (hx : ∀ x ∈ xs, 0 ≤ x ∧ x ≤ 18446744073709551615) (hl : xs.length ≤ 1099511627776) :
    Ev (fun k => leb_Encode.f k xs) (lenc (xs.map Int.toNat)) := by
  have := enc0 xs hx hl xs.length 0 [] (by omega) (by omega) (by simp; omega)
  simpa [leb_Encode.f] using this

theorem ofNat_inj {a b : Int} (ha : 0 ≤ a ∧ a ≤ 255) (hb : 0 ≤ b ∧ b ≤ 255) (h : UInt8.ofNat a.toNat = UInt8.ofNat b.toNat) : a = b := by
  have := congrArg UInt8.toNat h
  simp at this
  omega
theorem str_inj : ∀ {a b : List Int}, IsBytes a → IsBytes b → (a.map fun n => UInt8.ofNat n.toNat) = (b.map fun n => UInt8.ofNat n.toNat) → a = b
  | [], [], _, _, _ => rfl
  | x :: a, y :: b, ha, hb, h => by
    simp only [List.map_cons, List.cons.injEq] at h
    rw [ofNat_inj ha.cons.1 hb.cons.1 h.1, str_inj ha.cons.2 hb.cons.2 h.2]
  | [], _ :: _, _, _, h => by simp at h
  | _ :: _, [], _, _, h => by simp at h
theorem toList_data (s : ByteArray) : s.toList = s.data.toList := by
  have : ∀ (n i : Nat) (r : List UInt8), s.size - i = n → ByteArray.toList.loop s i r = r.reverse ++ s.data.toList.drop i := by
    intro n
    induction n with
    | zero =>
      intro i r h
      unfold ByteArray.toList.loop
      rw [if_neg (by omega), List.drop_of_length_le (by rw [Array.length_toList]; show s.size ≤ i; omega)]
      simp
    | succ n ih =>
      intro i r h
      unfold ByteArray.toList.loop
      rw [if_pos (by omega), ih (i + 1) _ (by omega)]
      have hi : i < s.data.toList.length := by rw [Array.length_toList]; show i < s.size; omega
      rw [List.drop_eq_getElem_cons hi]
      have hs : i < s.data.size := by simpa using hi
      have : s.get! i = s.data.toList[i] := by
        rw [show s.get! i = s.data[i]! from rfl, getElem!_pos s.data i hs]
        simp
      rw [this]
      simp
  have h := this s.size 0 [] (by omega)
  simpa [ByteArray.toList] using h
theorem same_eq {a b : List Int} (ha : IsBytes a) (hb : IsBytes b) : hawserref01_Same.f a b = some (decide (a = b)) := by
  unfold hawserref01_Same.f
  congr 1
  rw [Bool.eq_iff_iff]
  simp only [beq_iff_eq, decide_eq_true_eq, toList_data, strOfNums_data]
  exact ⟨fun h => str_inj ha hb h, fun h => by rw [h]⟩

/-! ### Decode, and the document's Read -/
theorem cast_pow (i : Nat) : ((128 ^ i : Nat) : Int) = (128 : Int) ^ i := by rw [Int.natCast_pow]; rfl
theorem cast_le {i n : Nat} (h : 128 ^ i ≤ n) : (128 : Int) ^ i ≤ (n : Int) := by rw [← cast_pow]; exact Int.ofNat_le.2 h
theorem or_high (i : Nat) (v y : Int) (v0 : 0 ≤ v) (v1 : v < 128 ^ i) (y0 : 0 ≤ y) (hi : y * 128 ^ i < 18446744073709551616) (hp : (128 : Int) ^ i ≤ 18446744073709551616) : Go.bits .or .u64 v (y * 128 ^ i) = v + y * 128 ^ i := by
  have hy : 0 ≤ y * (128 : Int) ^ i := Int.mul_nonneg y0 (Int.le_of_lt (Int.pow_pos (by decide)))
  obtain ⟨a, rfl⟩ := Int.eq_ofNat_of_zero_le v0
  obtain ⟨b, rfl⟩ := Int.eq_ofNat_of_zero_le y0
  have e : ((b : Int) * 128 ^ i) = ((b * 128 ^ i : Nat) : Int) := by rw [Int.natCast_mul, Int.natCast_pow]; rfl
  rw [e] at hi hy ⊢
  have ha : a < 128 ^ i := by rw [← cast_pow] at v1; exact Int.ofNat_lt.1 v1
  have hpn : 128 ^ i ≤ 18446744073709551616 := by rw [← cast_pow] at hp; omega
  rw [(bits_nat .u64 64 (by decide) (fun n h0 h1 => by rw [u64_wrap]; omega) a (b * 128 ^ i) (by omega) (by omega)).2]
  have h7 : 128 ^ i = 2 ^ (7 * i) := by rw [Nat.pow_mul]
  rw [h7] at ha ⊢
  rw [Nat.or_comm, Nat.mul_comm, ← Nat.two_pow_add_eq_or_of_lt ha b]
  rw [Int.natCast_add]
  omega
theorem pow7 (i : Nat) : (2 : Int) ^ (7 * i) = 128 ^ i := by
  have : (2 : Nat) ^ (7 * i) = 128 ^ i := by rw [Nat.pow_mul]
  rw [← cast_pow, ← this, Int.natCast_pow]
  rfl
theorem pow_small : ∀ i : Nat, i ≤ 9 → (128 : Int) ^ i ≤ 9223372036854775808 := by
  intro i hi
  have : 128 ^ i ≤ 128 ^ 9 := Nat.pow_le_pow_right (by decide) hi
  have h9 : (128 : Nat) ^ 9 = 9223372036854775808 := by decide
  rw [h9] at this
  exact cast_le this
/-- One byte more. -/
theorem or_step (i : Nat) (hi : i ≤ 9) (v c : Int) (v0 : 0 ≤ v) (v1 : v < 128 ^ i) (c0 : 0 ≤ c) (c1 : c < 128) (h9 : i = 9 → c ≤ 1) :
    Go.bits .or .u64 v (shl .u64 c (wrap64 (7 * (i : Int)))) = v + 128 ^ i * c := by
  have hp := pow_small i hi
  have hpp : (0 : Int) < 128 ^ i := Int.pow_pos (by decide)
  have hlt : c * 128 ^ i < 18446744073709551616 := by
    by_cases h : i = 9
    · have : c * 128 ^ i ≤ 1 * 128 ^ i := Int.mul_le_mul_of_nonneg_right (h9 h) (Int.le_of_lt hpp)
      omega
    · have h8 : (128 : Int) ^ i ≤ 72057594037927936 := by
        have : 128 ^ i ≤ 128 ^ 8 := Nat.pow_le_pow_right (by decide) (by omega)
        have h9 : (128 : Nat) ^ 8 = 72057594037927936 := by decide
        rw [h9] at this
        exact cast_le this
      have : c * 128 ^ i ≤ 127 * 128 ^ i := Int.mul_le_mul_of_nonneg_right (by omega) (Int.le_of_lt hpp)
      omega
  have hc : 0 ≤ c * (128 : Int) ^ i := Int.mul_nonneg c0 (Int.le_of_lt hpp)
  have es : shl .u64 c (wrap64 (7 * (i : Int))) = c * 128 ^ i := by
    unfold shl
    rw [w64 (by omega) (by omega)]
    have e7 : (7 * (i : Int)).toNat = 7 * i := by omega
    rw [e7, show min (7 * i) IntKind.u64.bits = 7 * i from Nat.min_eq_left (by show 7 * i ≤ 64; omega), pow7, u64_wrap]
    omega
  rw [es, or_high i v c v0 v1 c0 hlt (by omega), Int.mul_comm]
theorem take_snoc' (l : List Int) (i : Nat) (h : i < l.length) : l.take (i + 1) = l.take i ++ [l.getD i 0] := by
  rw [List.take_succ_eq_append_getElem h, List.getD_eq_getElem?_getD, List.getElem?_eq_getElem h]; rfl
theorem val_take (l : List Int) (i : Nat) (h : i < l.length) : val (l.take (i + 1)) = val (l.take i) + 128 ^ i * (l.getD i 0 % 128) := by
  rw [take_snoc' l i h, val_snoc, List.length_take, Nat.min_eq_left (by omega)]
theorem u8_and127 (b : Int) (h : 0 ≤ b ∧ b ≤ 255) : IntKind.u64.wrap (Go.bits .and .u8 b 127) = b % 128 := by
  have := bits_mask .u8 8 (by decide) wraps_u8 7 (by decide) b h.1 (by omega)
  rw [show ((2 : Int) ^ 7 - 1) = 127 from rfl] at this
  rw [this, u64_wrap]
  omega
theorem dec_end (l : List Int) (hl : l.length ≤ 1099511627776) (h10 : 10 ≤ run l) (v : Int) : Ev (fun k => leb_Decode.l0 k l v l (l.length : Int) (10 : Int)) (0, 0, 11) := by
  have := run_le l
  refine ⟨1, fun k hk => ?_⟩
  obtain ⟨k, rfl⟩ : ∃ m, k = m + 1 := ⟨k - 1, by omega⟩
  simp only [leb_Decode.l0]
  by_cases h : (10 : Int) < l.length
  · rw [if_pos h, if_pos (by omega), if_pos h, if_pos True.intro, if_neg (by omega)]
  · rw [if_neg h, if_neg (by omega)]
theorem dec0 (l : List Int) (hb : IsBytes l) (hl : l.length ≤ 1099511627776) : ∀ (d i : Nat), run l - i = d → i ≤ run l → i ≤ 9 → Ev (fun k => leb_Decode.l0 k l (val (l.take i)) l (l.length : Int) (i : Int)) (DEC l) := by
  intro d
  induction d with
  | zero =>
    intro i hd hi h9
    obtain rfl : i = run l := by omega
    have hle := run_le l
    by_cases hlt : run l < l.length
    · have hstop := run_stop l hlt
      have hby := hb.at (run l)
      obtain ⟨v0, v1⟩ := val_bounds (l.take (run l))
      rw [List.length_take, Nat.min_eq_left (by omega)] at v1
      have hval := val_take l (run l) hlt
      have emod : l.getD (run l) 0 % 128 = l.getD (run l) 0 := by omega
      rw [emod] at hval
      refine ⟨2, fun k hk => ?_⟩
      obtain ⟨k, rfl⟩ : ∃ m, k = m + 2 := ⟨k - 2, by omega⟩
      simp only [leb_Decode.l0]
      rw [if_pos (by omega), if_pos (by omega), if_pos (by omega), if_neg (by omega), rd_nat, if_neg (by omega)]
      by_cases hc : run l = 9 ∧ 1 < l.getD (run l) 0
      · rw [if_pos (by omega)]
        simp only [leb_Decode.j1]
        rw [if_pos (by simpa using hc.2)]
        unfold DEC
        rw [if_neg (by omega), if_pos (.inr (.inr hc))]
      · have hj : (if (run l : Int) = 9 then leb_Decode.j1 (k + 1) (val (l.take (run l))) (run l : Int) (l.getD (run l) 0) (decide (l.getD (run l) 0 > 1)) else leb_Decode.j1 (k + 1) (val (l.take (run l))) (run l : Int) (l.getD (run l) 0) false) = leb_Decode.j1 (k + 1) (val (l.take (run l))) (run l : Int) (l.getD (run l) 0) false := by
          split
          · have : decide (l.getD (run l) 0 > 1) = false := decide_eq_false (by omega)
            rw [this]
          · rfl
        rw [hj]
        simp only [leb_Decode.j1]
        rw [if_neg (by decide)]
        have hu : IntKind.u64.wrap (l.getD (run l) 0) = l.getD (run l) 0 := by rw [u64_wrap]; omega
        have h7 : 0 ≤ wrap64 (7 * (run l : Int)) := by rw [w64 (by omega) (by omega)]; omega
        have hs := or_step (run l) h9 (val (l.take (run l))) (l.getD (run l) 0) v0 v1 hby.1 hstop (fun h => by omega)
        have hfin : (some (Go.bits .or .u64 (val (l.take (run l))) (shl .u64 (IntKind.u64.wrap (l.getD (run l) 0)) (wrap64 (7 * (run l : Int)))), wrap64 ((run l : Int) + 1), (0 : Int))) = some (val (l.take (run l + 1)), (run l : Int) + 1, (0 : Int)) := by
          rw [hu, hs, hval, w64 (by omega) (by omega)]
        unfold DEC
        rw [if_neg (by omega : ¬ (run l = l.length ∧ l.length < 10)), if_neg (by omega : ¬ (10 ≤ run l ∨ run l = l.length ∨ run l = 9 ∧ 1 < l.getD (run l) 0))]
        by_cases h0 : 0 < run l
        · rw [if_pos (by omega)]
          by_cases hz : l.getD (run l) 0 = 0
          · rw [if_pos hz, if_pos ⟨h0, hz⟩]
          · rw [if_neg hz, if_pos h7, hfin, if_neg (fun h => hz h.2)]
        · rw [if_neg (by omega), if_pos h7, hfin, if_neg (fun h => h0 h.1)]
    · have he : run l = l.length := by omega
      refine ⟨1, fun k hk => ?_⟩
      obtain ⟨k, rfl⟩ : ∃ m, k = m + 1 := ⟨k - 1, by omega⟩
      simp only [leb_Decode.l0]
      rw [if_neg (by omega), if_pos (by omega)]
      unfold DEC
      rw [if_pos ⟨he, by omega⟩]
  | succ d ih =>
    intro i hd hi h9
    have hle := run_le l
    have hlt : i < l.length := by omega
    have hge := run_all l i (by omega)
    have hby := hb.at i
    have hstep : ∀ r, Ev (fun k => leb_Decode.l0 k l (Go.bits .or .u64 (val (l.take i)) (shl .u64 (l.getD i 0 % 128) (wrap64 (7 * (i : Int))))) l (l.length : Int) ((i : Int) + 1)) r → Ev (fun k => leb_Decode.l0 k l (val (l.take i)) l (l.length : Int) (i : Int)) r := by
      intro r h
      refine Ev.step (fun k => ?_) h
      simp only [leb_Decode.l0]
      rw [if_pos (by omega), if_pos (by omega), if_pos (by omega), if_neg (by omega), rd_nat, if_pos (by omega), if_pos (by rw [w64 (by omega) (by omega)]; omega), u8_and127 _ hby, w64 (n := (i : Int) + 1) (by omega) (by omega)]
    by_cases h : i = 9
    · subst h
      have hD : DEC l = (0, 0, 11) := by
        unfold DEC
        rw [if_neg (by omega), if_pos (.inl (by omega))]
      rw [hD]
      exact hstep _ (dec_end l hl (by omega) _)
    · obtain ⟨v0, v1⟩ := val_bounds (l.take i)
      rw [List.length_take, Nat.min_eq_left (by omega)] at v1
      have hs := or_step i h9 (val (l.take i)) (l.getD i 0 % 128) v0 v1 (by omega) (by omega) (fun e => absurd e h)
      have := ih (i + 1) (by omega) (by omega) (by omega)
      refine hstep _ ?_
      rw [hs, ← val_take l i hlt]
      exact this
theorem dec_ev (l : List Int) (hb : IsBytes l) (hl : l.length ≤ 1099511627776) : Ev (fun k => leb_Decode.f k l) (DEC l) := by
  have := dec0 l hb hl (run l) 0 (by omega) (by omega) (by omega)
  simpa [leb_Decode.f, val] using this

theorem read_val (l : List Int) (hb : IsBytes l) (hl : l.length ≤ 1099511627776) (x5 : Int) : ∀ (i : Nat) (v : Int), i < l.length → i ≤ 9 → 0 ≤ v → (v + 1) * 128 ^ (i + 1) ≤ 18446744073709551616 ∨ (i = 9 ∧ v = 0 ∧ l.getD 9 0 ≤ 1) →
    Ev (fun k => hawserref01_Read.l1 k l x5 v (i : Int)) (v * 128 ^ (i + 1) + val (l.take (i + 1)), wrap64 (x5 + 1), 0) := by
  intro i
  induction i with
  | zero =>
    intro v hi _ h0 h1
    have hv : (v + 1) * 128 ≤ 18446744073709551616 := by
      rcases h1 with h1 | h1
      · simpa using h1
      · omega
    have hby := hb.at 0
    refine ⟨2, fun k hk => ?_⟩
    obtain ⟨k, rfl⟩ : ∃ m, k = m + 2 := ⟨k - 2, by omega⟩
    simp only [hawserref01_Read.l1]
    rw [if_pos (by omega), if_pos (by omega)]
    have e : wrap64 (((0 : Nat) : Int) - 1) = -1 := by rw [w64 (by omega) (by omega)]; rfl
    rw [e, if_neg (by omega), rd_nat, Int.tmod_eq_emod_of_nonneg hby.1]
    have hvt := val_take l 0 hi
    simp only [List.take_zero, val] at hvt
    rw [hvt]
    simp only [u64_wrap]
    congr 2
    omega
  | succ i ih =>
    intro v hi h9 h0 h1
    have hby := hb.at (i + 1)
    have hpp : (0 : Int) < 128 ^ (i + 1) := Int.pow_pos (by decide)
    have hvb : v * 128 + l.getD (i + 1) 0 % 128 < 18446744073709551616 ∧ ((v * 128 + l.getD (i + 1) 0 % 128) + 1) * 128 ^ (i + 1) ≤ 18446744073709551616 := by
      rcases h1 with h1 | ⟨h99, rfl, hx⟩
      · have e : (v + 1) * 128 ^ (i + 1 + 1) = ((v + 1) * 128) * 128 ^ (i + 1) := by rw [Int.pow_succ (128 : Int) (i + 1), Int.mul_comm (128 ^ (i + 1)) 128, ← Int.mul_assoc]
        rw [e] at h1
        have h2 : ((v * 128 + l.getD (i + 1) 0 % 128) + 1) * 128 ^ (i + 1) ≤ ((v + 1) * 128) * 128 ^ (i + 1) := Int.mul_le_mul_of_nonneg_right (by omega) (Int.le_of_lt hpp)
        have h3 : (v + 1) * 128 * 1 ≤ (v + 1) * 128 * 128 ^ (i + 1) := Int.mul_le_mul_of_nonneg_left (by omega) (by omega)
        omega
      · have h8 : i = 8 := by omega
        subst h8
        have : l.getD (8 + 1) 0 % 128 ≤ 1 := by
          have := hb.at 9
          show l.getD 9 0 % 128 ≤ 1
          omega
        have h2 : (0 * 128 + l.getD (8 + 1) 0 % 128 + 1) * 128 ^ (8 + 1) ≤ 2 * 128 ^ (8 + 1) := Int.mul_le_mul_of_nonneg_right (by omega) (Int.le_of_lt hpp)
        have h3 : (2 : Int) * 128 ^ (8 + 1) = 18446744073709551616 := by decide
        omega
    have hnext := ih (v * 128 + l.getD (i + 1) 0 % 128) (by omega) (by omega) (by omega) (.inl hvb.2)
    have e2 : (v * 128 + l.getD (i + 1) 0 % 128) * 128 ^ (i + 1) + val (l.take (i + 1)) = v * 128 ^ (i + 1 + 1) + val (l.take (i + 1 + 1)) := by
      rw [val_take l (i + 1) hi, Int.add_mul, Int.pow_succ (128 : Int) (i + 1), Int.mul_comm (128 ^ (i + 1)) 128, ← Int.mul_assoc, Int.mul_comm (l.getD (i + 1) 0 % 128)]
      omega
    rw [e2] at hnext
    refine Ev.step (fun k => ?_) hnext
    simp only [hawserref01_Read.l1]
    rw [if_pos (by omega), if_pos (by omega), rd_nat, Int.tmod_eq_emod_of_nonneg hby.1]
    have e3 : wrap64 (((i + 1 : Nat) : Int) - 1) = (i : Int) := by rw [w64 (by omega) (by omega)]; omega
    rw [e3]
    simp only [u64_wrap]
    congr 1
    omega
theorem read_tail (l : List Int) (hb : IsBytes l) (hl : l.length ≤ 1099511627776) : Ev (fun k => hawserref01_Read.j1 k l (run l : Int)) (DEC l) := by
  have hle := run_le l
  unfold DEC
  by_cases h1 : run l = l.length ∧ l.length < 10
  · rw [if_pos h1]
    refine ⟨2, fun k hk => ?_⟩
    obtain ⟨k, rfl⟩ : ∃ m, k = m + 2 := ⟨k - 2, by omega⟩
    simp only [hawserref01_Read.j1, hawserref01_Read.j2]
    rw [if_pos (by omega), if_pos (by simp; omega)]
  · rw [if_neg h1]
    have hj1 : ∀ k, hawserref01_Read.j1 (k + 1) l (run l : Int) = hawserref01_Read.j2 k l (run l : Int) false := by
      intro k
      simp only [hawserref01_Read.j1]
      split
      · have : decide ((l.length : Int) < 10) = false := decide_eq_false (by omega)
        rw [this]
      · rfl
    refine Ev.step hj1 ?_
    by_cases h2 : 10 ≤ run l ∨ run l = l.length ∨ (run l = 9 ∧ 1 < l.getD (run l) 0)
    · rw [if_pos h2]
      refine ⟨2, fun k hk => ?_⟩
      obtain ⟨k, rfl⟩ : ∃ m, k = m + 2 := ⟨k - 2, by omega⟩
      show hawserref01_Read.j2 (k + 2) l (run l : Int) false = some (0, 0, 11)
      have hj3 : hawserref01_Read.j2 (k + 2) l (run l : Int) false = hawserref01_Read.j3 (k + 1) l (run l : Int) true := by
        simp only [hawserref01_Read.j2]
        rw [if_neg (by decide)]
        by_cases ha : 10 ≤ run l
        · rw [if_pos (by omega)]
        · rw [if_neg (by omega)]
          by_cases hb' : run l = l.length
          · rw [if_pos (by omega)]
          · rw [if_neg (by omega), if_pos (by omega), if_pos (by omega), if_pos (by omega), rd_nat]
            have : decide (l.getD (run l) 0 > 1) = true := decide_eq_true (by omega)
            rw [this]
      rw [hj3]
      simp only [hawserref01_Read.j3]
      rw [if_pos True.intro]
    · rw [if_neg h2]
      have hlt : run l < l.length := by omega
      have hj2 : ∀ k, hawserref01_Read.j2 (k + 1) l (run l : Int) false = hawserref01_Read.j3 k l (run l : Int) false := by
        intro k
        simp only [hawserref01_Read.j2]
        rw [if_neg (by decide), if_neg (by omega), if_neg (by omega)]
        by_cases h9 : run l = 9
        · rw [if_pos (by omega), if_pos (by omega), if_pos (by omega), rd_nat]
          have : decide (l.getD (run l) 0 > 1) = false := decide_eq_false (by omega)
          rw [this]
        · rw [if_neg (by omega)]
      refine Ev.step hj2 ?_
      by_cases h3 : 0 < run l ∧ l.getD (run l) 0 = 0
      · rw [if_pos h3]
        refine ⟨2, fun k hk => ?_⟩
        obtain ⟨k, rfl⟩ : ∃ m, k = m + 2 := ⟨k - 2, by omega⟩
        simp only [hawserref01_Read.j3, hawserref01_Read.j4]
        rw [if_neg (by decide), if_pos (by omega), if_pos (by omega), rd_nat, if_pos (by simpa using h3.2)]
      · rw [if_neg h3]
        have hj3 : ∀ k, hawserref01_Read.j3 (k + 1) l (run l : Int) false = hawserref01_Read.j4 k l (run l : Int) false := by
          intro k
          simp only [hawserref01_Read.j3]
          rw [if_neg (by decide)]
          by_cases h0 : 0 < run l
          · rw [if_pos (by omega), if_pos (by omega), rd_nat]
            have : (l.getD (run l) 0 == 0) = false := by
              rw [beq_eq_false_iff_ne]; exact fun e => h3 ⟨h0, e⟩
            rw [this]
          · rw [if_neg (by omega)]
        refine Ev.step hj3 ?_
        have hv := read_val l hb hl (run l : Int) (run l) 0 hlt (by omega) (by omega) (by
          by_cases h9 : run l = 9
          · right
            have := hb.at 9
            refine ⟨h9, rfl, ?_⟩
            rw [h9] at h2
            omega
          · left
            have : 128 ^ (run l + 1) ≤ 128 ^ 9 := Nat.pow_le_pow_right (by decide) (by omega)
            have h9' : (128 : Nat) ^ 9 = 9223372036854775808 := by decide
            rw [h9'] at this
            have h10 : (128 : Int) ^ (run l + 1) ≤ 9223372036854775808 := cast_le this
            omega)
        rw [w64 (by omega) (by omega)] at hv
        simp only [Int.zero_mul, Int.zero_add] at hv
        refine Ev.step (fun k => ?_) hv
        simp only [hawserref01_Read.j4]
        rw [if_neg (by decide)]
theorem read0 (l : List Int) (hb : IsBytes l) (hl : l.length ≤ 1099511627776) : ∀ (d i : Nat), run l - i = d → i ≤ run l → Ev (fun k => hawserref01_Read.l0 k l (i : Int)) (DEC l) := by
  intro d
  have hle := run_le l
  induction d with
  | zero =>
    intro i hd hi
    obtain rfl : i = run l := by omega
    refine Ev.step (fun k => ?_) (read_tail l hb hl)
    simp only [hawserref01_Read.l0]
    by_cases hlt : run l < l.length
    · have := run_stop l hlt
      rw [if_pos (by omega), if_pos (by omega), rd_nat, if_neg (by omega)]
    · rw [if_neg (by omega)]
  | succ d ih =>
    intro i hd hi
    have hge := run_all l i (by omega)
    refine Ev.step (fun k => ?_) (ih (i + 1) (by omega) (by omega))
    simp only [hawserref01_Read.l0]
    rw [if_pos (by omega), if_pos (by omega), rd_nat, if_pos (by omega), w64 (by omega) (by omega)]
    congr 1
theorem read_ev (l : List Int) (hb : IsBytes l) (hl : l.length ≤ 1099511627776) : Ev (fun k => hawserref01_Read.f k l) (DEC l) := by
  have := read0 l hb hl (run l) 0 (by omega) (by omega)
  simpa [hawserref01_Read.f] using this

/-! ### Lend and Kept -/
theorem kept0 (l w : List Int) (hw : w = l ++ (lendMarks l.length).drop l.length) (hl : l.length ≤ 1099511627776) : ∀ (d i : Nat), l.length + 9 - i = d → i ≤ l.length + 9 → Ev (fun k => hawserref01_Kept.l0 k w l ((l.length + 9 : Nat) : Int) (i : Int)) true := by
  have hlen : w.length = l.length + 9 := by rw [hw, List.length_append, List.length_drop, lendMarks_len]; omega
  intro d
  induction d with
  | zero =>
    intro i hd hi
    refine ⟨1, fun k hk => ?_⟩
    obtain ⟨k, rfl⟩ : ∃ m, k = m + 1 := ⟨k - 1, by omega⟩
    simp only [hawserref01_Kept.l0]
    rw [if_neg (by omega)]
  | succ d ih =>
    intro i hd hi
    refine Ev.step (fun k => ?_) (ih (i + 1) (by omega) (by omega))
    simp only [hawserref01_Kept.l0]
    have ew : wrap64 ((i : Int) + 1) = ((i + 1 : Nat) : Int) := by rw [w64 (by omega) (by omega)]; omega
    rw [if_pos (by omega), ew]
    by_cases hlt : i < l.length
    · have e : rd w (i : Int) = rd l (i : Int) := by
        rw [rd_nat, rd_nat, hw, List.getD_eq_getElem?_getD, List.getElem?_append_left hlt, ← List.getD_eq_getElem?_getD]
      rw [if_pos (by omega), if_pos (by omega), if_pos (by omega), if_pos e]
    · have e : rd w (i : Int) = (wrap64 (201 + (i : Int))) % 256 := by
        rw [rd_nat, hw, List.getD_eq_getElem?_getD, List.getElem?_append_right (by omega), List.getElem?_drop, w64 (by omega) (by omega)]
        have : l.length + (i - l.length) = i := by omega
        rw [this]
        simp [lendMarks, List.getElem?_range (show i < l.length + 9 by omega)]
      rw [if_neg (by omega), if_pos (by omega), if_pos (by omega), if_pos e]
theorem kept_ev (l : List Int) (hl : l.length ≤ 1099511627776) : Ev (fun k => hawserref01_Kept.f k (l ++ (lendMarks l.length).drop l.length) l) true := by
  have hlen : (l ++ (lendMarks l.length).drop l.length).length = l.length + 9 := by rw [List.length_append, List.length_drop, lendMarks_len]; omega
  have := kept0 l _ rfl hl (l.length + 9) 0 (by omega) (by omega)
  obtain ⟨K, hK⟩ := this
  refine ⟨K, fun k hk => ?_⟩
  show hawserref01_Kept.f k _ l = some true
  unfold hawserref01_Kept.f
  rw [if_pos (by rw [hlen, w64 (by omega) (by omega)]; omega), hlen]
  exact hK k hk
theorem lend_eq (l : List Int) (hl : l.length ≤ 1099511627776) : hawserref01_Lend.f l = some (l ++ (lendMarks l.length).drop l.length, l) := by
  unfold hawserref01_Lend.f
  rw [if_pos hl]
end Go.Proofs.Ytcpdnoaebbbgcaa.Leb
