/- LebEnc: what leb.Encode, leb.Size and the document's Encode compute, said by LebMath. -/
import Derived.Test.YtcpdnoaebbbgcaaLebMath
import Derived.Test.YtcpdnoaebbbgcaaGx
namespace Go.Proofs.Ytcpdnoaebbbgcaa.Leb
open Go.RowKit Go.Proofs.Ytcpdnoaebbbgcaa.G Go.Proofs.Ytcpdnoaebbbgcaa.LebMath Go.Proofs.YtcpdnoaebbbgcaaW.PrintWords Go.Proofs.YtcpdnoaebbbgcaaW.PrintLast Go.Proofs.YtcpdnoaebbbgcaaW.PrintMore
set_option linter.unusedVariables false
set_option linter.unusedSimpArgs false

theorem ev_step {α : Type} {g f : Nat → Option α} {r : α} (h : ∀ k, g (k + 1) = f k) (k : Ev f r) : Ev g r := Ev.step h k
theorem w64 {n : Int} (h0 : -9223372036854775808 ≤ n) (h1 : n ≤ 9223372036854775807) : wrap64 n = n := by unfold wrap64; omega

theorem size1 (xs : List Int) (len i : Int) (r : Int) (v : Nat) : ∀ n : Int, 0 ≤ n → n + lsz v ≤ 4611686018427387999 → Ev (fun k => leb_Size.l0 k (n + lsz v - 1) xs len (wrap64 (i + 1))) r → Ev (fun k => leb_Size.l1 k n (v : Int) xs len i) r := by
  induction v using Nat.strongRecOn with
  | _ v ih =>
    intro n h0 h1 h
    by_cases hv : v ≤ 127
    · rw [lsz_small hv] at h
      refine Ev.step (fun k => ?_) h
      simp only [leb_Size.l1]
      rw [if_neg (by omega)]
      congr 1
      simp
    · rw [lsz_big hv] at h h1
      have := ih (v / 128) (by omega) (n + 1) (by omega) (by omega) (by
        have e : n + 1 + (lsz (v / 128) : Int) - 1 = n + ((lsz (v / 128) + 1 : Nat) : Int) - 1 := by omega
        rw [e]; exact h)
      refine Ev.step (fun k => ?_) this
      simp only [leb_Size.l1]
      rw [if_pos (by omega), w64 (by omega) (by omega)]
      congr 1
theorem size0 (xs : List Int) (hx : ∀ x ∈ xs, 0 ≤ x ∧ x ≤ 18446744073709551615) (hl : xs.length ≤ 1099511627776) : ∀ (d : Nat) (i : Nat) (n : Int), xs.length - i = d → i ≤ xs.length → 0 ≤ n → n + 10 * d ≤ 4611686018427387904 →
    Ev (fun k => leb_Size.l0 k n xs (xs.length : Int) (i : Int)) (n + (((xs.drop i).map (fun x => lsz x.toNat)).sum : Nat)) := by
  intro d
  induction d with
  | zero =>
    intro i n hd hi h0 h1
    refine ⟨1, fun k hk => ?_⟩
    obtain ⟨k, rfl⟩ : ∃ m, k = m + 1 := ⟨k - 1, by omega⟩
    simp only [leb_Size.l0]
    rw [if_neg (by omega), List.drop_of_length_le (by omega)]
    simp
  | succ d ih =>
    intro i n hd hi h0 h1
    have hlt : i < xs.length := by omega
    obtain ⟨x0, x1⟩ := hx _ (List.getElem_mem hlt)
    have hr : rd xs (i : Int) = xs[i] := by rw [rd_nat, List.getD_eq_getElem?_getD, List.getElem?_eq_getElem hlt]; rfl
    have h10 : lsz (xs[i]).toNat ≤ 10 := lsz_ten (by omega)
    have hp := lsz_pos (xs[i]).toNat
    have hnext := ih (i + 1) (n + lsz (xs[i]).toNat) (by omega) (by omega) (by omega) (by omega)
    have h1' := size1 xs (xs.length : Int) (i : Int) (n + (((xs.drop i).map (fun x => lsz x.toNat)).sum : Nat)) (xs[i]).toNat (n + 1) (by omega) (by omega) (by
      rw [w64 (by omega) (by omega)]
      have e1 : n + 1 + (lsz (xs[i]).toNat : Int) - 1 = n + lsz (xs[i]).toNat := by omega
      rw [e1, List.drop_eq_getElem_cons hlt]
      simp only [List.map_cons, List.sum_cons]
      have e2 : n + ((lsz (xs[i]).toNat + ((xs.drop (i + 1)).map (fun x => lsz x.toNat)).sum : Nat) : Int) = n + lsz (xs[i]).toNat + (((xs.drop (i + 1)).map (fun x => lsz x.toNat)).sum : Nat) := by omega
      rw [e2]
      exact hnext)
    rw [Int.toNat_of_nonneg x0] at h1'
    refine Ev.step (fun k => ?_) h1'
    simp only [leb_Size.l0]
    rw [if_pos (by omega), if_pos (by omega), if_pos (by omega), hr, w64 (by omega) (by omega)]
theorem size_ev (xs : List Int) (hx : ∀ x ∈ xs, 0 ≤ x ∧ x ≤ 18446744073709551615) (hl : xs.length ≤ 1099511627776) :
    Ev (fun k => leb_Size.f k xs) (((xs.map (fun x => lsz x.toNat)).sum : Nat) : Int) := by
  have := size0 xs hx hl xs.length 0 0 (by omega) (by omega) (by omega) (by omega)
  simpa [leb_Size.f] using this
theorem size_one (v : Int) (h0 : 0 ≤ v) (h1 : v ≤ 18446744073709551615) : Ev (fun k => leb_Size.f k [v]) (lsz v.toNat : Int) := by
  have := size_ev [v] (by intro x hx; simp at hx; omega) (by simp)
  simpa using this

theorem or128 (a : Nat) (h : a < 256) : a ||| 128 = a % 128 + 128 := by
  revert a
  decide +kernel
theorem u8_or128' (x : Int) (h0 : 0 ≤ x) : Go.bits .or .u8 (x % 256) 128 = x % 128 + 128 := by
  have := (bits_nat .u8 8 (by decide) wraps_u8 (x % 256).toNat 128 (by omega) (by decide)).2
  have e : (((x % 256).toNat : Nat) : Int) = x % 256 := by omega
  rw [e] at this
  have h128 : ((128 : Nat) : Int) = 128 := rfl
  rw [h128] at this
  rw [this, or128 _ (by omega)]
  omega
theorem put_ev (v : Nat) : ∀ b : List Int, b.length + lsz v ≤ 140737488355328 → Ev (fun k => leb_put.l0 k b (v : Int)) (b ++ lput v) := by
  induction v using Nat.strongRecOn with
  | _ v ih =>
    intro b hl
    by_cases hv : v ≤ 127
    · rw [lsz_small hv] at hl
      refine ⟨1, fun k hk => ?_⟩
      obtain ⟨k, rfl⟩ : ∃ m, k = m + 1 := ⟨k - 1, by omega⟩
      simp only [leb_put.l0]
      rw [if_neg (by omega), if_pos (by omega), lput_small hv]
      congr 3
      omega
    · rw [lsz_big hv] at hl
      have hp := lsz_pos (v / 128)
      have := ih (v / 128) (by omega) (b ++ [((v % 128 + 128 : Nat) : Int)]) (by rw [List.length_append]; simp; omega)
      rw [List.append_assoc, List.singleton_append, ← lput_big hv] at this
      refine Ev.step (fun k => ?_) this
      simp only [leb_put.l0]
      rw [if_pos (by omega), if_pos (by omega), u8_or128' _ (by omega)]
      congr 1
theorem enc0 (xs : List Int) (hx : ∀ x ∈ xs, 0 ≤ x ∧ x ≤ 18446744073709551615) (hl : xs.length ≤ 1099511627776) : ∀ (d : Nat) (i : Nat) (b : List Int), xs.length - i = d → i ≤ xs.length → b.length + 10 * d ≤ 140737488355328 →
    Ev (fun k => leb_Encode.l0 k b xs (xs.length : Int) (i : Int)) (b ++ lenc ((xs.drop i).map Int.toNat)) := by
  intro d
  induction d with
  | zero =>
    intro i b hd hi hb
    refine ⟨1, fun k hk => ?_⟩
    obtain ⟨k, rfl⟩ : ∃ m, k = m + 1 := ⟨k - 1, by omega⟩
    simp only [leb_Encode.l0]
    rw [if_neg (by omega), List.drop_of_length_le (by omega)]
    simp [lenc]
  | succ d ih =>
    intro i b hd hi hb
    have hlt : i < xs.length := by omega
    obtain ⟨x0, x1⟩ := hx _ (List.getElem_mem hlt)
    have hr : rd xs (i : Int) = xs[i] := by rw [rd_nat, List.getD_eq_getElem?_getD, List.getElem?_eq_getElem hlt]; rfl
    have h10 : lsz (xs[i]).toNat ≤ 10 := lsz_ten (by omega)
    have hput := put_ev (xs[i]).toNat b (by omega)
    rw [Int.toNat_of_nonneg x0] at hput
    have hnext := ih (i + 1) (b ++ lput (xs[i]).toNat) (by omega) (by omega) (by rw [List.length_append, lput_len]; omega)
    have e : b ++ lput (xs[i]).toNat ++ lenc ((xs.drop (i + 1)).map Int.toNat) = b ++ lenc ((xs.drop i).map Int.toNat) := by
      rw [List.drop_eq_getElem_cons hlt]; simp only [List.map_cons, lenc, List.flatMap_cons, List.append_assoc]
    rw [e] at hnext
    refine Ev.step (fun k => ?_) (Ev.bind (f := fun k t => leb_Encode.l0 k t xs (xs.length : Int) (wrap64 ((i : Int) + 1))) hput (by rw [w64 (by omega) (by omega)]; exact hnext))
    simp only [leb_Encode.l0, leb_put.f]
    rw [if_pos (by omega), if_pos (by omega), if_pos (by omega), hr]
theorem enc_ev (xs : List Int) (hx : ∀ x ∈ xs, 0 ≤ x ∧ x ≤ 18446744073709551615) (hl : xs.length ≤ 1099511627776) :
    Ev (fun k => leb_Encode.f k xs) (lenc (xs.map Int.toNat)) := by
  have := enc0 xs hx hl xs.length 0 [] (by omega) (by omega) (by simp; omega)
  simpa [leb_Encode.f] using this

theorem ofNat_inj {a b : Int} (ha : 0 ≤ a ∧ a ≤ 255) (hb : 0 ≤ b ∧ b ≤ 255) (h : UInt8.ofNat a.toNat = UInt8.ofNat b.toNat) : a = b := by
  have := congrArg UInt8.toNat h
  simp at this
  omega
theorem str_inj : ∀ {a b : List Int}, IsBytes a → IsBytes b → (a.map fun n => UInt8.ofNat n.toNat) = (b.map fun n => UInt8.ofNat n.toNat) → a = b
  | [], [], _, _, _ => rfl
  | x :: a, y :: b, ha, hb, h => by
    simp only [List.map_cons, List.cons.injEq] at h
    rw [ofNat_inj ha.cons.1 hb.cons.1 h.1, str_inj ha.cons.2 hb.cons.2 h.2]
  | [], _ :: _, _, _, h => by simp at h
  | _ :: _, [], _, _, h => by simp at h
theorem toList_data (s : ByteArray) : s.toList = s.data.toList := by
  have : ∀ (n i : Nat) (r : List UInt8), s.size - i = n → ByteArray.toList.loop s i r = r.reverse ++ s.data.toList.drop i := by
    intro n
    induction n with
    | zero =>
      intro i r h
      unfold ByteArray.toList.loop
      rw [if_neg (by omega), List.drop_of_length_le (by rw [Array.length_toList]; show s.size ≤ i; omega)]
      simp
    | succ n ih =>
      intro i r h
      unfold ByteArray.toList.loop
      rw [if_pos (by omega), ih (i + 1) _ (by omega)]
      have hi : i < s.data.toList.length := by rw [Array.length_toList]; show i < s.size; omega
      rw [List.drop_eq_getElem_cons hi]
      have hs : i < s.data.size := by simpa using hi
      have : s.get! i = s.data.toList[i] := by
        rw [show s.get! i = s.data[i]! from rfl, getElem!_pos s.data i hs]
        simp
      rw [this]
      simp
  have h := this s.size 0 [] (by omega)
  simpa [ByteArray.toList] using h
theorem same_eq {a b : List Int} (ha : IsBytes a) (hb : IsBytes b) : hawserref01_Same.f a b = some (decide (a = b)) := by
  unfold hawserref01_Same.f
  congr 1
  rw [Bool.eq_iff_iff]
  simp only [beq_iff_eq, decide_eq_true_eq, toList_data, strOfNums_data]
  exact ⟨fun h => str_inj ha hb h, fun h => by rw [h]⟩

/-! ### the document's Bytes and Encode; the law's numbers -/
theorem rbytes_ev (v : Nat) : v < 18446744073709551616 → Ev (fun k => hawserref01_Bytes.f k (v : Int)) (lput v) := by
  induction v using Nat.strongRecOn with
  | _ v ih =>
    intro hv
    by_cases h : v ≤ 127
    · rw [lput_small h]
      refine ⟨1, fun k hk => ?_⟩
      obtain ⟨k, rfl⟩ : ∃ m, k = m + 1 := ⟨k - 1, by omega⟩
      simp only [hawserref01_Bytes.f]
      rw [if_pos (by omega)]
      congr 2
      omega
    · rw [lput_big h]
      have e1 : Int.tdiv (v : Int) 128 = ((v / 128 : Nat) : Int) := rfl
      have e2 : Int.tmod (v : Int) 128 = ((v % 128 : Nat) : Int) := rfl
      have e3 : IntKind.u64.wrap ((v / 128 : Nat) : Int) = ((v / 128 : Nat) : Int) := by rw [u64_wrap]; omega
      refine Ev.step (f := fun k => (hawserref01_Bytes.f k ((v / 128 : Nat) : Int)).bind fun t118 => (if ([(((v % 128 : Nat) : Int) % 256 + 128) % 256] : List Int).length + t118.length < 140737488355328 then (some (([(((v % 128 : Nat) : Int) % 256 + 128) % 256] : List Int) ++ t118)) else (none))) (fun k => ?_) (Ev.bind (ih (v / 128) (by omega) (by omega)) (Ev.congr (f := fun _ => some (((v % 128 + 128 : Nat) : Int) :: lput (v / 128))) (fun k => ?_) (Ev.now _)))
      · simp only [hawserref01_Bytes.f, Option.bind_some]
        rw [if_neg (by omega), e1, e2, e3]
      · have := lsz_ten (v := v / 128) (by omega)
        rw [if_pos (by rw [lput_len]; simp only [List.length_cons, List.length_nil]; omega)]
        rw [show (((v % 128 : Nat) : Int) % 256 + 128) % 256 = ((v % 128 + 128 : Nat) : Int) by omega]
        rfl
theorem renc0 (xs : List Int) (hx : ∀ x ∈ xs, 0 ≤ x ∧ x ≤ 18446744073709551615) (hl : xs.length ≤ 1099511627776) : ∀ (d : Nat) (i : Nat) (b : List Int), xs.length - i = d → i ≤ xs.length → b.length + 10 * d ≤ 140737488355327 →
    Ev (fun k => hawserref01_Encode.l0 k b xs (xs.length : Int) (i : Int)) (b ++ lenc ((xs.drop i).map Int.toNat)) := by
  intro d
  induction d with
  | zero =>
    intro i b hd hi hb
    refine ⟨1, fun k hk => ?_⟩
    obtain ⟨k, rfl⟩ : ∃ m, k = m + 1 := ⟨k - 1, by omega⟩
    simp only [hawserref01_Encode.l0]
    rw [if_neg (by omega), List.drop_of_length_le (by omega)]
    simp [lenc]
  | succ d ih =>
    intro i b hd hi hb
    have hlt : i < xs.length := by omega
    obtain ⟨x0, x1⟩ := hx _ (List.getElem_mem hlt)
    have hr : rd xs (i : Int) = xs[i] := by rw [rd_nat, List.getD_eq_getElem?_getD, List.getElem?_eq_getElem hlt]; rfl
    have h10 : lsz (xs[i]).toNat ≤ 10 := lsz_ten (by omega)
    have hput := rbytes_ev (xs[i]).toNat (by omega)
    rw [Int.toNat_of_nonneg x0] at hput
    have hnext := ih (i + 1) (b ++ lput (xs[i]).toNat) (by omega) (by omega) (by rw [List.length_append, lput_len]; omega)
    have e : b ++ lput (xs[i]).toNat ++ lenc ((xs.drop (i + 1)).map Int.toNat) = b ++ lenc ((xs.drop i).map Int.toNat) := by
      rw [List.drop_eq_getElem_cons hlt]; simp only [List.map_cons, lenc, List.flatMap_cons, List.append_assoc]
    rw [e] at hnext
    refine Ev.step (fun k => ?_) (Ev.bind (f := fun k t => if b.length + t.length < 140737488355328 then hawserref01_Encode.l0 k (b ++ t) xs (xs.length : Int) (wrap64 ((i : Int) + 1)) else none) hput (Ev.congr (fun k => ?_) hnext))
    · simp only [hawserref01_Encode.l0]
      rw [if_pos (by omega), if_pos (by omega), if_pos (by omega), hr]
    · rw [if_pos (by rw [lput_len]; omega), w64 (by omega) (by omega)]
      rfl
theorem renc_ev (xs : List Int) (hx : ∀ x ∈ xs, 0 ≤ x ∧ x ≤ 18446744073709551615) (hl : xs.length ≤ 1099511627776) : Ev (fun k => hawserref01_Encode.f k xs) (lenc (xs.map Int.toNat)) := by
  have := renc0 xs hx hl xs.length 0 [] (by omega) (by omega) (by simp; omega)
  simpa [hawserref01_Encode.f] using this
theorem lenc_bytes : ∀ (l : List Nat), IsBytes (lenc l)
  | [] => fun x hx => by simp [lenc] at hx
  | v :: l => by
    have := (lput_bytes v).append (lenc_bytes l)
    simpa [lenc] using this
theorem lenc_len : ∀ (l : List Nat), (lenc l).length = (l.map lsz).sum
  | [] => rfl
  | v :: l => by
    have := lenc_len l
    simp only [lenc, List.flatMap_cons, List.length_append, lput_len, List.map_cons, List.sum_cons] at this ⊢
    rw [this]
theorem lenc_le (xs : List Int) (hx : ∀ x ∈ xs, 0 ≤ x ∧ x ≤ 18446744073709551615) : (lenc (xs.map Int.toNat)).length ≤ 10 * xs.length := by
  induction xs with
  | nil => simp [lenc]
  | cons x xs ih =>
    have h1 := ih (fun y hy => hx y (List.mem_cons_of_mem _ hy))
    have h2 := hx x List.mem_cons_self
    have h3 := lsz_ten (v := x.toNat) (by omega)
    simp only [lenc, List.map_cons, List.flatMap_cons, List.length_append, lput_len, List.length_cons] at h1 ⊢
    omega
end Go.Proofs.Ytcpdnoaebbbgcaa.Leb
