/- CfgEnc: what leb.put and leb.Encode write, and the document's numbers; config.Encode and the document's bytes of a configuration. -/
import Derived.Test.YtkkmceejfmjidaaLebMath
import Derived.Test.YtkkmceejfmjidaaCfgMath
import Derived.Test.YtkkmceejfmjidaaGx3
namespace Go.Proofs.Ytkkmceejfmjidaa.CfgEnc
open Go.RowKit Go.Proofs.Ytkkmceejfmjidaa.G Go.Proofs.Ytkkmceejfmjidaa.LebMath Go.Proofs.YtkkmceejfmjidaaW.PrintWords Go.Proofs.YtkkmceejfmjidaaW.PrintLast Go.Proofs.YtkkmceejfmjidaaW.PrintMore
set_option linter.unusedVariables false
set_option linter.unusedSimpArgs false
theorem w64 {n : Int} (h0 : -9223372036854775808 ≤ n) (h1 : n ≤ 9223372036854775807) : wrap64 n = n := by unfold wrap64; omega

theorem or128 (a : Nat) (h : a < 256) : a ||| 128 = a % 128 + 128 := by
  revert a
  decide +kernel
theorem u8_or128' (x : Int) (h0 : 0 ≤ x) : Go.bits .or .u8 (x % 256) 128 = x % 128 + 128 := by
  have := (bits_nat .u8 8 (by decide) wraps_u8 (x % 256).toNat 128 (by omega) (by decide)).2
  have e : (((x % 256).toNat : Nat) : Int) = x % 256 := by omega
  rw [e] at this
  have h128 : ((128 : Nat) : Int) = 128 := rfl
  rw [h128] at this
  rw [this, or128 _ (by omega)]
  omega
theorem put_ev (v : Nat) : ∀ b : List Int, b.length + lsz v ≤ 140737488355328 → Ev (fun k => leb_put.l0 k b (v : Int)) (b ++ lput v) := by
  induction v using Nat.strongRecOn with
  | _ v ih =>
    intro b hl
    by_cases hv : v ≤ 127
    · rw [lsz_small hv] at hl
      refine ⟨1, fun k hk => ?_⟩
      obtain ⟨k, rfl⟩ : ∃ m, k = m + 1 := ⟨k - 1, by omega⟩
      simp only [leb_put.l0]
      rw [if_neg (by omega), if_pos (by omega), lput_small hv]
      congr 3
      omega
    · rw [lsz_big hv] at hl
      have hp := lsz_pos (v / 128)
      have := ih (v / 128) (by omega) (b ++ [((v % 128 + 128 : Nat) : Int)]) (by rw [List.length_append]; simp; omega)
      rw [List.append_assoc, List.singleton_append, ← lput_big hv] at this
      refine Ev.step (fun k => ?_) this
      simp only [leb_put.l0]
      rw [if_pos (by omega), if_pos (by omega), u8_or128' _ (by omega)]
      congr 1
theorem enc0 (xs : List Int) (hx : ∀ x ∈ xs, 0 ≤ x ∧ x ≤ 18446744073709551615) (hl : xs.length ≤ 1099511627776) : ∀ (d : Nat) (i : Nat) (b : List Int), xs.length - i = d → i ≤ xs.length → b.length + 10 * d ≤ 140737488355328 →
    Ev (fun k => leb_Encode.l0 k b xs (xs.length : Int) (i : Int)) (b ++ lenc ((xs.drop i).map Int.toNat)) := by
  intro d
  induction d with
  | zero =>
    intro i b hd hi hb
    refine ⟨1, fun k hk => ?_⟩
    obtain ⟨k, rfl⟩ : ∃ m, k = m + 1 := ⟨k - 1, by omega⟩
    simp only [leb_Encode.l0]
    rw [if_neg (by omega), List.drop_of_length_le (by omega)]
    simp [lenc]
  | succ d ih =>
    intro i b hd hi hb
    have hlt : i < xs.length := by omega
    obtain ⟨x0, x1⟩ := hx _ (List.getElem_mem hlt)
    have hr : rd xs (i : Int) = xs[i] := by rw [rd_nat, List.getD_eq_getElem?_getD, List.getElem?_eq_getElem hlt]; rfl
    have h10 : lsz (xs[i]).toNat ≤ 10 := lsz_ten (by omega)
    have hput := put_ev (xs[i]).toNat b (by omega)
    rw [Int.toNat_of_nonneg x0] at hput
    have hnext := ih (i + 1) (b ++ lput (xs[i]).toNat) (by omega) (by omega) (by rw [List.length_append, lput_len]; omega)
    have e : b ++ lput (xs[i]).toNat ++ lenc ((xs.drop (i + 1)).map Int.toNat) = b ++ lenc ((xs.drop i).map Int.toNat) := by
      rw [List.drop_eq_getElem_cons hlt]; simp only [List.map_cons, lenc, List.flatMap_cons, List.append_assoc]
    rw [e] at hnext
    refine Ev.step (fun k => ?_) (Ev.bind (f := fun k t => leb_Encode.l0 k t xs (xs.length : Int) (wrap64 ((i : Int) + 1))) hput (by rw [w64 (by omega) (by omega)]; exact hnext))
    simp only [leb_Encode.l0, leb_put.f]
    rw [if_pos (by omega), if_pos (by omega), if_pos (by omega), hr]
theorem enc_ev (xs : List Int) (hx : ∀ x ∈ xs, 0 ≤ x ∧ x ≤ 18446744073709551615) (hl : xs.length ≤ 1099511627776) :
    Ev (fun k => leb_Encode.f k xs) (lenc (xs.map Int.toNat)) := by
  have := enc0 xs hx hl xs.length 0 [] (by omega) (by omega) (by simp; omega)
  simpa [leb_Encode.f] using this
/-- The bytes of a configuration that may be. -/
def cfgBytes (e : Int) (l : List Int) : List Int := lput e.toNat ++ (l.length : Int) :: l
open CfgMath in
theorem enc_step (e : Int) (l : List Int) (hl : l.length ≤ 8) (hr : ∀ i, i < l.length → 1 ≤ rd l (i : Int) ∧ rd l (i : Int) ≤ 8) (c : List Int) (hc : c.length ≤ 100) : ∀ (d i : Nat), l.length - i = d → i ≤ l.length →
    Ev (fun k => config_Encode.l0 k (c ++ l.take i) l (l.length : Int) (i : Int)) (c ++ l, 0) := by
  intro d
  induction d with
  | zero =>
    intro i hd hi
    refine Ev.step (f := fun _ => some (c ++ l, 0)) (fun k => ?_) (Ev.now _)
    simp only [config_Encode.l0]
    rw [if_neg (by omega), List.take_of_length_le (by omega)]
  | succ d ih =>
    intro i hd hi
    have hlt : i < l.length := by omega
    have h := ih (i + 1) (by omega) (by omega)
    have hx := hr i hlt
    have hw : IntKind.u64.wrap (rd l (i : Int)) = rd l (i : Int) := by rw [u64_wrap]; omega
    have he := enc_ev [rd l (i : Int)] (by intro x hx'; rw [List.mem_singleton] at hx'; subst hx'; omega) (by simp)
    have hone : lenc (List.map Int.toNat [rd l (i : Int)]) = [rd l (i : Int)] := by
      simp only [List.map_cons, List.map_nil, lenc, List.flatMap_cons, List.flatMap_nil, List.append_nil]
      rw [lput_small (by omega), show ((rd l (i : Int)).toNat : Int) = rd l (i : Int) by omega]
    rw [hone] at he
    have ht : l.take (i + 1) = l.take i ++ [rd l (i : Int)] := by rw [List.take_succ_eq_append_getElem hlt, CfgMath.rd_nat l i hlt]
    rw [ht, ← List.append_assoc] at h
    have hs : ∀ k, config_Encode.l0 (k + 1) (c ++ l.take i) l (l.length : Int) (i : Int) = (leb_Encode.f k [rd l (i : Int)]).bind fun t => if (c ++ l.take i).length + t.length < 140737488355328 then config_Encode.l0 k ((c ++ l.take i) ++ t) l (l.length : Int) ((i + 1 : Nat) : Int) else none := by
      intro k
      simp only [config_Encode.l0]
      rw [if_pos (by omega), if_pos (by omega), if_pos (by omega), hw, w64 (by omega) (by omega)]
      rfl
    refine Ev.step hs (Ev.bind he (Ev.congr (fun k => ?_) h))
    rw [if_pos (by rw [List.length_append, List.length_take]; simp only [List.length_cons, List.length_nil]; omega)]
open CfgMath in
theorem encode_ev (e : Int) (l : List Int) : Ev (fun k => config_Encode.f k e l) (if chk e l = 0 then (cfgBytes e l, 0) else ([], chk e l)) := by
  unfold config_Encode.f
  by_cases hc : chk e l = 0
  · obtain ⟨h1, h2, h3, h4, h5⟩ := chk_zero.1 hc
    rw [if_pos hc]
    have hs : lsz e.toNat ≤ 10 := lsz_ten (by omega)
    have he := enc_ev [e, (l.length : Int)] (by intro x hx; simp only [List.mem_cons, List.not_mem_nil, or_false] at hx; rcases hx with rfl | rfl <;> omega) (by simp)
    have hone : lenc (List.map Int.toNat [e, (l.length : Int)]) = lput e.toNat ++ [(l.length : Int)] := by
      simp only [List.map_cons, List.map_nil, lenc, List.flatMap_cons, List.flatMap_nil, List.append_nil]
      rw [lput_small (v := ((l.length : Int)).toNat) (by omega), show (((l.length : Int)).toNat : Int) = l.length by omega]
    rw [hone] at he
    have hst := enc_step e l h4 (fun i hi => rd_range l h5 i hi) (lput e.toNat ++ [(l.length : Int)]) (by rw [List.length_append, lput_len]; simp only [List.length_cons, List.length_nil]; omega) l.length 0 (by omega) (by omega)
    rw [List.take_zero, List.append_nil, List.append_assoc, List.singleton_append] at hst
    refine Ev.congr (f := fun k => (leb_Encode.f k [e, (l.length : Int)]).bind fun t => config_Encode.l0 k t l (l.length : Int) 0) (fun k => ?_) (Ev.bind he hst)
    rw [check_f, Option.bind_some, if_pos hc, show IntKind.u64.wrap e = e by rw [u64_wrap]; omega, show IntKind.u64.wrap (l.length : Int) = (l.length : Int) by rw [u64_wrap]; omega]
  · rw [if_neg hc]
    refine Ev.congr (f := fun _ => some ([], chk e l)) (fun k => ?_) (Ev.now _)
    rw [check_f, Option.bind_some, if_neg hc]
end Go.Proofs.Ytkkmceejfmjidaa.CfgEnc
