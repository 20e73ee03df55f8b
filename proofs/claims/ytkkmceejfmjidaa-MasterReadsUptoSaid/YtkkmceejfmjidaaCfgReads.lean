/- CfgReads: what config.Decode and the document's Decode answer: of bytes that are those of a configuration that may be, this one; else 163. -/
import Derived.Test.YtkkmceejfmjidaaLebDec
import Derived.Test.YtkkmceejfmjidaaCfgEnc
namespace Go.Proofs.Ytkkmceejfmjidaa.CfgReads
open Go.RowKit Go.Proofs.Ytkkmceejfmjidaa.G Go.Proofs.Ytkkmceejfmjidaa.LebMath Go.Proofs.Ytkkmceejfmjidaa.CfgMath Go.Proofs.Ytkkmceejfmjidaa.CfgEnc Go.Proofs.Ytkkmceejfmjidaa.Leb Go.Proofs.YtkkmceejfmjidaaW.PrintWords Go.Proofs.YtkkmceejfmjidaaW.PrintLast Go.Proofs.YtkkmceejfmjidaaW.PrintMore
set_option linter.unusedVariables false
set_option linter.unusedSimpArgs false

theorem w6 {n : Int} (h0 : -9223372036854775808 ≤ n) (h1 : n ≤ 9223372036854775807) : wrap64 n = n := CfgEnc.w64 h0 h1
/-! ### the bytes of a configuration -/
theorem small_enc : ∀ (l : List Int), (∀ x ∈ l, 0 ≤ x ∧ x ≤ 127) → lenc (l.map Int.toNat) = l
  | [], _ => rfl
  | x :: l, h => by
    have hx := h x List.mem_cons_self
    have ih := small_enc l (fun y hy => h y (List.mem_cons_of_mem _ hy))
    simp only [List.map_cons, lenc, List.flatMap_cons] at ih ⊢
    rw [ih, lput_small (by omega), show (x.toNat : Int) = x by omega]
    rfl
theorem ch_range {e : Int} {l : List Int} (h : chk e l = 0) : ∀ x ∈ l, 1 ≤ x ∧ x ≤ 8 := by
  obtain ⟨_, _, _, _, h5⟩ := chk_zero.1 h
  exact ((okl_iff l []).1 h5).1
theorem cfgBytes_enc {e : Int} {l : List Int} (h : chk e l = 0) : cfgBytes e l = lenc (e.toNat :: l.length :: l.map Int.toNat) := by
  obtain ⟨_, _, _, h4, _⟩ := chk_zero.1 h
  have hr := ch_range h
  have hs := small_enc l (fun x hx => by have := hr x hx; omega)
  unfold cfgBytes
  simp only [lenc, List.flatMap_cons] at hs ⊢
  rw [hs, lput_small (v := l.length) (by omega)]
  rfl
theorem cfgBytes_bytes {e : Int} {l : List Int} (h : chk e l = 0) : IsBytes (cfgBytes e l) := by
  obtain ⟨_, _, _, h4, _⟩ := chk_zero.1 h
  have hr := ch_range h
  unfold cfgBytes
  refine (lput_bytes _).append (fun x hx => ?_)
  rcases List.mem_cons.1 hx with rfl | hx
  · omega
  · have := hr x hx; omega
theorem cfgBytes_inj {e f : Int} {l m : List Int} (h : chk e l = 0) (h' : chk f m = 0) (he : cfgBytes e l = cfgBytes f m) : e = f ∧ l = m := by
  obtain ⟨h1, h2, _, _, _⟩ := chk_zero.1 h
  obtain ⟨h1', h2', _, _, _⟩ := chk_zero.1 h'
  unfold cfgBytes at he
  obtain ⟨ev, et⟩ := lput_cancel _ _ _ _ he
  injection et with _ et
  exact ⟨by omega, et⟩
theorem str_eq {a b : List Int} (ha : IsBytes a) (hb : IsBytes b) : ((strOfNums a).toList = (strOfNums b).toList) ↔ a = b := by
  simp only [toList_data, strOfNums_data]
  exact ⟨fun h => str_inj ha hb h, fun h => by rw [h]⟩
/-- An answer of one of the Decodes. -/
def Ans (l : List Int) (r : Int × List Int × Int) : Prop := (r = (0, [], 163) ∧ ∀ e ch, chk e ch = 0 → cfgBytes e ch ≠ l) ∨ (r.2.2 = 0 ∧ chk r.1 r.2.1 = 0 ∧ cfgBytes r.1 r.2.1 = l)
theorem Ans.same {l : List Int} {r s : Int × List Int × Int} (h : Ans l r) (g : Ans l s) : r = s := by
  obtain ⟨r1, r2, r3⟩ := r
  obtain ⟨s1, s2, s3⟩ := s
  rcases h with ⟨h1, h2⟩ | ⟨h1, h2, h3⟩ <;> rcases g with ⟨g1, g2⟩ | ⟨g1, g2, g3⟩
  · rw [h1, g1]
  · exact absurd g3 (h2 _ _ g2)
  · exact absurd h3 (g2 _ _ h2)
  · obtain ⟨e1, e2⟩ := cfgBytes_inj h2 g2 (h3.trans g3.symm)
    simp only at e1 e2 h1 g1
    rw [e1, e2, h1, g1]
/-- What a Decode says at its end. -/
def END (l : List Int) (e : Int) (ch : List Int) : Int × List Int × Int := if chk e ch = 0 ∧ cfgBytes e ch = l then (e, ch, 0) else (0, [], 163)
theorem END_ans {l : List Int} {e : Int} {ch : List Int} (h : ∀ e' ch', chk e' ch' = 0 → cfgBytes e' ch' = l → e = e' ∧ ch = ch') : Ans l (END l e ch) := by
  unfold END
  by_cases c : chk e ch = 0 ∧ cfgBytes e ch = l
  · rw [if_pos c]; exact .inr ⟨rfl, c.1, c.2⟩
  · rw [if_neg c]
    refine .inl ⟨rfl, fun e' ch' h1 h2 => c ?_⟩
    obtain ⟨rfl, rfl⟩ := h e' ch' h1 h2
    exact ⟨h1, h2⟩

/-! ### config.Decode -/
def places : Nat → List Nat → List (Int × Int)
  | _, [] => []
  | at_, v :: vs => ((at_ : Int), (v : Int)) :: places (at_ + lsz v) vs
theorem told_places (l : List Int) : ∀ (vs : List Nat) (m at_ : Nat), (∀ v ∈ vs, v < 18446744073709551616) → l.drop at_ = lenc vs → l.length - at_ < m → toldM m l at_ = places at_ vs
  | vs, 0, _, _, _, h => by omega
  | [], m + 1, at_, _, h, _ => by
    have := congrArg List.length h
    simp only [List.length_drop, lenc, List.flatMap_nil, List.length_nil] at this
    simp only [toldM, places]
    rw [if_neg (by omega)]
  | v :: vs, m + 1, at_, hv, h, hm => by
    have hl := congrArg List.length h
    have hp := lsz_pos v
    simp only [lenc, List.flatMap_cons] at h hl
    rw [List.length_append, lput_len, List.length_drop] at hl
    simp only [toldM, places]
    have hd := DEC_lput (hv v List.mem_cons_self) (vs.flatMap lput)
    rw [if_pos (by omega), h, hd, if_pos rfl]
    congr 1
    show toldM m l (at_ + ((lsz v : Nat) : Int).toNat) = _
    rw [Int.toNat_natCast]
    refine told_places l vs m _ (fun w hw => hv w (List.mem_cons_of_mem _ hw)) ?_ (by omega)
    rw [← List.drop_drop, h, ← lput_len, List.drop_left]
    rfl
/-- The numbers, one behind another, in plain Lean. -/
def cdM : List (Int × Int) → CD → Option CD
  | [], s => some s
  | x :: r, s => if x.2 > 1099511627776 then none else if s.i > 9 then none else cdM r ⟨wrap64 (s.i + 1), if s.i = 0 then wrap64 x.2 else s.e, if s.i = 0 then s.ch else if s.i > 1 then s.ch ++ [wrap64 x.2] else s.ch, wrap64 (x.1 + ((lsz x.2.toNat : Nat) : Int))⟩
theorem cdAll_eq (k : Nat) : ∀ (xs : List (Int × Int)) (s : CD), (∀ x ∈ xs, leb_Size.f k [x.2] = some ((lsz x.2.toNat : Nat) : Int)) → cdAll k xs s = some (cdM xs s)
  | [], s, _ => rfl
  | x :: r, s, h => by
    simp only [cdAll, cdM, cdStep]
    by_cases c : x.2 > 1099511627776
    · rw [if_pos c, if_pos c]; rfl
    · rw [if_neg c, if_neg c]
      by_cases d : s.i > 9
      · rw [if_pos d, if_pos d]; rfl
      · rw [if_neg d, if_neg d, h x List.mem_cons_self]
        simp only [Option.bind_some]
        exact cdAll_eq k r _ (fun y hy => h y (List.mem_cons_of_mem _ hy))
theorem cdM_chain (e : Int) : ∀ (l c : List Int) (at_ : Nat), (∀ x ∈ l, 1 ≤ x ∧ x ≤ 8) → c.length + l.length ≤ 8 → at_ + l.length ≤ 1000 →
    cdM (places at_ (l.map Int.toNat)) ⟨(c.length : Int) + 2, e, c, (at_ : Int)⟩ = some ⟨((c.length + l.length : Nat) : Int) + 2, e, c ++ l, ((at_ + l.length : Nat) : Int)⟩
  | [], c, at_, _, _, _ => by simp [places, cdM]
  | x :: l, c, at_, hx, hl, ha => by
    have h1 := hx x List.mem_cons_self
    simp only [List.length_cons] at hl ha
    have ih := cdM_chain e l (c ++ [x]) (at_ + 1) (fun y hy => hx y (List.mem_cons_of_mem _ hy)) (by rw [List.length_append, List.length_singleton]; omega)
    have ex : ((x.toNat : Nat) : Int) = x := by omega
    have es : lsz x.toNat = 1 := lsz_small (by omega)
    simp only [List.map_cons, places, cdM]
    rw [if_neg (by omega), if_neg (by omega), if_neg (by omega), if_neg (by omega), if_pos (by omega), ex, w6 (n := x) (by omega) (by omega), w6 (by omega) (by omega), w6 (by omega) (by omega), es]
    have e1 : (c.length : Int) + 2 + 1 = ((c ++ [x]).length : Int) + 2 := by simp only [List.length_append, List.length_singleton]; omega
    have e2 : (at_ : Int) + ((1 : Nat) : Int) = ((at_ + 1 : Nat) : Int) := by omega
    rw [e1, e2, ih (by omega)]
    rw [show (c ++ [x]).length + l.length = c.length + (x :: l).length by simp only [List.length_append, List.length_cons, List.length_nil]; omega, show at_ + 1 + l.length = at_ + (x :: l).length by simp only [List.length_cons]; omega, List.append_assoc]
    rfl
theorem cdM_cfg {e : Int} {l : List Int} (h : chk e l = 0) : cdM (places 0 (e.toNat :: l.length :: l.map Int.toNat)) ⟨0, 0, [], 0⟩ = some ⟨(l.length : Int) + 2, e, l, ((cfgBytes e l).length : Int)⟩ := by
  obtain ⟨h1, h2, h3, h4, _⟩ := chk_zero.1 h
  have hr := ch_range h
  have hs : lsz e.toNat ≤ 10 := lsz_ten (by omega)
  have hp := lsz_pos e.toNat
  have ex : ((e.toNat : Nat) : Int) = e := by omega
  have en : lsz l.length = 1 := lsz_small (by omega)
  have hc := cdM_chain e l [] (lsz e.toNat + 1) hr (by simpa using h4) (by omega)
  simp only [places, cdM]
  rw [if_neg (by omega), if_neg (by omega), if_pos trivial, if_pos trivial, if_neg (by omega), ex, w6 (n := e) (by omega) (by omega)]
  rw [show wrap64 (0 + 1) = 1 from w6 (by omega) (by omega), show (((l.length : Nat) : Int)).toNat = l.length from Int.toNat_natCast _, en, if_neg (by decide), if_neg (by decide), if_neg (by decide), if_neg (by decide), w6 (n := _ + ((1 : Nat) : Int)) (by omega) (by omega)]
  rw [show wrap64 (1 + 1) = 2 from w6 (by omega) (by omega), show ((0 + lsz e.toNat : Nat) : Int) + ((1 : Nat) : Int) = ((lsz e.toNat + 1 : Nat) : Int) by omega, show 0 + lsz e.toNat + 1 = lsz e.toNat + 1 by omega]
  simp only [List.length_nil, Nat.zero_add, List.nil_append] at hc
  refine Eq.trans hc ?_
  unfold cfgBytes
  rw [List.length_append, lput_len, List.length_cons]
  congr 2
  omega
theorem pdecode_ev (l : List Int) (hb : IsBytes l) (hl : l.length ≤ 1048576) : ∃ r, Ev (fun k => config_Decode.f k l) r ∧ Ans l r := by
  obtain ⟨K, hK⟩ := dec_all l hb (by omega)
  have hgo : ∀ k, K + l.length + 1 ≤ k → config_Decode.f k l = (some (cdM (toldM (l.length + 1) l 0) ⟨0, 0, [], 0⟩)).bind fun t => match t with | none => some (0, [], 163) | some s => config_Decode.end_ k l s := by
    intro k hk
    obtain ⟨hD, hS⟩ := hK k (by omega)
    unfold config_Decode.f
    rw [if_pos hl, told_eq l hb k hD k 0 (by omega), Option.bind_some, toldM_fuel l hb k (l.length + 1) 0 (by omega) (by omega)]
    rw [if_pos (fun x hx => by obtain ⟨i, hi, rfl⟩ := toldM_mem l _ _ x hx; rw [hS i hi]; exact ⟨rfl, DEC_v (hb.drop i)⟩)]
    rw [cdAll_eq k _ _ (fun x hx => by obtain ⟨i, hi, rfl⟩ := toldM_mem l _ _ x hx; exact hS i hi)]
    rfl
  have hcfg : ∀ e ch, chk e ch = 0 → cfgBytes e ch = l → cdM (toldM (l.length + 1) l 0) ⟨0, 0, [], 0⟩ = some ⟨(ch.length : Int) + 2, e, ch, (l.length : Int)⟩ := by
    intro e ch h1 h2
    obtain ⟨a1, a2, a3, a4, _⟩ := chk_zero.1 h1
    have hr := ch_range h1
    rw [told_places l (e.toNat :: ch.length :: ch.map Int.toNat) _ _ ?_ (by rw [List.drop_zero, ← cfgBytes_enc h1, h2]) (by omega), cdM_cfg h1, h2]
    intro v hv
    rcases List.mem_cons.1 hv with rfl | hv
    · omega
    · rcases List.mem_cons.1 hv with rfl | hv
      · omega
      · obtain ⟨x, hx, rfl⟩ := List.mem_map.1 hv
        have := hr x hx
        omega
  cases hm : cdM (toldM (l.length + 1) l 0) ⟨0, 0, [], 0⟩ with
  | none =>
    refine ⟨(0, [], 163), ⟨_, fun k hk => by show config_Decode.f k l = _; rw [hgo k hk, hm]; rfl⟩, .inl ⟨rfl, fun e ch h1 h2 => ?_⟩⟩
    rw [hcfg e ch h1 h2] at hm
    cases hm
  | some s =>
    obtain ⟨i, e, ch, en⟩ := s
    have huniq : ∀ e' ch', chk e' ch' = 0 → cfgBytes e' ch' = l → e = e' ∧ ch = ch' ∧ en = (l.length : Int) := by
      intro e' ch' h1 h2
      rw [hcfg e' ch' h1 h2] at hm
      injection hm with hm
      injection hm with _ b c d
      exact ⟨b.symm, c.symm, d.symm⟩
    have hend : Ev (fun k => config_Decode.end_ k l ⟨i, e, ch, en⟩) (if en = (l.length : Int) then END l e ch else (0, [], 163)) := by
      unfold config_Decode.end_
      by_cases c : en = (l.length : Int)
      · simp only [c, if_true]
        rw [check_f]
        simp only [Option.bind_some]
        by_cases d : chk e ch = 0
        · simp only [d, if_true]
          have he := encode_ev e ch
          rw [if_pos d] at he
          refine Ev.bind (f := fun k b => (bytes_Equal.f b.1 l).bind fun q => if q = true then some (e, ch, (0 : Int)) else some ((0 : Int), ([] : List Int), (163 : Int))) he ?_
          refine Ev.congr (f := fun _ => some (END l e ch)) (fun k => ?_) (Ev.now _)
          unfold bytes_Equal.f END
          simp only [Option.bind_some, beq_iff_eq]
          by_cases q : cfgBytes e ch = l
          · rw [if_pos ((str_eq (cfgBytes_bytes d) hb).2 q), if_pos ⟨d, q⟩]
          · rw [if_neg (fun h => q ((str_eq (cfgBytes_bytes d) hb).1 h)), if_neg (fun h => q h.2)]
        · simp only [if_neg d]
          unfold END
          rw [if_neg (fun h => d h.1)]
          exact Ev.now _
      · simp only [if_neg c]
        exact Ev.now _
    refine ⟨if en = (l.length : Int) then END l e ch else (0, [], 163), ?_, ?_⟩
    · obtain ⟨K', hK'⟩ := hend
      refine ⟨K + l.length + 1 + K', fun k hk => ?_⟩
      show config_Decode.f k l = _
      rw [hgo k (by omega), hm]
      exact hK' k (by omega)
    · by_cases c : en = (l.length : Int)
      · rw [if_pos c]
        exact END_ans fun e' ch' h1 h2 => ⟨(huniq e' ch' h1 h2).1, (huniq e' ch' h1 h2).2.1⟩
      · rw [if_neg c]
        exact .inl ⟨rfl, fun e' ch' h1 h2 => c (huniq e' ch' h1 h2).2.2⟩

/-! ### the document's Read and Decode -/
theorem i64_wrap (n : Int) : IntKind.i64.wrap n = wrap64 n := by
  unfold wrap64
  simp [IntKind.wrap, IntKind.bits, IntKind.signed]
  try omega
end Go.Proofs.Ytkkmceejfmjidaa.CfgReads
