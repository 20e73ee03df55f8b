/- LebPrefix: no number's bytes begin another one's, and lists of numbers with the same bytes are the same; for every argument that is of bulk at most 1048576 (the given second form). -/
import Derived.Test.YtcpdnoaebbbgcaaStmtLebPrefix
import Derived.Test.YtcpdnoaebbbgcaaLeb
namespace Go.Proofs.Ytcpdnoaebbbgcaa.Pure
open Go.RowKit Go.Proofs.Ytcpdnoaebbbgcaa.G Go.Proofs.Ytcpdnoaebbbgcaa.Leb Go.Proofs.Ytcpdnoaebbbgcaa.LebMath Go.Proofs.YtcpdnoaebbbgcaaW.PrintWords Go.Proofs.YtcpdnoaebbbgcaaW.PrintLast
set_option linter.unusedVariables false
set_option linter.unusedSimpArgs false

theorem lenc_bytes (l : List Nat) : IsBytes (lenc l) := by
  intro x hx
  obtain ⟨v, _, hv⟩ := List.mem_flatMap.1 hx
  exact lput_bytes v x hv
theorem toNat_inj : ∀ {a b : List Int}, (∀ x ∈ a, 0 ≤ x ∧ x ≤ 18446744073709551615) → (∀ x ∈ b, 0 ≤ x ∧ x ≤ 18446744073709551615) → a.map Int.toNat = b.map Int.toNat → a = b
  | [], [], _, _, _ => rfl
  | x :: a, y :: b, ha, hb, h => by
    simp only [List.map_cons, List.cons.injEq] at h
    have h1 := ha x List.mem_cons_self
    have h2 := hb y List.mem_cons_self
    rw [toNat_inj (fun z hz => ha z (List.mem_cons_of_mem _ hz)) (fun z hz => hb z (List.mem_cons_of_mem _ hz)) h.2]
    have : x = y := by omega
    rw [this]
  | [], _ :: _, _, _, h => by simp at h
  | _ :: _, [], _, _, h => by simp at h
/-- Are the lists the same, place by place? -/
theorem loop (l m : List Int) (hl : ∀ x ∈ l, 0 ≤ x ∧ x ≤ 18446744073709551615) (hm : ∀ x ∈ m, 0 ≤ x ∧ x ≤ 18446744073709551615) (nl : l.length ≤ 1048576) (nm : m.length ≤ 1048576) :
    ∀ (d i : Nat) (b : Bool), l.length - i = d → i ≤ l.length → (b = true ↔ l.length = m.length ∧ l.take i = m.take i) → Ev (fun k => hawserlaw01_LebPrefix.l0 k l m b (i : Int)) true := by
  have el := enc_ev l hl (by omega)
  have em := enc_ev m hm (by omega)
  have fin : ∀ (b : Bool), (b = true ↔ l = m) → Ev (fun k => (leb_Encode.f k l).bind fun t => (leb_Encode.f k m).bind fun u => (hawserref01_Same.f t u).bind fun s => some (b == s)) true := by
    intro b hb
    refine Ev.bind el (Ev.bind (f := fun k u => (hawserref01_Same.f (lenc (l.map Int.toNat)) u).bind fun s => some (b == s)) em ?_)
    rw [same_eq (lenc_bytes _) (lenc_bytes _)]
    simp only [Option.bind_some]
    have : (b == decide (lenc (l.map Int.toNat) = lenc (m.map Int.toNat))) = true := by
      rw [beq_iff_eq, Bool.eq_iff_iff, hb, decide_eq_true_eq]
      exact ⟨fun h => by rw [h], fun h => toNat_inj hl hm (lenc_inj _ _ h)⟩
    rw [this]
    exact Ev.now true
  intro d
  induction d with
  | zero =>
    intro i b hd hi hb
    have hbe : b = true ↔ l = m := by
      rw [hb]
      constructor
      · rintro ⟨h1, h2⟩
        rwa [List.take_of_length_le (by omega), List.take_of_length_le (by omega)] at h2
      · rintro rfl; exact ⟨rfl, rfl⟩
    refine Ev.step (fun k => ?_) (fin b hbe)
    simp only [hawserlaw01_LebPrefix.l0]
    by_cases ht : b = true
    · rw [if_pos ht, if_neg (by omega)]
    · rw [if_neg ht]
  | succ d ih =>
    intro i b hd hi hb
    by_cases ht : b = true
    · obtain ⟨h1, h2⟩ := hb.1 ht
      have hlt : i < l.length := by omega
      have hlm : i < m.length := by omega
      have e1 : rd l (i : Int) = l[i] := by rw [rd_nat, List.getD_eq_getElem?_getD, List.getElem?_eq_getElem hlt]; rfl
      have e2 : rd m (i : Int) = m[i] := by rw [rd_nat, List.getD_eq_getElem?_getD, List.getElem?_eq_getElem hlm]; rfl
      refine Ev.step (fun k => ?_) (ih (i + 1) (l[i] == m[i]) (by omega) (by omega) ?_)
      · simp only [hawserlaw01_LebPrefix.l0]
        rw [if_pos ht, if_pos (by omega), if_pos (by omega), if_pos (by omega), e1, e2, w64 (by omega) (by omega)]
        congr 1
      · rw [beq_iff_eq, List.take_succ_eq_append_getElem hlt, List.take_succ_eq_append_getElem hlm, h2]
        constructor
        · intro e; exact ⟨h1, by rw [e]⟩
        · rintro ⟨_, e⟩
          have e' := List.append_cancel_left e
          injection e'
    · refine Ev.step (fun k => ?_) (fin b (by
        constructor
        · intro h; exact absurd h ht
        · rintro rfl; exact hb.2 ⟨rfl, rfl⟩))
      simp only [hawserlaw01_LebPrefix.l0]
      rw [if_neg ht]

theorem LebPrefix : hawserlaw01_LebPrefix.Pure := by
  rintro ⟨v, w, l, m⟩ ⟨hv, hw, hl, hm⟩ hn
  simp only [sum_ones] at hn
  have hv : 0 ≤ v ∧ v ≤ 18446744073709551615 := u64_wf hv
  have hw : 0 ≤ w ∧ w ≤ 18446744073709551615 := u64_wf hw
  have hl : ∀ x ∈ l, 0 ≤ x ∧ x ≤ 18446744073709551615 := fun x hx => u64_wf (hl x hx)
  have hm : ∀ x ∈ m, 0 ≤ x ∧ x ≤ 18446744073709551615 := fun x hx => u64_wf (hm x hx)
  have ev := enc_ev [v] (by intro x hx; simp at hx; omega) (by simp)
  have ew := enc_ev [w] (by intro x hx; simp at hx; omega) (by simp)
  have e1 : lenc ([v].map Int.toNat) = lput v.toNat := by simp [lenc]
  have e2 : lenc ([w].map Int.toNat) = lput w.toNat := by simp [lenc]
  rw [e1] at ev
  rw [e2] at ew
  have p1 := lsz_pos v.toNat
  have p2 := lsz_pos w.toNat
  have n1 := lput_len v.toNat
  have n2 := lput_len w.toNat
  have tail : Ev (fun k => hawserlaw01_LebPrefix.j1 k l m false) true := by
    refine Ev.step (fun k => ?_) (loop l m hl hm (by omega) (by omega) l.length 0 ((l.length : Int) == (m.length : Int)) (by omega) (by omega) ?_)
    · simp only [hawserlaw01_LebPrefix.j1]
      rw [if_neg (by decide)]
      rfl
    · rw [beq_iff_eq]; simp; omega
  have mid : Ev (fun k => hawserlaw01_LebPrefix.j0 k v w l m (lput v.toNat) (lput w.toNat) false) true := by
    refine Ev.step (f := fun k => hawserlaw01_LebPrefix.j1 k l m false) (fun k => ?_) tail
    simp only [hawserlaw01_LebPrefix.j0]
    rw [if_neg (by decide)]
    by_cases h : v = w
    · rw [if_pos h]
    · rw [if_neg h]
      by_cases hle : ((lput v.toNat).length : Int) ≤ ((lput w.toNat).length : Int)
      · rw [if_pos hle, if_pos (by omega), same_eq (lput_bytes _) ((lput_bytes _).take _)]
        simp only [Option.bind_some]
        have : decide (lput v.toNat = (lput w.toNat).take (((lput v.toNat).length : Int)).toNat) = false := by
          rw [decide_eq_false_iff_not]
          intro e
          have e' : lput v.toNat ++ (lput w.toNat).drop ((lput v.toNat).length : Int).toNat = lput w.toNat ++ [] := by
            rw [List.append_nil]
            conv => lhs; lhs; rw [e]
            exact List.take_append_drop _ _
          have := (lput_cancel _ _ _ _ e').1
          exact h (by omega)
        rw [this]
      · rw [if_neg hle]
  have : Ev (fun k => hawserlaw01_LebPrefix.f k v w l m) true := by
    refine Ev.bind ev (Ev.bind (f := fun k t => if ((lput v.toNat).length : Int) = 0 then hawserlaw01_LebPrefix.j0 k v w l m (lput v.toNat) t true else hawserlaw01_LebPrefix.j0 k v w l m (lput v.toNat) t ((t.length : Int) == 0)) ew ?_)
    refine Ev.congr (fun k => if_neg (by omega)) ?_
    have : (((lput w.toNat).length : Int) == 0) = false := by rw [beq_eq_false_iff_ne]; omega
    rw [this]
    exact mid
  exact Ev.rounds this
end Go.Proofs.Ytcpdnoaebbbgcaa.Pure
