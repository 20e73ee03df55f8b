-- Written for this claim by a program of this session (wip/xprint.py), by means of the kit's print. Not trusted: Lean checks it.
import Derived.Test.YtkkmceejfmjidaaGx0
namespace Go.Proofs.Ytkkmceejfmjidaa.G
open Go.RowKit Go.Proofs.YtkkmceejfmjidaaW.PrintWords Go.Proofs.YtkkmceejfmjidaaW.PrintLast Go.Proofs.YtkkmceejfmjidaaW.PrintMore
attribute [local go_sem] max2_int min2_int max_two min_two max_three min_three max_four min_four   -- for this text's walks alone
set_option linter.unusedVariables false
set_option linter.unusedSimpArgs false

/-! ### hawserref01_Own: function 13 -/
def hawserref01_Own.f (l0 : List (List Int)) : Option (Bool) := if ∀ x ∈ l0, x.length ≤ 1099511627776 then some true else none
section
variable {P : Program} {ops : Array Oper} {md : Region.Mode} {w : World}
/-- What is not listed yet is waited for by an operation behind it, up to n. -/
def Sinks (md : Region.Mode) (ops : Array Oper) (n : Nat) (L : Array Bool) : Prop := ∀ i, i < n → L.getD i true = false → ∃ j, i < j ∧ j ≤ n ∧ Region.waitsFor md ops j i = true
def sinksB (md : Region.Mode) (ops : Array Oper) (n : Nat) (L : Array Bool) : Bool := (List.range n).all fun i => L.getD i true || (List.range (n + 1)).any fun j => decide (i < j) && Region.waitsFor md ops j i
def headB (md : Region.Mode) (ops : Array Oper) (n : Nat) (L : Array Bool) : Bool :=
  decide (L.size = ops.size) && ((List.range ops.size).all fun t => decide (t < n) || !(L.getD t true)) && ((List.range ops.size).all fun j => match ops[j]? with
    | some oj => !(L.getD j false) || oj.after.all fun e => !(Region.binds md e) || L.getD e.on false
    | none => true)
theorem sinks_of {n : Nat} {L : Array Bool} (h : sinksB md ops n L = true) : Sinks md ops n L := by
  intro i hi hu
  have h1 := List.all_eq_true.1 h i (List.mem_range.2 hi)
  rw [hu, Bool.false_or] at h1
  obtain ⟨j, hj, hj2⟩ := List.any_eq_true.1 h1
  simp only [Bool.and_eq_true, decide_eq_true_eq] at hj2
  exact ⟨j, hj2.1, by have := List.mem_range.1 hj; omega, hj2.2⟩
theorem head_of {n : Nat} {L : Array Bool} (h : headB md ops n L = true) : HeadInv md ops n L := by
  simp only [headB, Bool.and_eq_true, decide_eq_true_eq] at h
  obtain ⟨⟨h1, h2⟩, h3⟩ := h
  refine ⟨h1, fun j oj hj hl e he hb => ?_, fun t ht ht' => ?_⟩
  · have hjs : j < ops.size := (Array.getElem?_eq_some_iff.1 hj).1
    have h4 := List.all_eq_true.1 h3 j (List.mem_range.2 hjs)
    rw [hj] at h4
    simp only [hl, Bool.not_true, Bool.false_or] at h4
    have h5 := Array.all_eq_true'.1 h4 e he
    simpa [hb] using h5
  · have h4 := List.all_eq_true.1 h2 t (List.mem_range.2 ht')
    have : ¬ t < n := by omega
    simpa [this] using h4
theorem Sinks.set {n i : Nat} {L : Array Bool} (h : Sinks md ops n L) : Sinks md ops n (L.setIfInBounds i true) := by
  intro k hk hu
  by_cases e : i = k
  · subst e
    exfalso
    rcases Nat.lt_or_ge i L.size with h' | h'
    · simp [h'] at hu
    · rw [Array.getD_eq_getD_getElem?, Array.getElem?_eq_none (by simpa using h')] at hu
      simp at hu
  · exact h k hk (by rwa [getD_set_ne true e] at hu)
theorem tail_off {n : Nat} {L : Array Bool} (hs : Sinks md ops n L) (hc : Region.chainB md ops n = true) (hn : n < ops.size) (inv : HeadInv md ops n L) :
    ∀ (d i : Nat), n - i = d → i < n → L.getD i true = false → ∀ t, n ≤ t → t ∉ Region.ready md ops L := by
  intro d
  induction d using Nat.strongRecOn with
  | _ d ih =>
    intro i hd hi hun t ht hr
    obtain ⟨_, ot, hot, hall⟩ := mem_ready.1 hr
    have htl : t < ops.size := (Array.getElem?_eq_some_iff.1 hot).1
    rcases Nat.eq_or_lt_of_le ht with htn | htn
    · subst htn
      obtain ⟨j, hij, hjn, hw⟩ := hs i hi hun
      obtain ⟨oj, hoj, e, he, hb, hon⟩ := Region.waitsFor_spec hw
      rcases Nat.eq_or_lt_of_le hjn with hjt | hjt
      · subst hjt
        obtain rfl : oj = ot := Option.some.inj (hoj.symm.trans hot)
        have h2 := hall e he hb
        rw [hon, getD_both hun] at h2
        cases h2
      · cases hl : L.getD j false with
        | true =>
          have h2 := inv.closed j oj hoj hl e he hb
          rw [hon, getD_both hun] at h2
          cases h2
        | false => exact ih (n - j) (by omega) j rfl (by omega) (getD_in (by rw [inv.size]; omega) hl) n (Nat.le_refl _) hr
    · have h1 := List.all_eq_true.1 hc t (List.mem_range.2 htl)
      simp only [Bool.or_eq_true, decide_eq_true_eq] at h1
      obtain ⟨o', ho', e, he, hb, hon⟩ := Region.waitsFor_spec (h1.resolve_left (by omega))
      obtain rfl : o' = ot := Option.some.inj (ho'.symm.trans hot)
      have h2 := hall e he hb
      rw [hon, getD_both (inv.tail (t - 1) (by omega) (by omega))] at h2
      cases h2
theorem first_off {n i : Nat} {oi : Oper} {v : Value} {L : Array Bool → Act → Prop} (hi : ops[i]? = some oi) (hsel : ∀ (j : Nat) (o : Oper) cs b, ops[j]? = some o → o.op ≠ .select cs b)
    (hc : Region.chainB md ops n = true) (hn : n < ops.size) (hin : i < n) (hdone : ∀ listed a, L listed a → ∀ j ∈ Region.ready md ops listed, n ≤ j) :
    ∀ (f : Nat) (listed : Array Bool) (a : Act), Sinks md ops n listed → HeadInv md ops n listed →
      (∀ j oj, ops[j]? = some oj → j ≠ i → listed.getD j true = false → (∀ e ∈ oj.after, Region.binds md e = true → e.on ≠ i) → oi.apart ops oj = true) →
      i ∈ Region.ready md ops listed → YieldsAt P ops w oi v a →
      wpAnyL P md ops w n L f (listed.setIfInBounds i true) (a.put oi.dst v) → wpAnyL P md ops w n L (f + 1) listed a := by
  intro f
  induction f with
  | zero =>
    intro listed a hs inv _ hr hy H
    have hun := (mem_ready.1 hr).1
    refine ⟨fun h => (by rw [h] at hr; cases hr), fun j hj => ?_⟩
    have hjn : j < n := Nat.lt_of_not_le fun h => tail_off hs hc hn inv _ i rfl hin hun j h hj
    refine ⟨hjn, ?_⟩
    by_cases hji : j = i
    · subst hji; exact hy.stOp hi H
    · have := hdone _ _ H j (ready_mono hj hji)
      omega
  | succ f ih =>
    intro listed a hs inv hfree hr hy H
    have hun := (mem_ready.1 hr).1
    refine ⟨fun h => (by rw [h] at hr; cases hr), fun j hj => ?_⟩
    have hjn : j < n := Nat.lt_of_not_le fun h => tail_off hs hc hn inv _ i rfl hin hun j h hj
    refine ⟨hjn, ?_⟩
    by_cases hji : j = i
    · subst hji; exact hy.stOp hi H
    · have h1 := (H.2 j (ready_mono hj hji)).2
      obtain ⟨hjun, oj, hoj, hall⟩ := mem_ready.1 hj
      have hnot : ∀ e ∈ oj.after, Region.binds md e = true → e.on ≠ i := fun e he hb heq => by
        have h1 := hall e he hb
        rw [heq, getD_both hun] at h1
        cases h1
      have h2 := stOp_put hoj (hfree j oj hoj hji hjun hnot) (fun cs b => hsel i oi cs b hi) (fun cs b => hsel j oj cs b hoj) hy h1
      refine stOp_mono (fun a' h3 => ih (listed.setIfInBounds j true) a' hs.set (inv.set hj hjn) (fun k ok hk hki hun' hno => hfree k ok hk hki ?_ hno) (ready_mono hr (Ne.symm hji)) h3.1 ?_) h2
      · by_cases hjk : j = k
        · subst hjk; exact hjun
        · rwa [getD_set_ne true hjk] at hun'
      · rw [Array.setIfInBounds_comm _ _ hji]
        exact h3.2
theorem lex_off {n g : Nat} {Lq : Act → Prop} (hsel : Region.noSelect ops = true) (hc : Region.chainB md ops n = true) (hn : n < ops.size) :
    ∀ (l : List Oper) (k : Nat) (listed : Array Bool) (a : Act), (∀ j, j < l.length → l[j]? = ops[k + j]?) → k + l.length = n → Sinks md ops n listed → HeadInv md ops n listed →
    Region.lexHead md ops g l.length k listed = true → wpStill P ops w Lq l a →
    wpAnyL P md ops w n (fun listed' a' => Region.seqB md ops g n listed' = true ∧ Lq a') l.length listed a
  | [], k, listed, a, _, hk, _, _, hB, h => by
    obtain rfl : k = n := by simpa using hk
    exact ⟨by simpa [Region.lexHead] using hB, h⟩
  | o :: l, k, listed, a, hl, hk, hs, inv, hB, h => by
    have h0 : ops[k]? = some o := by simpa using (hl 0 (by simp)).symm
    simp only [List.length_cons, Region.lexHead, Bool.and_eq_true] at hB
    obtain ⟨⟨hr, hf⟩, hB'⟩ := hB
    have hkn : k < n := by simp only [List.length_cons] at hk; omega
    have hr' : k ∈ Region.ready md ops listed := by simpa using hr
    have hst : stOp P ops w k (wpStill P ops w Lq l) a := by unfold stOp; simp only [h0]; exact h
    obtain ⟨v, hy, hK⟩ := yieldsAt_of_stOp h0 hst
    exact first_off h0 (Region.noSelect_spec hsel) hc hn hkn (fun listed' a' hL => seqB_ready hL.1) l.length listed a hs inv (Region.free_spec h0 hf) hr' hy
      (lex_off hsel hc hn l (k + 1) _ _ (fun j hj => by have := hl (j + 1) (by simp; omega); simpa [Nat.add_assoc, Nat.add_comm 1 j] using this) (by simp only [List.length_cons] at hk; omega) hs.set (inv.set hr' hkn) hB' hK)
/-- THE REST OF A REGION THAT DRAWS, behind m operations that were taken first: what is still runs in the text's order, then the tail. -/
theorem any_still_tail {l : List Oper} {Q : Exit → Act → World → Prop} {L : Array Bool} {a : Act} (m n : Nat) (hB : (decide (m ≤ n) && decide (n < l.length) && Region.noSelect l.toArray && Region.chainB md l.toArray n && sinksB md l.toArray n L && headB md l.toArray n L && Region.lexHead md l.toArray (l.length - n) (n - m) m L) = true)
    (h : wpStill P l.toArray w (fun a' => wpList P l.toArray Q (l.drop n) a' w) ((l.take n).drop m) a) : wpAny P md l.toArray Q (l.length - m) L a w := by
  simp only [Bool.and_eq_true, decide_eq_true_eq] at hB
  obtain ⟨⟨⟨⟨⟨⟨hmn, hn⟩, hsel⟩, hc⟩, hs⟩, hh⟩, hlex⟩ := hB
  have htl : ((l.take n).drop m).length = n - m := by simp; omega
  have hdl : (l.drop n).length = l.length - n := by simp
  have H := lex_off (P := P) (w := w) (md := md) (g := l.length - n) hsel hc (by simpa using hn) ((l.take n).drop m) m L a (fun j hj => by
    rw [htl] at hj
    rw [List.getElem?_drop, List.getElem?_take, if_pos (by omega)]
    simp) (by rw [htl]; omega) (sinks_of hs) (head_of hh) (by rw [htl]; exact hlex) h
  have := wpAny_of_head (Q' := Q) (g := l.length - n) (fun listed a' hL => by
    have := wpAny_of_seq (md := md) (Q' := Q) (l.drop n) n listed a' w (fun j => by simp [List.getElem?_drop]) (by rw [hdl]; exact hL.1) hL.2
    rwa [hdl] at this) _ _ _ H
  rw [htl, show n - m + (l.length - n) = l.length - m by omega] at this
  exact this
end
section
open Go.Proofs.Ytkkmceejfmjidaa.Blocks
def mrk (i k : Nat) : Int := ((i : Int) * 37 + (k : Int) * 11 + 5) % 256
def mks (i n : Nat) : List Int := (List.range n).map (mrk i)
def mkTo (i k : Nat) (x : List Int) : List Int := mks i k ++ x.drop k
theorem mkTo_zero (i : Nat) (x : List Int) : mkTo i 0 x = x := by simp [mkTo, mks]
theorem mkTo_full (i : Nat) (x : List Int) : mkTo i x.length x = mks i x.length := by simp [mkTo]
theorem mkTo_len (i k : Nat) (x : List Int) (h : k ≤ x.length) : (mkTo i k x).length = x.length := by simp [mkTo, mks]; omega
theorem mkTo_set (i k : Nat) (x : List Int) (h : k < x.length) : (mkTo i k x).set k (mrk i k) = mkTo i (k + 1) x := by
  unfold mkTo
  have hl : (mks i k).length = k := by simp [mks]
  rw [List.set_append_right _ _ (by omega), hl, Nat.sub_self, List.drop_eq_getElem_cons h, List.set_cons_zero]
  simp [mks, List.range_succ]
theorem mark_same (i k : Nat) (hi : i ≤ 1099511627776) (hk : k ≤ 1099511627776) (w : World) : Calls Try.prog 30 #[.int .i64 (i : Int), .int .i64 (k : Int)] w fun e w' => e = .returned (.int .u8 (mrk i k)) ∧ w' = w := by
  go_enter Try.func30, Try.ntmps30
  go_wp2
  go_ret
  exact ⟨rfl, rfl⟩
theorem R_narrow {w : World} {base e : Nat} {k : IntKind} {ok : Nat → Prop} {v : Value} {xs : List Int} (h : Kd.R (Kd.int k) e w base ok v xs) : Kd.R (Kd.int k) e w base (fun b => v.ownBlock = some b) v xs :=
  ⟨fun _ h => h, h.2.imp_ (fun _ _ hp => hp)⟩
theorem R_wide {w : World} {base e : Nat} {ok : Nat → Prop} {k : IntKind} {v : Value} {xs : List Int} (h : Kd.R (Kd.int k) e w base ok v xs) : Kd.R (Kd.int k) e w base (fun _ => True) v xs := Kd.R_mono h (fun _ _ => trivial)
structure RA (base lb n : Nat) (v : Nat → Value) (x : Nat → List Int) (W : World) : Prop where
  list : W.heap[lb]? = some (.cells ((List.range n).map v).toArray 30 (0, 0))
  row : ∀ j, j < n → Kd.R (Kd.int .u8) 5 W base (fun _ => True) (v j) (x j)
def Dist (n : Nat) (v : Nat → Value) : Prop := ∀ i j, i < n → j < n → i ≠ j → ∀ k, (v i).ownBlock = some k → (v j).ownBlock ≠ some k
variable {base lb n : Nat} {v : Nat → Value} {x : Nat → List Int} {W : World}
theorem RA.cell (h : RA base lb n v x W) {i : Nat} (hi : i < n) : W.cell? ⟨lb, i, none⟩ = some (v i) := by
  rw [blk_cell h.list]
  simp [hi]
theorem RA.form (h : RA base lb n v x W) {i : Nat} (hi : i < n) (hp : 0 < (x i).length) : ∃ g c, v i = .slice (some ⟨g, 0, none⟩) (x i).length c ∧ base ≤ g ∧ g ≠ lb ∧ ∃ cells, W.heap[g]? = some (.cells cells 5 (0, 0)) := by
  obtain ⟨g, c, hv, hg, hlt, cells, hc⟩ := Kd.R_form (h.row i hi) hp
  refine ⟨g, c, hv, hg, ?_, cells, hc⟩
  rintro rfl
  rw [h.list] at hc
  injection hc with hc
  injection hc with _ hc
  cases hc
theorem RA.put (h : RA base lb n v x W) (hD : Dist n v) {i k g c : Nat} (hi : i < n) (hv : v i = .slice (some ⟨g, 0, none⟩) (x i).length c) (hg : g ≠ lb) (m : Int) :
    RA base lb n v (fun j => if j = i then (x i).set k m else x j) (W.setCell ⟨g, k, none⟩ (.int .u8 m)) := by
  refine ⟨(Below.heap_setCell W ⟨g, k, none⟩ _ lb (fun e => hg e.symm)).trans h.list, fun j hj => ?_⟩
  by_cases e : j = i
  · subst e
    simp only [if_true]
    have hr := h.row j hj
    rw [hv] at hr ⊢
    have := (Kd.R_put (enc := Value.int .u8) (h1 := fun _ => rfl) hr (k : Int) m).1
    rw [Int.toNat_natCast] at this
    exact this
  · simp only [if_neg e]
    exact R_wide (Kd.R_far (p := ⟨g, k, none⟩) (R_narrow (h.row j hj)) (fun b hb e' => hD i j hi hj (fun q => e q.symm) g (by rw [hv]; rfl) (by rw [hb, e'])) _)
theorem RA.drewN (h : RA base lb n v x W) (m : Nat) : RA base lb n v x (W.drewN m) := ⟨blk_drewN h.list m, fun j hj => Kd.R_drewN (h.row j hj) m⟩
theorem RA.congr (h : RA base lb n v x W) {y : Nat → List Int} (e : ∀ j, j < n → x j = y j) : RA base lb n v y W := ⟨h.list, fun j hj => by rw [← e j hj]; exact h.row j hj⟩

theorem RA.slot (h : RA base lb n v x W) {i k : Nat} (hi : i < n) (hk : k < (x i).length) : ∃ g c, v i = .slice (some ⟨g, 0, none⟩) (x i).length c ∧ g ≠ lb ∧ base ≤ g ∧ (∃ u, W.cell? ⟨g, k, none⟩ = some (.int .u8 u)) ∧ W.frozen? ⟨g, k, none⟩ = false := by
  obtain ⟨g, c, hv, hg, hlb, cells, hc⟩ := h.form hi (by omega)
  have hr := h.row i hi
  rw [hv] at hr
  have := Kd.R_cell (enc := Value.int .u8) (h1 := fun _ => rfl) (0 : Int) hr (k : Int) (by omega) (by omega)
  rw [Int.toNat_natCast] at this
  exact ⟨g, c, hv, hlb, hg, ⟨_, this.1⟩, this.2⟩
/-! ### one append upon a row, told exactly -/
/-- A row of bytes told by its cells: its spare may be written. -/
structure Wr (W : World) (v : Value) (xs : List Int) : Prop where mk ::
  out : ∃ ao b c, v = .slice ao xs.length c ∧ Came W 1 ao b 0 xs.length c (nums .u8 xs) ∧ c ≤ maxLen
theorem came_nums (xs : List Int) : (nums .u8 xs).length = xs.length * 1 := by rw [nums_length, Nat.mul_one]
theorem inner_nums {W : World} {base : Nat} {ok : Nat → Prop} {v : Value} {xs : List Int} (h : Kd.R (Kd.int .u8) 5 W base ok v xs) : W.ownsRow base 5 1 v xs.length (nums .u8 xs) := Kd.own_of_R h
theorem wr_of_own {W : World} {base : Nat} {v : Value} {xs : List Int} (h : W.ownsRow base 5 1 v xs.length (nums .u8 xs)) : Wr W v xs := by
  obtain ⟨_, ⟨rfl, h1⟩ | ⟨g, cap, cur, rfl, hg, hh, h2, h3, h4, h5⟩⟩ := h
  · obtain rfl : xs = [] := List.eq_nil_of_length_eq_zero h1
    exact ⟨none, 0, 0, rfl, ⟨Nat.le_refl _, fun h => by omega, fun h => by omega, rfl, fun j u h => by simp [nums] at h, fun j h => by simp at h⟩, by simp [maxLen]⟩
  · refine ⟨some ⟨g, 0, none⟩, g, cap, rfl, ⟨h2, fun _ => rfl, fun _ => (Array.getElem?_eq_some_iff.1 hh).1, came_nums xs, fun j u hu => ?_, fun j hj => ⟨?_, blk_frozen hh _⟩⟩, h3⟩
    · rw [Nat.zero_add, blk_cell hh, ← Array.getElem?_toList]
      have hj : j < xs.length := by
        have := (List.getElem?_eq_some_iff.1 hu).1
        rwa [nums_length] at this
      have h6 := congrArg (fun q => q[j]?) h5
      simp only [List.getElem?_take] at h6
      rw [if_pos (by omega), hu] at h6
      exact h6
    · rw [blk_cell hh]
      have : 0 + xs.length * 1 + j < cur.size := by omega
      rw [Array.getElem?_eq_getElem this]
      rfl
set_option maxRecDepth 100000 in
/-- An append upon a row of one's own, and the bytes that were there still lie where they lay. -/
theorem own_append {W : World} {base : Nat} {v : Value} {xs : List Int} (ho : W.ownsRow base 5 1 v xs.length (nums .u8 xs)) (ys : List Int) (t ty : TypeId) (ht : Try.prog.underlying t = some (.slice 5)) (ad : Addr) (c2 : Nat)
    (had : ∀ j u, (nums .u8 ys)[j]? = some u → W.cell? (ad.add j) = some u) (hl : xs.length + ys.length ≤ 140737488355328) (hb : base ≤ W.heap.size) :
    ∃ v' w', (Builtin.append_ #[t, t] ty #[v, .slice (some ad) ys.length c2]).run Try.prog W = .ok v' w' ∧ w'.ownsRow base 5 1 v' (xs ++ ys).length (nums .u8 (xs ++ ys)) ∧ W.grownBy w' v.ownBlock ∧ (v'.ownBlock = v.ownBlock ∨ v'.ownBlock = some W.heap.size) ∧
      ∀ g k, v.ownBlock = some g → k < xs.length → w'.cell? ⟨g, k, none⟩ = W.cell? ⟨g, k, none⟩ := by
  have hinfo : (Try.prog.info? 5).map (fun i => (i.zero, i.size, i.bytes)) = some (some (.int .u8 0), 1, 1) := by kernel_rfl
  obtain ⟨i0, hi, hzz⟩ := Option.map_eq_some_iff.1 hinfo
  simp only [Prod.mk.injEq] at hzz
  obtain ⟨hz0, hz1, hz2⟩ := hzz
  obtain ⟨v', w', hrun, hown, hg, _, hat⟩ := run_append_own_at (P := Try.prog) W base t ty 5 i0 (.int .u8 0) 1 1 ht hi hz0 hz1 hz2 rfl (by decide) v xs.length (nums .u8 xs) ho ad ys.length c2 (nums .u8 ys) (came_nums ys) had (nums_one _ _) (by simp only [maxLen]; omega) (by omega) hb
  refine ⟨v', w', hrun, ?_, hg, hat, fun g k hgv hk => ?_⟩
  · rw [List.length_append]
    have : nums .u8 (xs ++ ys) = nums .u8 xs ++ nums .u8 ys := by simp [nums]
    rw [this]
    exact hown
  · obtain ⟨ao, b, c, rfl, hc, hcm⟩ := (wr_of_own ho).out
    obtain ⟨v2, w2, hrun2, hup⟩ := run_append_upon (P := Try.prog) hc t t ty i0 (.int .u8 0) 1 ht hi hz0 hz1 hz2 rfl (Upon.start hc) (.slice (some ad) ys.length c2) ys.length (nums .u8 ys) (Src.ofSlice W ht ad ys.length c2 (nums .u8 ys) (came_nums ys) had (nums_one _ _)) (by simp only [maxLen]; omega) (by omega)
    rw [hrun] at hrun2
    injection hrun2 with e1 e2
    subst e2
    exact hup.old (World.ownsRow.lt ho g hgv).2 (fun j _ e' => by omega)
theorem wp_own_append {ops : Array Oper} {rest : List Oper} {o : Oper} {a : Act} {Q : Exit → Act → World → Prop} {W : World} {base : Nat} (hgd : o.guard = none) (s x : Operand) (t : TypeId) (hop : o.op = .call { callee := .builtin .append, args := #[s, x], argTypes := #[t, t] }) (ht : Try.prog.underlying t = some (.slice 5))
    (v : Value) (xs ys : List Int) (ad : Addr) (n2 c2 : Nat) (hs : a.eval s = v) (hx : a.eval x = .slice (some ad) n2 c2) (hn2 : n2 = ys.length) (ho : W.ownsRow base 5 1 v xs.length (nums .u8 xs)) (had : ∀ j u, (nums .u8 ys)[j]? = some u → W.cell? (ad.add j) = some u)
    (hl : xs.length + ys.length ≤ 140737488355328) (hb : base ≤ W.heap.size)
    (h : ∀ v1 w1, w1.ownsRow base 5 1 v1 (xs ++ ys).length (nums .u8 (xs ++ ys)) → W.grownBy w1 v.ownBlock → (v1.ownBlock = v.ownBlock ∨ v1.ownBlock = some W.heap.size) → (∀ g k, v.ownBlock = some g → k < xs.length → w1.cell? ⟨g, k, none⟩ = W.cell? ⟨g, k, none⟩) → wpList Try.prog ops Q rest (a.put o.dst v1) w1) :
    wpList Try.prog ops Q (o :: rest) a W := by
  subst hn2
  obtain ⟨v1, w1, hrun, h1, h2, h3, h4⟩ := own_append ho ys t o.type ht ad c2 had hl hb
  refine wpList_plain hgd fun K hK' => ?_
  unfold Oper.wp
  simp [execOp, hop, resolve, invoke, builtin, hs, hx, hrun, Result.andThen]
  exact hK' _ _ (h v1 w1 h1 h2 h3 h4)
/-- The third loop's state: rows from i on are still one's own; those ahead of i are read, in the first list and in the grown one. -/
structure RB (base lb gb n : Nat) (v gs : Nat → Value) (x y : Nat → List Int) (i : Nat) (W : World) : Prop where
  ne : lb ≠ gb
  list : W.heap[lb]? = some (.cells ((List.range n).map v).toArray 30 (0, 0))
  grown : W.heap[gb]? = some (.cells ((List.range n).map gs).toArray 30 (0, 0))
  todo : ∀ j, i ≤ j → j < n → W.ownsRow base 5 1 (v j) (x j).length (nums .u8 (x j))
  old : ∀ j, j < i → j < n → Kd.V (Kd.int .u8) 5 W base (fun b => b ≠ lb ∧ b ≠ gb ∧ ∀ j', i ≤ j' → j' < n → (v j').ownBlock ≠ some b) (v j) (x j)
  oldg : ∀ j, j < i → j < n → Kd.V (Kd.int .u8) 5 W base (fun b => b ≠ lb ∧ b ≠ gb ∧ ∀ j', i ≤ j' → j' < n → (v j').ownBlock ≠ some b) (gs j) (y j)
theorem RB.start (h : RA base lb n v x W) (y : Nat → List Int) : RB base lb W.heap.size n v (fun _ => .slice none 0 0) x y 0 (W.alloc (.cells (madeCells #[.slice none 0 0] n) 30)) := by
  have hlb : lb < W.heap.size := (Array.getElem?_eq_some_iff.1 h.list).1
  refine ⟨by omega, (Below.heap_alloc _ _ _ hlb).trans h.list, ?_, fun j _ hj => World.ownsRow.alloc (inner_nums (h.row j hj)) _, fun j hj => by omega, fun j hj => by omega⟩
  rw [heap_alloc_new]
  congr 2
  apply Array.ext'
  apply List.ext_getElem
  · simp [madeCells]
  · intro k h1 h2
    simp [madeCells, Nat.mod_one]
theorem own_gb {W : World} {base gb : Nat} {u : Value} {z : List Int} {cs : Array Value} (hg : W.heap[gb]? = some (.cells cs 30 (0, 0))) (ho : W.ownsRow base 5 1 u z.length (nums .u8 z)) : some gb ≠ u.ownBlock := by
  intro e
  obtain ⟨cells, hc⟩ := own_typed ho gb e.symm
  rw [hg] at hc
  injection hc with hc
  injection hc with _ hc
  cases hc
theorem list_upd (n j : Nat) (gs : Nat → Value) (z : Value) (hj : j < n) : (((List.range n).map gs).toArray).setIfInBounds j z = ((List.range n).map (fun q => if q = j then z else gs q)).toArray := by
  apply Array.ext'
  simp only [List.setIfInBounds_toArray]
  apply List.ext_getElem
  · simp
  · intro k h1 h2
    simp only [List.getElem_set, List.getElem_map, List.getElem_range]
    by_cases e : j = k
    · subst e; simp
    · rw [if_neg e, if_neg (fun h => e h.symm)]
/-- The inner loop's state: m bytes are behind row j. N: the blocks that were there ahead of it. -/
structure RC (base lb gb n N : Nat) (v gs : Nat → Value) (x y : Nat → List Int) (j m : Nat) (z : Value) (W : World) : Prop where
  ne : lb ≠ gb
  size : N ≤ W.heap.size
  lt : lb < N ∧ gb < N
  list : W.heap[lb]? = some (.cells ((List.range n).map v).toArray 30 (0, 0))
  grown : W.heap[gb]? = some (.cells ((List.range n).map (fun q => if q = j then z else gs q)).toArray 30 (0, 0))
  row : W.ownsRow base 5 1 z (x j ++ mks (j + 7) m).length (nums .u8 (x j ++ mks (j + 7) m))
  bytes : ∀ g k, (v j).ownBlock = some g → k < (x j).length → W.cell? ⟨g, k, none⟩ = some (.int .u8 ((x j).getD k 0))
  blk : z.ownBlock = (v j).ownBlock ∨ ∃ b, z.ownBlock = some b ∧ N ≤ b
  todo : ∀ q, j < q → q < n → W.ownsRow base 5 1 (v q) (x q).length (nums .u8 (x q))
  vg : ∀ g, (v j).ownBlock = some g → g ≠ gb
  low : ∀ q g, j ≤ q → q < n → (v q).ownBlock = some g → g < N
  old : ∀ q, q < j → q < n → Kd.V (Kd.int .u8) 5 W base (fun b => (b ≠ lb ∧ b ≠ gb ∧ ∀ j', j ≤ j' → j' < n → (v j').ownBlock ≠ some b) ∧ b < N) (v q) (x q)
  oldg : ∀ q, q < j → q < n → Kd.V (Kd.int .u8) 5 W base (fun b => (b ≠ lb ∧ b ≠ gb ∧ ∀ j', j ≤ j' → j' < n → (v j').ownBlock ≠ some b) ∧ b < N) (gs q) (y q)
theorem RC.start {gb j : Nat} {gs : Nat → Value} {y : Nat → List Int} (h : RB base lb gb n v gs x y j W) (hj : j < n) : RC base lb gb n W.heap.size v gs x y j 0 (v j) (W.setCell ⟨gb, j, none⟩ (v j)) := by
  have hsz : (W.setCell ⟨gb, j, none⟩ (v j)).heap.size = W.heap.size := by simp [World.setCell]
  refine ⟨h.ne, by omega, ⟨blk_lt h.list, blk_lt h.grown⟩, blk_far h.list h.ne _, ?_, ?_, fun g k hg hk => ?_, .inl rfl, fun q h1 h2 => own_setCell (h.todo q (by omega) h2) (own_gb h.grown (h.todo q (by omega) h2)) _, fun g hg e => own_gb h.grown (h.todo j (Nat.le_refl _) hj) (by rw [hg, e]), fun q g h1 h2 hg => (World.ownsRow.lt (h.todo q h1 h2) g hg).2, fun q h1 h2 => ?_, fun q h1 h2 => ?_⟩
  · rw [blk_set h.grown, list_upd n j gs (v j) hj]
  · have := own_setCell (h.todo j (Nat.le_refl _) hj) (p := ⟨gb, j, none⟩) (own_gb h.grown (h.todo j (Nat.le_refl _) hj)) (v j)
    simpa [mks] using this
  · have ho := h.todo j (Nat.le_refl _) hj
    have hc := World.ownsRow.cells ho hg k (.int .u8 ((x j).getD k 0)) (by simp [nums, List.getElem?_eq_getElem hk, List.getD_eq_getElem?_getD])
    have ea : (⟨g, 0, none⟩ : Addr).add k = ⟨g, k, none⟩ := by unfold Addr.add; split <;> simp_all
    rw [ea] at hc
    have hne : g ≠ gb := fun e => own_gb h.grown ho (by rw [hg, e])
    rw [← hc]
    exact World.cell?_of_block (a := ⟨g, k, none⟩) (Below.heap_setCell W ⟨gb, j, none⟩ (v j) g hne)
  · exact Kd.V_far (p := ⟨gb, j, none⟩) (Kd.V_bound (h.old q h1 h2)) (fun b hb => hb.1.2.1) _
  · exact Kd.V_far (p := ⟨gb, j, none⟩) (Kd.V_bound (h.oldg q h1 h2)) (fun b hb => hb.1.2.1) _
theorem mks_succ (i m : Nat) : mks i (m + 1) = mks i m ++ [mrk i m] := by simp [mks, List.range_succ]
theorem own_kept {W W' : World} {base : Nat} {u : Value} {z : List Int} {row : Option Nat} (h : W.ownsRow base 5 1 u z.length (nums .u8 z)) (hg : W.grownBy W' row) (hne : ∀ g, u.ownBlock = some g → row ≠ some g) : W'.ownsRow base 5 1 u z.length (nums .u8 z) := by
  refine World.ownsRow.kept h hg ?_
  cases e : u.ownBlock with
  | none => exact .inl rfl
  | some g => exact .inr (fun h' => hne g e h'.symm)
theorem RC.step {gb j m N : Nat} {gs : Nat → Value} {y : Nat → List Int} {z z1 : Value} {w1 : World} (h : RC base lb gb n N v gs x y j m z W) (hD : Dist n v) (hj : j < n)
    (h1 : w1.ownsRow base 5 1 z1 ((x j ++ mks (j + 7) m) ++ [mrk (j + 7) m]).length (nums .u8 ((x j ++ mks (j + 7) m) ++ [mrk (j + 7) m]))) (h2 : W.grownBy w1 z.ownBlock) (h3 : z1.ownBlock = z.ownBlock ∨ z1.ownBlock = some W.heap.size)
    (h4 : ∀ g k, z.ownBlock = some g → k < (x j ++ mks (j + 7) m).length → w1.cell? ⟨g, k, none⟩ = W.cell? ⟨g, k, none⟩) :
    RC base lb gb n N v gs x y j (m + 1) z1 (w1.setCell ⟨gb, j, none⟩ z1) := by
  have hsz : (w1.setCell ⟨gb, j, none⟩ z1).heap.size = w1.heap.size := by simp [World.setCell]
  have g1 := h2.size
  have hgr := blk_grown h.grown h2 (own_gb h.grown h.row)
  have hother : ∀ q, j < q → q < n → ∀ g, (v q).ownBlock = some g → z.ownBlock ≠ some g := by
    intro q hq hqn g hg e
    rcases h.blk with hb | ⟨b, hb, hN⟩
    · exact hD j q hj hqn (by omega) g (by rw [← hb, e]) hg
    · have := h.low q g (by omega) hqn hg
      rw [hb] at e
      have := Option.some.inj e
      omega
  have hfoot : ∀ b, ((b ≠ lb ∧ b ≠ gb ∧ ∀ j', j ≤ j' → j' < n → (v j').ownBlock ≠ some b) ∧ b < N) → some b ≠ z.ownBlock := by
    intro b hb e
    rcases h.blk with hz | ⟨b', hz, hN⟩
    · exact hb.1.2.2 j (Nat.le_refl _) hj (by rw [← hz, ← e])
    · rw [hz] at e
      have := Option.some.inj e
      have := hb.2
      omega
  refine ⟨h.ne, by have := h.size; omega, h.lt, blk_far (blk_grown h.list h2 (own_gb h.list h.row)) h.ne _, ?_, ?_, fun g k hg hk => ?_, ?_, fun q hq hqn => ?_, h.vg, h.low, fun q hq hqn => ?_, fun q hq hqn => ?_⟩
  · rw [blk_set hgr, list_upd n j _ z1 hj]
    congr 4
    funext q
    by_cases e : q = j <;> simp [e]
  · have := own_setCell h1 (p := ⟨gb, j, none⟩) (own_gb hgr h1) z1
    rw [mks_succ, ← List.append_assoc]
    exact this
  · have hne := h.vg g hg
    rw [← h.bytes g k hg hk, World.cell?_of_block (a := ⟨g, k, none⟩) (Below.heap_setCell w1 ⟨gb, j, none⟩ z1 g hne)]
    rcases h.blk with hz | ⟨b, hz, hN⟩
    · exact h4 g k (by rw [hz, hg]) (by rw [List.length_append]; omega)
    · have hlow := h.low j g (Nat.le_refl _) hj hg
      have hs := h.size
      exact World.cell?_of_block (a := ⟨g, k, none⟩) (h2.block g (by omega) (by rw [hz]; intro e; have := Option.some.inj e; omega))
  · rcases h3 with h3 | h3
    · rw [h3]; exact h.blk
    · exact .inr ⟨_, h3, h.size⟩
  · have hk := own_kept (h.todo q hq hqn) h2 (hother q hq hqn)
    exact own_setCell hk (p := ⟨gb, j, none⟩) (own_gb hgr hk) z1
  · exact Kd.V_far (p := ⟨gb, j, none⟩) (Kd.V_grown (h.old q hq hqn) h2 hfoot) (fun b hb => hb.1.2.1) _
  · exact Kd.V_far (p := ⟨gb, j, none⟩) (Kd.V_grown (h.oldg q hq hqn) h2 hfoot) (fun b hb => hb.1.2.1) _
theorem RC.below {gb j m N : Nat} {gs : Nat → Value} {y : Nat → List Int} {z : Value} {w1 : World} (h : RC base lb gb n N v gs x y j m z W) (hj : j < n) (hb : Below W.heap.size W w1) : RC base lb gb n N v gs x y j m z w1 := by
  have hg : W.grownBy w1 none := ⟨hb.os, hb.tape, hb.output, hb.size, fun k hk _ => hb.block k hk⟩
  have g1 := hb.size
  have hs := h.size
  exact ⟨h.ne, by omega, h.lt, blk_below h.list hb, blk_below h.grown hb, own_kept h.row hg (fun _ _ e => by cases e), fun g k hg' hk => (World.cell?_of_block (a := ⟨g, k, none⟩) (hb.block g (by have := h.low j g (Nat.le_refl _) hj hg'; omega))).trans (h.bytes g k hg' hk), h.blk, fun q hq hqn => own_kept (h.todo q hq hqn) hg (fun _ _ e => by cases e), h.vg, h.low, fun q hq hqn => Kd.V_below (h.old q hq hqn) hb, fun q hq hqn => Kd.V_below (h.oldg q hq hqn) hb⟩
theorem RC.gbw {gb j m N : Nat} {gs : Nat → Value} {y : Nat → List Int} {z : Value} {w1 : World} (h : RC base lb gb n N v gs x y j m z W) (h2 : W.grownBy w1 z.ownBlock) (hj : j < n) : w1.cell? ⟨gb, j, none⟩ = some z ∧ w1.frozen? ⟨gb, j, none⟩ = false := by
  have hgr := blk_grown h.grown h2 (own_gb h.grown h.row)
  exact ⟨by rw [blk_cell hgr]; simp [hj], blk_frozen hgr j⟩
theorem step_own_append {ops : Array Oper} {o : Oper} {a : Act} {K : Act → World → Prop} {Q : Exit → Act → World → Prop} {E : Prop} {W : World} {base : Nat} (hgd : o.guard = none) (s x : Operand) (t : TypeId) (hop : o.op = .call { callee := .builtin .append, args := #[s, x], argTypes := #[t, t] }) (ht : Try.prog.underlying t = some (.slice 5))
    (v : Value) (xs ys : List Int) (ad : Addr) (n2 c2 : Nat) (hs : a.eval s = v) (hx : a.eval x = .slice (some ad) n2 c2) (hn2 : n2 = ys.length) (ho : W.ownsRow base 5 1 v xs.length (nums .u8 xs)) (had : ∀ j u, (nums .u8 ys)[j]? = some u → W.cell? (ad.add j) = some u)
    (hl : xs.length + ys.length ≤ 140737488355328) (hb : base ≤ W.heap.size)
    (h : ∀ v1 w1, w1.ownsRow base 5 1 v1 (xs ++ ys).length (nums .u8 (xs ++ ys)) → W.grownBy w1 v.ownBlock → (v1.ownBlock = v.ownBlock ∨ v1.ownBlock = some W.heap.size) → (∀ g k, v.ownBlock = some g → k < xs.length → w1.cell? ⟨g, k, none⟩ = W.cell? ⟨g, k, none⟩) → K (a.put o.dst v1) w1) :
    if Region.wanted o (yielded ops a.tmps) = true then Oper.wp Try.prog o a W K Q else E := by
  have hw : Region.wanted o (yielded ops a.tmps) = true := by simp [Region.wanted, hgd]
  rw [if_pos hw]
  subst hn2
  obtain ⟨v1, w1, hrun, h1, h2, h3, h4⟩ := own_append ho ys t o.type ht ad c2 had hl hb
  unfold Oper.wp
  simp [execOp, hop, resolve, invoke, builtin, hs, hx, hrun, Result.andThen]
  exact h v1 w1 h1 h2 h3 h4
theorem mark_same' (i k : Nat) (a b : Int) (ha : a = (i : Int)) (hb : b = (k : Int)) (hi : i ≤ 1099511627776) (hk : k ≤ 1099511627776) (w : World) : Calls Try.prog 30 #[.int .i64 a, .int .i64 b] w fun e w' => e = .returned (.int .u8 (mrk i k)) ∧ w' = w := by
  subst ha; subst hb; exact mark_same i k hi hk w
theorem own_form {W : World} {base : Nat} {u : Value} {n : Nat} {z : List Value} (h : W.ownsRow base 5 1 u n z) : ∃ A c, u = .slice A n c := by
  obtain ⟨_, ⟨rfl, rfl⟩ | ⟨g, cap, cur, rfl, _⟩⟩ := h
  · exact ⟨_, _, rfl⟩
  · exact ⟨_, _, rfl⟩
theorem mks_len (i m : Nat) : (mks i m).length = m := by simp [mks]
theorem V_of_own {W : World} {base base' : Nat} {ok : Nat → Prop} {u : Value} {z : List Int} (ho : W.ownsRow base 5 1 u z.length (nums .u8 z)) (hok : ∀ k, u.ownBlock = some k → ok k) : Kd.V (Kd.int .u8) 5 W base' ok u z :=
  Kd.R_V (Kd.R_of_own (enc := Value.int .u8) (h1 := fun _ => rfl) ho hok)
theorem V_of_bytes {W : World} {base c : Nat} {ok : Nat → Prop} {A : Option Addr} {z : List Int} (hc : z.length ≤ c) (hm : z.length ≤ 9223372036854775807)
    (hA : 0 < z.length → ∃ g, A = some ⟨g, 0, none⟩ ∧ ok g ∧ g < W.heap.size ∧ ∀ k, k < z.length → W.cell? ⟨g, k, none⟩ = some (.int .u8 (z.getD k 0))) : Kd.V (Kd.int .u8) 5 W base ok (.slice A z.length c) z := by
  refine Kd.V_mk hc fun W' hW => ⟨rfl, hm, fun hp => ?_⟩
  obtain ⟨g, rfl, hok, hlt, hcell⟩ := hA hp
  refine ⟨_, rfl, fun j p hj => ⟨[.int .u8 p], rfl, rfl, fun i u hu => ?_⟩⟩
  have hi : i = 0 := by
    rcases i with _ | i
    · rfl
    · simp at hu
  subst hi
  obtain rfl : Value.int .u8 p = u := by simpa using hu
  have hjn : j < z.length := (List.getElem?_eq_some_iff.1 hj).1
  rw [show j * (Kd.int .u8).sz + 0 = j from Nat.mul_one j]
  have : (⟨g, 0, none⟩ : Addr).add j = ⟨g, j, none⟩ := by unfold Addr.add; split <;> simp_all
  rw [this, World.cell?_of_block (a := ⟨g, j, none⟩) (hW g hok hlt), hcell j hjn]
  simp [List.getD_eq_getElem?_getD, hj]
theorem V_at_add {W : World} {base n c : Nat} {ok : Nat → Prop} {A : Option Addr} {z : List Int} (h : Kd.V (Kd.int .u8) 5 W base ok (.slice A n c) z) (hp : 0 < z.length) : ∃ ad, A = some ad ∧ ∀ j u, (nums .u8 z)[j]? = some u → W.cell? (ad.add j) = some u := by
  obtain ⟨rfl, _, hC⟩ := Kd.V_reads' h
  exact cells_of_C hC hp
theorem own_ge {W : World} {base : Nat} {u : Value} {n : Nat} {z : List Value} (h : W.ownsRow base 5 1 u n z) {g : Nat} (hg : u.ownBlock = some g) : base ≤ g ∧ g < W.heap.size := World.ownsRow.lt h g hg
theorem own_lower {W : World} {base base' : Nat} {u : Value} {n : Nat} {z : List Value} (h : W.ownsRow base 5 1 u n z) (hb : base' ≤ base) : W.ownsRow base' 5 1 u n z := by
  refine ⟨h.1, ?_⟩
  rcases h.2 with h0 | ⟨g, cap, cur, hv, hg, hrest⟩
  · exact .inl h0
  · exact .inr ⟨g, cap, cur, hv, by omega, hrest⟩
theorem RC.done {gb j N : Nat} {gs : Nat → Value} {y : Nat → List Int} {z : Value} {w0 : World} (h : RC base lb gb n N v gs x y j 16 z W) (hD : Dist n v) (hj : j < n) (hy : y j = x j ++ mks (j + 7) 16) (h0 : w0.ownsRow base 5 1 (v j) (x j).length (nums .u8 (x j))) (hvl : ∀ g, (v j).ownBlock = some g → g ≠ lb) : RB base lb gb n v (fun q => if q = j then z else gs q) x y (j + 1) W := by
  have hz := h.row
  rw [← hy] at hz
  refine ⟨h.ne, h.list, h.grown, fun q h1 h2 => h.todo q (by omega) h2, fun q h1 h2 => ?_, fun q h1 h2 => ?_⟩
  · rcases Nat.lt_or_ge q j with hq | hq
    · exact Kd.V_mono (h.old q hq h2) (fun b hb => ⟨hb.1.1, hb.1.2.1, fun j' h3 h4 => hb.1.2.2 j' (by omega) h4⟩)
    · obtain rfl : q = j := by omega
      have hb := h.bytes
      have hlow := h.low q
      have hvg := h.vg
      have hDD := hD q
      have hlist := h.list
      have hs := h.size
      have hlt := h.lt
      have htd := h0
      rcases h0.2 with ⟨hv, hl⟩ | ⟨g, cap, cur, hv, hg, hrest⟩
      · have : x q = [] := List.eq_nil_of_length_eq_zero hl
        rw [hv, this]
        exact Kd.V_nil _ _ _ _ _
      · rw [hv]
        have hvb : (v q).ownBlock = some g := by rw [hv]; rfl
        have hcap : (x q).length ≤ cap ∧ cap ≤ maxLen := ⟨hrest.2.1, hrest.2.2.1⟩
        exact V_of_bytes hcap.1 (by have := hcap.2; simp only [maxLen] at this; omega) (fun hp => ⟨g, rfl, ⟨hvl g hvb, hvg g hvb, fun j' h3 h4 e => hDD j' hj h4 (by omega) g hvb e⟩, by have := hlow g (Nat.le_refl _) hj hvb; omega, fun k hk => hb g k hvb hk⟩)
  · by_cases hqj : q = j
    · subst hqj
      simp only [if_true]
      refine V_of_own hz (fun k hk => ⟨?_, ?_, fun j' h3 h4 e => ?_⟩)
      · rintro rfl; exact own_gb h.list hz hk.symm
      · rintro rfl; exact own_gb h.grown hz hk.symm
      · rcases h.blk with hb | ⟨b, hb, hN⟩
        · exact hD q j' hj h4 (by omega) k (by rw [← hb, hk]) e
        · have := h.low j' k (by omega) h4 e
          rw [hb] at hk
          have := Option.some.inj hk
          omega
    · simp only [if_neg hqj]
      exact Kd.V_mono (h.oldg q (by omega) h2) (fun b hb => ⟨hb.1.1, hb.1.2.1, fun j' h3 h4 => hb.1.2.2 j' (by omega) h4⟩)
/-- The fourth loop's state: everything is read; row 'hole' of the grown list is another's business. -/
structure RD (base lb gb n N hole : Nat) (v gs : Nat → Value) (x y : Nat → List Int) (W : World) : Prop where
  ne : lb ≠ gb
  lt : lb < N ∧ gb < N
  size : N ≤ W.heap.size
  list : W.heap[lb]? = some (.cells ((List.range n).map v).toArray 30 (0, 0))
  grown : W.heap[gb]? = some (.cells ((List.range n).map gs).toArray 30 (0, 0))
  rv : ∀ q, q < n → Kd.V (Kd.int .u8) 5 W base (fun b => b ≠ gb ∧ b < N) (v q) (x q)
  rg : ∀ q, q < n → q ≠ hole → Kd.V (Kd.int .u8) 5 W base (fun b => b ≠ gb ∧ b < N) (gs q) (y q)
theorem RD.start {gb : Nat} {gs : Nat → Value} {y : Nat → List Int} (h : RB base lb gb n v gs x y n W) : RD base lb gb n W.heap.size n v gs x y W :=
  ⟨h.ne, ⟨blk_lt h.list, blk_lt h.grown⟩, Nat.le_refl _, h.list, h.grown, fun q hq => Kd.V_mono (Kd.V_bound (h.old q hq hq)) (fun b hb => ⟨hb.1.2.1, hb.2⟩), fun q hq _ => Kd.V_mono (Kd.V_bound (h.oldg q hq hq)) (fun b hb => ⟨hb.1.2.1, hb.2⟩)⟩
theorem RD.step {gb N hole : Nat} {gs : Nat → Value} {y : Nat → List Int} {w1 : World} (h : RD base lb gb n N hole v gs x y W) (hs : N ≤ w1.heap.size) (hm : ∀ k, k < N → w1.heap[k]? = W.heap[k]?) : RD base lb gb n N hole v gs x y w1 :=
  ⟨h.ne, h.lt, hs, (hm _ h.lt.1).trans h.list, (hm _ h.lt.2).trans h.grown, fun q hq => Kd.V_step (h.rv q hq) (fun k hk _ => hm k hk.2), fun q hq hh => Kd.V_step (h.rg q hq hh) (fun k hk _ => hm k hk.2)⟩
theorem RD.below {gb N hole : Nat} {gs : Nat → Value} {y : Nat → List Int} {w1 : World} (h : RD base lb gb n N hole v gs x y W) (hb : Below N W w1) : RD base lb gb n N hole v gs x y w1 :=
  h.step (Nat.le_trans h.size hb.size) (fun k hk => hb.block k hk)
theorem RD.put {gb N hole j : Nat} {gs : Nat → Value} {y : Nat → List Int} (h : RD base lb gb n N hole v gs x y W) (hj : j < n) (hh : hole = j ∨ hole = n) (z : Value) : RD base lb gb n N j v (fun q => if q = j then z else gs q) x y (W.setCell ⟨gb, j, none⟩ z) := by
  have hsz : (W.setCell ⟨gb, j, none⟩ z).heap.size = W.heap.size := by simp [World.setCell]
  refine ⟨h.ne, h.lt, by rw [hsz]; exact h.size, blk_far h.list h.ne _, by rw [blk_set h.grown, list_upd n j gs z hj], fun q hq => Kd.V_far (p := ⟨gb, j, none⟩) (h.rv q hq) (fun b hb => hb.1) _, fun q hq hne => ?_⟩
  simp only [if_neg hne]
  exact Kd.V_far (p := ⟨gb, j, none⟩) (h.rg q hq (by rcases hh with rfl | rfl <;> omega)) (fun b hb => hb.1) _
theorem RD.close {gb N j : Nat} {gs : Nat → Value} {y y' : Nat → List Int} (h : RD base lb gb n N j v gs x y W) (hj : Kd.V (Kd.int .u8) 5 W base (fun b => b ≠ gb) (gs j) (y' j)) (hy : ∀ q, q ≠ j → y' q = y q) : RD base lb gb n W.heap.size n v gs x y' W := by
  have hs := h.size
  refine ⟨h.ne, ⟨by have := h.lt; omega, by have := h.lt; omega⟩, Nat.le_refl _, h.list, h.grown, fun q hq => Kd.V_mono (h.rv q hq) (fun b hb => ⟨hb.1, by have := hb.2; omega⟩), fun q hq _ => ?_⟩
  by_cases e : q = j
  · subst e
    exact Kd.V_bound hj
  · rw [hy q e]
    exact Kd.V_mono (h.rg q hq e) (fun b hb => ⟨hb.1, by have := hb.2; omega⟩)
theorem RD.congr {gb N hole : Nat} {gs : Nat → Value} {y y' : Nat → List Int} (h : RD base lb gb n N hole v gs x y W) (hy : ∀ q, q < n → y' q = y q) : RD base lb gb n N hole v gs x y' W :=
  ⟨h.ne, h.lt, h.size, h.list, h.grown, h.rv, fun q hq hh => by rw [hy q hq]; exact h.rg q hq hh⟩
/-- An append to a slice that has no room left: a row of one's own, in a new block. -/
theorem wp_grow_append {ops : Array Oper} {rest : List Oper} {o : Oper} {a : Act} {Q : Exit → Act → World → Prop} {W : World} (hgd : o.guard = none) (s x : Operand) (t : TypeId) (hop : o.op = .call { callee := .builtin .append, args := #[s, x], argTypes := #[t, t] }) (ht : Try.prog.underlying t = some (.slice 5))
    (xs ys : List Int) (ad ad2 : Addr) (n1 n2 c2 : Nat) (hs : a.eval s = .slice (some ad) n1 n1) (hx : a.eval x = .slice (some ad2) n2 c2) (hn1 : n1 = xs.length) (hn2 : n2 = ys.length) (hp : 0 < ys.length) (hold : ∀ j u, (nums .u8 xs)[j]? = some u → W.cell? (ad.add j) = some u) (had : ∀ j u, (nums .u8 ys)[j]? = some u → W.cell? (ad2.add j) = some u)
    (hl : xs.length + ys.length ≤ 140737488355328)
    (h : ∀ v1 w1, w1.ownsRow W.heap.size 5 1 v1 (xs ++ ys).length (nums .u8 (xs ++ ys)) → W.grownBy w1 none → wpList Try.prog ops Q rest (a.put o.dst v1) w1) :
    wpList Try.prog ops Q (o :: rest) a W := by
  subst hn1 hn2
  have hinfo : (Try.prog.info? 5).map (fun i => (i.zero, i.size, i.bytes)) = some (some (.int .u8 0), 1, 1) := by kernel_rfl
  obtain ⟨i0, hi, hzz⟩ := Option.map_eq_some_iff.1 hinfo
  simp only [Prod.mk.injEq] at hzz
  obtain ⟨hz0, hz1, hz2⟩ := hzz
  obtain ⟨v1, w1, hrun, h1, h2⟩ := run_append_arg_grows (P := Try.prog) (w := W) t o.type 5 i0 (.int .u8 0) 1 1 ht hi hz0 hz1 hz2 rfl (by decide) ad xs.length xs.length (nums .u8 xs) (came_nums xs) hold ad2 ys.length c2 (nums .u8 ys) (came_nums ys) had (by omega) (by simp only [maxLen]; omega) (by omega)
  refine wpList_plain hgd fun K hK' => ?_
  unfold Oper.wp
  simp [execOp, hop, resolve, invoke, builtin, hs, hx, hrun, Result.andThen]
  refine hK' _ _ (h v1 w1 ?_ h2)
  rw [List.length_append]
  have : nums .u8 (xs ++ ys) = nums .u8 xs ++ nums .u8 ys := by simp [nums]
  rw [this]
  exact h1
theorem below_weak {B B' : Nat} {a b : World} (h : Below B' a b) (hb : B ≤ B') : Below B a b := ⟨h.os, h.tape, h.output, h.size, fun k hk => h.block k (by omega)⟩
theorem below_far {B : Nat} {a : World} {p : Addr} (hp : B ≤ p.block) (u : Value) : Below B a (a.setCell p u) := (Below.refl _ _).setCell hp u
theorem mkTo_set' (i k : Nat) (h : k < 80) : (mkTo i k (List.replicate 80 0)).set k (mrk i k) = mkTo i (k + 1) (List.replicate 80 0) := mkTo_set i k _ (by simpa using h)
theorem third_at7 (p l k : Nat) (h1 : ¬ k < l) (h2 : k < l + 16) : (nums .u8 ((mks p l ++ mks (p + 7) 16) ++ mks (p + 13) 80))[k]? = some (.int .u8 ((((p : Int) + 7) * 37 + ((k : Int) - (l : Int)) * 11 + 5) % 256)) := by
  have hk : ((k - l : Nat) : Int) = (k : Int) - l := by omega
  simp only [nums, List.getElem?_map]
  rw [List.getElem?_append_left (by rw [List.length_append, mks_len, mks_len]; omega), List.getElem?_append_right (by rw [mks_len]; omega), mks_len]
  simp only [mks, List.getElem?_map, List.getElem?_range (show k - l < 16 by omega), Option.map_some, mrk, hk]
  simp
theorem third_at13 (p l k : Nat) (h1 : ¬ k < l + 16) (h2 : k < l + 16 + 80) : (nums .u8 ((mks p l ++ mks (p + 7) 16) ++ mks (p + 13) 80))[k]? = some (.int .u8 ((((p : Int) + 13) * 37 + ((k : Int) - (l : Int) - 16) * 11 + 5) % 256)) := by
  have hk : ((k - (l + 16) : Nat) : Int) = (k : Int) - l - 16 := by omega
  simp only [nums, List.getElem?_map]
  rw [List.getElem?_append_right (by rw [List.length_append, mks_len, mks_len]; omega), List.length_append, mks_len, mks_len]
  simp only [mks, List.getElem?_map, List.getElem?_range (show k - (l + 16) < 80 by omega), Option.map_some, mrk, hk]
  simp
set_option maxRecDepth 100000 in
set_option maxHeartbeats 4000000 in
theorem own_walk (h : RA base lb n v x W) (hD : Dist n v) (hbase : base ≤ lb) (hn : n ≤ 1048576) (hx : ∀ j, j < n → (x j).length ≤ 1099511627776) :
    Calls Try.prog 13 #[.slice (some ⟨lb, 0, none⟩) n n] W fun e w' => e = .returned (.bool true) ∧ Below base W w' := by
  have HA := Aside0.mk h
  have HX := Aside0.mk hx
  clear h hx
  go_enter Try.func13, Try.ntmps13
  go_wp2
  go_loopw [17] (fun v17 wr => ∃ i : Nat, i ≤ n ∧ v17 = .int .i64 i ∧ Aside0 (RA base lb n v (fun j => if j < i then mks j (x j).length else x j) wr) ∧ Aside0 (Below base W wr)) (fun v17 _ => n - (intOf v17).toNat)
  case atStart => exact ⟨0, by omega, rfl, ⟨HA.out.congr (fun j _ => by simp)⟩, ⟨Below.refl _ _⟩⟩
  case round =>
    obtain ⟨i, hi, rfl, hR, hB⟩ := hrel
    by_cases hlt : i < n
    · have hb1 : (i : Int) < (n : Int) := by omega
      have hc := hR.out.cell hlt
      obtain ⟨A, c, hv⟩ := Kd.R_slice (HA.out.row i hlt)
      rw [hv] at hc
      have hxi := HX.out i hlt
      have hcn : wr.cell? ⟨lb, (i : Int).toNat, none⟩ = some (.slice A (x i).length c) := hc
      go_wp2
      go_loopw [25] (fun v25 wq => ∃ k : Nat, k ≤ (x i).length ∧ v25 = .int .i64 k ∧ Aside0 (RA base lb n v (fun j => if j < i then mks j (x j).length else if j = i then mkTo i k (x i) else x j) wq) ∧ Aside0 (Below base W wq)) (fun v25 _ => (x i).length - (intOf v25).toNat)
      case atStart => exact ⟨0, by omega, rfl, ⟨hR.out.congr (fun j _ => by by_cases e : j = i <;> simp [e, mkTo_zero])⟩, hB⟩
      case round =>
        obtain ⟨k, hk, rfl, hR2, hB2⟩ := hrel
        by_cases hlk : k < (x i).length
        · have hyi : (if i < i then mks i (x i).length else if i = i then mkTo i k (x i) else x i) = mkTo i k (x i) := by simp
          have hyl : (mkTo i k (x i)).length = (x i).length := mkTo_len i k (x i) hk
          obtain ⟨g, c2, hv2, hglb, hbg, ⟨u, hcu⟩, hfu⟩ := hR2.out.slot (k := k) hlt (by show k < (if i < i then mks i (x i).length else if i = i then mkTo i k (x i) else x i).length; rw [hyi]; omega)
          replace hv2 : v i = .slice (some ⟨g, 0, none⟩) (x i).length c2 := by
            rw [hv2]
            show Value.slice _ (if i < i then mks i (x i).length else if i = i then mkTo i k (x i) else x i).length c2 = _
            rw [hyi, hyl]
          have hc2 := hR2.out.cell hlt
          rw [hv2] at hc2
          have hb2 : (k : Int) < ((x i).length : Int) := by omega
          go_wp2
          go_still_tail 9, (by kernel_rfl)
          still_call (mark_same i k (by omega) (by omega) _)
          repeat still_step
          refine wpStill_nil ?_
          change wpList _ _ _ _ _ wr.drew
          have hcd : wr.drew.cell? ⟨g, k, none⟩ = some (.int .u8 u) := hcu
          have hfd : wr.drew.frozen? ⟨g, k, none⟩ = false := hfu
          have hRd : Aside0 (RA base lb n v (fun j => if j < i then mks j (x j).length else if j = i then mkTo i k (x i) else x j) wr.drew) := ⟨hR2.out.drewN 1⟩
          have hBd : Aside0 (Below base W wr.drew) := ⟨below_drew1 hB2.out⟩
          generalize wr.drew = wz at hcd hfd hRd hBd ⊢
          go_wp2
          go_roundw
          case rel =>
            refine ⟨k + 1, by omega, by go_num, ⟨?_⟩, ⟨hBd.out.setCell hbg _⟩⟩
            have := hRd.out.put hD (i := i) (k := k) (g := g) (c := c2) hlt (by simp only [Nat.lt_irrefl, if_false, if_true, hyl]; exact hv2) hglb (mrk i k)
            refine this.congr (fun j _ => ?_)
            by_cases e : j = i
            · subst e; simp [mkTo_set _ _ _ hlk]
            · simp [e]
          case measure => simp [intOf]; omega
        · have hkk : k = (x i).length := by omega
          subst hkk
          go_wp2
          go_roundw
          case rel => exact ⟨i + 1, by omega, by go_num, ⟨hR2.out.congr (fun j _ => by
            rcases Nat.lt_trichotomy j i with e | e | e
            · rw [if_pos e, if_pos (by omega)]
            · subst e; rw [if_neg (by omega), if_pos rfl, if_pos (by omega), mkTo_full]
            · rw [if_neg (by omega), if_neg (by omega), if_neg (by omega)])⟩, hB2⟩
          case measure => simp [intOf]; omega
    · have hin : i = n := by omega
      subst hin
      have hA1 : Aside0 (RA base lb i v (fun j => mks j (x j).length) wr) := ⟨hR.out.congr (fun j hj => by rw [if_pos hj])⟩
      clear hR HA
      rename World => w3
      have hmk : ∀ W : World, (Instr.makeSlice 69 (.int .i64 (i : Int)) (.int .i64 (i : Int))).run Try.prog W = .ok (.slice (some ⟨W.heap.size, 0, none⟩) i i) (W.alloc (.cells (madeCells #[.slice none 0 0] i) 30)) := by
        intro W
        exact print_make_of 69 30 (.slice none 0 0) 24 Try.underlying69 (by kernel_rfl) rfl (by decide) i (by omega) W
      have hRB0 : Aside0 (RB base lb w3.heap.size i v (fun _ => .slice none 0 0) (fun j => mks j (x j).length) (fun j => mks j (x j).length ++ mks (j + 7) 16) 0 (w3.alloc (.cells (madeCells #[.slice none 0 0] i) 30))) := ⟨RB.start hA1.out _⟩
      have hb3 : base ≤ w3.heap.size := Nat.le_of_lt (Nat.lt_of_le_of_lt hbase (Array.getElem?_eq_some_iff.1 hA1.out.list).1)
      have hB0 : Aside0 (Below base W (w3.alloc (.cells (madeCells #[.slice none 0 0] i) 30))) := by
        refine ⟨hB.out.alloc ?_ _⟩
        exact Nat.le_of_lt (Nat.lt_of_le_of_lt hbase (Array.getElem?_eq_some_iff.1 hA1.out.list).1)
      clear hA1 hB
      go_wp2
      go_loopw [44] (fun v44 wq => ∃ (j : Nat) (gs : Nat → Value), j ≤ i ∧ v44 = .int .i64 j ∧ Aside0 (RB base lb w3.heap.size i v gs (fun j => mks j (x j).length) (fun j => mks j (x j).length ++ mks (j + 7) 16) j wq) ∧ Aside0 (Below base W wq)) (fun v44 _ => i - (intOf v44).toNat)
      case atStart => exact ⟨0, _, by omega, rfl, hRB0, hB0⟩
      case round =>
        obtain ⟨j, gs, hj, rfl, hR, hB⟩ := hrel
        rename World => w4
        by_cases hjn : j < i
        · have hb1 : (j : Int) < (i : Int) := by omega
          obtain ⟨A, c, hv⟩ := own_form (hR.out.todo j (Nat.le_refl _) hjn)
          have hlx : (mks j (x j).length).length = (x j).length := mks_len _ _
          simp only [hlx] at hv
          have hc : w4.cell? ⟨lb, j, none⟩ = some (.slice A (x j).length c) := by rw [blk_cell hR.out.list, ← hv]; simp [hjn]
          have hcg : w4.cell? ⟨w3.heap.size, j, none⟩ = some (gs j) := by rw [blk_cell hR.out.grown]; simp [hjn]
          have hfg : w4.frozen? ⟨w3.heap.size, j, none⟩ = false := blk_frozen hR.out.grown j
          have hxj := HX.out j hjn
          have hst := RC.start hR.out hjn
          rw [hv] at hst
          have hRC0 := Aside0.mk hst
          clear hst
          have hB0 : Aside0 (Below base W (w4.setCell ⟨w3.heap.size, j, none⟩ (.slice A (x j).length c))) := ⟨hB.out.setCell hb3 _⟩
          go_wp2
          go_loopw [7] (fun v7 wp => ∃ (m : Nat) (z : Value), m ≤ 16 ∧ v7 = .int .i64 m ∧ Aside0 (RC base lb w3.heap.size i w4.heap.size v gs (fun j => mks j (x j).length) (fun j => mks j (x j).length ++ mks (j + 7) 16) j m z wp) ∧ Aside0 (Below base W wp)) (fun v7 _ => 16 - (intOf v7).toNat)
          case atStart => exact ⟨0, _, by omega, rfl, hRC0, hB0⟩
          case round =>
            obtain ⟨m, z, hm, rfl, hC, hB3⟩ := hrel
            by_cases hlm : m < 16
            · have hb2 : (m : Int) < 16 := by omega
              obtain ⟨Az, cz, hz⟩ := own_form hC.out.row
              have hlz : (mks j (x j).length ++ mks (j + 7) m).length = (x j).length + m := by rw [List.length_append, mks_len, mks_len]
              simp only [hlz] at hz
              have hcz : wr.cell? ⟨w3.heap.size, j, none⟩ = some (.slice Az ((x j).length + m) cz) := by rw [blk_cell hC.out.grown, ← hz]; simp [hjn]
              have hfz : wr.frozen? ⟨w3.heap.size, j, none⟩ = false := blk_frozen hC.out.grown j
              go_wp2
              have hjw : IntKind.i64.wrap ((j : Int) + 7) = ((j + 7 : Nat) : Int) := by simp only [IntKind.wrap, IntKind.bits, IntKind.signed]; simp; omega
              have hrow : ∀ (u : World), Below wr.heap.size wr u → u.ownsRow base 5 1 (.slice Az ((x j).length + m) cz) (mks j (x j).length ++ mks (j + 7) m).length (nums .u8 (mks j (x j).length ++ mks (j + 7) m)) := fun u hu => by
                have := (hC.out.below hjn hu).row
                rw [hz] at this
                exact this
              have hCz : ∀ u : World, Below wr.heap.size wr u → RC base lb w3.heap.size i w4.heap.size v gs (fun j => mks j (x j).length) (fun j => mks j (x j).length ++ mks (j + 7) 16) j m (.slice Az ((x j).length + m) cz) u := fun u hu => by
                have := hC.out.below hjn hu
                rw [hz] at this
                exact this
              have hsz_ : ∀ o : Obj, base ≤ (wr.drew.alloc o).heap.size := fun o => by
                have h1 := hC.out.size
                have h2 := hC.out.lt.1
                have h3 : (wr.drew.alloc o).heap.size = wr.heap.size + 1 := by rw [World.size_alloc]; rfl
                omega
              have hU : Below wr.heap.size wr (wr.alloc (Obj.cells #[Value.int IntKind.u8 (mrk (j + 7) m)] 5)).drew := below_drew1 (below_alloc (Below.refl _ _) _)
              have ho1 := hrow _ hU
              have ho2 : ∀ q u, (nums .u8 [mrk (j + 7) m])[q]? = some u → (wr.alloc (Obj.cells #[Value.int IntKind.u8 (mrk (j + 7) m)] 5)).drew.cell? ((⟨wr.heap.size, 0, none⟩ : Addr).add q) = some u := World.news_of_block (cs := #[.int .u8 (mrk (j + 7) m)]) (t := 5) (fr := (0, 0)) (heap_alloc_new _ _)
              have ho4 : base ≤ (wr.alloc (Obj.cells #[Value.int IntKind.u8 (mrk (j + 7) m)] 5)).drew.heap.size := by
                have h1 := hC.out.size
                have h2 := hC.out.lt.1
                have h3 : (wr.alloc (Obj.cells #[Value.int IntKind.u8 (mrk (j + 7) m)] 5)).drew.heap.size = wr.heap.size + 1 := World.size_alloc _ _
                omega
              have ho3 : (mks j (x j).length ++ mks (j + 7) m).length + [mrk (j + 7) m].length ≤ 140737488355328 := by rw [hlz]; simp only [List.length_singleton]; omega
              have ho5 : Value.slice Az ((x j).length + m) cz = .slice Az (mks j (x j).length ++ mks (j + 7) m).length cz := by rw [hlz]
              have hCu := hCz _ hU
              have hcz2 : (wr.alloc (Obj.cells #[Value.int IntKind.u8 (mrk (j + 7) m)] 5)).cell? ⟨w3.heap.size, j, none⟩ = some (.slice Az ((x j).length + m) cz) := by
                have h3 := blk_cell (blk_below hC.out.grown hU) j
                rw [← hz]
                refine Eq.trans h3 ?_
                simp [hjn]
              go_region_law (first | (refine step_own_append (base := base) rfl (.tmp 63) (.tmp 68) 30 rfl Try.underlying30 (.slice Az ((x j).length + m) cz) (mks j (x j).length ++ mks (j + 7) m) [mrk (j + 7) m] ⟨wr.heap.size, 0, none⟩ 1 1 ?o5_ ?o6_ rfl ho1 ho2 ho3 ho4 ?_; (case o5_ => go_simp); (case o6_ => go_simp); intro v1 w1 h1 h2 h3 h4; obtain ⟨A1, c1, hv1⟩ := own_form h1; simp only [List.length_append, mks_len, List.length_singleton] at hv1; subst hv1; have hg1c := (hCu.gbw h2 hjn).1; have hg1f := (hCu.gbw h2 hjn).2) | (go_simp; go_at_call 30; (with_reducible refine (mark_same' (j + 7) m _ _ (by first | omega | exact hjw) rfl (by omega) (by omega) _).mono ?_); rintro e w' ⟨rfl, rfl⟩) | (fail))
              all_goals (
                go_wp2
                go_roundw
                case rel =>
                  refine ⟨m + 1, _, by omega, by go_num, ⟨hCu.step hD hjn h1 h2 h3 h4⟩, ⟨?_⟩⟩
                  exact Below.setCell (Below.grown (hB3.out.trans (below_weak hU (by have := hC.out.size; have := hC.out.lt.1; omega))) h2 ho4 (fun k hk => (own_ge ho1 hk).1)) hb3 _
                case measure => simp [intOf]; omega)
            · have hm16 : m = 16 := by omega
              subst hm16
              go_wp2
              go_roundw
              case rel =>
                have hdone := hC.out.done hD hjn rfl (hR.out.todo j (Nat.le_refl _) hjn) (fun g hg e => own_gb hR.out.list (hR.out.todo j (Nat.le_refl _) hjn) (by rw [hg, e]))
                exact ⟨j + 1, _, by omega, by go_num, ⟨hdone⟩, hB3⟩
              case measure => simp [intOf]; omega
        · have hjn2 : j = i := by omega
          subst hjn2
          have hD0 := Aside0.mk (RD.start hR.out)
          clear hR
          go_wp2
          rename World => w5
          go_loopw [74] (fun v74 wq => ∃ (q N : Nat) (gs : Nat → Value), q ≤ j ∧ v74 = .int .i64 q ∧ Aside0 (RD base lb w3.heap.size j N j v gs (fun j => mks j (x j).length) (fun j => if j < q then (mks j (x j).length ++ mks (j + 7) 16) ++ mks (j + 13) 80 else mks j (x j).length ++ mks (j + 7) 16) wq) ∧ Aside0 (Below base W wq)) (fun v74 _ => j - (intOf v74).toNat)
          case atStart => exact ⟨0, _, _, by omega, rfl, ⟨hD0.out.congr (fun q _ => by simp)⟩, hB⟩
          case round =>
            obtain ⟨q, N, gs, hq, rfl, hR, hB⟩ := hrel
            by_cases hqj : q < j
            · have hb1 : (q : Int) < (j : Int) := by omega
              have hmk80 : ∀ W : World, (Instr.makeSlice 30 (.int .i64 (80 : Int)) (.int .i64 (80 : Int))).run Try.prog W = .ok (.slice (some ⟨W.heap.size, 0, none⟩) 80 80) (W.alloc (.cells (madeCells #[.int .u8 0] 80) 5)) := by
                intro W
                exact print_make_of 30 5 (.int .u8 0) 1 Try.underlying30 (by kernel_rfl) rfl (by decide) 80 (by omega) W
              rename World => w6
              have hR1 : Aside0 (RD base lb w3.heap.size j N j v gs (fun j => mks j (x j).length) (fun j => if j < q then (mks j (x j).length ++ mks (j + 7) 16) ++ mks (j + 13) 80 else mks j (x j).length ++ mks (j + 7) 16) (w6.alloc (.cells (madeCells #[.int .u8 0] 80) 5))) := ⟨hR.out.below ((Below.refl _ _).alloc hR.out.size _)⟩
              have hM1 : Aside0 ((w6.alloc (.cells (madeCells #[.int .u8 0] 80) 5)).heap[w6.heap.size]? = some (.cells (nums .u8 (mkTo (q + 13) 0 (List.replicate 80 0))).toArray 5 (0, 0))) := ⟨by rw [heap_alloc_new, madeCells_nums, mkTo_zero]⟩
              have hB1 : Aside0 (Below base W (w6.alloc (.cells (madeCells #[.int .u8 0] 80) 5))) := ⟨hB.out.alloc (by have := hR.out.size; have := hR.out.lt.1; omega) _⟩
              have hbN : base ≤ w6.heap.size := by have := hR.out.size; have := hR.out.lt.1; omega
              have hN6 : N ≤ w6.heap.size := hR.out.size
              clear hR hB
              go_wp2
              go_loopw [80] (fun v80 wp => ∃ k : Nat, k ≤ 80 ∧ v80 = .int .i64 k ∧ Aside0 (RD base lb w3.heap.size j N j v gs (fun j => mks j (x j).length) (fun j => if j < q then (mks j (x j).length ++ mks (j + 7) 16) ++ mks (j + 13) 80 else mks j (x j).length ++ mks (j + 7) 16) wp) ∧ Aside0 (wp.heap[w6.heap.size]? = some (.cells (nums .u8 (mkTo (q + 13) k (List.replicate 80 0))).toArray 5 (0, 0))) ∧ Aside0 (Below base W wp)) (fun v80 _ => 80 - (intOf v80).toNat)
              case atStart => exact ⟨0, by omega, rfl, hR1, hM1, hB1⟩
              case round =>
                obtain ⟨k, hk, rfl, hR2, hM2, hB2⟩ := hrel
                by_cases hk80 : k < 80
                · have hb2 : (k : Int) < 80 := by omega
                  have hlm : (mkTo (q + 13) k (List.replicate 80 0)).length = 80 := by rw [mkTo_len _ _ _ (by simpa using hk)]; simp
                  have hck : ∃ u, wr.cell? ⟨w6.heap.size, k, none⟩ = some (.int .u8 u) := by
                    have h80 := hM2.out
                    generalize mkTo (q + 13) k (List.replicate 80 0) = z80 at h80 hlm
                    exact ⟨z80.getD k 0, by rw [blk_cell h80]; simp [nums, List.getElem?_eq_getElem (show k < z80.length by omega), List.getD_eq_getElem?_getD]⟩
                  obtain ⟨u, hck⟩ := hck
                  have hfk : wr.frozen? ⟨w6.heap.size, k, none⟩ = false := blk_frozen hM2.out k
                  have hqw : IntKind.i64.wrap ((q : Int) + 13) = ((q + 13 : Nat) : Int) := by simp only [IntKind.wrap, IntKind.bits, IntKind.signed]; simp; omega
                  go_wp2
                  have hmv : (((q : Int) + 13) * 37 + (k : Int) * 11 + 5) % 256 = mrk (q + 13) k := by simp [mrk]
                  rw [hmv]
                  go_roundw
                  case rel =>
                    refine ⟨k + 1, by omega, by go_num, ⟨hR2.out.below (below_far hN6 _)⟩, ⟨?_⟩, ⟨hB2.out.setCell hbN _⟩⟩
                    rw [blk_set hM2.out, nums_set, mkTo_set' _ _ hk80]
                  case measure => simp [intOf]; omega
                · have hk2 : k = 80 := by omega
                  subst hk2
                  have hM3 : Aside0 (wr.heap[w6.heap.size]? = some (.cells (nums .u8 (mks (q + 13) 80)).toArray 5 (0, 0))) := ⟨by
                    have := hM2.out
                    have e := mkTo_full (q + 13) (List.replicate 80 0)
                    simp only [List.length_replicate] at e
                    rwa [e] at this⟩
                  clear hM2
                  go_wp2
                  obtain ⟨Ag, cg, hvg⟩ := Kd.V_slice (hR2.out.rg q hqj (by omega))
                  obtain ⟨Av, cv, hvv⟩ := Kd.V_slice (hR2.out.rv q hqj)
                  have hVg := hR2.out.rg q hqj (by omega)
                  simp only [Nat.lt_irrefl, if_false, List.length_append, mks_len] at hvg
                  simp only [Nat.lt_irrefl, if_false] at hVg
                  simp only [mks_len] at hvv
                  rw [hvg] at hVg
                  obtain ⟨adg, rfl, hgc⟩ := V_at_add hVg (by rw [List.length_append, mks_len, mks_len]; omega)
                  have hcg : (x q).length + 16 ≤ cg := (Kd.V_reads' hVg).2.1
                  have hcg1 : (x q).length ≤ cg := by omega
                  have hcg2 : ¬ cg = (x q).length := by omega
                  have hcg3 : ((x q).length : Int) ≤ (x q).length + 16 := by omega
                  have hc1 : wr.drew.cell? ⟨w3.heap.size, q, none⟩ = some (.slice (some adg) ((x q).length + 16) cg) := by
                    refine Eq.trans (blk_cell hR2.out.grown q) ?_
                    rw [← hvg]; simp [hqj]
                  have hc2 : wr.drew.cell? ⟨lb, q, none⟩ = some (.slice Av (x q).length cv) := by
                    refine Eq.trans (blk_cell hR2.out.list q) ?_
                    rw [← hvv]; simp [hqj]
                  have hf1 : wr.drew.frozen? ⟨w3.heap.size, q, none⟩ = false := blk_frozen hR2.out.grown q
                  have hxq := HX.out q hqj
                  go_wp2
                  refine wp_region_any (by kernel_rfl) ?_
                  change wpAny _ _ _ _ _ _ _ (World.drew _)
                  refine wpAny_take (i := 0) (v := ?v0_) rfl (by kernel_rfl) (by kernel_rfl) (by kernel_rfl) (fun _ _ _ h => h) (Or.inl ⟨by rfl, ?y0_⟩) ?n0_
                  case y0_ => intro w; go_simp; with_reducible rfl
                  refine wpAny_take (i := 1) (v := ?v1_) rfl (by kernel_rfl) (by kernel_rfl) (by kernel_rfl) (fun _ _ _ h => h) (Or.inl ⟨by rfl, ?y1_⟩) ?n1_
                  case y1_ => intro w; go_simp; with_reducible rfl
                  refine any_still_tail 2 27 (by kernel_rfl) ?_
                  simp only [List.take_succ_cons, List.take_zero, List.drop_succ_cons, List.drop_zero]
                  repeat still_step
                  refine wpStill_nil ?_
                  change wpList _ _ _ _ _ wr.drew
                  have hRd : Aside0 (RD base lb w3.heap.size j N j v gs (fun j => mks j (x j).length) (fun j => if j < q then (mks j (x j).length ++ mks (j + 7) 16) ++ mks (j + 13) 80 else mks j (x j).length ++ mks (j + 7) 16) wr.drew) := ⟨hR2.out.below (below_weak (below_drew1 (Below.refl wr.heap.size wr)) hR2.out.size)⟩
                  have hMd : Aside0 (wr.drew.heap[w6.heap.size]? = some (.cells (nums .u8 (mks (q + 13) 80)).toArray 5 (0, 0))) := ⟨hM3.out⟩
                  have hBd : Aside0 (Below base W wr.drew) := ⟨below_drew1 hB2.out⟩
                  have hgd : ∀ k u, (nums .u8 (mks q (x q).length ++ mks (q + 7) 16))[k]? = some u → wr.drew.cell? (adg.add k) = some u := hgc
                  have hl6 : w6.heap.size < wr.drew.heap.size := (Array.getElem?_eq_some_iff.1 hMd.out).1
                  clear hR2 hM3 hB2 hVg hgc
                  generalize wr.drew = wd at hc1 hc2 hf1 hRd hMd hBd hgd hl6 ⊢
                  refine wp_grow_append rfl (.tmp 107) (.tmp 117) 30 rfl Try.underlying30 (mks q (x q).length) (mks (q + 7) 16) adg (adg.add (x q).length) (x q).length 16 (cg - (x q).length) ?s_ ?x_ (mks_len _ _).symm (mks_len _ _).symm (by rw [mks_len]; omega) ?o_ ?p_ (by rw [mks_len, mks_len]; omega) ?_
                  case s_ => go_simp
                  case x_ => go_simp
                  case o_ =>
                    intro k u hu
                    refine hgd k u ?_
                    rw [show nums .u8 (mks q (x q).length ++ mks (q + 7) 16) = nums .u8 (mks q (x q).length) ++ nums .u8 (mks (q + 7) 16) from List.map_append .., List.getElem?_append_left (List.getElem?_eq_some_iff.1 hu).1]
                    exact hu
                  case p_ =>
                    intro k u hu
                    rw [Addr.add_add]
                    refine hgd _ u ?_
                    rw [show nums .u8 (mks q (x q).length ++ mks (q + 7) 16) = nums .u8 (mks q (x q).length) ++ nums .u8 (mks (q + 7) 16) from List.map_append .., List.getElem?_append_right (by rw [nums_length, mks_len]; omega), nums_length, mks_len, Nat.add_sub_cancel_left]
                    exact hu
                  intro z1 w1 h1 h2
                  have hBB : Below wd.heap.size wd w1 := ⟨h2.os, h2.tape, h2.output, h2.size, fun k hk => h2.block k hk (by simp)⟩
                  have hR1 := Aside0.mk (hRd.out.below (below_weak hBB hRd.out.size))
                  have hg1 := blk_below hRd.out.grown hBB
                  have hput := Aside0.mk (hR1.out.put hqj (.inr rfl) z1)
                  have hM4 : Aside0 ((w1.setCell ⟨w3.heap.size, q, none⟩ z1).heap[w6.heap.size]? = some (.cells (nums .u8 (mks (q + 13) 80)).toArray 5 (0, 0))) := ⟨blk_far (blk_below hMd.out hBB) (by have := hRd.out.lt.2; show w6.heap.size ≠ w3.heap.size; omega) _⟩
                  have ho1 := Aside0.mk (own_setCell h1 (p := ⟨w3.heap.size, q, none⟩) (own_gb hg1 h1) z1)
                  have hB1 : Aside0 (Below base W (w1.setCell ⟨w3.heap.size, q, none⟩ z1)) := ⟨(hBd.out.trans (below_weak hBB (by omega))).setCell hb3 _⟩
                  have hcz : w1.cell? ⟨w3.heap.size, q, none⟩ = some (.slice (some adg) ((x q).length + 16) cg) := by
                    refine Eq.trans (blk_cell hg1 q) ?_
                    rw [← hvg]; simp [hqj]
                  have hfz : w1.frozen? ⟨w3.heap.size, q, none⟩ = false := blk_frozen hg1 q
                  have hs1 : wd.heap.size ≤ w1.heap.size := hBB.size
                  obtain ⟨A1, c1, hz1⟩ := own_form h1
                  simp only [List.length_append, mks_len] at hz1
                  subst hz1
                  clear h1 h2 hBB hg1 hRd hMd hBd hR1
                  have hzv : ∀ k, (Value.slice A1 ((x q).length + 16) c1).ownBlock = some k → wd.heap.size ≤ k := fun k hk => (own_ge ho1.out hk).1
                  have hNd : N ≤ wd.heap.size := by omega
                  have hsd : (w1.setCell ⟨w3.heap.size, q, none⟩ (.slice A1 ((x q).length + 16) c1)).heap.size = w1.heap.size := by simp [World.setCell]
                  have hbd : wd.heap.size ≤ (w1.setCell ⟨w3.heap.size, q, none⟩ (.slice A1 ((x q).length + 16) c1)).heap.size := by omega
                  have hbs : base ≤ (w1.setCell ⟨w3.heap.size, q, none⟩ (.slice A1 ((x q).length + 16) c1)).heap.size := by omega
                  have hns := World.news_of_block (w := w1.setCell ⟨w3.heap.size, q, none⟩ (.slice A1 ((x q).length + 16) c1)) (cs := (nums .u8 (mks (q + 13) 80)).toArray) (t := 5) (fr := (0, 0)) hM4.out
                  go_wp2_with (first | ((with_reducible refine gate_builtin (b := .append) (xs := #[.tmp 125, .tmp 126]) rfl ?_); at_builtin; refine wp_own_append (base := wd.heap.size) rfl (.tmp 125) (.tmp 126) 30 rfl Try.underlying30 (.slice A1 ((x q).length + 16) c1) (mks q (x q).length ++ mks (q + 7) 16) (mks (q + 13) 80) ⟨w6.heap.size, 0, none⟩ 80 80 ?s_ ?x_ (mks_len _ _).symm ho1.out hns ?l_ hbd ?_; (case s_ => go_simp); (case x_ => go_simp); (case l_ => rw [List.length_append, mks_len, mks_len, mks_len]; omega); intro v2 w2 g1 g2 g3 g4; have hg2 := blk_grown hput.out.grown g2 (own_gb hput.out.grown ho1.out); have hcz2 := Eq.trans (blk_cell hg2 q) (show _ = some (.slice A1 ((x q).length + 16) c1) by simp [hqj]); have hfz2 := blk_frozen hg2 q; obtain ⟨A2, c2, hz2⟩ := own_form g1; simp only [List.length_append, mks_len] at hz2; subst hz2) | go_in)
                  go_roundw
                  case rel =>
                    have hs2 := g2.size
                    have hRe := hput.out.step (w1 := w2) (by omega) (fun k hk => g2.block k (by omega) (fun e => by have := hzv k e.symm; omega))
                    have hRf := hRe.put hqj (.inl rfl) (.slice A2 ((x q).length + 16 + 80) c2)
                    have hV : Kd.V (Kd.int .u8) 5 (w2.setCell ⟨w3.heap.size, q, none⟩ (.slice A2 ((x q).length + 16 + 80) c2)) base (fun b => b ≠ w3.heap.size) (.slice A2 ((x q).length + 16 + 80) c2) ((mks q (x q).length ++ mks (q + 7) 16) ++ mks (q + 13) 80) := by
                      have ho := own_setCell g1 (p := ⟨w3.heap.size, q, none⟩) (own_gb hg2 g1) (.slice A2 ((x q).length + 16 + 80) c2)
                      refine V_of_own ho (fun k hk e => own_gb hg2 g1 ?_)
                      rw [← e, hk]
                    refine ⟨q + 1, _, _, by omega, by go_num, ⟨hRf.close (y' := fun j => if j < q + 1 then (mks j (x j).length ++ mks (j + 7) 16) ++ mks (j + 13) 80 else mks j (x j).length ++ mks (j + 7) 16) ?_ ?_⟩, ⟨(Below.grown hB1.out g2 hbs (fun k hk => by have := hzv k hk; omega)).setCell hb3 _⟩⟩
                    · simp only [if_true, Nat.lt_succ_self]
                      exact hV
                    · intro k hk
                      by_cases h1 : k < q
                      · rw [if_pos h1, if_pos (by omega)]
                      · rw [if_neg h1, if_neg (by omega)]
                  case measure => simp [intOf]; omega
            · have hqj2 : q = j := by omega
              subst hqj2
              have hR5 : Aside0 (RD base lb w3.heap.size q N q v gs (fun j => mks j (x j).length) (fun j => (mks j (x j).length ++ mks (j + 7) 16) ++ mks (j + 13) 80) wr) := ⟨hR.out.congr (fun k hk => by simp [hk])⟩
              clear hR
              go_wp2
              rename World => w7
              go_loopw [132] (fun v132 wq => ∃ p : Nat, p ≤ q ∧ v132 = .int .i64 p ∧ Aside0 (RD base lb w3.heap.size q N q v gs (fun j => mks j (x j).length) (fun j => (mks j (x j).length ++ mks (j + 7) 16) ++ mks (j + 13) 80) wq) ∧ Aside0 (Below base W wq)) (fun v132 _ => q - (intOf v132).toNat)
              case atStart => exact ⟨0, by omega, rfl, hR5, hB⟩
              case round =>
                obtain ⟨p, hp, rfl, hR, hB⟩ := hrel
                rename World => w8
                by_cases hpq : p < q
                · have hb1 : (p : Int) < (q : Int) := by omega
                  obtain ⟨Ag, cg, hvg⟩ := Kd.V_slice (hR.out.rg p hpq (by omega))
                  have hVg := hR.out.rg p hpq (by omega)
                  simp only [List.length_append, mks_len] at hvg
                  rw [hvg] at hVg
                  obtain ⟨adg, rfl, _⟩ := V_at_add hVg (by simp only [List.length_append, mks_len]; omega)
                  have hc1 : w8.cell? ⟨w3.heap.size, p, none⟩ = some (.slice (some adg) ((x p).length + 16 + 80) cg) := by
                    refine Eq.trans (blk_cell hR.out.grown p) ?_
                    rw [← hvg]; simp [hpq]
                  have hxp := HX.out p hpq
                  clear hVg
                  go_wp2
                  go_loopw [140] (fun v140 wq => ∃ k : Nat, k ≤ (x p).length + 16 + 80 ∧ v140 = .int .i64 k ∧ Aside0 (RD base lb w3.heap.size q N q v gs (fun j => mks j (x j).length) (fun j => (mks j (x j).length ++ mks (j + 7) 16) ++ mks (j + 13) 80) wq) ∧ Aside0 (Below base W wq)) (fun v140 _ => (x p).length + 16 + 80 - (intOf v140).toNat)
                  case atStart => exact ⟨0, by omega, rfl, hR, hB⟩
                  case round =>
                    obtain ⟨k, hk, rfl, hR2, hB2⟩ := hrel
                    by_cases hkl : k < (x p).length + 16 + 80
                    · have hb2 : (k : Int) < ((x p).length : Int) + 16 + 80 := by omega
                      obtain ⟨Av, cv, hvv⟩ := Kd.V_slice (hR2.out.rv p hpq)
                      simp only [mks_len] at hvv
                      have hVg := hR2.out.rg p hpq (by omega)
                      have hVv := hR2.out.rv p hpq
                      rw [hvg] at hVg
                      simp only [hvv] at hVv
                      obtain ⟨ad', e', hgc⟩ := V_at_add hVg (by simp only [List.length_append, mks_len]; omega)
                      obtain rfl : adg = ad' := Option.some.inj e'
                      have hc2 : wr.cell? ⟨w3.heap.size, p, none⟩ = some (.slice (some adg) ((x p).length + 16 + 80) cg) := by
                        refine Eq.trans (blk_cell hR2.out.grown p) ?_
                        rw [← hvg]; simp [hpq]
                      have hc3 : wr.cell? ⟨lb, p, none⟩ = some (.slice Av (x p).length cv) := by
                        refine Eq.trans (blk_cell hR2.out.list p) ?_
                        rw [← hvv]; simp [hpq]
                      by_cases h16 : k < (x p).length
                      · obtain ⟨adv, rfl, hvc⟩ := V_at_add hVv (by rw [mks_len]; omega)
                        have hb3 : (k : Int) < ((x p).length : Int) := by omega
                        have hb4 : ¬ (16 ≤ (k : Int) - ((x p).length : Int)) := by omega
                        have hb5 : ¬ (0 ≤ (k : Int) - ((x p).length : Int)) := by omega
                        have hcg : wr.cell? (adg.add k) = some (.int .u8 (((p : Int) * 37 + (k : Int) * 11 + 5) % 256)) := hgc k _ (by simp [nums, mks, mrk, List.getElem?_append_left, h16])
                        have hcv : wr.cell? (adv.add k) = some (.int .u8 (((p : Int) * 37 + (k : Int) * 11 + 5) % 256)) := hvc k _ (by simp [nums, mks, mrk, h16])
                        clear hgc hvc hVg hVv
                        go_wp2
                        go_roundw
                        case rel => exact ⟨k + 1, by omega, by go_num, hR2, hB2⟩
                        case measure => simp [intOf]; omega
                      · by_cases h17 : k < (x p).length + 16
                        · have hb3 : ¬ ((k : Int) < ((x p).length : Int)) := by omega
                          have hb4 : ¬ (16 ≤ (k : Int) - ((x p).length : Int)) := by omega
                          have hb5 : 0 ≤ (k : Int) - ((x p).length : Int) := by omega
                          have hcg : wr.cell? (adg.add k) = some (.int .u8 ((((p : Int) + 7) * 37 + ((k : Int) - ((x p).length : Int)) * 11 + 5) % 256)) := hgc k _ (third_at7 p _ k h16 h17)
                          clear hgc hVg hVv
                          go_wp2
                          go_roundw
                          case rel => exact ⟨k + 1, by omega, by go_num, hR2, hB2⟩
                          case measure => simp [intOf]; omega
                        · have hb3 : ¬ ((k : Int) < ((x p).length : Int)) := by omega
                          have hb4 : 16 ≤ (k : Int) - ((x p).length : Int) := by omega
                          have hcg : wr.cell? (adg.add k) = some (.int .u8 ((((p : Int) + 13) * 37 + ((k : Int) - ((x p).length : Int) - 16) * 11 + 5) % 256)) := hgc k _ (third_at13 p _ k h17 hkl)
                          clear hgc hVg hVv
                          go_wp2
                          go_roundw
                          case rel => exact ⟨k + 1, by omega, by go_num, hR2, hB2⟩
                          case measure => simp [intOf]; omega
                    · have hk2 : k = (x p).length + 16 + 80 := by omega
                      subst hk2
                      go_wp2
                      go_roundw
                      case rel => exact ⟨p + 1, by omega, by go_num, hR2, hB2⟩
                      case measure => simp [intOf]; omega
                · have hpq2 : p = q := by omega
                  subst hpq2
                  go_wp2
                  go_ret
                  exact ⟨rfl, hB.out⟩
end
theorem own_calls {base : Nat} {W : World} (rows : List (Value × List Int)) (h1 : ∀ p ∈ rows, Kd.R (Kd.int .u8) 5 W base (fun _ => True) p.1 p.2) (h2 : rows.Pairwise (fun p q => ∀ k, p.1.ownBlock = some k → q.1.ownBlock ≠ some k)) (hb : base ≤ W.heap.size) (hn : ∀ p ∈ rows, p.2.length ≤ 1099511627776) (hr : rows.length ≤ 1048576) :
    Calls Try.prog 13 #[.slice (some ⟨W.heap.size, 0, none⟩) rows.length rows.length] (W.alloc (.cells (rows.map (·.1)).toArray 30)) fun e w' => e = .returned (.bool true) ∧ Below base (W.alloc (.cells (rows.map (·.1)).toArray 30)) w' := by
  have hd : ∀ q, q < rows.length → ∃ p, rows[q]? = some p ∧ p ∈ rows := fun q hq => ⟨rows[q], List.getElem?_eq_getElem hq, List.getElem_mem hq⟩
  have hR : RA base W.heap.size rows.length (fun q => (rows.getD q (.slice none 0 0, [])).1) (fun q => (rows.getD q (.slice none 0 0, [])).2) (W.alloc (.cells (rows.map (·.1)).toArray 30)) := by
    refine ⟨?_, fun q hq => ?_⟩
    · rw [heap_alloc_new]
      congr 3
      apply List.ext_getElem
      · simp
      · intro k h3 h4
        have hk : k < rows.length := by simpa using h3
        simp [List.getElem?_eq_getElem hk]
    · obtain ⟨p, h3, h4⟩ := hd q hq
      have := Kd.R_alloc (h1 p h4) (.cells (rows.map (·.1)).toArray 30)
      simpa [List.getD_eq_getElem?_getD, h3] using this
  have hD : Dist rows.length (fun q => (rows.getD q (.slice none 0 0, [])).1) := by
    intro a b ha hb' hab k
    simp only [List.getD_eq_getElem?_getD, List.getElem?_eq_getElem ha, List.getElem?_eq_getElem hb', Option.getD_some]
    intro h3 h4
    rcases Nat.lt_or_ge a b with h5 | h5
    · exact List.pairwise_iff_getElem.1 h2 a b ha hb' h5 k h3 h4
    · exact List.pairwise_iff_getElem.1 h2 b a hb' ha (by omega) k h4 h3
  refine own_walk hR hD hb hr (fun q hq => ?_)
  obtain ⟨p, h3, h4⟩ := hd q hq
  simp only [List.getD_eq_getElem?_getD, h3, Option.getD_some]
  exact hn p h4
theorem own3_calls {base : Nat} {W : World} {A1 A2 A3 : Option Addr} {c1 c2 c3 : Nat} {x1 x2 x3 : List Int} {ok1 ok2 ok3 : Nat → Prop}
    (h1 : Kd.R (Kd.int .u8) 5 W base ok1 (.slice A1 x1.length c1) x1) (h2 : Kd.R (Kd.int .u8) 5 W base ok2 (.slice A2 x2.length c2) x2) (h3 : Kd.R (Kd.int .u8) 5 W base ok3 (.slice A3 x3.length c3) x3)
    (d1 : ∀ k, ok1 k → some k ≠ (Value.slice A2 x2.length c2).ownBlock ∧ some k ≠ (Value.slice A3 x3.length c3).ownBlock) (d2 : ∀ k, ok2 k → some k ≠ (Value.slice A3 x3.length c3).ownBlock) (hb : base ≤ W.heap.size) (h : hawserref01_Own.f [x1, x2, x3] = some true) :
    Calls Try.prog 13 #[.slice (some ⟨W.heap.size, 0, none⟩) 3 3] (W.alloc (.cells #[.slice A1 x1.length c1, .slice A2 x2.length c2, .slice A3 x3.length c3] 30)) fun e w' => e = .returned (.bool true) ∧ Below base (W.alloc (.cells #[.slice A1 x1.length c1, .slice A2 x2.length c2, .slice A3 x3.length c3] 30)) w' := by
  have hn : ∀ x ∈ [x1, x2, x3], x.length ≤ 1099511627776 := by
    unfold hawserref01_Own.f at h
    split at h
    · assumption
    · cases h
  refine own_calls [(.slice A1 x1.length c1, x1), (.slice A2 x2.length c2, x2), (.slice A3 x3.length c3, x3)] ?_ ?_ hb ?_ (by simp)
  · intro p hp
    simp only [List.mem_cons, List.not_mem_nil, or_false] at hp
    rcases hp with rfl | rfl | rfl
    · exact Kd.R_mono h1 (fun _ _ => trivial)
    · exact Kd.R_mono h2 (fun _ _ => trivial)
    · exact Kd.R_mono h3 (fun _ _ => trivial)
  · refine List.Pairwise.cons ?_ (List.Pairwise.cons ?_ (List.Pairwise.cons (by simp) List.Pairwise.nil))
    · intro q hq k hk
      have := d1 k (h1.1 k hk)
      simp only [List.mem_cons, List.not_mem_nil, or_false] at hq
      rcases hq with rfl | rfl
      · exact fun e => this.1 e.symm
      · exact fun e => this.2 e.symm
    · intro q hq k hk
      have := d2 k (h2.1 k hk)
      simp only [List.mem_cons, List.not_mem_nil, or_false] at hq
      subst hq
      exact fun e => this e.symm
  · intro p hp
    simp only [List.mem_cons, List.not_mem_nil, or_false] at hp
    rcases hp with rfl | rfl | rfl <;> exact hn _ (by simp)
theorem own2_calls {base : Nat} {W : World} {A1 A2 : Option Addr} {c1 c2 : Nat} {x1 x2 : List Int} {ok1 ok2 : Nat → Prop}
    (h1 : Kd.R (Kd.int .u8) 5 W base ok1 (.slice A1 x1.length c1) x1) (h2 : Kd.R (Kd.int .u8) 5 W base ok2 (.slice A2 x2.length c2) x2)
    (d1 : ∀ k, ok1 k → some k ≠ (Value.slice A2 x2.length c2).ownBlock) (hb : base ≤ W.heap.size) (h : hawserref01_Own.f [x1, x2] = some true) :
    Calls Try.prog 13 #[.slice (some ⟨W.heap.size, 0, none⟩) 2 2] (W.alloc (.cells #[.slice A1 x1.length c1, .slice A2 x2.length c2] 30)) fun e w' => e = .returned (.bool true) ∧ Below base (W.alloc (.cells #[.slice A1 x1.length c1, .slice A2 x2.length c2] 30)) w' := by
  have hn : ∀ x ∈ [x1, x2], x.length ≤ 1099511627776 := by
    unfold hawserref01_Own.f at h
    split at h
    · assumption
    · cases h
  refine own_calls [(.slice A1 x1.length c1, x1), (.slice A2 x2.length c2, x2)] ?_ ?_ hb ?_ (by simp)
  · intro p hp
    simp only [List.mem_cons, List.not_mem_nil, or_false] at hp
    rcases hp with rfl | rfl
    · exact Kd.R_mono h1 (fun _ _ => trivial)
    · exact Kd.R_mono h2 (fun _ _ => trivial)
  · refine List.Pairwise.cons ?_ (List.Pairwise.cons (by simp) List.Pairwise.nil)
    intro q hq k hk
    have := d1 k (h1.1 k hk)
    simp only [List.mem_cons, List.not_mem_nil, or_false] at hq
    subst hq
    exact fun e => this e.symm
  · intro p hp
    simp only [List.mem_cons, List.not_mem_nil, or_false] at hp
    rcases hp with rfl | rfl <;> exact hn _ (by simp)
theorem own2b_calls {base : Nat} {W : World} {A1 A2 : Option Addr} {c1 c2 : Nat} {x1 x2 : List Int} {ok1 ok2 : Nat → Prop} {b : Bool}
    (h1 : Kd.R (Kd.int .u8) 5 W base ok1 (.slice A1 x1.length c1) x1) (h2 : Kd.R (Kd.int .u8) 5 W base ok2 (.slice A2 x2.length c2) x2)
    (d1 : ∀ k, ok1 k → some k ≠ (Value.slice A2 x2.length c2).ownBlock) (hb : base ≤ W.heap.size) (h : hawserref01_Own.f [x1, x2] = some b) :
    Calls Try.prog 13 #[.slice (some ⟨W.heap.size, 0, none⟩) 2 2] (W.alloc (.cells #[.slice A1 x1.length c1, .slice A2 x2.length c2] 30)) fun e w' => e = .returned (.bool b) ∧ Below base (W.alloc (.cells #[.slice A1 x1.length c1, .slice A2 x2.length c2] 30)) w' := by
  have ht : b = true := by
    unfold hawserref01_Own.f at h
    split at h
    · exact (Option.some.inj h).symm
    · cases h
  subst ht
  exact own2_calls h1 h2 d1 hb h
theorem own_below_weak {B B' : Nat} {a b : World} (h : Below B' a b) (hb : B ≤ B') : Below B a b := ⟨h.os, h.tape, h.output, h.size, fun k hk => h.block k (by omega)⟩
theorem own_blk_low {n g : Nat} {W W' : World} {o : Obj} (h : W.heap[g]? = some o) (hB : Below n W W') (hg : g < n) : W'.heap[g]? = some o := by
  rw [hB.block g hg]
  exact h
theorem own_far {W W' : World} {base B n : Nat} {e : TypeId} {u : Value} {z : List Value} (h : W.ownsRow base e 1 u n z) (hl : ∀ k, u.ownBlock = some k → k < B) (hB : Below B W W') : W'.ownsRow base e 1 u n z := by
  refine ⟨h.1, ?_⟩
  rcases h.2 with h0 | ⟨g, cap, cur, hv, hg, h1, h2, h3⟩
  · exact .inl h0
  · subst hv
    have hlt := hl g rfl
    refine .inr ⟨g, cap, cur, rfl, hg, ?_, h2, h3⟩
    rw [hB.block g hlt]
    exact h1
theorem own_far_int {W W' : World} {base B : Nat} {e : TypeId} {ok : Nat → Prop} {u : Value} {k : IntKind} {z : List Int} (h : Kd.R (Kd.int k) e W base ok u z) (hl : ∀ j, u.ownBlock = some j → j < B) (hB : Below B W W') : Kd.R (Kd.int k) e W' base ok u z :=
  Kd.R_of_own (own_far (Kd.own_of_R h) hl hB) h.1
theorem own_base3 {gs : List Nat} {os : List (Option Nat)} {n a b c : Nat} (a1 : ∀ g ∈ gs, g < a) (a2 : ∀ o ∈ os, ∀ k, o = some k → k < a) (a3 : n ≤ a) (b1 : ∀ g ∈ gs, g < b) (b2 : ∀ o ∈ os, ∀ k, o = some k → k < b) (b3 : n ≤ b)
    (c1 : ∀ g ∈ gs, g < c) (c2 : ∀ o ∈ os, ∀ k, o = some k → k < c) (c3 : n ≤ c) : ∃ B, (∀ g ∈ gs, g < B) ∧ (∀ o ∈ os, ∀ k, o = some k → k < B) ∧ n ≤ B ∧ B ≤ a ∧ B ≤ b ∧ B ≤ c :=
  ⟨min a (min b c), fun g hg => by have := a1 g hg; have := b1 g hg; have := c1 g hg; omega, fun o ho k hk => by have := a2 o ho k hk; have := b2 o ho k hk; have := c2 o ho k hk; omega, by omega, by omega, by omega, by omega⟩

end Go.Proofs.Ytkkmceejfmjidaa.G
