-- Written for this claim by a program of this session (wip/xprint.py), by means of the kit's print. Not trusted: Lean checks it.
import Derived.Test.YtjhijklgpgdlaaaGx0
import Derived.Test.YtjhijklgpgdlaaaGx2
import Derived.Test.YtjhijklgpgdlaaaGx3
import Derived.Test.YtjhijklgpgdlaaaGx4
import Derived.Test.YtjhijklgpgdlaaaGx6
import Derived.Test.YtjhijklgpgdlaaaGx7
import Derived.Test.YtjhijklgpgdlaaaGx9
namespace Go.Proofs.Ytjhijklgpgdlaaa.G
open Go.RowKit Go.Proofs.YtjhijklgpgdlaaaW.PrintWords Go.Proofs.YtjhijklgpgdlaaaW.PrintLast Go.Proofs.YtjhijklgpgdlaaaW.PrintMore
attribute [local go_sem] max2_int min2_int max_two min_two max_three min_three max_four min_four   -- for this text's walks alone
set_option linter.unusedVariables false
set_option linter.unusedSimpArgs false

/-! ### hawserlaw16_ConfigOwn: function 13 -/
open Go.Proofs.Ytjhijklgpgdlaaa.Blocks
namespace Co
def vA (i k : Nat) : Int := -100 * (i : Int) - k - 1
def vB (i k : Nat) : Int := 100 * (i : Int) + k + 1
def rowA (i n : Nat) : List Int := (List.range n).map (vA i)
def rowB (i n : Nat) : List Int := (List.range n).map (vB i)
def toA (i k : Nat) (x : List Int) : List Int := rowA i k ++ x.drop k
theorem rowA_len (i m : Nat) : (rowA i m).length = m := by simp [rowA]
theorem rowB_len (i m : Nat) : (rowB i m).length = m := by simp [rowB]
theorem rowB_succ (i m : Nat) : rowB i (m + 1) = rowB i m ++ [vB i m] := by simp [rowB, List.range_succ]
theorem toA_zero (i : Nat) (x : List Int) : toA i 0 x = x := by simp [toA, rowA]
theorem toA_full (i : Nat) (x : List Int) : toA i x.length x = rowA i x.length := by simp [toA]
theorem toA_len (i k : Nat) (x : List Int) (h : k ≤ x.length) : (toA i k x).length = x.length := by simp [toA, rowA]; omega
theorem toA_set (i k : Nat) (x : List Int) (h : k < x.length) : (toA i k x).set k (vA i k) = toA i (k + 1) x := by
  unfold toA
  rw [List.set_append_right _ _ (by rw [rowA_len]; omega), rowA_len, Nat.sub_self, List.drop_eq_getElem_cons h, List.set_cons_zero]
  simp [rowA, List.range_succ]
section
variable {base lb n : Nat} {cs : Array Value} {v gs : Nat → Value} {x y : Nat → List Int} {W : World}
theorem R_narrow {base e : Nat} {k : IntKind} {ok : Nat → Prop} {u : Value} {xs : List Int} (h : Kd.R (Kd.int k) e W base ok u xs) : Kd.R (Kd.int k) e W base (fun b => u.ownBlock = some b) u xs :=
  ⟨fun _ h => h, h.2.imp_ (fun _ _ hp => hp)⟩
theorem R_wide {base e : Nat} {ok : Nat → Prop} {k : IntKind} {u : Value} {xs : List Int} (h : Kd.R (Kd.int k) e W base ok u xs) : Kd.R (Kd.int k) e W base (fun _ => True) u xs := Kd.R_mono h (fun _ _ => trivial)
/-- The first loop's state: the list's block, and its rows, each of one's own. -/
structure HeldA (base lb n : Nat) (cs : Array Value) (v : Nat → Value) (x : Nat → List Int) (W : World) : Prop where
  list : W.heap[lb]? = some (.cells cs 30 (0, 0))
  row : ∀ j, j < n → Kd.R (Kd.int .i64) 3 W base (fun _ => True) (v j) (x j)
def Dist (n : Nat) (v : Nat → Value) : Prop := ∀ i j, i < n → j < n → i ≠ j → ∀ k, (v i).ownBlock = some k → (v j).ownBlock ≠ some k
theorem HeldA.slot (h : HeldA base lb n cs v x W) {i k : Nat} (hi : i < n) (hk : k < (x i).length) : ∃ g c, v i = .slice (some ⟨g, 0, none⟩) (x i).length c ∧ g ≠ lb ∧ base ≤ g ∧ (∃ u, W.cell? ⟨g, k, none⟩ = some (.int .i64 u)) ∧ W.frozen? ⟨g, k, none⟩ = false := by
  obtain ⟨g, c, hv, hg, hlt, cells, hc⟩ := Kd.R_form (h.row i hi) (by omega)
  have hlb : g ≠ lb := by
    rintro rfl
    rw [h.list] at hc
    injection hc with hc
    injection hc with _ hc
    cases hc
  have hr := h.row i hi
  rw [hv] at hr
  have := Kd.R_cell (enc := Value.int .i64) (h1 := fun _ => rfl) (0 : Int) hr (k : Int) (by omega) (by omega)
  rw [Int.toNat_natCast] at this
  exact ⟨g, c, hv, hlb, hg, ⟨_, this.1⟩, this.2⟩
theorem HeldA.put (h : HeldA base lb n cs v x W) (hD : Dist n v) {i k g c : Nat} (hi : i < n) (hv : v i = .slice (some ⟨g, 0, none⟩) (x i).length c) (hg : g ≠ lb) (m : Int) :
    HeldA base lb n cs v (fun j => if j = i then (x i).set k m else x j) (W.setCell ⟨g, k, none⟩ (.int .i64 m)) := by
  refine ⟨(Below.heap_setCell W ⟨g, k, none⟩ _ lb (fun e => hg e.symm)).trans h.list, fun j hj => ?_⟩
  by_cases e : j = i
  · subst e
    simp only [if_true]
    have hr := h.row j hj
    rw [hv] at hr ⊢
    have := (Kd.R_put (enc := Value.int .i64) (h1 := fun _ => rfl) hr (k : Int) m).1
    rw [Int.toNat_natCast] at this
    exact this
  · simp only [if_neg e]
    exact R_wide (Kd.R_far (p := ⟨g, k, none⟩) (R_narrow (h.row j hj)) (fun b hb e' => hD i j hi hj (fun q => e q.symm) g (by rw [hv]; rfl) (by rw [hb, e'])) _)
theorem HeldA.congr (h : HeldA base lb n cs v x W) (e : ∀ j, j < n → x j = y j) : HeldA base lb n cs v y W := ⟨h.list, fun j hj => by rw [← e j hj]; exact h.row j hj⟩
/-! ### one append upon a row of numbers, told exactly -/
theorem came_nums (xs : List Int) : (nums .i64 xs).length = xs.length * 1 := by rw [nums_length, Nat.mul_one]
theorem came_of_own {u : Value} {xs : List Int} (h : W.ownsRow base 3 1 u xs.length (nums .i64 xs)) : ∃ ao b c, u = .slice ao xs.length c ∧ Came W 1 ao b 0 xs.length c (nums .i64 xs) ∧ c ≤ maxLen := by
  obtain ⟨_, ⟨rfl, h1⟩ | ⟨g, cap, cur, rfl, hg, hh, h2, h3, h4, h5⟩⟩ := h
  · obtain rfl : xs = [] := List.eq_nil_of_length_eq_zero h1
    exact ⟨none, 0, 0, rfl, ⟨Nat.le_refl _, fun h => by omega, fun h => by omega, rfl, fun j u h => by simp [nums] at h, fun j h => by simp at h⟩, by simp [maxLen]⟩
  · refine ⟨some ⟨g, 0, none⟩, g, cap, rfl, ⟨h2, fun _ => rfl, fun _ => (Array.getElem?_eq_some_iff.1 hh).1, came_nums xs, fun j u hu => ?_, fun j hj => ⟨?_, blk_frozen hh _⟩⟩, h3⟩
    · rw [Nat.zero_add, blk_cell hh, ← Array.getElem?_toList]
      have hj : j < xs.length := by
        have := (List.getElem?_eq_some_iff.1 hu).1
        rwa [nums_length] at this
      have h6 := congrArg (fun q => q[j]?) h5
      simp only [List.getElem?_take] at h6
      rw [if_pos (by omega), hu] at h6
      exact h6
    · rw [blk_cell hh]
      have : 0 + xs.length * 1 + j < cur.size := by omega
      rw [Array.getElem?_eq_getElem this]
      rfl
theorem nums_app (k : IntKind) (a b : List Int) : nums k (a ++ b) = nums k a ++ nums k b := by simp [nums]
theorem own_append {u : Value} {xs : List Int} (ho : W.ownsRow base 3 1 u xs.length (nums .i64 xs)) (ys : List Int) (t ty : TypeId) (ht : Try.prog.underlying t = some (.slice 3)) (ad : Addr) (c2 : Nat)
    (had : ∀ j z, (nums .i64 ys)[j]? = some z → W.cell? (ad.add j) = some z) (hl : xs.length + ys.length ≤ 17592186044416) (hb : base ≤ W.heap.size) :
    ∃ v' w', (Builtin.append_ #[t, t] ty #[u, .slice (some ad) ys.length c2]).run Try.prog W = .ok v' w' ∧ w'.ownsRow base 3 1 v' (xs ++ ys).length (nums .i64 (xs ++ ys)) ∧ W.grownBy w' u.ownBlock ∧ (v'.ownBlock = u.ownBlock ∨ v'.ownBlock = some W.heap.size) ∧
      ∀ g k, u.ownBlock = some g → k < xs.length → w'.cell? ⟨g, k, none⟩ = W.cell? ⟨g, k, none⟩ := by
  have hinfo : (Try.prog.info? 3).map (fun i => (i.zero, i.size, i.bytes)) = some (some (.int .i64 0), 1, 8) := by kernel_rfl
  obtain ⟨i0, hi, hzz⟩ := Option.map_eq_some_iff.1 hinfo
  simp only [Prod.mk.injEq] at hzz
  obtain ⟨hz0, hz1, hz2⟩ := hzz
  obtain ⟨v', w', hrun, hown, hg, _, hat⟩ := run_append_own_at (P := Try.prog) W base t ty 3 i0 (.int .i64 0) 1 8 ht hi hz0 hz1 hz2 rfl (by decide) u xs.length (nums .i64 xs) ho ad ys.length c2 (nums .i64 ys) (came_nums ys) had (nums_one _ _) (by simp only [maxLen]; omega) (by omega) hb
  refine ⟨v', w', hrun, ?_, hg, hat, fun g k hgv hk => ?_⟩
  · rw [List.length_append, nums_app]
    exact hown
  · obtain ⟨ao, b, c, rfl, hc, hcm⟩ := came_of_own ho
    obtain ⟨v2, w2, hrun2, hup⟩ := run_append_upon (P := Try.prog) hc t t ty i0 (.int .i64 0) 8 ht hi hz0 hz1 hz2 rfl (Upon.start hc) (.slice (some ad) ys.length c2) ys.length (nums .i64 ys) (Src.ofSlice W ht ad ys.length c2 (nums .i64 ys) (came_nums ys) had (nums_one _ _)) (by simp only [maxLen]; omega) (by omega)
    rw [hrun] at hrun2
    injection hrun2 with e1 e2
    subst e2
    exact hup.old (World.ownsRow.lt ho g hgv).2 (fun j _ e' => by omega)
theorem wp_own_append {ops : Array Oper} {rest : List Oper} {o : Oper} {a : Act} {Q : Exit → Act → World → Prop} (hgd : o.guard = none) (s z : Operand) (t : TypeId) (hop : o.op = .call { callee := .builtin .append, args := #[s, z], argTypes := #[t, t] }) (ht : Try.prog.underlying t = some (.slice 3))
    (u : Value) (xs ys : List Int) (ad : Addr) (n2 c2 : Nat) (hs : a.eval s = u) (hx : a.eval z = .slice (some ad) n2 c2) (hn2 : n2 = ys.length) (ho : W.ownsRow base 3 1 u xs.length (nums .i64 xs)) (had : ∀ j z, (nums .i64 ys)[j]? = some z → W.cell? (ad.add j) = some z)
    (hl : xs.length + ys.length ≤ 17592186044416) (hb : base ≤ W.heap.size)
    (h : ∀ v1 w1, w1.ownsRow base 3 1 v1 (xs ++ ys).length (nums .i64 (xs ++ ys)) → W.grownBy w1 u.ownBlock → (v1.ownBlock = u.ownBlock ∨ v1.ownBlock = some W.heap.size) → (∀ g k, u.ownBlock = some g → k < xs.length → w1.cell? ⟨g, k, none⟩ = W.cell? ⟨g, k, none⟩) → wpList Try.prog ops Q rest (a.put o.dst v1) w1) :
    wpList Try.prog ops Q (o :: rest) a W := by
  subst hn2
  obtain ⟨v1, w1, hrun, h1, h2, h3, h4⟩ := own_append ho ys t o.type ht ad c2 had hl hb
  refine wpList_plain hgd fun K hK' => ?_
  unfold Oper.wp
  simp [execOp, hop, resolve, invoke, builtin, hs, hx, hrun, Result.andThen]
  exact hK' _ _ (h v1 w1 h1 h2 h3 h4)
theorem own_kept {W' : World} {e : TypeId} {m : Nat} {u : Value} {z : List Value} {row : Option Nat} (h : W.ownsRow base e 1 u m z) (hg : W.grownBy W' row) (hne : ∀ g, u.ownBlock = some g → row ≠ some g) : W'.ownsRow base e 1 u m z := by
  refine World.ownsRow.kept h hg ?_
  cases e : u.ownBlock with
  | none => exact .inl rfl
  | some g => exact .inr (fun h' => hne g e h'.symm)
theorem own_form {e : TypeId} {u : Value} {m : Nat} {z : List Value} (h : W.ownsRow base e 1 u m z) : ∃ A c, u = .slice A m c := by
  obtain ⟨_, ⟨rfl, rfl⟩ | ⟨g, cap, cur, rfl, _⟩⟩ := h
  · exact ⟨_, _, rfl⟩
  · exact ⟨_, _, rfl⟩
/-- Rows of different elements lie apart. -/
theorem own_apart {e e' : TypeId} {m m' : Nat} {u u' : Value} {z z' : List Value} (h : W.ownsRow base e 1 u m z) (h' : W.ownsRow base e' 1 u' m' z') (hne : e ≠ e') : ∀ g, u.ownBlock = some g → u'.ownBlock ≠ some g := by
  intro g h1 h2
  obtain ⟨c1, k1⟩ := own_typed h g h1
  obtain ⟨c2, k2⟩ := own_typed h' g h2
  rw [k1] at k2
  injection k2 with k2
  injection k2 with _ k2
  exact hne k2
theorem own_lb {e : TypeId} {t : TypeId} {m : Nat} {u : Value} {z : List Value} (hl : W.heap[lb]? = some (.cells cs t (0, 0))) (h : W.ownsRow base e 1 u m z) (hne : e ≠ t) : u.ownBlock ≠ some lb := by
  intro h1
  obtain ⟨c1, k1⟩ := own_typed h lb h1
  rw [hl] at k1
  injection k1 with k1
  injection k1 with _ k1
  exact hne k1.symm
theorem V_of_own {base' : Nat} {ok : Nat → Prop} {u : Value} {z : List Int} (ho : W.ownsRow base 3 1 u z.length (nums .i64 z)) (hok : ∀ k, u.ownBlock = some k → ok k) : Kd.V (Kd.int .i64) 3 W base' ok u z :=
  Kd.R_V (Kd.R_of_own (enc := Value.int .i64) (h1 := fun _ => rfl) ho hok)
theorem own_of_R' {ok : Nat → Prop} {u : Value} {xs : List Int} (h : Kd.R (Kd.int .i64) 3 W base ok u xs) : W.ownsRow base 3 1 u xs.length (nums .i64 xs) := Kd.own_of_R h
theorem V_of_bytes {c : Nat} {ok : Nat → Prop} {A : Option Addr} {z : List Int} (hc : z.length ≤ c) (hm : z.length ≤ 9223372036854775807)
    (hA : 0 < z.length → ∃ g, A = some ⟨g, 0, none⟩ ∧ ok g ∧ g < W.heap.size ∧ ∀ k, k < z.length → W.cell? ⟨g, k, none⟩ = some (.int .i64 (z.getD k 0))) : Kd.V (Kd.int .i64) 3 W base ok (.slice A z.length c) z := by
  refine Kd.V_mk hc fun W' hW => ⟨rfl, hm, fun hp => ?_⟩
  obtain ⟨g, rfl, hok, hlt, hcell⟩ := hA hp
  refine ⟨_, rfl, fun j p hj => ⟨[.int .i64 p], rfl, rfl, fun i u hu => ?_⟩⟩
  have hi : i = 0 := by
    rcases i with _ | i
    · rfl
    · simp at hu
  subst hi
  obtain rfl : Value.int .i64 p = u := by simpa using hu
  have hjn : j < z.length := (List.getElem?_eq_some_iff.1 hj).1
  rw [show j * (Kd.int .i64).sz + 0 = j from Nat.mul_one j]
  have : (⟨g, 0, none⟩ : Addr).add j = ⟨g, j, none⟩ := by unfold Addr.add; split <;> simp_all
  rw [this, World.cell?_of_block (a := ⟨g, j, none⟩) (hW g hok hlt), hcell j hjn]
  simp [List.getD_eq_getElem?_getD, hj]
theorem V_at_add {m c : Nat} {ok : Nat → Prop} {A : Option Addr} {z : List Int} (h : Kd.V (Kd.int .i64) 3 W base ok (.slice A m c) z) (hp : 0 < z.length) : ∃ ad, A = some ad ∧ ∀ j u, (nums .i64 z)[j]? = some u → W.cell? (ad.add j) = some u := by
  obtain ⟨rfl, _, hC⟩ := Kd.V_reads' h
  exact cells_of_C hC hp
/-- The second loop's state ahead of row j. -/
structure HeldB (base lb n : Nat) (cs : Array Value) (v gs : Nat → Value) (x y : Nat → List Int) (mv : Value) (j : Nat) (W : World) : Prop where
  list : W.heap[lb]? = some (.cells cs 30 (0, 0))
  todo : ∀ q, j ≤ q → q < n → W.ownsRow base 3 1 (v q) (x q).length (nums .i64 (x q))
  more : W.ownsRow base 30 1 mv j ((List.range j).map gs)
  lbm : mv.ownBlock ≠ some lb
  old : ∀ q, q < j → q < n → Kd.V (Kd.int .i64) 3 W base (fun b => mv.ownBlock ≠ some b ∧ ∀ j', j ≤ j' → j' < n → (v j').ownBlock ≠ some b) (v q) (x q)
  oldg : ∀ q, q < j → q < n → Kd.V (Kd.int .i64) 3 W base (fun b => mv.ownBlock ≠ some b ∧ ∀ j', j ≤ j' → j' < n → (v j').ownBlock ≠ some b) (gs q) (y q)
theorem HeldB.start (h : HeldA base lb n cs v x W) : HeldB base lb n cs v gs x y (.slice none 0 0) 0 W :=
  ⟨h.list, fun q _ hq => own_of_R' (h.row q hq), ⟨by simp, .inl ⟨rfl, rfl⟩⟩, fun e => (by cases e), fun q h1 => (by omega), fun q h1 => (by omega)⟩
/-- The inner loop's state: m numbers are behind row j, in z. N: the blocks that were there ahead of it. -/
structure HeldC (base lb n N : Nat) (cs : Array Value) (v gs : Nat → Value) (x y : Nat → List Int) (mv : Value) (j m : Nat) (z : Value) (W : World) : Prop where
  size : N ≤ W.heap.size
  lt : lb < N
  list : W.heap[lb]? = some (.cells cs 30 (0, 0))
  row : W.ownsRow base 3 1 z (x j ++ rowB j m).length (nums .i64 (x j ++ rowB j m))
  bytes : ∀ g k, (v j).ownBlock = some g → k < (x j).length → W.cell? ⟨g, k, none⟩ = some (.int .i64 ((x j).getD k 0))
  blk : z.ownBlock = (v j).ownBlock ∨ ∃ b, z.ownBlock = some b ∧ N ≤ b
  todo : ∀ q, j < q → q < n → W.ownsRow base 3 1 (v q) (x q).length (nums .i64 (x q))
  low : ∀ q g, j ≤ q → q < n → (v q).ownBlock = some g → g < N
  form : (v j = .slice none 0 0 ∧ x j = []) ∨ ∃ g c, v j = .slice (some ⟨g, 0, none⟩) (x j).length c ∧ (x j).length ≤ c ∧ c ≤ maxLen
  vm : ∀ g, (v j).ownBlock = some g → mv.ownBlock ≠ some g
  more : W.ownsRow base 30 1 mv j ((List.range j).map gs)
  lbm : mv.ownBlock ≠ some lb
  old : ∀ q, q < j → q < n → Kd.V (Kd.int .i64) 3 W base (fun b => (mv.ownBlock ≠ some b ∧ ∀ j', j ≤ j' → j' < n → (v j').ownBlock ≠ some b) ∧ b < N) (v q) (x q)
  oldg : ∀ q, q < j → q < n → Kd.V (Kd.int .i64) 3 W base (fun b => (mv.ownBlock ≠ some b ∧ ∀ j', j ≤ j' → j' < n → (v j').ownBlock ≠ some b) ∧ b < N) (gs q) (y q)
theorem HeldC.start {mv : Value} {j : Nat} (h : HeldB base lb n cs v gs x y mv j W) (hj : j < n) : HeldC base lb n W.heap.size cs v gs x y mv j 0 (v j) W := by
  have ho := h.todo j (Nat.le_refl _) hj
  refine ⟨Nat.le_refl _, blk_lt h.list, h.list, ?_, fun g k hg hk => ?_, .inl rfl, fun q h1 h2 => h.todo q (by omega) h2, fun q g h1 h2 hg => (World.ownsRow.lt (h.todo q h1 h2) g hg).2, ?_, own_apart ho h.more (by decide), h.more, h.lbm, fun q h1 h2 => Kd.V_bound (h.old q h1 h2), fun q h1 h2 => Kd.V_bound (h.oldg q h1 h2)⟩
  · simpa [rowB] using ho
  · have hc := World.ownsRow.cells ho hg k (.int .i64 ((x j).getD k 0)) (by simp [nums, List.getElem?_eq_getElem hk, List.getD_eq_getElem?_getD])
    have ea : (⟨g, 0, none⟩ : Addr).add k = ⟨g, k, none⟩ := by unfold Addr.add; split <;> simp_all
    rwa [ea] at hc
  · rcases ho.2 with ⟨hv, hl⟩ | ⟨g, cap, cur, hv, hg, hrest⟩
    · exact .inl ⟨hv, List.eq_nil_of_length_eq_zero hl⟩
    · exact .inr ⟨g, cap, hv, hrest.2.1, hrest.2.2.1⟩
theorem HeldC.below {mv z : Value} {N j m : Nat} {w1 : World} (h : HeldC base lb n N cs v gs x y mv j m z W) (hj : j < n) (hb : Below W.heap.size W w1) : HeldC base lb n N cs v gs x y mv j m z w1 := by
  have hg : W.grownBy w1 none := ⟨hb.os, hb.tape, hb.output, hb.size, fun k hk _ => hb.block k hk⟩
  have g1 := hb.size
  have hs := h.size
  exact ⟨by omega, h.lt, blk_below h.list hb, own_kept h.row hg (fun _ _ e => by cases e), fun g k hg' hk => (World.cell?_of_block (a := ⟨g, k, none⟩) (hb.block g (by have := h.low j g (Nat.le_refl _) hj hg'; omega))).trans (h.bytes g k hg' hk), h.blk, fun q hq hqn => own_kept (h.todo q hq hqn) hg (fun _ _ e => by cases e), h.low, h.form, h.vm, own_kept h.more hg (fun _ _ e => by cases e), h.lbm, fun q hq hqn => Kd.V_below (h.old q hq hqn) hb, fun q hq hqn => Kd.V_below (h.oldg q hq hqn) hb⟩
theorem HeldC.step {mv z z1 : Value} {N j m : Nat} {w1 : World} (h : HeldC base lb n N cs v gs x y mv j m z W) (hD : Dist n v) (hj : j < n)
    (h1 : w1.ownsRow base 3 1 z1 ((x j ++ rowB j m) ++ [vB j m]).length (nums .i64 ((x j ++ rowB j m) ++ [vB j m]))) (h2 : W.grownBy w1 z.ownBlock) (h3 : z1.ownBlock = z.ownBlock ∨ z1.ownBlock = some W.heap.size)
    (h4 : ∀ g k, z.ownBlock = some g → k < (x j ++ rowB j m).length → w1.cell? ⟨g, k, none⟩ = W.cell? ⟨g, k, none⟩) : HeldC base lb n N cs v gs x y mv j (m + 1) z1 w1 := by
  have g1 := h2.size
  have hs := h.size
  have hother : ∀ q, j < q → q < n → ∀ g, (v q).ownBlock = some g → z.ownBlock ≠ some g := by
    intro q hq hqn g hg e
    rcases h.blk with hb | ⟨b, hb, hN⟩
    · exact hD j q hj hqn (by omega) g (by rw [← hb, e]) hg
    · have := h.low q g (by omega) hqn hg
      rw [hb] at e
      have := Option.some.inj e
      omega
  have hfoot : ∀ b, ((mv.ownBlock ≠ some b ∧ ∀ j', j ≤ j' → j' < n → (v j').ownBlock ≠ some b) ∧ b < N) → some b ≠ z.ownBlock := by
    intro b hb e
    rcases h.blk with hz | ⟨b', hz, hN⟩
    · exact hb.1.2 j (Nat.le_refl _) hj (by rw [← hz, ← e])
    · rw [hz] at e
      have := Option.some.inj e
      have := hb.2
      omega
  refine ⟨by omega, h.lt, blk_grown h.list h2 (fun e => own_lb h.list h.row (by decide) e.symm), by rw [rowB_succ, ← List.append_assoc]; exact h1, fun g k hg hk => ?_, ?_, fun q hq hqn => own_kept (h.todo q hq hqn) h2 (hother q hq hqn), h.low, h.form, h.vm, own_kept h.more h2 (own_apart h.more h.row (by decide)), h.lbm, fun q hq hqn => Kd.V_grown (h.old q hq hqn) h2 hfoot, fun q hq hqn => Kd.V_grown (h.oldg q hq hqn) h2 hfoot⟩
  · rw [← h.bytes g k hg hk]
    rcases h.blk with hz | ⟨b, hz, hN⟩
    · exact h4 g k (by rw [hz, hg]) (by rw [List.length_append]; omega)
    · have hlow := h.low j g (Nat.le_refl _) hj hg
      exact World.cell?_of_block (a := ⟨g, k, none⟩) (h2.block g (by omega) (by rw [hz]; intro e; have := Option.some.inj e; omega))
  · rcases h3 with h3 | h3
    · rw [h3]; exact h.blk
    · exact .inr ⟨_, h3, hs⟩
theorem HeldC.done {mv mv1 z : Value} {N j m : Nat} {w1 : World} (h : HeldC base lb n N cs v gs x y mv j m z W) (hD : Dist n v) (hj : j < n) (hy : y j = x j ++ rowB j m)
    (h1 : w1.ownsRow base 30 1 mv1 (j + 1) ((List.range j).map gs ++ [z])) (h2 : W.grownBy w1 mv.ownBlock) (h3 : mv1.ownBlock = mv.ownBlock ∨ mv1.ownBlock = some W.heap.size) : HeldB base lb n cs v (fun q => if q = j then z else gs q) x y mv1 (j + 1) w1 := by
  have hs := h.size
  have hz := h.row
  have hlow := h.low
  rw [← hy] at hz
  have hfoot : ∀ b, mv.ownBlock ≠ some b → b < W.heap.size → mv1.ownBlock ≠ some b := by
    intro b hb hlt e
    rcases h3 with h3 | h3
    · exact hb (by rw [← h3, e])
    · rw [h3] at e
      have := Option.some.inj e
      omega
  have hzb : ∀ g, z.ownBlock = some g → mv.ownBlock ≠ some g := own_apart h.row h.more (by decide)
  refine ⟨blk_grown h.list h2 (fun e => h.lbm e.symm), fun q hq hqn => own_kept (h.todo q (by omega) hqn) h2 (fun g hg => own_apart (h.todo q (by omega) hqn) h.more (by decide) g hg), ?_, hfoot lb h.lbm (by have := h.lt; omega), fun q hq hqn => ?_, fun q hq hqn => ?_⟩
  · have : (List.range (j + 1)).map (fun q => if q = j then z else gs q) = (List.range j).map gs ++ [z] := by
      rw [List.range_succ, List.map_append]
      congr 1
      · apply List.map_congr_left
        intro q hq
        have := List.mem_range.1 hq
        simp only [show q ≠ j by omega, if_false]
      · simp
    rw [this]
    exact h1
  · rcases Nat.lt_or_ge q j with hqj | hqj
    · refine Kd.V_mono (Kd.V_grown (Kd.V_bound (h.old q hqj hqn)) h2 (fun b hb e => hb.1.1.1 e.symm)) (fun b hb => ⟨hfoot b hb.1.1.1 (by have := hb.1.2; omega), fun j' h5 h6 => hb.1.1.2 j' (by omega) h6⟩)
    · obtain rfl : q = j := by omega
      have hV : Kd.V (Kd.int .i64) 3 W base (fun b => (v q).ownBlock = some b) (v q) (x q) := by
        rcases h.form with ⟨hv, hx⟩ | ⟨g, c, hv, hc1, hc2⟩
        · rw [hv, hx]
          exact Kd.V_nil _ _ _ _ _
        · have hvb : (v q).ownBlock = some g := by rw [hv]; rfl
          rw [hv]
          exact V_of_bytes hc1 (by simp only [maxLen] at hc2; omega) (fun hp => ⟨g, rfl, rfl, by have := hlow q g (Nat.le_refl _) hqn hvb; omega, fun k hk => h.bytes g k hvb hk⟩)
      refine Kd.V_mono (Kd.V_grown (Kd.V_bound hV) h2 (fun b hb e => h.vm b hb.1 e.symm)) (fun b hb => ⟨hfoot b (h.vm b hb.1) hb.2, fun j' h5 h6 e => hD q j' hj h6 (by omega) b hb.1 e⟩)
  · by_cases hqj : q = j
    · subst hqj
      simp only [if_true]
      have hV := V_of_own (base' := base) (ok := fun b => z.ownBlock = some b) hz (fun k hk => hk)
      refine Kd.V_mono (Kd.V_grown (Kd.V_bound hV) h2 (fun b hb e => hzb b hb.1 e.symm)) (fun b hb => ⟨hfoot b (hzb b hb.1) hb.2, fun j' h5 h6 e => ?_⟩)
      rcases h.blk with hb' | ⟨b', hb', hN⟩
      · exact hD q j' hj h6 (by omega) b (by rw [← hb', hb.1]) e
      · have := hlow j' b (by omega) h6 e
        have h7 := hb.1
        rw [hb'] at h7
        have := Option.some.inj h7
        omega
    · simp only [if_neg hqj]
      have hqj' : q < j := by omega
      refine Kd.V_mono (Kd.V_grown (Kd.V_bound (h.oldg q hqj' hqn)) h2 (fun b hb e => hb.1.1.1 e.symm)) (fun b hb => ⟨hfoot b hb.1.1.1 (by have := hb.1.2; omega), fun j' h5 h6 => hb.1.1.2 j' (by omega) h6⟩)
end
end Co
namespace Co
theorem below_weak {B B' : Nat} {a b : World} (h : Below B' a b) (hb : B ≤ B') : Below B a b := ⟨h.os, h.tape, h.output, h.size, fun k hk => h.block k (by omega)⟩
theorem dist_rising {n : Nat} {v : Nat → Value} (lo : Nat → Nat) (hm : ∀ i, lo i ≤ lo (i + 1)) (h : ∀ i, i < n → ∀ g, (v i).ownBlock = some g → lo i ≤ g ∧ g < lo (i + 1)) : Dist n v := by
  have hmm : ∀ d i, lo i ≤ lo (i + d) := by
    intro d
    induction d with
    | zero => intro i; exact Nat.le_refl _
    | succ d ih => intro i; exact Nat.le_trans (ih i) (hm (i + d))
  intro i j hi hj hij g h1 h2
  have a := h i hi g h1
  have b := h j hj g h2
  rcases Nat.lt_or_ge i j with hlt | hge
  · have := hmm (j - (i + 1)) (i + 1)
    rw [show i + 1 + (j - (i + 1)) = j by omega] at this
    omega
  · have := hmm (i - (j + 1)) (j + 1)
    rw [show j + 1 + (i - (j + 1)) = i by omega] at this
    omega
end Co
theorem Co.info_rows : ∃ i0 : TypeInfo, Try.prog.info? 30 = some i0 ∧ i0.zero = some (.slice none 0 0) ∧ i0.size = 1 ∧ i0.bytes = 24 := by
  have hinfo : (Try.prog.info? 30).map (fun i => (i.zero, i.size, i.bytes)) = some (some (.slice none 0 0), 1, 24) := by kernel_rfl
  obtain ⟨i0, hi, hzz⟩ := Option.map_eq_some_iff.1 hinfo
  simp only [Prod.mk.injEq] at hzz
  exact ⟨i0, hi, hzz.1, hzz.2.1, hzz.2.2⟩
namespace Co
/-- b reads as a does. -/
structure ReadsAs (a b : World) : Prop where
  cell : ∀ p, b.cell? p = a.cell? p
  bel : Below a.heap.size a b
theorem ReadsAs.refl (a : World) : ReadsAs a a := ⟨fun _ => rfl, Below.refl _ _⟩
theorem ReadsAs.drew {a b : World} (h : ReadsAs a b) : ReadsAs a b.drew := ⟨fun p => h.cell p, below_drew1 h.bel⟩
end Co
namespace Co
/-- The last of 1 .. t that the chain lacks; 0: none. -/
def nodeAt (own : List Int) : Nat → Int
  | 0 => 0
  | t + 1 => if own.contains ((t : Int) + 1) then nodeAt own t else (t : Int) + 1
def thereAt (own : List Int) (i : Nat) (n : Int) : Bool := (own.take i).any (· == n)
theorem there_succ (own : List Int) (i : Nat) (n : Int) (h : i < own.length) : thereAt own (i + 1) n = (thereAt own i n || (own.getD i 0 == n)) := by
  unfold thereAt
  rw [List.take_add_one, List.any_append, List.getElem?_eq_getElem h, List.getD_eq_getElem?_getD, List.getElem?_eq_getElem h]
  simp only [Option.toList_some, List.any_cons, List.any_nil, Bool.or_false, Option.getD_some]
theorem there_all (own : List Int) (n : Int) : thereAt own own.length n = own.contains n := by
  unfold thereAt
  rw [List.take_length, List.contains_eq_any_beq]
  congr 1
  funext x
  rw [Bool.beq_comm]
end Co
open Co
set_option maxRecDepth 100000 in
set_option maxHeartbeats 4000000 in
theorem co_walk (k : Nat) (A0 : Option Addr) (c0 : Nat) (l0 own : List Int) (r1 : Int) (r2 b : List Int) (d1 : Int) (d2 : List Int) (w : World) (hr0 : Kd.C (Kd.int .i64) w A0 l0.length l0) (hc0 : l0.length ≤ c0)
    (hmay : hawserlaw16_may.f k l0 = some own) (hfirst : config_First.f own = some (r1, r2, 0)) (henc : config_Encode.f k r1 r2 = some (b, 0)) (hdec : config_Decode.f k b = some (d1, d2, 0)) (halike : config_Alike.f k r1 r2 d1 d2 = some true)
    (hlo : own.length ≤ 1099511627776) (hl2 : r2.length ≤ 1099511627776) (hld : d2.length ≤ 1099511627776)
    (hwith : nodeAt own 8 ≠ 0 → ∃ x1 x2 y1 y2, config_With.f k r1 r2 (nodeAt own 8) = some (x1, x2, 0) ∧ config_Without.f x1 x2 (nodeAt own 8) = some (y1, y2, 0) ∧ x2.length ≤ 1099511627776 ∧ y2.length ≤ 1099511627776) :
    Calls Try.prog 13 #[.slice A0 l0.length c0] w fun e w' => e = .returned (.bool true) ∧ Below w.heap.size w w' := by
  have HM := Aside0.mk hmay
  have HF := Aside0.mk hfirst
  have HE := Aside0.mk henc
  have HDc := Aside0.mk hdec
  have HAl := Aside0.mk halike
  have HR0 := Aside0.mk hr0
  have HW := Aside0.mk hwith
  clear hmay hfirst henc hdec halike hr0 hwith
  go_enter Try.func13, Try.ntmps13
  go_wp2_with (first | (go_at_call 38; refine (hawserlaw16_may.calls k _ _ l0 own _ HR0.out hc0 HM.out).mono ?_; rintro e w1 ⟨u, rfl, hO_, hB1_⟩; obtain ⟨Ao, co, rfl⟩ := Kd.R_slice hO_; have hCo := Aside0.mk (Kd.R_reads' hO_).2.2; have hO := Aside0.mk hO_; have hB1 := Aside0.mk hB1_; clear hO_ hB1_) | go_in)
  go_loopw [5, 4] (fun v5 v4 wq => ∃ t : Nat, t ≤ 8 ∧ v5 = .int .i64 ((t : Int) + 1) ∧ v4 = .int .i64 (nodeAt own t) ∧ wq = w1) (fun v5 _ _ => 9 - (intOf v5).toNat)
  case atStart => exact ⟨0, by omega, rfl, rfl, rfl⟩
  case round =>
    obtain ⟨t, ht, rfl, rfl, rfl⟩ := hrel
    by_cases ht8 : t < 8
    · have hb1 : (t : Int) + 1 ≤ 8 := by omega
      go_wp2
      go_loopw [7, 6] (fun v7 v6 wq => ∃ i : Nat, i ≤ own.length ∧ v7 = .int .i64 i ∧ v6 = .bool (thereAt own i ((t : Int) + 1)) ∧ wq = wr) (fun v7 _ _ => own.length - (intOf v7).toNat)
      case atStart => exact ⟨0, by omega, rfl, rfl, rfl⟩
      case round =>
        obtain ⟨i, hi, rfl, rfl, rfl⟩ := hrel
        by_cases hil : i < own.length
        · have hb2 : (i : Int) < (own.length : Int) := by omega
          obtain ⟨ad, rfl, hcells⟩ := cells_of_C hCo.out (by omega)
          have hci : wr.cell? (ad.add i) = some (.int .i64 (own.getD i 0)) := hcells i _ (by simp [nums, List.getElem?_eq_getElem hil, List.getD_eq_getElem?_getD])
          clear hcells
          have hth := there_succ own i ((t : Int) + 1) hil
          generalize own.getD i 0 = oi at hci hth
          cases hti : thereAt own i ((t : Int) + 1) <;> by_cases hoi : oi = (t : Int) + 1
          all_goals (
            rw [hti] at hth
            go_wp2
            go_roundw
            case rel => exact ⟨i + 1, by omega, by go_num, by rw [hth]; simp [hoi], trivial⟩
            case measure => simp [intOf]; omega)
        · have hie : i = own.length := by omega
          subst hie
          rw [there_all]
          have hnd : nodeAt own (t + 1) = if own.contains ((t : Int) + 1) then nodeAt own t else (t : Int) + 1 := rfl
          cases hcn : own.contains ((t : Int) + 1) with
          | true =>
            rw [hcn] at hnd
            go_wp2
            go_roundw
            case rel => exact ⟨t + 1, by omega, by go_num, by rw [hnd]; rfl, trivial⟩
            case measure => simp [intOf]; omega
          | false =>
            rw [hcn] at hnd
            go_wp2
            go_roundw
            case rel => exact ⟨t + 1, by omega, by go_num, by rw [hnd]; rfl, trivial⟩
            case measure => simp [intOf]; omega
    · have hte : t = 8 := by omega
      subst hte
      have hn8 : IntKind.i64.wrap (nodeAt own 8) = nodeAt own 8 ∨ True := .inr trivial
      clear hn8
      by_cases hnode : nodeAt own 8 = 0
      · go_wp2_with (first | (go_at_call 20; refine (config_First.calls _ _ own r1 r2 0 _ hCo.out (Kd.R_reads' hO.out).2.1 HF.out).mono ?_; rintro e w2 ⟨u2, rfl, hO2_, hB2_⟩; obtain ⟨A2, c2, rfl⟩ := Kd.R_slice hO2_; have f2o := Aside0.mk (Kd.R_alloc (Kd.R_below hO.out hB2_) (.cells #[.int .i64 r1, .slice A2 r2.length c2] 32)); have f2c := Aside0.mk (Kd.R_alloc hO2_ (.cells #[.int .i64 r1, .slice A2 r2.length c2] 32)); have f2v := Aside0.mk (heap_alloc_new w2 (.cells #[.int .i64 r1, .slice A2 r2.length c2] 32)); have b2 := Aside0.mk hB2_; have l2 := Aside0.mk (fun g hg => World.ownsRow.lt (own_of_R' hO2_) g hg); clear hO2_ hB2_) | (go_at_call 25; refine (config_Encode.calls k r1 _ _ r2 b 0 _ (Kd.R_reads' f2c.out).2.2 (Kd.R_reads' f2c.out).2.1 HE.out).mono ?_; rintro e w3 ⟨u3, rfl, hO3_, hB3_⟩; obtain ⟨A3, c3, rfl⟩ := Kd.R_slice hO3_; have f3o := Aside0.mk (Kd.R_below f2o.out hB3_); have f3c := Aside0.mk (Kd.R_below f2c.out hB3_); have f3v := Aside0.mk (blk_below f2v.out hB3_); have f3b := Aside0.mk hO3_; have b3 := Aside0.mk hB3_; clear hO3_ hB3_) | (go_at_call 43; refine (config_Decode.calls k _ _ b d1 d2 0 _ (Kd.R_reads' f3b.out).2.2 (Kd.R_reads' f3b.out).2.1 HDc.out).mono ?_; rintro e w4 ⟨u4, rfl, hO4_, hB4_⟩; obtain ⟨A4, c4, rfl⟩ := Kd.R_slice hO4_; have f4o := Aside0.mk (Kd.R_alloc (Kd.R_below f3o.out hB4_) (.cells #[.int .i64 d1, .slice A4 d2.length c4] 32)); have f4c := Aside0.mk (Kd.R_alloc (Kd.R_below f3c.out hB4_) (.cells #[.int .i64 d1, .slice A4 d2.length c4] 32)); have f4d := Aside0.mk (Kd.R_alloc hO4_ (.cells #[.int .i64 d1, .slice A4 d2.length c4] 32)); have f4v_ := blk_below (blk_below f3v.out hB4_) (below_alloc (Below.refl w4.heap.size w4) (.cells #[.int .i64 d1, .slice A4 d2.length c4] 32)); have f4e := Aside0.mk (heap_alloc_new w4 (.cells #[.int .i64 d1, .slice A4 d2.length c4] 32)); have h80 : (w4.alloc (.cells #[.int .i64 d1, .slice A4 d2.length c4] 32)).cell? ⟨w2.heap.size, 0, none⟩ = some (.int .i64 r1) := blk_cell (w := w4.alloc (.cells #[.int .i64 d1, .slice A4 d2.length c4] 32)) f4v_ 0; have h81 : (w4.alloc (.cells #[.int .i64 d1, .slice A4 d2.length c4] 32)).cell? ⟨w2.heap.size, 1, none⟩ = some (.slice A2 r2.length c2) := blk_cell (w := w4.alloc (.cells #[.int .i64 d1, .slice A4 d2.length c4] 32)) f4v_ 1; have f4v := Aside0.mk f4v_; clear f4v_; have b4 := Aside0.mk hB4_; have l4 := Aside0.mk (fun g hg => World.ownsRow.lt (own_of_R' hO4_) g hg); clear hO4_ hB4_) | (go_at_call 28; refine (config_Alike.calls k r1 _ _ r2 d1 _ _ d2 true _ (Kd.R_reads' f4c.out).2.2 (Kd.R_reads' f4c.out).2.1 (Kd.R_reads' f4d.out).2.2 (Kd.R_reads' f4d.out).2.1 HAl.out).mono ?_; rintro e w5 ⟨rfl, hB5_⟩; have f5o := Aside0.mk (Kd.R_below f4o.out hB5_); have f5c := Aside0.mk (Kd.R_below f4c.out hB5_); have f5d := Aside0.mk (Kd.R_below f4d.out hB5_); have f5v_ := blk_below f4v.out hB5_; have f5e_ := blk_below f4e.out hB5_; have h81' : w5.cell? ⟨w2.heap.size, 1, none⟩ = some (.slice A2 r2.length c2) := blk_cell f5v_ 1; have h80' : w5.cell? ⟨w2.heap.size, 0, none⟩ = some (.int .i64 r1) := blk_cell f5v_ 0; have h121 : w5.cell? ⟨w4.heap.size, 1, none⟩ = some (.slice A4 d2.length c4) := blk_cell f5e_ 1; have f5v := Aside0.mk f5v_; have f5e := Aside0.mk f5e_; clear f5v_ f5e_; have b5 := Aside0.mk hB5_; clear hB5_))
        obtain ⟨cs, hcsd⟩ : ∃ cs : Array Value, cs = #[.slice Ao own.length co, .slice A2 r2.length c2, .slice A4 d2.length c4] := ⟨_, rfl⟩
        obtain ⟨v, hvd⟩ : ∃ v : Nat → Value, v = fun i => cs.getD i undef := ⟨_, rfl⟩
        obtain ⟨x, hxd⟩ : ∃ x : Nat → List Int, x = fun i => [own, r2, d2].getD i [] := ⟨_, rfl⟩
        have e0 : v 0 = .slice Ao own.length co := by rw [hvd, hcsd]; rfl
        have e1 : v 1 = .slice A2 r2.length c2 := by rw [hvd, hcsd]; rfl
        have e2 : v 2 = .slice A4 d2.length c4 := by rw [hvd, hcsd]; rfl
        have x0 : x 0 = own := by rw [hxd]; rfl
        have x1 : x 1 = r2 := by rw [hxd]; rfl
        have x2 : x 2 = d2 := by rw [hxd]; rfl
        have q1 := hB1.out.size
        have q2 := b2.out.size
        have q3 := b3.out.size
        have q4 := b4.out.size
        have q5 := b5.out.size
        have q2a : (w2.alloc (.cells #[.int .i64 r1, .slice A2 r2.length c2] 32)).heap.size = w2.heap.size + 1 := World.size_alloc _ _
        have q4a : (w4.alloc (.cells #[.int .i64 d1, .slice A4 d2.length c4] 32)).heap.size = w4.heap.size + 1 := World.size_alloc _ _
        have hcs : ∀ i, i < 3 → cs[i]? = some (v i) := fun i hi => by
          rw [hvd, hcsd]
          rcases i with _ | _ | _ | i
          · rfl
          · rfl
          · rfl
          · omega
        have hx : ∀ i, i < 3 → (x i).length ≤ 1099511627776 := fun i hi => by
          rcases i with _ | _ | _ | i
          · rw [x0]; exact hlo
          · rw [x1]; exact hl2
          · rw [x2]; exact hld
          · omega
        have hD : Dist 3 v := by
          refine dist_rising (fun i => if i = 0 then 0 else if i = 1 then wr.heap.size else if i = 2 then w3.heap.size else w4.heap.size) (fun i => ?_) (fun i hi g hg => ?_)
          · rcases i with _ | _ | _ | i <;> simp <;> omega
          · rcases i with _ | _ | _ | i
            · rw [e0] at hg
              have := World.ownsRow.lt (own_of_R' hO.out) g hg
              simp
              omega
            · rw [e1] at hg
              have := l2.out g hg
              simp
              omega
            · rw [e2] at hg
              have := l4.out g hg
              simp
              omega
            · omega
        have HA0 : Aside0 (HeldA w.heap.size w5.heap.size 3 cs v x (w5.alloc (.cells #[.slice Ao own.length co, .slice A2 r2.length c2, .slice A4 d2.length c4] 30))) := by
          refine ⟨⟨by rw [hcsd]; exact heap_alloc_new _ _, fun i hi => ?_⟩⟩
          rcases i with _ | _ | _ | i
          · rw [e0, x0]; exact Kd.R_alloc f5o.out _
          · rw [e1, x1]; exact R_wide (Kd.R_lower (Kd.R_alloc f5c.out _) (by omega))
          · rw [e2, x2]; exact R_wide (Kd.R_lower (Kd.R_alloc f5d.out _) (by omega))
          · omega
        have hBA : Aside0 (Below w.heap.size w (w5.alloc (.cells #[.slice Ao own.length co, .slice A2 r2.length c2, .slice A4 d2.length c4] 30))) := ⟨by
          have k1 := hB1.out
          have k2 := (k1.trans (below_weak b2.out (by omega))).alloc (by omega) (.cells #[.int .i64 r1, .slice A2 r2.length c2] 32)
          have k3 := k2.trans (below_weak b3.out (by omega))
          have k4 := (k3.trans (below_weak b4.out (by omega))).alloc (by omega) (.cells #[.int .i64 d1, .slice A4 d2.length c4] 32)
          have k5 := k4.trans (below_weak b5.out (by omega))
          exact k5.alloc (by omega) _⟩
        have hbl : w.heap.size ≤ w5.heap.size := by omega
        clear hcsd hvd hxd e0 e1 e2 x0 x1 x2
        generalize (w5.alloc (.cells #[.slice Ao own.length co, .slice A2 r2.length c2, .slice A4 d2.length c4] 30)) = wA at HA0 hBA ⊢
        go_loopw [20] (fun v20 wq => ∃ i : Nat, i ≤ 3 ∧ v20 = .int .i64 i ∧ Aside0 (HeldA w.heap.size w5.heap.size 3 cs v (fun j => if j < i then rowA j (x j).length else x j) wq) ∧ Aside0 (Below w.heap.size w wq)) (fun v20 _ => 3 - (intOf v20).toNat)
        case atStart => exact ⟨0, by omega, rfl, ⟨HA0.out.congr (fun j _ => by simp)⟩, hBA⟩
        case round =>
          obtain ⟨i, hi, rfl, hR, hB⟩ := hrel
          by_cases hlt : i < 3
          · have hbi : (i : Int) < 3 := by omega
            obtain ⟨Ai, ci, hvi⟩ := Kd.R_slice (HA0.out.row i hlt)
            have hxi := hx i hlt
            go_wp2
            go_loopw [21] (fun v21 wq => ∃ k : Nat, k ≤ (x i).length ∧ v21 = .int .i64 k ∧ Aside0 (HeldA w.heap.size w5.heap.size 3 cs v (fun j => if j < i then rowA j (x j).length else if j = i then toA i k (x i) else x j) wq) ∧ Aside0 (Below w.heap.size w wq)) (fun v21 _ => (x i).length - (intOf v21).toNat)
            case atStart => exact ⟨0, by omega, rfl, ⟨hR.out.congr (fun j _ => by by_cases e : j = i <;> simp [e, toA_zero])⟩, hB⟩
            case round =>
              obtain ⟨k2, hk, rfl, hR2, hB2⟩ := hrel
              have hcl : wr.cell? ⟨w5.heap.size, i, none⟩ = some (.slice Ai (x i).length ci) := by rw [blk_cell hR2.out.list, hcs i hlt, hvi]
              by_cases hlk : k2 < (x i).length
              · have hyi : (if i < i then rowA i (x i).length else if i = i then toA i k2 (x i) else x i) = toA i k2 (x i) := by simp
                have hyl : (toA i k2 (x i)).length = (x i).length := toA_len i k2 (x i) hk
                obtain ⟨g, c9, hv2, hglb, hbg, ⟨u9, hcu⟩, hfu⟩ := hR2.out.slot (k := k2) hlt (by show k2 < (if i < i then rowA i (x i).length else if i = i then toA i k2 (x i) else x i).length; rw [hyi]; omega)
                replace hv2 : v i = .slice (some ⟨g, 0, none⟩) (x i).length c9 := by
                  rw [hv2]
                  show Value.slice _ (if i < i then rowA i (x i).length else if i = i then toA i k2 (x i) else x i).length c9 = _
                  rw [hyi, hyl]
                rw [hv2] at hvi
                obtain ⟨rfl, rfl⟩ : some (⟨g, 0, none⟩ : Addr) = Ai ∧ c9 = ci := by
                  injection hvi with e1 e2 e3
                  exact ⟨e1, e3⟩
                have hbk : (k2 : Int) < ((x i).length : Int) := by omega
                have hval : (-100 * (i : Int) - (k2 : Int) - 1) = vA i k2 := rfl
                have hvw1 : IntKind.i64.wrap (-100 * (i : Int)) = -100 * (i : Int) := by simp only [IntKind.wrap, IntKind.bits, IntKind.signed]; simp; omega
                have hvw2 : IntKind.i64.wrap (-100 * (i : Int) - (k2 : Int)) = -100 * (i : Int) - (k2 : Int) := by simp only [IntKind.wrap, IntKind.bits, IntKind.signed]; simp; omega
                have hvw3 : IntKind.i64.wrap (-100 * (i : Int) - (k2 : Int) - 1) = -100 * (i : Int) - (k2 : Int) - 1 := by simp only [IntKind.wrap, IntKind.bits, IntKind.signed]; simp; omega
                go_wp2
                go_roundw
                case rel =>
                  refine ⟨k2 + 1, by omega, by go_num, ⟨?_⟩, ⟨hB2.out.setCell hbg _⟩⟩
                  have := hR2.out.put hD (i := i) (k := k2) (g := g) (c := c9) hlt (by simp only [Nat.lt_irrefl, if_false, if_true, hyl]; exact hv2) hglb (vA i k2)
                  refine this.congr (fun j _ => ?_)
                  by_cases e : j = i
                  · subst e; simp [toA_set _ _ _ hlk]
                  · simp [e]
                case measure => simp [intOf]; omega
              · have hkk : k2 = (x i).length := by omega
                subst hkk
                go_wp2
                go_roundw
                case rel => exact ⟨i + 1, by omega, by go_num, ⟨hR2.out.congr (fun j _ => by
                  rcases Nat.lt_trichotomy j i with e | e | e
                  · rw [if_pos e, if_pos (by omega)]
                  · subst e; rw [if_neg (by omega), if_pos rfl, if_pos (by omega), toA_full]
                  · rw [if_neg (by omega), if_neg (by omega), if_neg (by omega)])⟩, hB2⟩
                case measure => simp [intOf]; omega
          · have hie : i = 3 := by omega
            subst hie
            rw [show ((3 : Nat) : Int) = 3 from rfl]
            obtain ⟨X, hXd⟩ : ∃ X : Nat → List Int, X = fun j => rowA j (x j).length := ⟨_, rfl⟩
            obtain ⟨Y, hYd⟩ : ∃ Y : Nat → List Int, Y = fun j => X j ++ rowB j 30 := ⟨_, rfl⟩
            have hXl : ∀ j, (X j).length = (x j).length := fun j => by rw [hXd]; exact rowA_len _ _
            have hY : Aside0 (∀ j, Y j = X j ++ rowB j 30) := ⟨fun j => by rw [hYd]⟩
            have hXv : Aside0 (∀ j, X j = rowA j (X j).length) := ⟨fun j => by rw [hXl, hXd]⟩
            have hXb : ∀ j, j < 3 → (X j).length ≤ 1099511627776 := fun j hj => by rw [hXl]; exact hx j hj
            have hLB := Aside0.mk (HeldB.start (gs := fun _ => .slice none 0 0) (y := Y) (hR.out.congr (y := X) (fun j hj => by rw [hXd]; simp [hj])))
            clear hR HA0 hYd hXd hXl hx hBA
            have hinf := info_rows
            go_wp2
            go_loopw [22, 19] (fun v22 v19 wq => ∃ (j : Nat) (gs : Nat → Value) (mv : Value), j ≤ 3 ∧ v22 = .int .i64 j ∧ mv = v19 ∧ Aside0 (HeldB w.heap.size w5.heap.size 3 cs v gs X Y mv j wq) ∧ Aside0 (Below w.heap.size w wq)) (fun v22 _ _ => 3 - (intOf v22).toNat)
            case atStart => exact ⟨0, _, _, by omega, rfl, rfl, hLB, hB⟩
            case round =>
              obtain ⟨j, gs, mv, hj, rfl, rfl, hR, hB⟩ := hrel
              rename World => w6
              by_cases hjn : j < 3
              · have hbj : (j : Int) < 3 := by omega
                obtain ⟨Aj, cj, hvj⟩ := own_form (hR.out.todo j (Nat.le_refl _) hjn)
                have hcl : w6.cell? ⟨w5.heap.size, j, none⟩ = some (.slice Aj (X j).length cj) := by rw [blk_cell hR.out.list, hcs j hjn, hvj]
                have hst := HeldC.start hR.out hjn
                rw [hvj] at hst
                have hXj := hXb j hjn
                have hb6 : w.heap.size ≤ w6.heap.size := hB.out.size
                have hLC0 := Aside0.mk hst
                clear hst hR
                go_wp2
                go_loopw [24, 23] (fun v24 v23 wq => ∃ (m : Nat) (z : Value), m ≤ 30 ∧ v24 = .int .i64 m ∧ z = v23 ∧ Aside0 (HeldC w.heap.size w5.heap.size 3 w6.heap.size cs v gs X Y mv j m z wq) ∧ Aside0 (Below w.heap.size w wq)) (fun v24 _ _ => 30 - (intOf v24).toNat)
                case atStart => exact ⟨0, _, by omega, rfl, rfl, hLC0, hB⟩
                case round =>
                  obtain ⟨m, z, hm, rfl, rfl, hC, hB3⟩ := hrel
                  obtain ⟨Az, cz, hz⟩ := own_form hC.out.row
                  have hlz : (X j ++ rowB j m).length = (X j).length + m := by rw [List.length_append, rowB_len]
                  rw [hlz] at hz
                  subst hz
                  have hb7 : w.heap.size ≤ wr.heap.size := hB3.out.size
                  by_cases hlm : m < 30
                  · have hbm : (m : Int) < 30 := by omega
                    have hval : (100 * (j : Int) + (m : Int) + 1) = vB j m := rfl
                    have hU : Below wr.heap.size wr (wr.alloc (.cells #[.int .i64 (vB j m)] 3)) := below_alloc (Below.refl _ _) _
                    have hCu := Aside0.mk (hC.out.below hjn hU)
                    have hns := World.news_of_block (w := wr.alloc (.cells #[.int .i64 (vB j m)] 3)) (cs := #[.int .i64 (vB j m)]) (t := 3) (fr := (0, 0)) (heap_alloc_new _ _)
                    have hbu : w.heap.size ≤ (wr.alloc (.cells #[.int .i64 (vB j m)] 3)).heap.size := by rw [World.size_alloc]; omega
                    go_wp2_with (first | ((with_reducible refine gate_builtin (b := .append) (xs := #[.tmp 156, .tmp 162]) rfl ?_); at_builtin; refine wp_own_append (base := w.heap.size) rfl (.tmp 156) (.tmp 162) 30 rfl Try.underlying30 (.slice Az ((X j).length + m) cz) (X j ++ rowB j m) [vB j m] ⟨wr.heap.size, 0, none⟩ 1 1 ?s_ ?x_ rfl hCu.out.row hns ?l_ hbu ?_; (case s_ => go_simp); (case x_ => go_simp); (case l_ => rw [hlz]; simp only [List.length_singleton]; omega); intro z1 w7 h1_ h2_ h3_ h4_; have h1 := Aside0.mk h1_; have h2 := Aside0.mk h2_; have h3 := Aside0.mk h3_; have h4 := Aside0.mk h4_; clear h1_ h2_ h3_ h4_) | go_in)
                    go_roundw
                    case rel => exact ⟨m + 1, _, by omega, by go_num, rfl, ⟨hCu.out.step hD hjn h1.out h2.out h3.out h4.out⟩, ⟨Below.grown (hB3.out.trans (below_weak hU (by omega))) h2.out hbu (fun k hk => (World.ownsRow.lt hCu.out.row k hk).1)⟩⟩
                    case measure => simp [intOf]; omega
                  · have hme : m = 30 := by omega
                    subst hme
                    have hU : Below wr.heap.size wr (wr.alloc (.cells #[.slice Az ((X j).length + 30) cz] 30)) := below_alloc (Below.refl _ _) _
                    have hCu := Aside0.mk (hC.out.below hjn hU)
                    have hns := World.news_of_block (w := wr.alloc (.cells #[.slice Az ((X j).length + 30) cz] 30)) (cs := #[.slice Az ((X j).length + 30) cz]) (t := 30) (fr := (0, 0)) (heap_alloc_new _ _)
                    have hbu : w.heap.size ≤ (wr.alloc (.cells #[.slice Az ((X j).length + 30) cz] 30)).heap.size := by rw [World.size_alloc]; omega
                    obtain ⟨i0, hi0, hz0, hz1, hz2⟩ := hinf
                    go_wp2_with (first | ((with_reducible refine gate_builtin (b := .append) (xs := #[.tmp 164, .tmp 166]) rfl ?_); at_builtin; refine wpList_append_own_at _ rfl (.tmp 164) (.tmp 166) 65 rfl w.heap.size 30 i0 (.slice none 0 0) 1 24 Try.underlying65 hi0 hz0 hz1 hz2 rfl (by decide) mv j ((List.range j).map gs) ?s_ hCu.out.more ⟨wr.heap.size, 0, none⟩ 1 1 [.slice Az ((X j).length + 30) cz] ?x_ rfl hns ?o_ ?l_ ?b_ hbu ?_; (case s_ => go_simp); (case x_ => go_simp); (case o_ => intro u9 hu9; obtain rfl := List.mem_singleton.1 hu9; rfl); (case l_ => simp only [maxLen]; omega); (case b_ => omega); intro mv1 w7 h1_ h2_ h9_ h3_; have h1 := Aside0.mk h1_; have h2 := Aside0.mk h2_; have h3 := Aside0.mk h3_; clear h1_ h2_ h3_ h9_) | go_in)
                    go_roundw
                    case rel => exact ⟨j + 1, _, mv1, by omega, by go_num, rfl, ⟨hCu.out.done hD hjn (hY.out j) h1.out h2.out h3.out⟩, ⟨Below.grown (hB3.out.trans (below_weak hU (by omega))) h2.out hbu (fun k hk => (World.ownsRow.lt hCu.out.more k hk).1)⟩⟩
                    case measure => simp [intOf]; omega
              · have hje : j = 3 := by omega
                subst hje
                rw [show ((3 : Nat) : Int) = 3 from rfl]
                obtain ⟨mb, cm, rfl, hmb⟩ : ∃ mb cm, mv = .slice (some ⟨mb, 0, none⟩) 3 cm ∧ mv.ownBlock = some mb := by
                  rcases hR.out.more.2 with ⟨_, h9⟩ | ⟨mb, cap, cur, h9, _⟩
                  · omega
                  · exact ⟨mb, cap, h9, by rw [h9]; rfl⟩
                have hmc : ∀ p, p < 3 → w6.cell? ⟨mb, p, none⟩ = some (gs p) := fun p hp => by
                  have h9 := World.ownsRow.cells hR.out.more hmb p (gs p) (by simp [hp])
                  have ea : (⟨mb, 0, none⟩ : Addr).add p = ⟨mb, p, none⟩ := by unfold Addr.add; split <;> simp_all
                  rwa [ea] at h9
                have hhc : ∀ p, p < 3 → w6.cell? ⟨w5.heap.size, p, none⟩ = some (v p) := fun p hp => by rw [blk_cell hR.out.list, hcs p hp]
                have HMc := Aside0.mk hmc
                have HHc := Aside0.mk hhc
                clear hmc hhc
                go_wp2
                go_loopw [25] (fun v25 wq => ∃ p : Nat, p ≤ 3 ∧ v25 = .int .i64 p ∧ Aside0 (ReadsAs w6 wq)) (fun v25 _ => 3 - (intOf v25).toNat)
                case atStart => exact ⟨0, by omega, rfl, ⟨ReadsAs.refl _⟩⟩
                case round =>
                  obtain ⟨p, hp, rfl, hQ⟩ := hrel
                  rename World => w9
                  by_cases hpn : p < 3
                  · have hbp : (p : Int) < 3 := by omega
                    have hVv := hR.out.old p hpn hpn
                    have hVg := hR.out.oldg p hpn hpn
                    obtain ⟨Av, cv, hvv⟩ := Kd.V_slice hVv
                    obtain ⟨Ag, cg, hvg⟩ := Kd.V_slice hVg
                    have hYl : (Y p).length = (X p).length + 30 := by rw [hY.out p, List.length_append, rowB_len]
                    have hcl6 := HHc.out p hpn
                    have hcm6 := HMc.out p hpn
                    rw [hvv] at hcl6 hVv
                    rw [hvg] at hcm6 hVg
                    obtain ⟨adg, rfl, hgc⟩ := V_at_add hVg (by omega)
                    have HG := Aside0.mk hgc
                    have HV := Aside0.mk hVv
                    clear hgc hVv hVg
                    rw [hYl] at hcm6
                    have HL6 := Aside0.mk hcl6
                    have HM6 := Aside0.mk hcm6
                    clear hcl6 hcm6
                    have hXp := hXb p hpn
                    go_wp2
                    go_loopw [26] (fun v26 wq => ∃ k2 : Nat, k2 ≤ (X p).length ∧ v26 = .int .i64 k2 ∧ Aside0 (ReadsAs w6 wq)) (fun v26 _ => (X p).length - (intOf v26).toNat)
                    case atStart => exact ⟨0, by omega, rfl, hQ⟩
                    case round =>
                      obtain ⟨k2, hk2, rfl, hQ2⟩ := hrel
                      have hcl := (hQ2.out.cell _).trans HL6.out
                      by_cases hlk : k2 < (X p).length
                      · have hbk : (k2 : Int) < ((X p).length : Int) := by omega
                        obtain ⟨adv, rfl, hvc⟩ := V_at_add HV.out (by omega)
                        have hce := (hQ2.out.cell _).trans (hvc k2 (.int .i64 (-100 * (p : Int) - (k2 : Int) - 1)) (by rw [hXv.out p]; simp [nums, rowA, vA, hlk]))
                        clear hvc
                        have hvw1 : IntKind.i64.wrap (-100 * (p : Int)) = -100 * (p : Int) := by simp only [IntKind.wrap, IntKind.bits, IntKind.signed]; simp; omega
                        have hvw2 : IntKind.i64.wrap (-100 * (p : Int) - (k2 : Int)) = -100 * (p : Int) - (k2 : Int) := by simp only [IntKind.wrap, IntKind.bits, IntKind.signed]; simp; omega
                        have hvw3 : IntKind.i64.wrap (-100 * (p : Int) - (k2 : Int) - 1) = -100 * (p : Int) - (k2 : Int) - 1 := by simp only [IntKind.wrap, IntKind.bits, IntKind.signed]; simp; omega
                        go_wp2
                        go_roundw
                        case rel => exact ⟨k2 + 1, by omega, by go_num, hQ2⟩
                        case measure => simp [intOf]; omega
                      · have hke : k2 = (X p).length := by omega
                        subst hke
                        go_wp2
                        go_loopw [27] (fun v27 wq => ∃ k3 : Nat, k3 ≤ 30 ∧ v27 = .int .i64 k3 ∧ Aside0 (ReadsAs w6 wq)) (fun v27 _ => 30 - (intOf v27).toNat)
                        case atStart => exact ⟨0, by omega, rfl, hQ2⟩
                        case round =>
                          obtain ⟨k3, hk3, rfl, hQ3⟩ := hrel
                          have hcl := (hQ3.out.cell _).trans HL6.out
                          have hcm := (hQ3.out.cell _).trans HM6.out
                          by_cases hl3 : k3 < 30
                          · have hb3 : (k3 : Int) < 30 := by omega
                            have hb4 : ((X p).length : Int) + (k3 : Int) < ((X p).length : Int) + 30 := by omega
                            have hce := (hQ3.out.cell _).trans (HG.out ((X p).length + k3) (.int .i64 (100 * (p : Int) + (k3 : Int) + 1)) (by rw [hY.out p]; simp [nums, rowB, vB, hl3]))
                            have hw1 : IntKind.i64.wrap (((X p).length : Int) + (k3 : Int)) = ((X p).length : Int) + (k3 : Int) := by simp only [IntKind.wrap, IntKind.bits, IntKind.signed]; simp; omega
                            have h0 : (0 : Int) ≤ ((X p).length : Int) + (k3 : Int) := by omega
                            have hw2 : IntKind.i64.wrap (100 * (p : Int)) = 100 * (p : Int) := by simp only [IntKind.wrap, IntKind.bits, IntKind.signed]; simp; omega
                            have hw3 : IntKind.i64.wrap (100 * (p : Int) + (k3 : Int)) = 100 * (p : Int) + (k3 : Int) := by simp only [IntKind.wrap, IntKind.bits, IntKind.signed]; simp; omega
                            have hw4 : IntKind.i64.wrap (100 * (p : Int) + (k3 : Int) + 1) = 100 * (p : Int) + (k3 : Int) + 1 := by simp only [IntKind.wrap, IntKind.bits, IntKind.signed]; simp; omega
                            have htn : (((X p).length : Int) + (k3 : Int)).toNat = (X p).length + k3 := by omega
                            go_wp2
                            go_still (by kernel_rfl)
                            go_wp2
                            go_roundw
                            case rel => exact ⟨k3 + 1, by omega, by go_num, ⟨hQ3.out.drew⟩⟩
                            case measure => simp [intOf]; omega
                          · have hke : k3 = 30 := by omega
                            subst hke
                            go_wp2
                            go_roundw
                            case rel => exact ⟨p + 1, by omega, by go_num, hQ3⟩
                            case measure => simp [intOf]; omega
                  · have hpe : p = 3 := by omega
                    subst hpe
                    go_wp2
                    go_ret
                    exact ⟨rfl, hB.out.trans (below_weak hQ.out.bel hB.out.size)⟩
      · obtain ⟨x1, x2, y1, y2, hWi_, hWo_, hlx, hly⟩ := HW.out hnode
        have HWi := Aside0.mk hWi_
        have HWo := Aside0.mk hWo_
        clear hWi_ hWo_
        go_wp2_with (first | (go_at_call 20; refine (config_First.calls _ _ own r1 r2 0 _ hCo.out (Kd.R_reads' hO.out).2.1 HF.out).mono ?_; rintro e w2 ⟨u2, rfl, hO2_, hB2_⟩; obtain ⟨A2, c2, rfl⟩ := Kd.R_slice hO2_; have f2o := Aside0.mk (Kd.R_alloc (Kd.R_below hO.out hB2_) (.cells #[.int .i64 r1, .slice A2 r2.length c2] 32)); have f2c := Aside0.mk (Kd.R_alloc hO2_ (.cells #[.int .i64 r1, .slice A2 r2.length c2] 32)); have f2v := Aside0.mk (heap_alloc_new w2 (.cells #[.int .i64 r1, .slice A2 r2.length c2] 32)); have b2 := Aside0.mk hB2_; have l2 := Aside0.mk (fun g hg => World.ownsRow.lt (own_of_R' hO2_) g hg); clear hO2_ hB2_) | (go_at_call 25; refine (config_Encode.calls k r1 _ _ r2 b 0 _ (Kd.R_reads' f2c.out).2.2 (Kd.R_reads' f2c.out).2.1 HE.out).mono ?_; rintro e w3 ⟨u3, rfl, hO3_, hB3_⟩; obtain ⟨A3, c3, rfl⟩ := Kd.R_slice hO3_; have f3o := Aside0.mk (Kd.R_below f2o.out hB3_); have f3c := Aside0.mk (Kd.R_below f2c.out hB3_); have f3v := Aside0.mk (blk_below f2v.out hB3_); have f3b := Aside0.mk hO3_; have b3 := Aside0.mk hB3_; clear hO3_ hB3_) | (go_at_call 43; refine (config_Decode.calls k _ _ b d1 d2 0 _ (Kd.R_reads' f3b.out).2.2 (Kd.R_reads' f3b.out).2.1 HDc.out).mono ?_; rintro e w4 ⟨u4, rfl, hO4_, hB4_⟩; obtain ⟨A4, c4, rfl⟩ := Kd.R_slice hO4_; have f4o := Aside0.mk (Kd.R_alloc (Kd.R_below f3o.out hB4_) (.cells #[.int .i64 d1, .slice A4 d2.length c4] 32)); have f4c := Aside0.mk (Kd.R_alloc (Kd.R_below f3c.out hB4_) (.cells #[.int .i64 d1, .slice A4 d2.length c4] 32)); have f4d := Aside0.mk (Kd.R_alloc hO4_ (.cells #[.int .i64 d1, .slice A4 d2.length c4] 32)); have f4v_ := blk_below (blk_below f3v.out hB4_) (below_alloc (Below.refl w4.heap.size w4) (.cells #[.int .i64 d1, .slice A4 d2.length c4] 32)); have f4e := Aside0.mk (heap_alloc_new w4 (.cells #[.int .i64 d1, .slice A4 d2.length c4] 32)); have h80 : (w4.alloc (.cells #[.int .i64 d1, .slice A4 d2.length c4] 32)).cell? ⟨w2.heap.size, 0, none⟩ = some (.int .i64 r1) := blk_cell (w := w4.alloc (.cells #[.int .i64 d1, .slice A4 d2.length c4] 32)) f4v_ 0; have h81 : (w4.alloc (.cells #[.int .i64 d1, .slice A4 d2.length c4] 32)).cell? ⟨w2.heap.size, 1, none⟩ = some (.slice A2 r2.length c2) := blk_cell (w := w4.alloc (.cells #[.int .i64 d1, .slice A4 d2.length c4] 32)) f4v_ 1; have f4v := Aside0.mk f4v_; clear f4v_; have b4 := Aside0.mk hB4_; have l4 := Aside0.mk (fun g hg => World.ownsRow.lt (own_of_R' hO4_) g hg); clear hO4_ hB4_) | (go_at_call 28; refine (config_Alike.calls k r1 _ _ r2 d1 _ _ d2 true _ (Kd.R_reads' f4c.out).2.2 (Kd.R_reads' f4c.out).2.1 (Kd.R_reads' f4d.out).2.2 (Kd.R_reads' f4d.out).2.1 HAl.out).mono ?_; rintro e w5 ⟨rfl, hB5_⟩; have f5o := Aside0.mk (Kd.R_below f4o.out hB5_); have f5c := Aside0.mk (Kd.R_below f4c.out hB5_); have f5d := Aside0.mk (Kd.R_below f4d.out hB5_); have f5v_ := blk_below f4v.out hB5_; have f5e_ := blk_below f4e.out hB5_; have h81' : w5.cell? ⟨w2.heap.size, 1, none⟩ = some (.slice A2 r2.length c2) := blk_cell f5v_ 1; have h80' : w5.cell? ⟨w2.heap.size, 0, none⟩ = some (.int .i64 r1) := blk_cell f5v_ 0; have h121 : w5.cell? ⟨w4.heap.size, 1, none⟩ = some (.slice A4 d2.length c4) := blk_cell f5e_ 1; have h80h : (w5.alloc (.cells #[.slice Ao own.length co, .slice A2 r2.length c2, .slice A4 d2.length c4] 30)).cell? ⟨w2.heap.size, 0, none⟩ = some (.int .i64 r1) := blk_cell (w := w5.alloc (.cells #[.slice Ao own.length co, .slice A2 r2.length c2, .slice A4 d2.length c4] 30)) (blk_below f5v_ (below_alloc (Below.refl w5.heap.size w5) (.cells #[.slice Ao own.length co, .slice A2 r2.length c2, .slice A4 d2.length c4] 30))) 0; have h81h : (w5.alloc (.cells #[.slice Ao own.length co, .slice A2 r2.length c2, .slice A4 d2.length c4] 30)).cell? ⟨w2.heap.size, 1, none⟩ = some (.slice A2 r2.length c2) := blk_cell (w := w5.alloc (.cells #[.slice Ao own.length co, .slice A2 r2.length c2, .slice A4 d2.length c4] 30)) (blk_below f5v_ (below_alloc (Below.refl w5.heap.size w5) (.cells #[.slice Ao own.length co, .slice A2 r2.length c2, .slice A4 d2.length c4] 30))) 1; have f5v := Aside0.mk f5v_; have f5e := Aside0.mk f5e_; clear f5v_ f5e_; have b5 := Aside0.mk hB5_; clear hB5_) | (go_at_call 40; refine (config_With.calls k r1 (fun _ => True) _ _ r2 (nodeAt own 8) x1 x2 0 _ (Kd.R_V (Kd.R_alloc f5c.out (.cells #[.slice Ao own.length co, .slice A2 r2.length c2, .slice A4 d2.length c4] 30))) HWi.out).mono ?_; rintro e w6 ⟨u6, rfl, hO6_, hB6_⟩; obtain ⟨A6, c6, rfl⟩ := Kd.R_slice hO6_; have f6o := Aside0.mk (Kd.R_alloc (Kd.R_below (Kd.R_alloc f5o.out (.cells #[.slice Ao own.length co, .slice A2 r2.length c2, .slice A4 d2.length c4] 30)) hB6_) (.cells #[.int .i64 x1, .slice A6 x2.length c6] 32)); have f6c := Aside0.mk (Kd.R_alloc (Kd.R_below (Kd.R_alloc f5c.out (.cells #[.slice Ao own.length co, .slice A2 r2.length c2, .slice A4 d2.length c4] 30)) hB6_) (.cells #[.int .i64 x1, .slice A6 x2.length c6] 32)); have f6d := Aside0.mk (Kd.R_alloc (Kd.R_below (Kd.R_alloc f5d.out (.cells #[.slice Ao own.length co, .slice A2 r2.length c2, .slice A4 d2.length c4] 30)) hB6_) (.cells #[.int .i64 x1, .slice A6 x2.length c6] 32)); have f6x := Aside0.mk (Kd.R_alloc hO6_ (.cells #[.int .i64 x1, .slice A6 x2.length c6] 32)); have f6h := Aside0.mk (blk_below (blk_below (heap_alloc_new w5 (.cells #[.slice Ao own.length co, .slice A2 r2.length c2, .slice A4 d2.length c4] 30)) hB6_) (below_alloc (Below.refl w6.heap.size w6) (.cells #[.int .i64 x1, .slice A6 x2.length c6] 32))); have f6v := Aside0.mk (heap_alloc_new w6 (.cells #[.int .i64 x1, .slice A6 x2.length c6] 32)); have b6 := Aside0.mk hB6_; have l6 := Aside0.mk (fun g hg => World.ownsRow.lt (own_of_R' hO6_) g hg); clear hO6_ hB6_) | (go_at_call 39; refine (config_Without.calls x1 (fun _ => True) _ _ x2 (nodeAt own 8) y1 y2 0 _ (Kd.R_V (R_wide f6x.out)) HWo.out).mono ?_; rintro e w7 ⟨u7, rfl, hO7_, hB7_⟩; obtain ⟨A7, c7, rfl⟩ := Kd.R_slice hO7_; have f7o := Aside0.mk (Kd.R_alloc (Kd.R_alloc (Kd.R_below f6o.out hB7_) (.cells #[.int .i64 y1, .slice A7 y2.length c7] 32)) (.cells #[.slice A6 x2.length c6, .slice A7 y2.length c7] 30)); have f7c := Aside0.mk (Kd.R_alloc (Kd.R_alloc (Kd.R_below f6c.out hB7_) (.cells #[.int .i64 y1, .slice A7 y2.length c7] 32)) (.cells #[.slice A6 x2.length c6, .slice A7 y2.length c7] 30)); have f7d := Aside0.mk (Kd.R_alloc (Kd.R_alloc (Kd.R_below f6d.out hB7_) (.cells #[.int .i64 y1, .slice A7 y2.length c7] 32)) (.cells #[.slice A6 x2.length c6, .slice A7 y2.length c7] 30)); have f7x := Aside0.mk (Kd.R_alloc (Kd.R_alloc (Kd.R_below f6x.out hB7_) (.cells #[.int .i64 y1, .slice A7 y2.length c7] 32)) (.cells #[.slice A6 x2.length c6, .slice A7 y2.length c7] 30)); have f7y := Aside0.mk (Kd.R_alloc (Kd.R_alloc hO7_ (.cells #[.int .i64 y1, .slice A7 y2.length c7] 32)) (.cells #[.slice A6 x2.length c6, .slice A7 y2.length c7] 30)); have f7h := Aside0.mk (blk_below (blk_below (blk_below f6h.out hB7_) (below_alloc (Below.refl w7.heap.size w7) (.cells #[.int .i64 y1, .slice A7 y2.length c7] 32))) (below_alloc (Below.refl _ (w7.alloc (.cells #[.int .i64 y1, .slice A7 y2.length c7] 32))) (.cells #[.slice A6 x2.length c6, .slice A7 y2.length c7] 30))); have hx151 : (w7.alloc (.cells #[.int .i64 y1, .slice A7 y2.length c7] 32)).cell? ⟨w6.heap.size, 1, none⟩ = some (.slice A6 x2.length c6) := blk_cell (w := w7.alloc (.cells #[.int .i64 y1, .slice A7 y2.length c7] 32)) (blk_below (blk_below f6v.out hB7_) (below_alloc (Below.refl w7.heap.size w7) (.cells #[.int .i64 y1, .slice A7 y2.length c7] 32))) 1; have b7 := Aside0.mk hB7_; have l7 := Aside0.mk (fun g hg => World.ownsRow.lt (own_of_R' hO7_) g hg); clear hO7_ hB7_) | ((with_reducible refine gate_builtin (b := .append) (xs := #[.tmp 109, .tmp 114]) rfl ?_); at_builtin; have hn9 := heap_alloc_new (w7.alloc (.cells #[.int .i64 y1, .slice A7 y2.length c7] 32)) (.cells #[.slice A6 x2.length c6, .slice A7 y2.length c7] 30); rw [World.size_alloc] at hn9; have hns := World.news_of_block (w := (w7.alloc (.cells #[.int .i64 y1, .slice A7 y2.length c7] 32)).alloc (.cells #[.slice A6 x2.length c6, .slice A7 y2.length c7] 30)) (cs := #[.slice A6 x2.length c6, .slice A7 y2.length c7]) (t := 30) (fr := (0, 0)) hn9; have q1 := hB1.out.size; have q2 := b2.out.size; have q3 := b3.out.size; have q4 := b4.out.size; have q5 := b5.out.size; have q6 := b6.out.size; have q7 := b7.out.size; have q2a : (w2.alloc (.cells #[.int .i64 r1, .slice A2 r2.length c2] 32)).heap.size = w2.heap.size + 1 := World.size_alloc _ _; have q4a : (w4.alloc (.cells #[.int .i64 d1, .slice A4 d2.length c4] 32)).heap.size = w4.heap.size + 1 := World.size_alloc _ _; have q5a : (w5.alloc (.cells #[.slice Ao own.length co, .slice A2 r2.length c2, .slice A4 d2.length c4] 30)).heap.size = w5.heap.size + 1 := World.size_alloc _ _; have q6a : (w6.alloc (.cells #[.int .i64 x1, .slice A6 x2.length c6] 32)).heap.size = w6.heap.size + 1 := World.size_alloc _ _; have q8 : ((w7.alloc (.cells #[.int .i64 y1, .slice A7 y2.length c7] 32)).alloc (.cells #[.slice A6 x2.length c6, .slice A7 y2.length c7] 30)).heap.size = w7.heap.size + 1 + 1 := (by rw [World.size_alloc, World.size_alloc]); have hown : ((w7.alloc (.cells #[.int .i64 y1, .slice A7 y2.length c7] 32)).alloc (.cells #[.slice A6 x2.length c6, .slice A7 y2.length c7] 30)).ownsRow w.heap.size 30 1 (.slice (some ⟨w5.heap.size, 0, none⟩) 3 3) 3 [.slice Ao own.length co, .slice A2 r2.length c2, .slice A4 d2.length c4] := ⟨rfl, .inr ⟨w5.heap.size, 3, _, rfl, (by omega), f7h.out, Nat.le_refl _, (by simp [maxLen]), rfl, rfl⟩⟩; have hbb : w.heap.size ≤ ((w7.alloc (.cells #[.int .i64 y1, .slice A7 y2.length c7] 32)).alloc (.cells #[.slice A6 x2.length c6, .slice A7 y2.length c7] 30)).heap.size := (by omega); refine info_rows.elim fun i0 hi9 => ?_; refine wpList_append_own_at _ rfl (.tmp 109) (.tmp 114) 65 rfl w.heap.size 30 i0 (.slice none 0 0) 1 24 Try.underlying65 hi9.1 hi9.2.1 hi9.2.2.1 hi9.2.2.2 rfl (by decide) (.slice (some ⟨w5.heap.size, 0, none⟩) 3 3) 3 [.slice Ao own.length co, .slice A2 r2.length c2, .slice A4 d2.length c4] ?s_ hown ⟨w7.heap.size + 1, 0, none⟩ 2 2 [.slice A6 x2.length c6, .slice A7 y2.length c7] ?x_ rfl hns ?o_ (by decide) (by decide) hbb ?_; (case s_ => go_simp); (case x_ => go_simp); (case o_ => intro u9 hu9; simp only [List.mem_cons, List.not_mem_nil, or_false] at hu9; rcases hu9 with rfl | rfl <;> rfl); intro hv9 w9 h1_ h2_ h9_ h3_; have h1 := Aside0.mk h1_; have h2 := Aside0.mk h2_; clear h1_ h2_ h3_ h9_ hn9 hns hi9))
        obtain ⟨lb, cm9, cur, rfl, hlbb, hlbh, hlbc⟩ : ∃ lb cm9 cur, hv9 = .slice (some ⟨lb, 0, none⟩) 5 cm9 ∧ w.heap.size ≤ lb ∧ w9.heap[lb]? = some (.cells cur 30 (0, 0)) ∧ ∀ i u, ([.slice Ao own.length co, .slice A2 r2.length c2, .slice A4 d2.length c4, .slice A6 x2.length c6, .slice A7 y2.length c7] : List Value)[i]? = some u → cur[i]? = some u := by
          rcases h1.out.2 with ⟨_, h9⟩ | ⟨lb, cap, cur, h9, h10, h11, h12, h13, h14, h15⟩
          · omega
          · refine ⟨lb, cap, cur, h9, h10, h11, fun i u hu => ?_⟩
            rw [← Array.getElem?_toList]
            have h16 := congrArg (fun q => q[i]?) h15
            simp only [List.getElem?_take] at h16
            have hi : i < 5 := by have := (List.getElem?_eq_some_iff.1 hu).1; simpa using this
            rw [if_pos (by simpa using hi)] at h16
            rw [h16]
            exact hu
        obtain ⟨cs, hcsd⟩ : ∃ cs : Array Value, cs = cur := ⟨_, rfl⟩
        obtain ⟨v, hvd⟩ : ∃ v : Nat → Value, v = fun i => ([.slice Ao own.length co, .slice A2 r2.length c2, .slice A4 d2.length c4, .slice A6 x2.length c6, .slice A7 y2.length c7] : List Value).getD i undef := ⟨_, rfl⟩
        obtain ⟨x, hxd⟩ : ∃ x : Nat → List Int, x = fun i => [own, r2, d2, x2, y2].getD i [] := ⟨_, rfl⟩
        have e0 : v 0 = .slice Ao own.length co := by rw [hvd]; rfl
        have e1 : v 1 = .slice A2 r2.length c2 := by rw [hvd]; rfl
        have e2 : v 2 = .slice A4 d2.length c4 := by rw [hvd]; rfl
        have e3 : v 3 = .slice A6 x2.length c6 := by rw [hvd]; rfl
        have e4 : v 4 = .slice A7 y2.length c7 := by rw [hvd]; rfl
        have x0 : x 0 = own := by rw [hxd]; rfl
        have z1 : x 1 = r2 := by rw [hxd]; rfl
        have z2 : x 2 = d2 := by rw [hxd]; rfl
        have z3 : x 3 = x2 := by rw [hxd]; rfl
        have z4 : x 4 = y2 := by rw [hxd]; rfl
        have hcs : ∀ i, i < 5 → cs[i]? = some (v i) := fun i hi => by
          rw [hcsd]
          refine hlbc i (v i) ?_
          rw [hvd]
          rcases i with _ | _ | _ | _ | _ | i
          · rfl
          · rfl
          · rfl
          · rfl
          · rfl
          · omega
        have hx : ∀ i, i < 5 → (x i).length ≤ 1099511627776 := fun i hi => by
          rcases i with _ | _ | _ | _ | _ | i
          · rw [x0]; exact hlo
          · rw [z1]; exact hl2
          · rw [z2]; exact hld
          · rw [z3]; exact hlx
          · rw [z4]; exact hly
          · omega
        have hD : Dist 5 v := by
          refine dist_rising (fun i => if i = 0 then 0 else if i = 1 then wr.heap.size else if i = 2 then w3.heap.size else if i = 3 then w5.heap.size else if i = 4 then w6.heap.size + 1 else w7.heap.size) (fun i => ?_) (fun i hi g hg => ?_)
          · rcases i with _ | _ | _ | _ | _ | i <;> simp <;> omega
          · rcases i with _ | _ | _ | _ | _ | i
            · rw [e0] at hg
              have := World.ownsRow.lt (own_of_R' hO.out) g hg
              simp
              omega
            · rw [e1] at hg
              have := l2.out g hg
              simp
              omega
            · rw [e2] at hg
              have := l4.out g hg
              simp
              omega
            · rw [e3] at hg
              have := l6.out g hg
              simp
              omega
            · rw [e4] at hg
              have := l7.out g hg
              simp
              omega
            · omega
        have hkr : ∀ {b9 : Nat} {ok9 : Nat → Prop} {u9 : Value} {xs9 : List Int}, w.heap.size ≤ b9 → Kd.R (Kd.int .i64) 3 ((w7.alloc (.cells #[.int .i64 y1, .slice A7 y2.length c7] 32)).alloc (.cells #[.slice A6 x2.length c6, .slice A7 y2.length c7] 30)) b9 ok9 u9 xs9 → Kd.R (Kd.int .i64) 3 w9 w.heap.size (fun _ => True) u9 xs9 := fun hb9 hR9 =>
          Kd.R_of_own (enc := Value.int .i64) (h1 := fun _ => rfl) (own_kept (own_of_R' (Kd.R_lower hR9 hb9)) h2.out (own_apart (own_of_R' (Kd.R_lower hR9 hb9)) hown (by decide))) (fun _ _ => trivial)
        have HA0 : Aside0 (HeldA w.heap.size lb 5 cs v x w9) := by
          refine ⟨⟨by rw [hcsd]; exact hlbh, fun i hi => ?_⟩⟩
          rcases i with _ | _ | _ | _ | _ | i
          · rw [e0, x0]; exact hkr (Nat.le_refl _) f7o.out
          · rw [e1, z1]; exact hkr (by omega) f7c.out
          · rw [e2, z2]; exact hkr (by omega) f7d.out
          · rw [e3, z3]; exact hkr (by omega) f7x.out
          · rw [e4, z4]; exact hkr (by omega) f7y.out
          · omega
        have hBA : Aside0 (Below w.heap.size w w9) := ⟨by
          have k1 := hB1.out
          have k2 := (k1.trans (below_weak b2.out (by omega))).alloc (by omega) (.cells #[.int .i64 r1, .slice A2 r2.length c2] 32)
          have k3 := k2.trans (below_weak b3.out (by omega))
          have k4 := (k3.trans (below_weak b4.out (by omega))).alloc (by omega) (.cells #[.int .i64 d1, .slice A4 d2.length c4] 32)
          have k5 := (k4.trans (below_weak b5.out (by omega))).alloc (by omega) (.cells #[.slice Ao own.length co, .slice A2 r2.length c2, .slice A4 d2.length c4] 30)
          have k6 := (k5.trans (below_weak b6.out (by omega))).alloc (by omega) (.cells #[.int .i64 x1, .slice A6 x2.length c6] 32)
          have k7 := ((k6.trans (below_weak b7.out (by omega))).alloc (by omega) (.cells #[.int .i64 y1, .slice A7 y2.length c7] 32)).alloc (by rw [World.size_alloc]; omega) (.cells #[.slice A6 x2.length c6, .slice A7 y2.length c7] 30)
          exact Below.grown k7 h2.out hbb (fun k9 hk9 => by have h99 : w5.heap.size = k9 := (by simpa [Value.ownBlock] using hk9); omega)⟩
        clear hcsd hvd hxd e0 e1 e2 e3 e4 x0 z1 z2 z3 z4 hlbc hlbh hkr
        go_loopw [20] (fun v20 wq => ∃ i : Nat, i ≤ 5 ∧ v20 = .int .i64 i ∧ Aside0 (HeldA w.heap.size lb 5 cs v (fun j => if j < i then rowA j (x j).length else x j) wq) ∧ Aside0 (Below w.heap.size w wq)) (fun v20 _ => 5 - (intOf v20).toNat)
        case atStart => exact ⟨0, by omega, rfl, ⟨HA0.out.congr (fun j _ => by simp)⟩, hBA⟩
        case round =>
          obtain ⟨i, hi, rfl, hR, hB⟩ := hrel
          by_cases hlt : i < 5
          · have hbi : (i : Int) < 5 := by omega
            obtain ⟨Ai, ci, hvi⟩ := Kd.R_slice (HA0.out.row i hlt)
            have hxi := hx i hlt
            go_wp2
            go_loopw [21] (fun v21 wq => ∃ k : Nat, k ≤ (x i).length ∧ v21 = .int .i64 k ∧ Aside0 (HeldA w.heap.size lb 5 cs v (fun j => if j < i then rowA j (x j).length else if j = i then toA i k (x i) else x j) wq) ∧ Aside0 (Below w.heap.size w wq)) (fun v21 _ => (x i).length - (intOf v21).toNat)
            case atStart => exact ⟨0, by omega, rfl, ⟨hR.out.congr (fun j _ => by by_cases e : j = i <;> simp [e, toA_zero])⟩, hB⟩
            case round =>
              obtain ⟨k2, hk, rfl, hR2, hB2⟩ := hrel
              have hcl : wr.cell? ⟨lb, i, none⟩ = some (.slice Ai (x i).length ci) := by rw [blk_cell hR2.out.list, hcs i hlt, hvi]
              by_cases hlk : k2 < (x i).length
              · have hyi : (if i < i then rowA i (x i).length else if i = i then toA i k2 (x i) else x i) = toA i k2 (x i) := by simp
                have hyl : (toA i k2 (x i)).length = (x i).length := toA_len i k2 (x i) hk
                obtain ⟨g, c9, hv2, hglb, hbg, ⟨u9, hcu⟩, hfu⟩ := hR2.out.slot (k := k2) hlt (by show k2 < (if i < i then rowA i (x i).length else if i = i then toA i k2 (x i) else x i).length; rw [hyi]; omega)
                replace hv2 : v i = .slice (some ⟨g, 0, none⟩) (x i).length c9 := by
                  rw [hv2]
                  show Value.slice _ (if i < i then rowA i (x i).length else if i = i then toA i k2 (x i) else x i).length c9 = _
                  rw [hyi, hyl]
                rw [hv2] at hvi
                obtain ⟨rfl, rfl⟩ : some (⟨g, 0, none⟩ : Addr) = Ai ∧ c9 = ci := by
                  injection hvi with e1 e2 e3
                  exact ⟨e1, e3⟩
                have hbk : (k2 : Int) < ((x i).length : Int) := by omega
                have hval : (-100 * (i : Int) - (k2 : Int) - 1) = vA i k2 := rfl
                have hvw1 : IntKind.i64.wrap (-100 * (i : Int)) = -100 * (i : Int) := by simp only [IntKind.wrap, IntKind.bits, IntKind.signed]; simp; omega
                have hvw2 : IntKind.i64.wrap (-100 * (i : Int) - (k2 : Int)) = -100 * (i : Int) - (k2 : Int) := by simp only [IntKind.wrap, IntKind.bits, IntKind.signed]; simp; omega
                have hvw3 : IntKind.i64.wrap (-100 * (i : Int) - (k2 : Int) - 1) = -100 * (i : Int) - (k2 : Int) - 1 := by simp only [IntKind.wrap, IntKind.bits, IntKind.signed]; simp; omega
                go_wp2
                go_roundw
                case rel =>
                  refine ⟨k2 + 1, by omega, by go_num, ⟨?_⟩, ⟨hB2.out.setCell hbg _⟩⟩
                  have := hR2.out.put hD (i := i) (k := k2) (g := g) (c := c9) hlt (by simp only [Nat.lt_irrefl, if_false, if_true, hyl]; exact hv2) hglb (vA i k2)
                  refine this.congr (fun j _ => ?_)
                  by_cases e : j = i
                  · subst e; simp [toA_set _ _ _ hlk]
                  · simp [e]
                case measure => simp [intOf]; omega
              · have hkk : k2 = (x i).length := by omega
                subst hkk
                go_wp2
                go_roundw
                case rel => exact ⟨i + 1, by omega, by go_num, ⟨hR2.out.congr (fun j _ => by
                  rcases Nat.lt_trichotomy j i with e | e | e
                  · rw [if_pos e, if_pos (by omega)]
                  · subst e; rw [if_neg (by omega), if_pos rfl, if_pos (by omega), toA_full]
                  · rw [if_neg (by omega), if_neg (by omega), if_neg (by omega)])⟩, hB2⟩
                case measure => simp [intOf]; omega
          · have hie : i = 5 := by omega
            subst hie
            rw [show ((5 : Nat) : Int) = 5 from rfl]
            obtain ⟨X, hXd⟩ : ∃ X : Nat → List Int, X = fun j => rowA j (x j).length := ⟨_, rfl⟩
            obtain ⟨Y, hYd⟩ : ∃ Y : Nat → List Int, Y = fun j => X j ++ rowB j 30 := ⟨_, rfl⟩
            have hXl : ∀ j, (X j).length = (x j).length := fun j => by rw [hXd]; exact rowA_len _ _
            have hY : Aside0 (∀ j, Y j = X j ++ rowB j 30) := ⟨fun j => by rw [hYd]⟩
            have hXv : Aside0 (∀ j, X j = rowA j (X j).length) := ⟨fun j => by rw [hXl, hXd]⟩
            have hXb : ∀ j, j < 5 → (X j).length ≤ 1099511627776 := fun j hj => by rw [hXl]; exact hx j hj
            have hLB := Aside0.mk (HeldB.start (gs := fun _ => .slice none 0 0) (y := Y) (hR.out.congr (y := X) (fun j hj => by rw [hXd]; simp [hj])))
            clear hR HA0 hYd hXd hXl hx hBA
            have hinf := info_rows
            go_wp2
            go_loopw [22, 19] (fun v22 v19 wq => ∃ (j : Nat) (gs : Nat → Value) (mv : Value), j ≤ 5 ∧ v22 = .int .i64 j ∧ mv = v19 ∧ Aside0 (HeldB w.heap.size lb 5 cs v gs X Y mv j wq) ∧ Aside0 (Below w.heap.size w wq)) (fun v22 _ _ => 5 - (intOf v22).toNat)
            case atStart => exact ⟨0, _, _, by omega, rfl, rfl, hLB, hB⟩
            case round =>
              obtain ⟨j, gs, mv, hj, rfl, rfl, hR, hB⟩ := hrel
              rename World => w6
              by_cases hjn : j < 5
              · have hbj : (j : Int) < 5 := by omega
                obtain ⟨Aj, cj, hvj⟩ := own_form (hR.out.todo j (Nat.le_refl _) hjn)
                have hcl : w6.cell? ⟨lb, j, none⟩ = some (.slice Aj (X j).length cj) := by rw [blk_cell hR.out.list, hcs j hjn, hvj]
                have hst := HeldC.start hR.out hjn
                rw [hvj] at hst
                have hXj := hXb j hjn
                have hb6 : w.heap.size ≤ w6.heap.size := hB.out.size
                have hLC0 := Aside0.mk hst
                clear hst hR
                go_wp2
                go_loopw [24, 23] (fun v24 v23 wq => ∃ (m : Nat) (z : Value), m ≤ 30 ∧ v24 = .int .i64 m ∧ z = v23 ∧ Aside0 (HeldC w.heap.size lb 5 w6.heap.size cs v gs X Y mv j m z wq) ∧ Aside0 (Below w.heap.size w wq)) (fun v24 _ _ => 30 - (intOf v24).toNat)
                case atStart => exact ⟨0, _, by omega, rfl, rfl, hLC0, hB⟩
                case round =>
                  obtain ⟨m, z, hm, rfl, rfl, hC, hB3⟩ := hrel
                  obtain ⟨Az, cz, hz⟩ := own_form hC.out.row
                  have hlz : (X j ++ rowB j m).length = (X j).length + m := by rw [List.length_append, rowB_len]
                  rw [hlz] at hz
                  subst hz
                  have hb7 : w.heap.size ≤ wr.heap.size := hB3.out.size
                  by_cases hlm : m < 30
                  · have hbm : (m : Int) < 30 := by omega
                    have hval : (100 * (j : Int) + (m : Int) + 1) = vB j m := rfl
                    have hU : Below wr.heap.size wr (wr.alloc (.cells #[.int .i64 (vB j m)] 3)) := below_alloc (Below.refl _ _) _
                    have hCu := Aside0.mk (hC.out.below hjn hU)
                    have hns := World.news_of_block (w := wr.alloc (.cells #[.int .i64 (vB j m)] 3)) (cs := #[.int .i64 (vB j m)]) (t := 3) (fr := (0, 0)) (heap_alloc_new _ _)
                    have hbu : w.heap.size ≤ (wr.alloc (.cells #[.int .i64 (vB j m)] 3)).heap.size := by rw [World.size_alloc]; omega
                    go_wp2_with (first | ((with_reducible refine gate_builtin (b := .append) (xs := #[.tmp 156, .tmp 162]) rfl ?_); at_builtin; refine wp_own_append (base := w.heap.size) rfl (.tmp 156) (.tmp 162) 30 rfl Try.underlying30 (.slice Az ((X j).length + m) cz) (X j ++ rowB j m) [vB j m] ⟨wr.heap.size, 0, none⟩ 1 1 ?s_ ?x_ rfl hCu.out.row hns ?l_ hbu ?_; (case s_ => go_simp); (case x_ => go_simp); (case l_ => rw [hlz]; simp only [List.length_singleton]; omega); intro z1 w7 h1_ h2_ h3_ h4_; have h1 := Aside0.mk h1_; have h2 := Aside0.mk h2_; have h3 := Aside0.mk h3_; have h4 := Aside0.mk h4_; clear h1_ h2_ h3_ h4_) | go_in)
                    go_roundw
                    case rel => exact ⟨m + 1, _, by omega, by go_num, rfl, ⟨hCu.out.step hD hjn h1.out h2.out h3.out h4.out⟩, ⟨Below.grown (hB3.out.trans (below_weak hU (by omega))) h2.out hbu (fun k hk => (World.ownsRow.lt hCu.out.row k hk).1)⟩⟩
                    case measure => simp [intOf]; omega
                  · have hme : m = 30 := by omega
                    subst hme
                    have hU : Below wr.heap.size wr (wr.alloc (.cells #[.slice Az ((X j).length + 30) cz] 30)) := below_alloc (Below.refl _ _) _
                    have hCu := Aside0.mk (hC.out.below hjn hU)
                    have hns := World.news_of_block (w := wr.alloc (.cells #[.slice Az ((X j).length + 30) cz] 30)) (cs := #[.slice Az ((X j).length + 30) cz]) (t := 30) (fr := (0, 0)) (heap_alloc_new _ _)
                    have hbu : w.heap.size ≤ (wr.alloc (.cells #[.slice Az ((X j).length + 30) cz] 30)).heap.size := by rw [World.size_alloc]; omega
                    obtain ⟨i0, hi0, hz0, hz1, hz2⟩ := hinf
                    go_wp2_with (first | ((with_reducible refine gate_builtin (b := .append) (xs := #[.tmp 164, .tmp 166]) rfl ?_); at_builtin; refine wpList_append_own_at _ rfl (.tmp 164) (.tmp 166) 65 rfl w.heap.size 30 i0 (.slice none 0 0) 1 24 Try.underlying65 hi0 hz0 hz1 hz2 rfl (by decide) mv j ((List.range j).map gs) ?s_ hCu.out.more ⟨wr.heap.size, 0, none⟩ 1 1 [.slice Az ((X j).length + 30) cz] ?x_ rfl hns ?o_ ?l_ ?b_ hbu ?_; (case s_ => go_simp); (case x_ => go_simp); (case o_ => intro u9 hu9; obtain rfl := List.mem_singleton.1 hu9; rfl); (case l_ => simp only [maxLen]; omega); (case b_ => omega); intro mv1 w7 h1_ h2_ h9_ h3_; have h1 := Aside0.mk h1_; have h2 := Aside0.mk h2_; have h3 := Aside0.mk h3_; clear h1_ h2_ h3_ h9_) | go_in)
                    go_roundw
                    case rel => exact ⟨j + 1, _, mv1, by omega, by go_num, rfl, ⟨hCu.out.done hD hjn (hY.out j) h1.out h2.out h3.out⟩, ⟨Below.grown (hB3.out.trans (below_weak hU (by omega))) h2.out hbu (fun k hk => (World.ownsRow.lt hCu.out.more k hk).1)⟩⟩
                    case measure => simp [intOf]; omega
              · have hje : j = 5 := by omega
                subst hje
                rw [show ((5 : Nat) : Int) = 5 from rfl]
                obtain ⟨mb, cm, rfl, hmb⟩ : ∃ mb cm, mv = .slice (some ⟨mb, 0, none⟩) 5 cm ∧ mv.ownBlock = some mb := by
                  rcases hR.out.more.2 with ⟨_, h9⟩ | ⟨mb, cap, cur, h9, _⟩
                  · omega
                  · exact ⟨mb, cap, h9, by rw [h9]; rfl⟩
                have hmc : ∀ p, p < 5 → w6.cell? ⟨mb, p, none⟩ = some (gs p) := fun p hp => by
                  have h9 := World.ownsRow.cells hR.out.more hmb p (gs p) (by simp [hp])
                  have ea : (⟨mb, 0, none⟩ : Addr).add p = ⟨mb, p, none⟩ := by unfold Addr.add; split <;> simp_all
                  rwa [ea] at h9
                have hhc : ∀ p, p < 5 → w6.cell? ⟨lb, p, none⟩ = some (v p) := fun p hp => by rw [blk_cell hR.out.list, hcs p hp]
                have HMc := Aside0.mk hmc
                have HHc := Aside0.mk hhc
                clear hmc hhc
                go_wp2
                go_loopw [25] (fun v25 wq => ∃ p : Nat, p ≤ 5 ∧ v25 = .int .i64 p ∧ Aside0 (ReadsAs w6 wq)) (fun v25 _ => 5 - (intOf v25).toNat)
                case atStart => exact ⟨0, by omega, rfl, ⟨ReadsAs.refl _⟩⟩
                case round =>
                  obtain ⟨p, hp, rfl, hQ⟩ := hrel
                  rename World => w9
                  by_cases hpn : p < 5
                  · have hbp : (p : Int) < 5 := by omega
                    have hVv := hR.out.old p hpn hpn
                    have hVg := hR.out.oldg p hpn hpn
                    obtain ⟨Av, cv, hvv⟩ := Kd.V_slice hVv
                    obtain ⟨Ag, cg, hvg⟩ := Kd.V_slice hVg
                    have hYl : (Y p).length = (X p).length + 30 := by rw [hY.out p, List.length_append, rowB_len]
                    have hcl6 := HHc.out p hpn
                    have hcm6 := HMc.out p hpn
                    rw [hvv] at hcl6 hVv
                    rw [hvg] at hcm6 hVg
                    obtain ⟨adg, rfl, hgc⟩ := V_at_add hVg (by omega)
                    have HG := Aside0.mk hgc
                    have HV := Aside0.mk hVv
                    clear hgc hVv hVg
                    rw [hYl] at hcm6
                    have HL6 := Aside0.mk hcl6
                    have HM6 := Aside0.mk hcm6
                    clear hcl6 hcm6
                    have hXp := hXb p hpn
                    go_wp2
                    go_loopw [26] (fun v26 wq => ∃ k2 : Nat, k2 ≤ (X p).length ∧ v26 = .int .i64 k2 ∧ Aside0 (ReadsAs w6 wq)) (fun v26 _ => (X p).length - (intOf v26).toNat)
                    case atStart => exact ⟨0, by omega, rfl, hQ⟩
                    case round =>
                      obtain ⟨k2, hk2, rfl, hQ2⟩ := hrel
                      have hcl := (hQ2.out.cell _).trans HL6.out
                      by_cases hlk : k2 < (X p).length
                      · have hbk : (k2 : Int) < ((X p).length : Int) := by omega
                        obtain ⟨adv, rfl, hvc⟩ := V_at_add HV.out (by omega)
                        have hce := (hQ2.out.cell _).trans (hvc k2 (.int .i64 (-100 * (p : Int) - (k2 : Int) - 1)) (by rw [hXv.out p]; simp [nums, rowA, vA, hlk]))
                        clear hvc
                        have hvw1 : IntKind.i64.wrap (-100 * (p : Int)) = -100 * (p : Int) := by simp only [IntKind.wrap, IntKind.bits, IntKind.signed]; simp; omega
                        have hvw2 : IntKind.i64.wrap (-100 * (p : Int) - (k2 : Int)) = -100 * (p : Int) - (k2 : Int) := by simp only [IntKind.wrap, IntKind.bits, IntKind.signed]; simp; omega
                        have hvw3 : IntKind.i64.wrap (-100 * (p : Int) - (k2 : Int) - 1) = -100 * (p : Int) - (k2 : Int) - 1 := by simp only [IntKind.wrap, IntKind.bits, IntKind.signed]; simp; omega
                        go_wp2
                        go_roundw
                        case rel => exact ⟨k2 + 1, by omega, by go_num, hQ2⟩
                        case measure => simp [intOf]; omega
                      · have hke : k2 = (X p).length := by omega
                        subst hke
                        go_wp2
                        go_loopw [27] (fun v27 wq => ∃ k3 : Nat, k3 ≤ 30 ∧ v27 = .int .i64 k3 ∧ Aside0 (ReadsAs w6 wq)) (fun v27 _ => 30 - (intOf v27).toNat)
                        case atStart => exact ⟨0, by omega, rfl, hQ2⟩
                        case round =>
                          obtain ⟨k3, hk3, rfl, hQ3⟩ := hrel
                          have hcl := (hQ3.out.cell _).trans HL6.out
                          have hcm := (hQ3.out.cell _).trans HM6.out
                          by_cases hl3 : k3 < 30
                          · have hb3 : (k3 : Int) < 30 := by omega
                            have hb4 : ((X p).length : Int) + (k3 : Int) < ((X p).length : Int) + 30 := by omega
                            have hce := (hQ3.out.cell _).trans (HG.out ((X p).length + k3) (.int .i64 (100 * (p : Int) + (k3 : Int) + 1)) (by rw [hY.out p]; simp [nums, rowB, vB, hl3]))
                            have hw1 : IntKind.i64.wrap (((X p).length : Int) + (k3 : Int)) = ((X p).length : Int) + (k3 : Int) := by simp only [IntKind.wrap, IntKind.bits, IntKind.signed]; simp; omega
                            have h0 : (0 : Int) ≤ ((X p).length : Int) + (k3 : Int) := by omega
                            have hw2 : IntKind.i64.wrap (100 * (p : Int)) = 100 * (p : Int) := by simp only [IntKind.wrap, IntKind.bits, IntKind.signed]; simp; omega
                            have hw3 : IntKind.i64.wrap (100 * (p : Int) + (k3 : Int)) = 100 * (p : Int) + (k3 : Int) := by simp only [IntKind.wrap, IntKind.bits, IntKind.signed]; simp; omega
                            have hw4 : IntKind.i64.wrap (100 * (p : Int) + (k3 : Int) + 1) = 100 * (p : Int) + (k3 : Int) + 1 := by simp only [IntKind.wrap, IntKind.bits, IntKind.signed]; simp; omega
                            have htn : (((X p).length : Int) + (k3 : Int)).toNat = (X p).length + k3 := by omega
                            go_wp2
                            go_still (by kernel_rfl)
                            go_wp2
                            go_roundw
                            case rel => exact ⟨k3 + 1, by omega, by go_num, ⟨hQ3.out.drew⟩⟩
                            case measure => simp [intOf]; omega
                          · have hke : k3 = 30 := by omega
                            subst hke
                            go_wp2
                            go_roundw
                            case rel => exact ⟨p + 1, by omega, by go_num, hQ3⟩
                            case measure => simp [intOf]; omega
                  · have hpe : p = 5 := by omega
                    subst hpe
                    go_wp2
                    go_ret
                    exact ⟨rfl, hB.out.trans (below_weak hQ.out.bel hB.out.size)⟩
def hawserlaw16_ConfigOwn.f (k : Nat) (l0 : List Int) : Option (Bool) :=
  (hawserlaw16_may.f k l0).bind fun own => (config_First.f own).bind fun c => (config_Encode.f k c.1 c.2.1).bind fun b => (config_Decode.f k b.1).bind fun d => (config_Alike.f k c.1 c.2.1 d.1 d.2.1).bind fun al =>
    if c.2.2 = 0 ∧ b.2 = 0 ∧ d.2.2 = 0 ∧ al = true ∧ own.length ≤ 1099511627776 ∧ c.2.1.length ≤ 1099511627776 ∧ d.2.1.length ≤ 1099511627776 then
      (if nodeAt own 8 = 0 then some true else (config_With.f k c.1 c.2.1 (nodeAt own 8)).bind fun x => (config_Without.f x.1 x.2.1 (nodeAt own 8)).bind fun y =>
        if x.2.2 = 0 ∧ y.2.2 = 0 ∧ x.2.1.length ≤ 1099511627776 ∧ y.2.1.length ≤ 1099511627776 then some true else none)
    else none
theorem hawserlaw16_ConfigOwn.calls (k : Nat) (A0 : Option Addr) (c0 : Nat) (l0 : List Int) (r : Bool) (w : World) (hr0 : Kd.C (Kd.int .i64) w A0 l0.length l0) (hc0 : l0.length ≤ c0) (h : hawserlaw16_ConfigOwn.f k l0 = some r) :
    Calls Try.prog 13 #[.slice A0 l0.length c0] w fun e w' => e = .returned (.bool r) ∧ Below w.heap.size w w' := by
  obtain ⟨own, h1, g1⟩ := Option.bind_eq_some_iff.1 h
  clear h
  obtain ⟨⟨r1, r2, r3⟩, h2, g2⟩ := Option.bind_eq_some_iff.1 g1
  clear g1
  obtain ⟨⟨b, b2⟩, h3, g3⟩ := Option.bind_eq_some_iff.1 g2
  clear g2
  obtain ⟨⟨d1, d2, d3⟩, h4, g4⟩ := Option.bind_eq_some_iff.1 g3
  clear g3
  obtain ⟨al, h5, g5⟩ := Option.bind_eq_some_iff.1 g4
  clear g4
  by_cases hc : r3 = 0 ∧ b2 = 0 ∧ d3 = 0 ∧ al = true ∧ own.length ≤ 1099511627776 ∧ r2.length ≤ 1099511627776 ∧ d2.length ≤ 1099511627776
  · replace g5 := (if_pos hc).symm.trans g5
    obtain ⟨rfl, rfl, rfl, rfl, l1, l2, l3⟩ := hc
    by_cases hn : nodeAt own 8 = 0
    · replace g5 := (if_pos hn).symm.trans g5
      obtain rfl := Option.some.inj g5
      exact co_walk k A0 c0 l0 own r1 r2 b d1 d2 w hr0 hc0 h1 h2 h3 h4 h5 l1 l2 l3 (fun h => absurd hn h)
    · replace g5 := (if_neg hn).symm.trans g5
      obtain ⟨⟨x1, x2, x3⟩, h6, g6⟩ := Option.bind_eq_some_iff.1 g5
      obtain ⟨⟨y1, y2, y3⟩, h7, g7⟩ := Option.bind_eq_some_iff.1 g6
      by_cases he : x3 = 0 ∧ y3 = 0 ∧ x2.length ≤ 1099511627776 ∧ y2.length ≤ 1099511627776
      · replace g7 := (if_pos he).symm.trans g7
        obtain ⟨rfl, rfl, l4, l5⟩ := he
        obtain rfl := Option.some.inj g7
        exact co_walk k A0 c0 l0 own r1 r2 b d1 d2 w hr0 hc0 h1 h2 h3 h4 h5 l1 l2 l3 (fun _ => ⟨x1, x2, y1, y2, h6, h7, l4, l5⟩)
      · replace g7 := (if_neg he).symm.trans g7
        cases g7
  · replace g5 := (if_neg hc).symm.trans g5
    cases g5

end Go.Proofs.Ytjhijklgpgdlaaa.G
