-- Written for this claim by a program of this session (wip/xprint.py), by means of the kit's print. Not trusted: Lean checks it.
import Derived.Test.YtkkmceejfmjidaaGx0
import Derived.Test.YtkkmceejfmjidaaGx2
import Derived.Test.YtkkmceejfmjidaaGx3
import Derived.Test.YtkkmceejfmjidaaGx6
namespace Go.Proofs.Ytkkmceejfmjidaa.G
open Go.RowKit Go.Proofs.YtkkmceejfmjidaaW.PrintWords Go.Proofs.YtkkmceejfmjidaaW.PrintLast Go.Proofs.YtkkmceejfmjidaaW.PrintMore
attribute [local go_sem] max2_int min2_int max_two min_two max_three min_three max_four min_four   -- for this text's walks alone
set_option linter.unusedVariables false
set_option linter.unusedSimpArgs false

/-! ### config_Decode: function 32 -/
open Go.Proofs.Ytkkmceejfmjidaa.Blocks Go.Shelf
theorem leb_told_more' (k : Nat) : ∀ (m : Nat) (l : List Int) (at_ : Nat), LeO (leb_told k m l at_) (leb_told k (m + 1) l at_)
  | 0, _, _ => LeO.none _
  | m + 1, l, at_ => by
    rw [leb_told, leb_told]
    refine LeO.ite (LeO.bind (LeO.refl _) fun t => LeO.ite (LeO.ite ?_ (LeO.refl _)) (LeO.refl _)) (LeO.refl _)
    intro r hr
    obtain ⟨r', hr', rfl⟩ := Option.map_eq_some_iff.1 hr
    rw [leb_told_more' k m l _ _ hr']
    rfl
theorem leb_told_up' (k : Nat) (l : List Int) (at_ : Nat) : LeO (leb_told k k l at_) (leb_told (k + 1) (k + 1) l at_) := fun r h => leb_told_more' (k + 1) k l at_ r (leb_told_mono k k l at_ r h)
/-- The numbers so far: how many, the epoch, the chain, the place behind; none: the loop has been left. -/
structure CD where
  i : Int
  e : Int
  ch : List Int
  en : Int
def cdStep (k : Nat) (s : CD) (x : Int × Int) : Option (Option CD) :=
  if x.2 > 1099511627776 then some none else if s.i > 9 then some none else (leb_Size.f k [x.2]).bind fun z =>
    some (some ⟨wrap64 (s.i + 1), if s.i = 0 then wrap64 x.2 else s.e, if s.i = 0 then s.ch else if s.i > 1 then s.ch ++ [wrap64 x.2] else s.ch, wrap64 (x.1 + z)⟩)
def cdAll (k : Nat) : List (Int × Int) → CD → Option (Option CD)
  | [], s => some (some s)
  | x :: r, s => (cdStep k s x).bind fun t => match t with | none => some none | some s' => cdAll k r s'
theorem cdStep_mono (k : Nat) (s : CD) (x : Int × Int) : LeO (cdStep k s x) (cdStep (k + 1) s x) := LeO.ite (LeO.refl _) (LeO.ite (LeO.refl _) (LeO.bind (leb_Size.mono _ _) fun _ => LeO.refl _))
theorem cdAll_mono (k : Nat) : ∀ (xs : List (Int × Int)) (s : CD), LeO (cdAll k xs s) (cdAll (k + 1) xs s)
  | [], _ => LeO.refl _
  | x :: r, s => LeO.bind (cdStep_mono k s x) fun t => by
    cases t with
    | none => exact LeO.refl _
    | some s' => exact cdAll_mono k r s'
theorem cdAll_append (k : Nat) : ∀ (xs ys : List (Int × Int)) (s s' : CD), cdAll k xs s = some (some s') → cdAll k (xs ++ ys) s = cdAll k ys s'
  | [], ys, s, s', h => by
    simp only [cdAll, Option.some.injEq] at h
    subst h
    rfl
  | x :: r, ys, s, s', h => by
    simp only [cdAll, List.cons_append] at h ⊢
    obtain ⟨t, ht, h⟩ := Option.bind_eq_some_iff.1 h
    rw [ht, Option.bind_some]
    cases t with
    | none => simp at h
    | some s1 => exact cdAll_append k r ys s1 s' h
theorem cdAll_stop (k : Nat) : ∀ (xs ys : List (Int × Int)) (s : CD), cdAll k xs s = some none → cdAll k (xs ++ ys) s = some none
  | [], ys, s, h => by simp [cdAll] at h
  | x :: r, ys, s, h => by
    simp only [cdAll, List.cons_append] at h ⊢
    obtain ⟨t, ht, h⟩ := Option.bind_eq_some_iff.1 h
    rw [ht, Option.bind_some]
    cases t with
    | none => rfl
    | some s1 => exact cdAll_stop k r ys s1 h
def config_Decode.end_ (k : Nat) (l0 : List Int) (s : CD) : Option (Int × List Int × Int) :=
  if s.en = (l0.length : Int) then (config_Check.f s.e s.ch).bind fun c => if c = 0 then (config_Encode.f k s.e s.ch).bind fun b => (bytes_Equal.f b.1 l0).bind fun q => if q = true then some (s.e, s.ch, 0) else some (0, [], 163) else some (0, [], 163) else some (0, [], 163)
def config_Decode.f (k : Nat) (l0 : List Int) : Option (Int × List Int × Int) :=
  if l0.length ≤ 1048576 then (leb_told k k l0 0).bind fun xs => if ∀ x ∈ xs, (leb_Size.f k [x.2]).isSome ∧ 0 ≤ x.2 ∧ x.2 ≤ 18446744073709551615 then (cdAll k xs ⟨0, 0, [], 0⟩).bind fun t => match t with | none => some (0, [], 163) | some s => config_Decode.end_ k l0 s else none else none
theorem config_Decode.mono : ∀ a0 k, LeO (config_Decode.f k a0) (config_Decode.f (k + 1) a0) := by
  intro a0 k
  unfold config_Decode.f
  refine LeO.ite (LeO.bind (leb_told_up' _ _ _) fun xs => ?_) (LeO.refl _)
  by_cases h : ∀ x ∈ xs, (leb_Size.f k [x.2]).isSome ∧ 0 ≤ x.2 ∧ x.2 ≤ 18446744073709551615
  · rw [if_pos h, if_pos (fun x hx => ⟨by obtain ⟨r, hr⟩ := Option.isSome_iff_exists.1 (h x hx).1; rw [leb_Size.mono _ _ _ hr]; rfl, (h x hx).2⟩)]
    refine LeO.bind (cdAll_mono _ _ _) fun t => ?_
    cases t with
    | none => exact LeO.refl _
    | some s =>
      show LeO (config_Decode.end_ k a0 s) (config_Decode.end_ (k + 1) a0 s)
      unfold config_Decode.end_
      exact LeO.ite (LeO.bind (LeO.refl _) fun _ => LeO.ite (LeO.bind (config_Encode.mono _ _ _) fun _ => LeO.bind (LeO.refl _) fun _ => LeO.refl _) (LeO.refl _)) (LeO.refl _)
  · rw [if_neg h]
    exact LeO.none _
abbrev cdIn (xs : List (Int × Int)) := { x : Int × Int // x ∈ xs }
abbrev cd_val {xs : List (Int × Int)} (x : cdIn xs) : Int × Int := x.1
theorem cd_attach (xs : List (Int × Int)) : xs.attach.map (fun x : cdIn xs => x.1) = xs := List.attach_map_subtype_val xs
/-- The loop's variables in memory: the chain's row, the epoch and the chain, how many, the place behind. -/
def cdI (k : Nat) (xs : List (Int × Int)) (w W1 : World) (b4 b5 b6 : Nat) (pre : List (cdIn xs)) (W : World) : Prop :=
  ∃ (s : CD) (v : Value), cdAll k (pre.map cd_val) ⟨0, 0, [], 0⟩ = some (some s) ∧ W.heap[b4]? = some (.cells #[.int .i64 s.e, v] 24 (0, 0)) ∧ Boxed W b5 3 (.int .i64 s.i) ∧ Boxed W b6 3 (.int .i64 s.en) ∧
    W.ownsRow W1.heap.size 3 1 v s.ch.length (nums .i64 s.ch) ∧ (s.i ≤ 10 ∧ 0 ≤ s.i ∧ s.ch.length ≤ pre.length) ∧ (∀ k, k < W1.heap.size → k ≠ b4 → k ≠ b5 → k ≠ b6 → W.heap[k]? = W1.heap[k]?) ∧ W1.heap.size ≤ W.heap.size ∧ Below w.heap.size w W
def cdX (k : Nat) (xs : List (Int × Int)) (w W1 : World) (b4 b5 b6 : Nat) (c : Code) (pre : List (cdIn xs)) (W : World) : Prop :=
  c = .goto 0 ∧ cdAll k (pre.map cd_val) ⟨0, 0, [], 0⟩ = some none ∧ (∀ k, k < W1.heap.size → k ≠ b4 → k ≠ b5 → k ≠ b6 → W.heap[k]? = W1.heap[k]?) ∧ W1.heap.size ≤ W.heap.size ∧ Below w.heap.size w W
theorem cdI_own (k : Nat) (xs : List (Int × Int)) (w W1 : World) (b4 b5 b6 : Nat) (h4 : b4 < W1.heap.size) (h5 : b5 < W1.heap.size) (h6 : b6 < W1.heap.size) (hw : w.heap.size ≤ W1.heap.size) : OwnFrom W1.heap.size (cdI k xs w W1 b4 b5 b6) := by
  rintro p X Y row ⟨s, v, e1, e2, e3, e4, e5, e6, e7, e8, e9⟩ hg hr
  have hrow : ∀ j, j < W1.heap.size → some j ≠ row := fun j hj e => by have := (hr _ e.symm).1; omega
  refine ⟨s, v, e1, (hg.block b4 (by omega) (hrow _ h4)).trans e2, e3.kept hg (hrow _ h5), e4.kept hg (hrow _ h6), e5.kept hg ?_, e6, fun j hj n4 n5 n6 => (hg.block j (by omega) (hrow j hj)).trans (e7 j hj n4 n5 n6), Nat.le_trans e8 hg.size, e9.grown hg e9.size ?_⟩
  · rcases e5.2 with ⟨rfl, _⟩ | ⟨g, cap, cur, rfl, _, hgb, _⟩
    · exact .inl rfl
    · refine .inr fun e' => ?_
      obtain ⟨_, o, ho, hc⟩ := hr g (by simpa [Value.ownBlock] using e'.symm)
      rw [hgb] at ho; cases ho; cases hc
  · intro j e; have := (hr _ e).1; omega
theorem cdX_own (k : Nat) (xs : List (Int × Int)) (w W1 : World) (b4 b5 b6 : Nat) (c : Code) (hw : w.heap.size ≤ W1.heap.size) : OwnFrom W1.heap.size (cdX k xs w W1 b4 b5 b6 c) := by
  rintro p X Y row ⟨e0, e1, e7, e8, e9⟩ hg hr
  refine ⟨e0, e1, fun j hj n4 n5 n6 => (hg.block j (by omega) (fun e => by have := (hr _ e.symm).1; omega)).trans (e7 j hj n4 n5 n6), Nat.le_trans e8 hg.size, e9.grown hg e9.size ?_⟩
  intro j e; have := (hr _ e).1; omega
def cdT (b2 D : Nat) (a : Act) : Prop := a.tmps.size = 65 ∧ a.tmps.getD 2 undef = .pointer (some ⟨b2, 0, none⟩) ∧ a.defers = [{ target := .collected D, args := #[] }]
theorem cd_lit (W : World) (g b : Nat) (u v : Int) (hg : g = W.heap.size) : Kd.C (Kd.int .u64) ((W.setCell ⟨b, 0, none⟩ (.int .i64 u)).alloc (.cells #[.int .u64 v] 57)) (some ⟨g, 0, none⟩) 1 [v] := by
  subst hg
  have hb := World.alloc_heap_new (W.setCell ⟨b, 0, none⟩ (.int .i64 u)) (.cells #[.int .u64 v] 57)
  have hs : (W.setCell ⟨b, 0, none⟩ (.int .i64 u)).heap.size = W.heap.size := by simp
  rw [hs] at hb
  exact C_of_blk (L := [v]) (o := 0) (n := 1) hb (by simp) (by simp)
theorem cd_size (k : Nat) (z : Int) {v : Int} (W : World) (g : Nat) (hr : Kd.C (Kd.int .u64) W (some ⟨g, 0, none⟩) 1 [v]) (hz : leb_Size.f k [v] = some z) : Calls Try.prog 49 #[.slice (some ⟨g, 0, none⟩) 1 1] W fun e w' => e = .returned (.int .i64 z) ∧ Drawn0 W w' :=
  leb_Size.calls k _ 1 [v] z _ hr (Nat.le_refl 1) hz
theorem cd_far4 {W : World} {B : Nat} {t : TypeId} {v : Value} (h : Boxed W B t v) (b o : Nat) (u : Value) (hne : B ≠ b) : Boxed (W.setCell ⟨b, o, none⟩ u) B t v := (Below.heap_setCell W ⟨b, o, none⟩ u B hne).trans h
theorem cd_own_set {W : World} {N : Nat} {e : TypeId} {v : Value} {n : Nat} {xs : List Value} (h : W.ownsRow N e 1 v n xs) {b : Nat} (hb : b < N) (o : Nat) (u : Value) : (W.setCell ⟨b, o, none⟩ u).ownsRow N e 1 v n xs := by
  refine ⟨h.1, ?_⟩
  rcases h.2 with hn | ⟨g, cap, cur, hv, hbg, hg, hr⟩
  · exact .inl hn
  · exact .inr ⟨g, cap, cur, hv, hbg, (Below.heap_setCell W ⟨b, o, none⟩ u g (by show g ≠ b; omega)).trans hg, hr⟩
theorem leb_told_len (k : Nat) : ∀ (m : Nat) (l : List Int) (at_ : Nat) (xs : List (Int × Int)), leb_told k m l at_ = some xs → xs.length ≤ l.length - at_
  | 0, _, _, _, h => by simp [leb_told] at h
  | m + 1, l, at_, xs, h => by
    simp only [leb_told] at h
    split at h
    · obtain ⟨t, ht, h⟩ := Option.bind_eq_some_iff.1 h
      split at h
      · split at h
        · rename_i hc
          obtain ⟨r, hr, rfl⟩ := Option.map_eq_some_iff.1 h
          have := leb_told_len k m l _ r hr
          rw [List.length_cons]
          omega
        · cases h
      · have := Option.some.inj h; subst this; simp
    · have := Option.some.inj h; subst this; simp
theorem cd_grown {W wa : World} {N n : Nat} {e : TypeId} {v : Value} {xs : List Value} {o : Obj} (h : W.ownsRow N e 1 v n xs) (hN : N ≤ W.heap.size) (hg : (W.alloc o).grownBy wa v.ownBlock) : ∀ k, k < N → wa.heap[k]? = W.heap[k]? := fun k hk =>
  (hg.block k (by simp; omega) (fun e => by have := own_base h k e.symm; omega)).trans (Below.heap_alloc W o k (by omega))
theorem cd_gkeep {W wa : World} {N n : Nat} {e : TypeId} {v : Value} {xs : List Value} {o : Obj} (h : W.ownsRow N e 1 v n xs) (hg : (W.alloc o).grownBy wa v.ownBlock) : KeepsOthers W wa :=
  (KeepsOthers.alloc _ _).trans (KeepsOthers.of_grownBy hg (fun j ob hj ho => by
    rcases (h.alloc o).2 with ⟨rfl, _⟩ | ⟨g, cap, cur, rfl, _, hgb, _⟩
    · simp [Value.ownBlock] at hj
    · obtain rfl : g = j := by simpa [Value.ownBlock] using hj
      rw [hgb] at ho; cases ho; rfl))
theorem cd_gbelow {w W wa : World} {N n : Nat} {e : TypeId} {v : Value} {xs : List Value} {o : Obj} (hB : Below w.heap.size w W) (h : W.ownsRow N e 1 v n xs) (hN : w.heap.size ≤ N) (hg : (W.alloc o).grownBy wa v.ownBlock) (b c : Nat) (u : Value) (hb : w.heap.size ≤ b) : Below w.heap.size w (wa.setCell ⟨b, c, none⟩ u) :=
  ((hB.alloc hB.size o).grown hg (by have := hB.size; simp; omega) (fun k e => by have := own_base h k e; omega)).setCell (p := ⟨b, c, none⟩) hb u
theorem cd_R {W : World} {N : Nat} {e : TypeId} {v : Value} {l : List Int} (h : W.ownsRow N e 1 v l.length (nums .i64 l)) : Kd.R (Kd.int .i64) e W N (fun _ => True) v l :=
  ⟨fun _ _ => trivial, _, h, by rw [nums_length]; exact (Nat.mul_one _).symm, fun j p hj => by
    have hl := (List.getElem?_eq_some_iff.1 hj).1
    show _ = [Value.int .i64 p]
    rw [show (Kd.int .i64).sz = 1 from rfl, Nat.mul_one]
    rw [List.drop_eq_getElem_cons (by simpa [nums] using hl)]
    simp [nums, (List.getElem?_eq_some_iff.1 hj).2]⟩
theorem cd_b6 {WA : World} {b5 b6 nd : Nat} {u : Value} {o : Obj} {en : Value} (h : Boxed WA b6 3 en) (hne : b6 ≠ b5) : Boxed (((WA.setCell ⟨b5, 0, none⟩ u).alloc o).drewN nd) b6 3 en := by
  have := (h.other hne u).alloc o
  unfold Boxed at this ⊢
  simpa using this
theorem cd_end {k : Nat} {xs : List (Int × Int)} {w W1 WA : World} {b4 b5 b6 nd : Nat} {pre : List (cdIn xs)} {x : cdIn xs} {i e q u : Int} {ch : List Int} {v : Value} {S : Nat → Prop}
    (h4 : b4 < W1.heap.size) (h5 : b5 < W1.heap.size) (h6 : b6 < W1.heap.size) (n45 : b4 ≠ b5) (n46 : b4 ≠ b6) (n56 : b5 ≠ b6) (hw5 : w.heap.size ≤ b5) (hw6 : w.heap.size ≤ b6) (hS : ∀ k, S k → k ≠ b5 ∧ k ≠ b6)
    (e1 : cdAll k ((pre ++ [x]).map cd_val) ⟨0, 0, [], 0⟩ = some (some ⟨i, e, ch, q⟩)) (e2 : WA.heap[b4]? = some (.cells #[.int .i64 e, v] 24 (0, 0))) {i0 : Value} (e3 : Boxed WA b5 3 i0) {en0 : Value} (e4 : Boxed WA b6 3 en0)
    (e5 : WA.ownsRow W1.heap.size 3 1 v ch.length (nums .i64 ch)) (e6 : i ≤ 10 ∧ 0 ≤ i ∧ ch.length ≤ pre.length + 1) (e7 : ∀ k, k < W1.heap.size → k ≠ b4 → k ≠ b5 → k ≠ b6 → WA.heap[k]? = W1.heap[k]?) (e8 : W1.heap.size ≤ WA.heap.size) (e9 : Below w.heap.size w WA) :
    KeepsOthers WA (((((WA.setCell ⟨b5, 0, none⟩ (.int .i64 i)).alloc (.cells #[.int .u64 u] 57)).drewN nd)).setCell ⟨b6, 0, none⟩ (.int .i64 q)) ∧
    leb_Keep S W1.heap.size WA (((((WA.setCell ⟨b5, 0, none⟩ (.int .i64 i)).alloc (.cells #[.int .u64 u] 57)).drewN nd)).setCell ⟨b6, 0, none⟩ (.int .i64 q)) ∧
    cdI k xs w W1 b4 b5 b6 (pre ++ [x]) (((((WA.setCell ⟨b5, 0, none⟩ (.int .i64 i)).alloc (.cells #[.int .u64 u] 57)).drewN nd)).setCell ⟨b6, 0, none⟩ (.int .i64 q)) := by
  have hm : ∀ k, k < WA.heap.size → k ≠ b5 → k ≠ b6 → (((((WA.setCell ⟨b5, 0, none⟩ (.int .i64 i)).alloc (.cells #[.int .u64 u] 57)).drewN nd)).setCell ⟨b6, 0, none⟩ (.int .i64 q)).heap[k]? = WA.heap[k]? := fun k hk n5 n6 => by
    rw [Below.heap_setCell _ ⟨b6, 0, none⟩ _ k n6]
    show ((WA.setCell ⟨b5, 0, none⟩ (.int .i64 i)).alloc (.cells #[.int .u64 u] 57)).heap[k]? = _
    exact (Below.heap_alloc _ _ _ (by simpa using hk)).trans (Below.heap_setCell WA ⟨b5, 0, none⟩ _ k n5)
  have hsz : WA.heap.size ≤ (((((WA.setCell ⟨b5, 0, none⟩ (.int .i64 i)).alloc (.cells #[.int .u64 u] 57)).drewN nd)).setCell ⟨b6, 0, none⟩ (.int .i64 q)).heap.size := by simp
  have hb4 : b4 < WA.heap.size := by omega
  refine ⟨(((KeepsOthers.setCell _ _ _).trans (KeepsOthers.alloc _ _)).trans ⟨by simp, fun k o hk _ => by simpa using hk⟩).trans (KeepsOthers.setCell _ _ _), fun k hk hn => hm k (by omega) (hS k hk).1 (hS k hk).2, ⟨i, e, ch, q⟩, v, e1, (hm b4 hb4 n45 n46).trans e2, ?_, (cd_b6 e4 (Ne.symm n56)).set _, ?_, ⟨e6.1, e6.2.1, by simpa using e6.2.2⟩, fun k hk n4 n5 n6 => (hm k (by omega) n5 n6).trans (e7 k hk n4 n5 n6), Nat.le_trans e8 hsz, ?_⟩
  · refine Boxed.other ?_ n56 _
    have := (e3.set (.int .i64 i)).alloc (.cells #[.int .u64 u] 57)
    unfold Boxed at this ⊢
    simpa using this
  · refine ⟨e5.1, ?_⟩
    rcases e5.2 with hn | ⟨g, cap, cur, hv, hbg, hg, hr⟩
    · exact .inl hn
    · refine .inr ⟨g, cap, cur, hv, hbg, ?_, hr⟩
      exact (hm g (Array.getElem?_eq_some_iff.1 hg).1 (by omega) (by omega)).trans hg
  · refine (pw_below_drewN ((e9.setCell (p := ⟨b5, 0, none⟩) hw5 _).alloc ?_ _) nd).setCell (p := ⟨b6, 0, none⟩) hw6 _
    have := e9.size
    simpa using this
def cdJ (w : World) (b2 : Nat) (D : Nat) (W : World) : Prop :=
  W.heap[b2]? = some (.cells #[.int .i64 0, .slice none 0 0] 24 (0, 0)) ∧ W.heap[D]? = some (.deferred (some [])) ∧ w.heap.size ≤ D ∧ b2 ≠ D ∧ Below w.heap.size w W

attribute [local go_sem] Oper.semAt_some
set_option maxRecDepth 100000 in
set_option maxHeartbeats 8000000 in
theorem config_Decode.calls (k : Nat) (A0 : Option Addr) (c0 : Nat) (l0 : List Int) (r1 : Int) (r2 : List Int) (r3 : Int) (w : World) (hr0 : Kd.C (Kd.int .u8) w A0 l0.length l0) (hc0 : l0.length ≤ c0) (h : config_Decode.f k l0 = some (r1, r2, r3)) :
    Calls Try.prog 32 #[.slice A0 l0.length c0] w fun e w' => ∃ v1_ : Value, e = .returned (.tuple #[.agg #[.int .i64 r1, v1_], .int .i64 r3]) ∧ Kd.R (Kd.int .i64) 3 w' w.heap.size (fun _ => True) v1_ r2 ∧ Below w.heap.size w w' := by
  have HR0 := Aside0.mk hr0
  have HC0 := Aside0.mk hc0
  clear hr0 hc0
  unfold config_Decode.f at h
  split at h
  case isFalse => cases h
  rename_i hn
  obtain ⟨xs, A1, h⟩ := Option.bind_eq_some_iff.1 h
  split at h
  case isFalse => cases h
  rename_i hs
  obtain ⟨t, A2, h⟩ := Option.bind_eq_some_iff.1 h
  have HN := Aside0.mk hn
  have HT := Aside0.mk A1
  have HS := Aside0.mk hs
  have HA := Aside0.mk A2
  have H := Aside0.mk h
  clear hn A1 hs A2 h
  refine (callsIn_wide (n := 20)).1 ?_
  refine callsIn_of_wp_marks Try.func32 rfl trivial ?_ rfl
  simp only [Try.ntmps32, List.size_toArray, List.length_cons, List.length_nil, Nat.reduceAdd, Nat.reduceSub, Array.replicate_succ, Array.replicate_zero, List.push_toArray, List.append_toArray, List.nil_append, List.cons_append]
  refine wpIn_wide.2 ?_
  go_wp2
  refine wp_scope_jumps 0 (fun a' W => ∃ (D : Nat), cdT w.heap.size D a' ∧ cdJ w w.heap.size D W ∧ (r1 = 0 ∧ r2 = [] ∧ r3 = 163)) (fun _ _ => 0) rfl ?first ?pass
  case pass =>
    rintro ⟨tm, df⟩ W ⟨D, ⟨hts, ht2, hdf⟩, ⟨hb2, hD, hwD, hne, hB⟩, rfl, rfl, rfl⟩
    dsimp only at hts ht2 hdf
    subst hdf
    have g2 : ∀ v, (tm.setIfInBounds 64 v).getD 2 undef = .pointer (some ⟨w.heap.size, 0, none⟩) := fun v => by rw [Array.getD_eq_getD_getElem?, Array.getElem?_setIfInBounds_ne (by decide), ← Array.getD_eq_getD_getElem?]; exact ht2
    have g64 : ∀ v, (tm.setIfInBounds 64 v).getD 64 undef = v := fun v => by rw [Array.getD_eq_getD_getElem?, Array.getElem?_setIfInBounds_self_of_lt (by omega)]; rfl
    have hc0 := blk_cell hb2 0
    have hc1 := blk_cell hb2 1
    have hf0 := blk_frozen hb2 0
    have hf1 := blk_frozen hb2 1
    clear H HA HS HT HN HR0 HC0
    go_wp2
    have hbW := blk_set (blk_set hb2 0 (.int .i64 0)) 1 (.slice none 0 0)
    have hDW : ((W.setCell ⟨w.heap.size, 0, none⟩ (.int .i64 0)).setCell ⟨w.heap.size, 1, none⟩ (.slice none 0 0)).heap[D]? = some (.deferred (some [])) := (Below.heap_setCell _ ⟨w.heap.size, 1, none⟩ _ D (Ne.symm hne)).trans ((Below.heap_setCell _ ⟨w.heap.size, 0, none⟩ _ D (Ne.symm hne)).trans hD)
    have hBW := (hB.setCell (p := ⟨w.heap.size, 0, none⟩) (Nat.le_refl _) (.int .i64 0)).setCell (p := ⟨w.heap.size, 1, none⟩) (Nat.le_refl _) (.slice none 0 0)
    have hbP := (World.putObj_heap_other (o := .deferred none) hne).trans hbW
    have e0 := blk_cell hbP 0
    have e1 := blk_cell hbP 1
    refine ⟨by simp, .inl ⟨_, _, rfl, run_takeDeferred hDW, ?_⟩⟩
    refine ⟨.tuple #[.agg #[.int .i64 0, .slice none 0 0], .int .i64 163], ?_, _, rfl, Kd.R_nil _ _ _ _ _, hBW.trans (belowK_b (w := w) (Nat.le_refl _) _ D _ _ hwD hDW rfl rfl)⟩
    have ht2' : tm[2]?.getD undef = .pointer (some ⟨w.heap.size, 0, none⟩) := by rw [← Array.getD_eq_getD_getElem?]; exact ht2
    simp [results, Try.f32, go_sem, e0, e1, ht2', (show 3 < tm.size by omega)]
  case first =>
    go_wp2_with (go_at_call 48; (with_reducible refine (leb_All_calls _ _ l0 _ ?hr HC0.out (Nat.le_trans HN.out (by decide))).mono ?_); (case hr => repeat (first | exact HR0.out | (with_reducible refine Kd.C_alloc ?_ _))); rintro e w1 ⟨B, vb, rfl, hB, hbx, hv, hb⟩; have GB := Aside0.mk hB; have BX := Aside0.mk hbx; have VV := Aside0.mk hv; have HB := Aside0.mk hb; clear hB hbx hv hb)
    have hsz : ((((w.alloc (.cells #[.int .i64 0, .slice none 0 0] 24)).alloc (.cells #[.int .i64 0, .slice none 0 0] 24)).alloc (.cells #[.int .i64 0] 3)).alloc (.cells #[.int .i64 0] 3)).heap.size = w.heap.size + 4 := by simp
    have hbk := HB.out.block
    rw [hsz] at hbk
    have gB := GB.out
    rw [hsz] at gB
    have vv := VV.out
    rw [hsz] at vv
    have s1 : w.heap.size + 4 ≤ w1.heap.size := by have := HB.out.size; rw [hsz] at this; exact this
    have x2 : w1.heap[w.heap.size]? = some (.cells #[.int .i64 0, .slice none 0 0] 24 (0, 0)) := (hbk _ (by omega)).trans (blk_alloc (blk_alloc (blk_alloc (blk_new w _) _) _) _)
    have x4 : w1.heap[w.heap.size + 1]? = some (.cells #[.int .i64 0, .slice none 0 0] 24 (0, 0)) := (hbk _ (by omega)).trans (blk_alloc (blk_alloc (by have := blk_new (w.alloc (.cells #[.int .i64 0, .slice none 0 0] 24)) (.cells #[.int .i64 0, .slice none 0 0] 24); rw [World.size_alloc] at this; exact this) _) _)
    have x5 : Boxed w1 (w.heap.size + 2) 3 (.int .i64 0) := (hbk _ (by omega)).trans (blk_alloc (by have := blk_new ((w.alloc (.cells #[.int .i64 0, .slice none 0 0] 24)).alloc (.cells #[.int .i64 0, .slice none 0 0] 24)) (.cells #[.int .i64 0] 3); rw [World.size_alloc, World.size_alloc] at this; exact this) _)
    have x6 : Boxed w1 (w.heap.size + 3) 3 (.int .i64 0) := (hbk _ (by omega)).trans (by have := blk_new (((w.alloc (.cells #[.int .i64 0, .slice none 0 0] 24)).alloc (.cells #[.int .i64 0, .slice none 0 0] 24)).alloc (.cells #[.int .i64 0] 3)) (.cells #[.int .i64 0] 3); rw [World.size_alloc, World.size_alloc, World.size_alloc] at this; exact this)
    have hB0 : Below w.heap.size w w1 := ((((((Below.refl _ w).alloc (Nat.le_refl _) _).alloc (by simp) _).alloc (by simp; omega) _).alloc (by simp; omega) _)).trans (HB.out.mono (by simp; omega))
    obtain ⟨ok, hok, vv⟩ : ∃ ok : Nat → Prop, (∀ k, ok k → w.heap.size + 4 ≤ k) ∧ Kd.V (Kd.int .u8) 5 w1 0 ok vb l0 := ⟨_, fun k hk => hk.1, vv⟩
    have hxl : xs.length ≤ 1048576 := Nat.le_trans (leb_told_len k k l0 0 xs HT.out) HN.out
    have hstops := leb_All1_stops (α := cdIn xs) cd_val 19 (by decide) k k B 0 ok vb l0 (Nat.le_trans HN.out (by decide)) xs.attach w1 BX.out vv (by rw [cd_attach]; exact HT.out)
    refine (wpIn_wide (n := 20)).1 ?_
    refine wpIn_rangeFunc_ownF rfl (by decide) (gf := 61) (lb := #[.pointer (some ⟨B, 0, none⟩)]) rfl trivial (enters_of Try.func61 (by kernel_rfl) rfl) hstops leb_Keep.t (leb_Keep.b (Nat.le_refl _)) (Below.refl _ _) (fun _ => rfl)
      (cdI k xs w w1 (w.heap.size + 1) (w.heap.size + 2) (w.heap.size + 3)) (cdX k xs w w1 (w.heap.size + 1) (w.heap.size + 2) (w.heap.size + 3)) (cdI_own k xs w w1 _ _ _ (by omega) (by omega) (by omega) hB0.size) (fun c => cdX_own k xs w w1 _ _ _ c hB0.size)
      ⟨⟨0, 0, [], 0⟩, .slice none 0 0, rfl, x4, x5, x6, World.ownsRow_nil _ _ _ _, ⟨by decide, by decide, Nat.le_refl _⟩, fun _ _ _ _ _ => rfl, Nat.le_refl _, hB0⟩ ?a1 ?assign ?body ?done ?stop
    case assign =>
      intro l x W K hK
      gi_wp2
      exact hK
    case stop =>
      rintro D c pre W hD hpre ⟨rfl, e1, e7, e8, e9⟩ hK
      refine wpIn_goto ?_
      have hall : cdAll k xs ⟨0, 0, [], 0⟩ = some none := by
        obtain ⟨q, hq⟩ := hpre
        have := cdAll_stop k _ (q.map cd_val) _ e1
        rwa [← List.map_append, hq, show xs.attach.map cd_val = xs from cd_attach xs] at this
      have hr : r1 = 0 ∧ r2 = [] ∧ r3 = 163 := by
        have h1 := HA.out
        rw [hall] at h1
        obtain rfl := Option.some.inj h1
        have h2 := H.out
        simp only [Option.some.injEq, Prod.mk.injEq] at h2
        exact ⟨h2.1.symm, h2.2.1.symm, h2.2.2.symm⟩
      exact ⟨rfl, D, ⟨rfl, rfl, rfl⟩, ⟨(e7 _ (by omega) (by omega) (by omega) (by omega)).trans x2, hK, by omega, by omega, e9⟩, hr⟩
    case body =>
      rintro l pre x W ⟨s, vc, e1, e2, e3, e4, e5, ⟨f1, f2, f3⟩, e7, e8, e9⟩ hlen
      have hlx : pre.length < xs.length := by simpa using hlen
      obtain ⟨hsome, hv0, hv1⟩ := HS.out x.1 x.2
      have hb4 := blk_cell e2 0
      have hb41 := blk_cell e2 1
      have hf4 := blk_frozen e2 0
      have hf41 := blk_frozen e2 1
      have hc5 := e3.cell
      have hf5 := e3.frozen
      have hc6 := e4.cell
      have hf6 := e4.frozen
      have E1 := Aside0.mk e1
      have E2 := Aside0.mk e2
      have E3 := Aside0.mk e3
      have E4 := Aside0.mk e4
      have E5 := Aside0.mk e5
      have E7 := Aside0.mk e7
      have E8 := Aside0.mk e8
      have E9 := Aside0.mk e9
      have HOK := Aside0.mk hok
      have HLX := Aside0.mk hlx
      have HXL := Aside0.mk hxl
      have HSM := Aside0.mk hsome
      have F3 := Aside0.mk f3
      have S1 := Aside0.mk s1
      have GB := Aside0.mk gB
      have hsn : ∀ k, (k = B ∨ ok k) → w.heap.size + 4 ≤ k := by
        rintro k (rfl | hk)
        · exact gB
        · exact hok k hk
      have HSN := Aside0.mk hsn
      clear hsn
      clear e1 e2 e3 e4 e5 e7 e8 e9 hok hlx hsome f3 hlen hstops vv x2 x4 x5 x6 hB0 hbk hsz gB s1
      have hlast : ∀ t, cdStep k s x.1 = some t → cdAll k ((pre ++ [x]).map cd_val) ⟨0, 0, [], 0⟩ = some t := by
        intro t ht
        rw [List.map_append, cdAll_append k _ _ _ _ E1.out]
        show cdAll k [x.1] s = _
        simp only [cdAll]
        rw [ht, Option.bind_some]
        cases t <;> rfl
      have HLAST := Aside0.mk hlast
      clear hlast
      by_cases c1 : x.1.2 > 1099511627776
      · have c1b : decide (1099511627776 < x.1.2) = true := decide_eq_true c1
        have C1 := Aside0.mk c1
        clear c1
        gi_wp2
        refine wpIn_goto ?_
        exact ⟨KeepsOthers.refl _, rfl, HLAST.out none (by unfold cdStep; rw [if_pos C1.out]), E7.out, E8.out, E9.out⟩
      · have c1b : decide (1099511627776 < x.1.2) = false := decide_eq_false c1
        have C1 := Aside0.mk c1
        by_cases c2 : s.i > 9
        · have c2b : decide (9 < s.i) = true := decide_eq_true c2
          have C2 := Aside0.mk c2
          clear c1 c2
          gi_wp2
          refine wpIn_goto ?_
          exact ⟨KeepsOthers.refl _, rfl, HLAST.out none (by unfold cdStep; rw [if_neg (by have := C1.out; omega), if_pos C2.out]), E7.out, E8.out, E9.out⟩
        · have c2b : decide (9 < s.i) = false := decide_eq_false c2
          have C2 := Aside0.mk c2
          obtain ⟨z, hz⟩ := Option.isSome_iff_exists.1 HSM.out
          have HZ := Aside0.mk hz
          clear hz
          have hw1 : wrap64 x.1.2 = x.1.2 := by unfold wrap64; omega
          have hw2 : wrap64 (s.i + 1) = s.i + 1 := by unfold wrap64; omega
          have F12 := Aside0.mk (show s.i + 1 ≤ 10 ∧ 0 ≤ s.i + 1 by omega)
          clear c1 c2
          by_cases c3 : s.i = 0
          · have c3b : (s.i == 0) = true := beq_iff_eq.2 c3
            have C3 := Aside0.mk c3
            clear c3
            have hr := cd_lit (W.setCell ⟨w.heap.size + 1, 0, none⟩ (.int .i64 x.1.2)) W.heap.size (w.heap.size + 1 + 1) (s.i + 1) x.1.2 (by simp)
            have HRL := Aside0.mk hr
            clear hr
            gi_wp2_with (refine ⟨trivial, ?_⟩; gi_at_call 49; (with_reducible refine (CallsIn.inRound l (callsIn_wide.2 (cd_size k z _ _ HRL.out HZ.out))).mono ?_); rintro e w' ⟨rfl, ⟨nd, rfl⟩⟩; have hb6 := cd_b6 (b5 := w.heap.size + 1 + 1) (u := .int .i64 (s.i + 1)) (o := .cells #[.int .u64 x.1.2] 57) (nd := nd) (cd_far4 E4.out (w.heap.size + 1) 0 (.int .i64 x.1.2) (by omega)) (by omega); have hc6' := hb6.cell; have hf6' := hb6.frozen; clear hb6)
            have hend := cd_end (k := k) (nd := nd) (u := x.1.2) (S := fun k => k = B ∨ ok k) (b4 := w.heap.size + 1) (b5 := w.heap.size + 2) (b6 := w.heap.size + 3) (by have := S1.out; omega) (by have := S1.out; omega) (by have := S1.out; omega) (by omega) (by omega) (by omega) (by omega) (by omega) (fun k hk => by have := HSN.out k hk; omega)
              (HLAST.out (some ⟨s.i + 1, x.1.2, s.ch, wrap64 (x.1.1 + z)⟩) (by unfold cdStep; rw [if_neg (by have := C1.out; omega), if_neg (by have := C2.out; omega), HZ.out, Option.bind_some, if_pos C3.out, if_pos C3.out, hw1, hw2]))
              (WA := W.setCell ⟨w.heap.size + 1, 0, none⟩ (.int .i64 x.1.2)) (blk_set E2.out 0 (.int .i64 x.1.2)) (cd_far4 E3.out (w.heap.size + 1) 0 (.int .i64 x.1.2) (by omega)) (cd_far4 E4.out (w.heap.size + 1) 0 (.int .i64 x.1.2) (by omega)) (cd_own_set E5.out (by have := S1.out; omega) 0 _) ⟨F12.out.1, F12.out.2, by have := F3.out; omega⟩ (fun k hk n4 n5 n6 => (Below.heap_setCell W ⟨w.heap.size + 1, 0, none⟩ _ k n4).trans (E7.out k hk n4 n5 n6)) (by have := E8.out; simpa using this) (E9.out.setCell (p := ⟨w.heap.size + 1, 0, none⟩) (by simp) _)
            exact ⟨(KeepsOthers.setCell _ _ _).trans hend.1, leb_Keep.t (fun k hk hn => Below.heap_setCell W ⟨w.heap.size + 1, 0, none⟩ _ k (show k ≠ w.heap.size + 1 by have := HSN.out k hk; omega)) hend.2.1, hend.2.2⟩
          · have c3b : (s.i == 0) = false := beq_eq_false_iff_ne.2 c3
            have C3 := Aside0.mk c3
            clear c3
            by_cases c4 : s.i > 1
            · have c4b : decide (1 < s.i) = true := decide_eq_true c4
              have C4 := Aside0.mk c4
              clear c4
              have hl8 : s.ch.length + 1 ≤ 1048577 := by have := F3.out; have := HLX.out; have := HXL.out; omega
              obtain ⟨i0, hi, hz0, hz1, hz2⟩ := info_parts (show (Try.prog.info? 3).map (fun i => (i.zero, i.size, i.bytes)) = some (some (.int .i64 0), 1, 8) by kernel_rfl)
              have HL8 := Aside0.mk hl8
              clear hl8
              gi_wp2_with (first
                | (gi_at_builtin; refine wpListIn_append_own _ rfl _ _ 22 rfl w1.heap.size 3 i0 (.int .i64 0) 1 8 Try.underlying22 hi hz0 hz1 hz2 rfl (by decide) _ _ _ rfl (E5.out.alloc _) ⟨W.heap.size, 0, none⟩ 1 1 [.int .i64 x.1.2] rfl rfl (cell_one_new _ _ _) (by simp [Value.oneCell']) (by have := HL8.out; unfold maxLen; omega) (by have := HL8.out; omega) (by have := E8.out; simp; omega) ?_; intro v' wa hown' hgrow _; obtain ⟨g', cap', rfl⟩ := ownsRow_succ hown'; have hk := cd_grown E5.out E8.out hgrow; have HK := Aside0.mk hk; have OWN := Aside0.mk hown'; have GRW := Aside0.mk hgrow; have A4 := Aside0.mk ((hk _ (by have := S1.out; omega)).trans E2.out); have A5 := Aside0.mk (show Boxed wa (w.heap.size + 2) 3 (.int .i64 s.i) from (hk _ (by have := S1.out; omega)).trans E3.out); have A6 := Aside0.mk (show Boxed wa (w.heap.size + 3) 3 (.int .i64 s.en) from (hk _ (by have := S1.out; omega)).trans E4.out); clear hk hown' hgrow; have ha4 := blk_cell A4.out 0; have ha41 := blk_cell A4.out 1; have hfa4 := blk_frozen A4.out 0; have hfa41 := blk_frozen A4.out 1; have ha5 := A5.out.cell; have hfa5 := A5.out.frozen; have ha6 := A6.out.cell; have hfa6 := A6.out.frozen; have HRL := Aside0.mk (cd_lit (wa.setCell ⟨w.heap.size + 1, 1, none⟩ (.slice (some ⟨g', 0, none⟩) (s.ch.length + 1) cap')) wa.heap.size (w.heap.size + 1 + 1) (s.i + 1) x.1.2 (by simp)))
                | (refine ⟨trivial, ?_⟩; gi_at_call 49; (with_reducible refine (CallsIn.inRound l (callsIn_wide.2 (cd_size k z _ _ HRL.out HZ.out))).mono ?_); rintro e w' ⟨rfl, ⟨nd, rfl⟩⟩; have hb6 := cd_b6 (b5 := w.heap.size + 1 + 1) (u := .int .i64 (s.i + 1)) (o := .cells #[.int .u64 x.1.2] 57) (nd := nd) (cd_far4 A6.out (w.heap.size + 1) 1 (.slice (some ⟨g', 0, none⟩) (s.ch.length + 1) cap') (by omega)) (by omega); have hc6' := hb6.cell; have hf6' := hb6.frozen; clear hb6))
              have hch : (s.ch ++ [x.1.2]).length = s.ch.length + 1 := by simp
              have hnum : nums .i64 (s.ch ++ [x.1.2]) = nums .i64 s.ch ++ [.int .i64 x.1.2] := by simp [nums]
              have hend := cd_end (k := k) (nd := nd) (u := x.1.2) (S := fun k => k = B ∨ ok k) (b4 := w.heap.size + 1) (b5 := w.heap.size + 2) (b6 := w.heap.size + 3) (by have := S1.out; omega) (by have := S1.out; omega) (by have := S1.out; omega) (by omega) (by omega) (by omega) (by omega) (by omega) (fun k hk => by have := HSN.out k hk; omega)
                (HLAST.out (some ⟨s.i + 1, s.e, s.ch ++ [x.1.2], wrap64 (x.1.1 + z)⟩) (by unfold cdStep; rw [if_neg (by have := C1.out; omega), if_neg (by have := C2.out; omega), HZ.out, Option.bind_some, if_neg C3.out, if_neg C3.out, if_pos C4.out, hw1, hw2]))
                (WA := wa.setCell ⟨w.heap.size + 1, 1, none⟩ (.slice (some ⟨g', 0, none⟩) (s.ch.length + 1) cap')) (blk_set A4.out 1 _) (cd_far4 A5.out (w.heap.size + 1) 1 _ (by omega)) (cd_far4 A6.out (w.heap.size + 1) 1 _ (by omega))
                (by rw [hch, hnum]; exact cd_own_set OWN.out (by have := S1.out; omega) 1 _) ⟨F12.out.1, F12.out.2, by rw [hch]; have := F3.out; omega⟩
                (fun k hk n4 n5 n6 => (Below.heap_setCell wa ⟨w.heap.size + 1, 1, none⟩ _ k n4).trans ((HK.out k hk).trans (E7.out k hk n4 n5 n6))) (by have := E8.out; have := GRW.out.size; simp at this ⊢; omega)
                (cd_gbelow E9.out E5.out (by have := S1.out; omega) GRW.out (w.heap.size + 1) 1 _ (by omega))
              refine ⟨(cd_gkeep E5.out GRW.out).trans ((KeepsOthers.setCell _ _ _).trans hend.1), leb_Keep.t (fun k hk hn => (Below.heap_setCell wa ⟨w.heap.size + 1, 1, none⟩ _ k (show k ≠ w.heap.size + 1 by have := HSN.out k hk; omega)).trans (HK.out k hn)) hend.2.1, hend.2.2⟩
            · have c4b : decide (1 < s.i) = false := decide_eq_false c4
              have C4 := Aside0.mk c4
              clear c4
              have hr := cd_lit W W.heap.size (w.heap.size + 1 + 1) (s.i + 1) x.1.2 rfl
              have HRL := Aside0.mk hr
              clear hr
              gi_wp2_with (refine ⟨trivial, ?_⟩; gi_at_call 49; (with_reducible refine (CallsIn.inRound l (callsIn_wide.2 (cd_size k z _ _ HRL.out HZ.out))).mono ?_); rintro e w' ⟨rfl, ⟨nd, rfl⟩⟩; have hb6 := cd_b6 (b5 := w.heap.size + 1 + 1) (u := .int .i64 (s.i + 1)) (o := .cells #[.int .u64 x.1.2] 57) (nd := nd) E4.out (by omega); have hc6' := hb6.cell; have hf6' := hb6.frozen; clear hb6)
              have hend := cd_end (k := k) (nd := nd) (u := x.1.2) (S := fun k => k = B ∨ ok k) (b4 := w.heap.size + 1) (b5 := w.heap.size + 2) (b6 := w.heap.size + 3) (by have := S1.out; omega) (by have := S1.out; omega) (by have := S1.out; omega) (by omega) (by omega) (by omega) (by omega) (by omega) (fun k hk => by have := HSN.out k hk; omega)
                (HLAST.out (some ⟨s.i + 1, s.e, s.ch, wrap64 (x.1.1 + z)⟩) (by unfold cdStep; rw [if_neg (by have := C1.out; omega), if_neg (by have := C2.out; omega), HZ.out, Option.bind_some, if_neg C3.out, if_neg C3.out, if_neg (by have := C4.out; omega), hw2]))
                (WA := W) E2.out E3.out E4.out E5.out ⟨F12.out.1, F12.out.2, by have := F3.out; omega⟩ E7.out E8.out E9.out
              exact hend
    case done =>
      rintro D ys W hD rfl ⟨s, vc, e1, e2, e3, e4, e5, ⟨f1, f2, f3⟩, e7, e8, e9⟩ hK
      replace e1 : cdAll k xs ⟨0, 0, [], 0⟩ = some (some s) := by have := e1; rwa [show xs.attach.map cd_val = xs from cd_attach xs] at this
      have hend : config_Decode.end_ k l0 s = some (r1, r2, r3) := by
        have h1 := HA.out
        rw [e1] at h1
        obtain rfl := Option.some.inj h1
        exact H.out
      have hb2 := (e7 _ (show w.heap.size < w1.heap.size by omega) (by omega) (by omega) (by omega)).trans x2
      have hRow := cd_R e5
      obtain ⟨Ac, cc, rfl⟩ := Kd.R_slice hRow
      have hb4 := blk_cell e2 0
      have hb41 := blk_cell e2 1
      have hc6 := e4.cell
      have ROW := Aside0.mk hRow
      have B2 := Aside0.mk hb2
      have B4 := Aside0.mk e2
      have BEL := Aside0.mk e9
      have KD := Aside0.mk hK
      have LD := Aside0.mk (show w.heap.size < D by omega)
      have LS1 := Aside0.mk s1
      clear HA H e1 e2 e3 e4 e5 f1 f2 f3 e7 e8 e9 hK hD hstops vv x2 x4 x5 x6 hB0 hbk hsz gB s1 hb2 hRow hok hxl h
      unfold config_Decode.end_ at hend
      by_cases c1 : s.en = (l0.length : Int)
      · rw [if_pos c1] at hend
        have c1b : (s.en != (l0.length : Int)) = false := bne_eq_false_iff_eq.2 c1
        obtain ⟨cr, A1, hend⟩ := Option.bind_eq_some_iff.1 hend
        have CA := Aside0.mk A1
        clear c1 A1
        by_cases c2 : cr = 0
        · rw [if_pos c2] at hend
          have c2b : (cr != 0) = false := bne_eq_false_iff_eq.2 c2
          obtain ⟨⟨bs, be⟩, A2, hend⟩ := Option.bind_eq_some_iff.1 hend
          obtain ⟨q, A3, hend⟩ := Option.bind_eq_some_iff.1 hend
          have EA := Aside0.mk A2
          have QA := Aside0.mk A3
          have HEND := Aside0.mk hend
          clear c2 A2 A3 hend
          cases q with
          | true =>
            go_wp2_with (first
              | (go_at_call 26; (with_reducible refine (config_Check.calls s.e _ _ s.ch cr _ (Kd.R_reads' ROW.out).2.2 (Kd.R_reads' ROW.out).2.1 CA.out).mono ?_); rintro e w2 ⟨rfl, hb⟩; have HB2 := Aside0.mk hb; have ROW2 := Aside0.mk (Kd.R_below ROW.out hb); have B42 := Aside0.mk (blk_below B4.out hb); have x40 := blk_cell B42.out 0; have x41 := blk_cell B42.out 1; clear hb)
              | (go_at_call 22; (with_reducible refine (config_Encode.calls k s.e _ _ s.ch bs be _ (Kd.R_reads' ROW2.out).2.2 (Kd.R_reads' ROW2.out).2.1 EA.out).mono ?_); rintro e w3 ⟨vb2, rfl, hr, hb⟩; obtain ⟨Ab, cb, rfl⟩ := Kd.R_slice hr; have HB3 := Aside0.mk hb; have RB := Aside0.mk hr; have BT := Aside0.mk (BEL.out.trans ((HB2.out.trans (hb.mono HB2.out.size)).mono BEL.out.size)); have hall := HB2.out.trans (hb.mono HB2.out.size); have HAL := Aside0.mk hall; have B43 := Aside0.mk (blk_below B42.out hb); have y40 := blk_cell B43.out 0; have y41 := blk_cell B43.out 1; have y2 := Aside0.mk ((hall.block _ (blk_lt B2.out)).trans B2.out); have z0 := blk_cell y2.out 0; have z1 := blk_cell y2.out 1; have z2 := blk_frozen y2.out 0; have z3 := blk_frozen y2.out 1; clear hr hb hall)
              | (go_at_call 50; (with_reducible refine (bytes_Equal.calls _ _ bs _ _ l0 true _ (Kd.R_reads' RB.out).2.2 (Kd.R_reads' RB.out).2.1 (Kd.C_below HR0.out BT.out) HC0.out QA.out).mono ?_); rintro e w' ⟨rfl, ⟨nd, rfl⟩⟩))
            obtain ⟨rfl, rfl, rfl⟩ : s.e = r1 ∧ s.ch = r2 ∧ (0 : Int) = r3 := by
              have := HEND.out
              simp only [if_true, Option.some.injEq, Prod.mk.injEq] at this
              exact this
            have hne : w.heap.size ≠ D := Nat.ne_of_lt LD.out
            have hbW := blk_set (blk_set (show (w3.drewN nd).heap[w.heap.size]? = _ from y2.out) 0 (.int .i64 s.e)) 1 (.slice Ac s.ch.length cc)
            have hDW : (((w3.drewN nd).setCell ⟨w.heap.size, 0, none⟩ (.int .i64 s.e)).setCell ⟨w.heap.size, 1, none⟩ (.slice Ac s.ch.length cc)).heap[D]? = some (.deferred (some [])) := (Below.heap_setCell _ ⟨w.heap.size, 1, none⟩ _ D (Ne.symm hne)).trans ((Below.heap_setCell _ ⟨w.heap.size, 0, none⟩ _ D (Ne.symm hne)).trans (show w3.heap[D]? = _ from (HAL.out.block _ (blk_lt KD.out)).trans KD.out))
            have hBW := ((pw_below_drewN BT.out nd).setCell (p := ⟨w.heap.size, 0, none⟩) (Nat.le_refl _) (.int .i64 s.e)).setCell (p := ⟨w.heap.size, 1, none⟩) (Nat.le_refl _) (.slice Ac s.ch.length cc)
            have hbP := (World.putObj_heap_other (o := .deferred none) hne).trans hbW
            have q0 := blk_cell hbP 0
            have q1 := blk_cell hbP 1
            have hrow : Kd.R (Kd.int .i64) 3 ((((w3.drewN nd).setCell ⟨w.heap.size, 0, none⟩ (.int .i64 s.e)).setCell ⟨w.heap.size, 1, none⟩ (.slice Ac s.ch.length cc)).putObj D (.deferred none)) w1.heap.size (fun _ => True) (.slice Ac s.ch.length cc) s.ch := by
              refine Kd.R_step (Kd.R_bound (Kd.R_below ROW.out HAL.out)) (fun k hk hlt => ?_) |> fun h => Kd.R_mono h (fun _ _ => trivial)
              obtain ⟨_, hk1, hk2, q, hq, cells, hcells⟩ := hk
              have hkD : k ≠ D := by
                rintro rfl
                have := (HAL.out.block _ (blk_lt KD.out)).trans KD.out
                rw [hcells] at this
                cases this
              have hk2' : k ≠ w.heap.size := by have := LS1.out; omega
              rw [World.putObj_heap_other hkD, Below.heap_setCell _ ⟨w.heap.size, 1, none⟩ _ k hk2', Below.heap_setCell _ ⟨w.heap.size, 0, none⟩ _ k hk2']
              rfl
            refine ⟨by simp, .inl ⟨_, _, rfl, run_takeDeferred hDW, ?_⟩⟩
            refine ⟨.tuple #[.agg #[.int .i64 s.e, .slice Ac s.ch.length cc], .int .i64 0], ?_, _, rfl, Kd.R_lower hrow (by have := LS1.out; omega), hBW.trans (belowK_b (w := w) (Nat.le_refl _) _ D _ _ (Nat.le_of_lt LD.out) hDW rfl rfl)⟩
            simp [results, Try.f32, go_sem, q0, q1]
          | false =>
            go_wp2_with (first
              | (go_at_call 26; (with_reducible refine (config_Check.calls s.e _ _ s.ch cr _ (Kd.R_reads' ROW.out).2.2 (Kd.R_reads' ROW.out).2.1 CA.out).mono ?_); rintro e w2 ⟨rfl, hb⟩; have HB2 := Aside0.mk hb; have ROW2 := Aside0.mk (Kd.R_below ROW.out hb); have B42 := Aside0.mk (blk_below B4.out hb); have x40 := blk_cell B42.out 0; have x41 := blk_cell B42.out 1; clear hb)
              | (go_at_call 22; (with_reducible refine (config_Encode.calls k s.e _ _ s.ch bs be _ (Kd.R_reads' ROW2.out).2.2 (Kd.R_reads' ROW2.out).2.1 EA.out).mono ?_); rintro e w3 ⟨vb2, rfl, hr, hb⟩; obtain ⟨Ab, cb, rfl⟩ := Kd.R_slice hr; have HB3 := Aside0.mk hb; have RB := Aside0.mk hr; have BT := Aside0.mk (BEL.out.trans ((HB2.out.trans (hb.mono HB2.out.size)).mono BEL.out.size)); have hall := HB2.out.trans (hb.mono HB2.out.size); have HAL := Aside0.mk hall; have B43 := Aside0.mk (blk_below B42.out hb); have y40 := blk_cell B43.out 0; have y41 := blk_cell B43.out 1; have y2 := Aside0.mk ((hall.block _ (blk_lt B2.out)).trans B2.out); have z0 := blk_cell y2.out 0; have z1 := blk_cell y2.out 1; have z2 := blk_frozen y2.out 0; have z3 := blk_frozen y2.out 1; clear hr hb hall)
              | (go_at_call 50; (with_reducible refine (bytes_Equal.calls _ _ bs _ _ l0 false _ (Kd.R_reads' RB.out).2.2 (Kd.R_reads' RB.out).2.1 (Kd.C_below HR0.out BT.out) HC0.out QA.out).mono ?_); rintro e w' ⟨rfl, ⟨nd, rfl⟩⟩))
            refine wp_goto ?_
            refine ⟨rfl, D, ⟨rfl, rfl, rfl⟩, ⟨show (World.drewN _ nd).heap[_]? = _ from y2.out, show (World.drewN _ nd).heap[_]? = _ from (HAL.out.block _ (blk_lt KD.out)).trans KD.out, Nat.le_of_lt LD.out, Nat.ne_of_lt LD.out, pw_below_drewN BT.out nd⟩, ?_⟩
            have := HEND.out
            simp only [Bool.false_eq_true, if_false, Option.some.injEq, Prod.mk.injEq] at this
            exact ⟨this.1.symm, this.2.1.symm, this.2.2.symm⟩
        · rw [if_neg c2] at hend
          have c2b : (cr != 0) = true := bne_iff_ne.2 c2
          have HEND := Aside0.mk hend
          clear c2 hend
          go_wp2_with (go_at_call 26; (with_reducible refine (config_Check.calls s.e _ _ s.ch cr _ (Kd.R_reads' ROW.out).2.2 (Kd.R_reads' ROW.out).2.1 CA.out).mono ?_); rintro e w2 ⟨rfl, hb⟩; have HB2 := Aside0.mk hb; clear hb)
          refine wp_goto ?_
          refine ⟨rfl, D, ⟨rfl, rfl, rfl⟩, ⟨(HB2.out.block _ (blk_lt B2.out)).trans B2.out, (HB2.out.block _ (blk_lt KD.out)).trans KD.out, Nat.le_of_lt LD.out, Nat.ne_of_lt LD.out, BEL.out.trans (HB2.out.mono BEL.out.size)⟩, ?_⟩
          have := HEND.out
          simp only [Option.some.injEq, Prod.mk.injEq] at this
          exact ⟨this.1.symm, this.2.1.symm, this.2.2.symm⟩
      · rw [if_neg c1] at hend
        have c1b : (s.en != (l0.length : Int)) = true := bne_iff_ne.2 c1
        have HEND := Aside0.mk hend
        clear c1 hend
        go_wp2
        refine wp_goto ?_
        refine ⟨rfl, D, ⟨rfl, rfl, rfl⟩, ⟨B2.out, KD.out, Nat.le_of_lt LD.out, Nat.ne_of_lt LD.out, BEL.out⟩, ?_⟩
        have := HEND.out
        simp only [Option.some.injEq, Prod.mk.injEq] at this
        exact ⟨this.1.symm, this.2.1.symm, this.2.2.symm⟩

-- NOT PRINTED: function 63 (pack_Reader_well)

-- NOT PRINTED: function 59 (pack_fate_Fail)

-- NOT PRINTED: function 67 (pack_Reader_Fail)

-- NOT PRINTED: function 64 (pack_Reader_number)

-- NOT PRINTED: function 52 (pack_Reader_bounded)

-- NOT PRINTED: function 51 (pack_Reader_text)

-- NOT PRINTED: function 33 (pack_Reader_Text)

-- NOT PRINTED: function 34 (pack_Reader_Int)

-- NOT PRINTED: function 53 (pack_Reader_Err)

-- NOT PRINTED: function 54 (pack_Reader_Left)

-- NOT PRINTED: function 35 (pack_Reader_End)

end Go.Proofs.Ytkkmceejfmjidaa.G
