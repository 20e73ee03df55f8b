-- Written for this claim by a program of this session (wip/xprint.py), by means of the kit's print. Not trusted: Lean checks it.
import Derived.Test.YtcpdnoaebbbgcaaGx0
import Derived.Test.YtcpdnoaebbbgcaaGx1
import Derived.Test.YtcpdnoaebbbgcaaGx2
import Derived.Test.YtcpdnoaebbbgcaaGx3
import Derived.Test.YtcpdnoaebbbgcaaGx5
namespace Go.Proofs.Ytcpdnoaebbbgcaa.G
open Go.RowKit Go.Proofs.YtcpdnoaebbbgcaaW.PrintWords Go.Proofs.YtcpdnoaebbbgcaaW.PrintLast Go.Proofs.YtcpdnoaebbbgcaaW.PrintMore
attribute [local go_sem] max2_int min2_int max_two min_two max_three min_three max_four min_four   -- for this text's walks alone
set_option linter.unusedVariables false
set_option linter.unusedSimpArgs false

/-! ### hawserlaw01_LebTells: function 9 -/
open Go.Proofs.Ytcpdnoaebbbgcaa.Blocks Go.Shelf
def hawserlaw01_LebTells.f (k : Nat) (l0 : List Int) (a1 : Int) : Option Bool :=
  (hawserref01_All.f k l0).bind fun want => (hawserref01_Lend.f l0).bind fun le => (leb_told k k le.2 0).bind fun xs =>
    if l0.length ≤ 1048576 ∧ le.2.length = l0.length ∧ want.length ≤ 1048576 ∧ want.map (fun x => (x.f0, x.f1)) = xs then (leb_told k k [5, 128, 1, 7] 0).bind fun ys => (leb_told k k [1, 2] 0).bind fun zs => if ys.length = 3 ∧ zs.length = 2 then (hawserref01_Kept.f k le.1 l0).bind fun b => if b = true then some true else none else none else none
theorem hawserlaw01_LebTells.mono : ∀ a0 a1 k, LeO (hawserlaw01_LebTells.f k a0 a1) (hawserlaw01_LebTells.f (k + 1) a0 a1) := by
  intro a0 a1 k
  unfold hawserlaw01_LebTells.f
  exact LeO.bind (hawserref01_All.mono _ _) fun _ => LeO.bind (LeO.refl _) fun _ => LeO.bind (leb_told_up _ _ _) fun _ => LeO.ite (LeO.bind (leb_told_up _ _ _) fun _ => LeO.bind (leb_told_up _ _ _) fun _ => LeO.ite (LeO.bind (hawserref01_Kept.mono _ _ _) fun _ => LeO.refl _) (LeO.refl _)) (LeO.refl _)

theorem lebT_eqf (W : World) (B : Nat) : (binOp .eql 52 (.func (.func 33) #[] #[.pointer (some ⟨B, 0, none⟩)]) Value.nilFunc).run Try.prog W = .ok (.bool false) W := by
  kernel_rfl
def lebT_AllR (W : World) (L : List Int) (e : Ending) (w' : World) : Prop := ∃ (B : Nat) (v : Value), e = .returned (.func (.func 33) #[] #[.pointer (some ⟨B, 0, none⟩)]) ∧ W.heap.size + 1 ≤ B ∧ Boxed w' B 32 v ∧ Kd.V (Kd.int .u8) 5 w' (W.heap.size + 1) (fun k => W.heap.size + 1 ≤ k ∧ k ≠ B) v L ∧ Below W.heap.size W w'
theorem lebT_All4 (W : World) : Calls Try.prog 26 #[.slice (some ⟨W.heap.size, 0, none⟩) 4 4] (W.alloc (.cells #[.int .u8 5, .int .u8 128, .int .u8 1, .int .u8 7] 5)) (lebT_AllR W [5, 128, 1, 7]) :=
  (leb_All_calls _ 4 [5, 128, 1, 7] _ (C_of_blk (L := [5, 128, 1, 7]) (o := 0) (n := 4) (World.alloc_heap_new W _) (by decide) (by decide)) (Nat.le_refl 4) (by decide)).mono fun e w' h => by
    obtain ⟨B, v, h1, h2, h3, h4, h5⟩ := h
    rw [World.size_alloc] at h2 h4
    exact ⟨B, v, h1, h2, h3, h4, ((Below.refl _ W).alloc (Nat.le_refl _) _).trans (h5.mono (by simp))⟩
theorem lebT_All2 (W : World) : Calls Try.prog 26 #[.slice (some ⟨W.heap.size, 0, none⟩) 2 2] (W.alloc (.cells #[.int .u8 1, .int .u8 2] 5)) (lebT_AllR W [1, 2]) :=
  (leb_All_calls _ 2 [1, 2] _ (C_of_blk (L := [1, 2]) (o := 0) (n := 2) (World.alloc_heap_new W _) (by decide) (by decide)) (Nat.le_refl 2) (by decide)).mono fun e w' h => by
    obtain ⟨B, v, h1, h2, h3, h4, h5⟩ := h
    rw [World.size_alloc] at h2 h4
    exact ⟨B, v, h1, h2, h3, h4, ((Below.refl _ W).alloc (Nat.le_refl _) _).trans (h5.mono (by simp))⟩
def lebT_KB (b : Nat) (W0 W : World) : Prop := W0.heap.size ≤ W.heap.size ∧ ∀ k, k < W0.heap.size → k ≠ b → W.heap[k]? = W0.heap[k]?
theorem lebT_KB.box {b : Nat} {W0 W : World} (h : lebT_KB b W0 W) {B : Nat} {t : TypeId} {v : Value} (hb : Boxed W0 B t v) (hne : B ≠ b) : Boxed W B t v := (h.2 B hb.lt hne).trans hb
theorem lebT_KB.t {b b' : Nat} {W0 W W' : World} (h : lebT_KB b W0 W) (h' : ∀ k, k < W0.heap.size → k ≠ b → W'.heap[k]? = W.heap[k]?) (hs : W.heap.size ≤ W'.heap.size) : lebT_KB b W0 W' := ⟨Nat.le_trans h.1 hs, fun k hk hn => (h' k hk hn).trans (h.2 k hk hn)⟩
def lebT_In (xs : List (Int × Int)) (w W1 : World) (b : Nat) (pre : List (leb_In xs)) (W : World) : Prop :=
  (pre.map leb_val = xs.take pre.length ∧ pre.length ≤ xs.length) ∧ Boxed W b 3 (.int .i64 (pre.length : Int)) ∧ lebT_KB b W1 W ∧ Below w.heap.size w W
theorem lebT_In_own (xs : List (Int × Int)) (w W1 : World) (b : Nat) (hb : b < W1.heap.size) (hw : w.heap.size ≤ W1.heap.size) : OwnFrom W1.heap.size (lebT_In xs w W1 b) := by
  rintro s X Y row ⟨h1, h2, h3, h4⟩ hg hr
  refine ⟨h1, h2.kept hg ?_, h3.t (b' := b) (fun k hk _ => hg.block k (Nat.lt_of_lt_of_le hk h3.1) ?_) hg.size, h4.grown hg h4.size ?_⟩
  · intro e; have := (hr _ e.symm).1; omega
  · intro e; have := (hr _ e.symm).1; omega
  · intro j e; have := (hr _ e).1; omega
def lebT_Ix (xs : List (Int × Int)) (a1 : Int) (j : Nat) (w W1 : World) (b : Nat) (c : Code) (pre : List (leb_In xs)) (W : World) : Prop :=
  (c = .ret ∧ pre.map leb_val ≠ xs.take pre.length) ∨ (c = .exit 2 ∧ j = 0 ∧ (pre.length : Int) = a1 ∧ lebT_In xs w W1 b pre W)
theorem lebT_Ix_own (xs : List (Int × Int)) (a1 : Int) (j : Nat) (w W1 : World) (b : Nat) (c : Code) (hb : b < W1.heap.size) (hw : w.heap.size ≤ W1.heap.size) : OwnFrom W1.heap.size (lebT_Ix xs a1 j w W1 b c) := by
  rintro s X Y row (h | ⟨h1, h2, h3, h4⟩) hg hr
  · exact .inl h
  · exact .inr ⟨h1, h2, h3, lebT_In_own xs w W1 b hb hw s X Y row h4 hg hr⟩
theorem lebT_ne {xs : List (Int × Int)} {pre : List (leb_In xs)} {x : leb_In xs} {p : Int × Int} (hpre : pre.map leb_val = xs.take pre.length) (hx : xs.take (pre.length + 1) = xs.take pre.length ++ [p]) (hne : p ≠ leb_val x) :
    (pre ++ [x]).map leb_val ≠ xs.take (pre ++ [x]).length := by
  rw [List.map_append, List.length_append, List.length_singleton, hx, hpre]
  intro h
  have := List.append_cancel_left h
  simp only [List.map_cons, List.map_nil, List.cons.injEq, and_true] at this
  exact hne this.symm
theorem lebT_eq {xs : List (Int × Int)} {pre : List (leb_In xs)} {x : leb_In xs} {p : Int × Int} (hpre : pre.map leb_val = xs.take pre.length) (hx : xs.take (pre.length + 1) = xs.take pre.length ++ [p]) (he : p = leb_val x) :
    (pre ++ [x]).map leb_val = xs.take (pre ++ [x]).length := by
  rw [List.map_append, List.length_append, List.length_singleton, hx, hpre, he]
  rfl
theorem lebT_In_next {xs : List (Int × Int)} {w W1 : World} {b : Nat} {pre : List (leb_In xs)} {W : World} {x : leb_In xs} {p : Int × Int} (hpre : pre.map leb_val = xs.take pre.length) (hlx : pre.length < xs.length) (hx : xs.take (pre.length + 1) = xs.take pre.length ++ [p]) (he : p = leb_val x)
    (hb : Boxed W b 3 (.int .i64 (pre.length : Int))) (hk : lebT_KB b W1 W) (hB : Below w.heap.size w W) (hwb : w.heap.size ≤ b) :
    lebT_In xs w W1 b (pre ++ [x]) (W.setCell ⟨b, 0, none⟩ (.int .i64 ((pre.length : Int) + 1))) := by
  refine ⟨⟨lebT_eq hpre hx he, by simp; omega⟩, ?_, hk.t (b' := b) (fun k _ hn => Below.heap_setCell W ⟨b, 0, none⟩ _ k hn) (by simp), hB.setCell (p := ⟨b, 0, none⟩) hwb _⟩
  rw [show (((pre ++ [x]).length : Nat) : Int) = (pre.length : Int) + 1 by simp]
  exact hb.set _
/-- What lies ahead of the loops and stays: below block M. -/
structure lebT_S (M : Nat) (a1 : Int) (b3 b4 b5 B : Nat) (Aw : Option Addr) (cw : Nat) (want : List S55) (Ah : Option Addr) (ch : Nat) (whole : List Int) (v : Value) (part : List Int) (okp : Nat → Prop) (W : World) : Prop where
  m3 : b3 < M
  m4 : b4 < M
  m5 : b5 < M
  mB : B < M
  x3 : Boxed W b3 3 (.int .i64 a1)
  x4 : Boxed W b4 4 (.bool false)
  x5 : Boxed W b5 49 (.slice Aw want.length cw)
  vw : Kd.V k55 55 W 0 (fun k => k < M) (.slice Aw want.length cw) want
  vh : Kd.V (Kd.int .u8) 5 W 0 (fun k => k < M) (.slice Ah whole.length ch) whole
  xB : Boxed W B 32 v
  vp : Kd.V (Kd.int .u8) 5 W 0 okp v part
  okp : ∀ k, okp k → k < M
theorem lebT_S.move {M : Nat} {a1 : Int} {b3 b4 b5 B : Nat} {Aw : Option Addr} {cw : Nat} {want : List S55} {Ah : Option Addr} {ch : Nat} {whole : List Int} {v : Value} {part : List Int} {okp : Nat → Prop} {W W' : World}
    (h : lebT_S M a1 b3 b4 b5 B Aw cw want Ah ch whole v part okp W) (hm : ∀ k, k < M → k < W.heap.size → W'.heap[k]? = W.heap[k]?) : lebT_S M a1 b3 b4 b5 B Aw cw want Ah ch whole v part okp W' :=
  ⟨h.m3, h.m4, h.m5, h.mB, (hm _ h.m3 h.x3.lt).trans h.x3, (hm _ h.m4 h.x4.lt).trans h.x4, (hm _ h.m5 h.x5.lt).trans h.x5, Kd.V_step h.vw hm, Kd.V_step h.vh hm, (hm _ h.mB h.xB.lt).trans h.xB, Kd.V_step h.vp (fun k hk => hm k (h.okp k hk)), h.okp⟩
theorem lebT_ne_c {M : Nat} {a1 : Int} {b3 b4 b5 B : Nat} {Aw : Option Addr} {cw : Nat} {want : List S55} {Ah : Option Addr} {ch : Nat} {whole : List Int} {v : Value} {part : List Int} {okp : Nat → Prop} {W : World} {c k : Nat}
    (h : lebT_S M a1 b3 b4 b5 B Aw cw want Ah ch whole v part okp W) (hc : M ≤ c) (hk : k = B ∨ okp k) : k ≠ c := by
  rcases hk with rfl | hk
  · have := h.mB; omega
  · have := h.okp k hk; omega
theorem lebT_All4' (W : World) (g : Nat) (hg : g = W.heap.size) : Calls Try.prog 26 #[.slice (some ⟨g, 0, none⟩) 4 4] (W.alloc (.cells #[.int .u8 5, .int .u8 128, .int .u8 1, .int .u8 7] 5)) (lebT_AllR W [5, 128, 1, 7]) := by
  subst hg; exact lebT_All4 W
theorem lebT_Below_keeps {B : Nat} {W W' : World} (h : Below W.heap.size W W') : KeepsFrom B W W' := ⟨h.size, fun k o _ hk _ => (h.block k (Array.getElem?_eq_some_iff.1 hk).1).trans hk⟩
def lebT_N (w W1 : World) (b : Nat) (f : Nat → Int) {α : Type} (pre : List α) (W : World) : Prop := Boxed W b 3 (.int .i64 (f pre.length)) ∧ lebT_KB b W1 W ∧ Below w.heap.size w W
theorem lebT_N_own {α : Type} (w W1 : World) (b : Nat) (f : Nat → Int) (B : Nat) (hb : b < B) (hw : w.heap.size ≤ B) (h1 : W1.heap.size ≤ B) : OwnFrom B (fun (pre : List α) W => lebT_N w W1 b f pre W) := by
  rintro s X Y row ⟨h2, h3, h4⟩ hg hr
  refine ⟨h2.kept hg ?_, h3.t (b' := b) (fun k hk _ => hg.block k (Nat.lt_of_lt_of_le hk h3.1) ?_) hg.size, h4.grown hg h4.size ?_⟩
  · intro e; have := (hr _ e.symm).1; omega
  · intro e; have := (hr _ e.symm).1; omega
  · intro j e; have := (hr _ e).1; omega
theorem leb_Keep.own {S : Nat → Prop} {N : Nat} {α : Type} (X : World) (B : Nat) (h : N ≤ B) (hX : N ≤ X.heap.size) : OwnFrom B (fun (_ : List α) W => leb_Keep S N X W ∧ X.heap.size ≤ W.heap.size) := by
  rintro s Y Z row ⟨h1, h2⟩ hg hr
  exact ⟨fun k hk hn => (hg.block k (by omega) (fun e => by have := (hr _ e.symm).1; omega)).trans (h1 k hk hn), Nat.le_trans h2 hg.size⟩
theorem lebT_put {W : World} {b D : Nat} {t : TypeId} {v : Value} (h : Boxed W b t v) (hne : b ≠ D) (o : Obj) : Boxed (W.putObj D o) b t v := (World.putObj_heap_other hne).trans h
theorem lebT_rfH {α : Type} {F : Fence} {n : Nat} {P : Program} {g : Operand} {ps : Array Tmp} {assign body : Code} {Q : Exit → Act → World → Prop} {a : Act} {w : World} (hro : F.round = none) (h1 : 1 ≤ n) {gf : Nat} {lb : Array Value} (hg : a.eval g = .func (.func gf) #[] lb) (hFg : F.fn gf) (eg : ∀ args w, (callFunc gf args).run P w = .ok (.enter gf args) w)
    {encs : α → Array Value} {Kp : World → World → Prop} {S Sp : List α → Prop} {N : Nat} {w0 : World} (hseq : SeqStopsK F (n - 1) P gf lb encs Kp S Sp N w0) (hKr : ∀ W, Kp W W)
    (hKt : ∀ {A B C : World}, Kp A B → Kp B C → Kp A C) (hKb : ∀ (W : World) (l : Nat) (o o' : Obj), w.heap.size ≤ l → W.heap[l]? = some o → o.isCells = false → o.isWalk = false → Kp W (W.putObj l o')) (hb0 : Below w0.heap.size w0 w) (hps : ∀ x, (encs x).size = ps.size)
    (I : List α → World → Prop) (Ix : Code → List α → World → Prop) (hI : OwnFrom w.heap.size I) (hIx : ∀ c, OwnFrom w.heap.size (Ix c)) (h0 : I [] w) (a₁ : α → Act)
    (hassign : ∀ (l : Nat) (x : α) (W : World) (K : Act → World → Prop), K (a₁ x) W → assign.wpIn (F.inRound l) (n - 1 - 1) P (Exit.then K (fun _ _ _ => False)) { tmps := (ps.zip (encs x)).foldl (fun t (p, v) => t.setIfInBounds p v) a.tmps, defers := [] } W)
    (hbody : ∀ (l : Nat) (pre : List α) (x : α) (W : World), w.heap.size ≤ l → (∃ r, W.heap[l]? = some (.loop r)) → I pre W → pre.length < N → body.wpIn (F.inRound l) (n - 1 - 1) P (ownPostG w.heap.size Kp I Ix (pre ++ [x]) W) (a₁ x) W)
    (hdone : ∀ (D : Nat) (xs : List α) (W : World), w.heap.size ≤ D → S xs → I xs W → W.heap[D]? = some (.deferred (some [])) → Q .normal { a with defers := { target := .collected D, args := #[] } :: a.defers } W)
    (hstop : ∀ (D : Nat) (c : Code) (pre : List α) (W : World), w.heap.size ≤ D → Sp pre → Ix c pre W → W.heap[D]? = some (.deferred (some [])) → c.wpIn F n P Q { a with defers := { target := .collected D, args := #[] } :: a.defers } W) :
    (Code.rangeFunc g ps assign body).wpIn F n P Q a w :=
  wpIn_rangeFunc_ownH hro h1 hg hFg eg hseq (fun h k => hKt h k) hKb hb0 hps I Ix hI hIx h0 (fun x a' _ => a' = a₁ x) (fun _ _ _ _ _ _ hs _ _ => hs)
    (fun l pre x W K hi hK => hassign l x W K (hK _ _ (KeepsFrom.refl _ _) (hKr W) hi rfl)) (fun l pre x a' W hl hr hi e hlen => by subst e; exact hbody l pre x W hl hr hi hlen) hdone hstop
theorem lebT_rfN {α : Type} {F : Fence} {n : Nat} {P : Program} {g : Operand} {ps : Array Tmp} {assign body : Code} {Q : Exit → Act → World → Prop} {a : Act} {w : World} {l₀ : Nat} {r₀ : Loop} (hro : F.round = some l₀) (hl₀ : w.heap[l₀]? = some (.loop r₀)) (h1 : 1 ≤ n) {gf : Nat} {lb : Array Value} (hg : a.eval g = .func (.func gf) #[] lb) (hFg : F.fn gf) (eg : ∀ args w, (callFunc gf args).run P w = .ok (.enter gf args) w)
    {encs : α → Array Value} {Kp : World → World → Prop} {S Sp : List α → Prop} {N : Nat} {w0 : World} (hseq : SeqStopsK F (n - 1) P gf lb encs Kp S Sp N w0) (hKr : ∀ W, Kp W W)
    (hKt : ∀ {A B C : World}, Kp A B → Kp B C → Kp A C) (hKb : ∀ (W : World) (l : Nat) (o o' : Obj), w.heap.size ≤ l → W.heap[l]? = some o → o.isCells = false → o.isWalk = false → Kp W (W.putObj l o')) (hb0 : Below w0.heap.size w0 w) (hps : ∀ x, (encs x).size = ps.size)
    (I : List α → World → Prop) (Ix : Code → List α → World → Prop) (hI : OwnFrom w.heap.size I) (hIx : ∀ c, OwnFrom w.heap.size (Ix c)) (h0 : I [] w) (a₁ : α → Act)
    (hassign : ∀ (l : Nat) (x : α) (W : World) (K : Act → World → Prop), K (a₁ x) W → assign.wpIn (F.inRound l) (n - 1 - 1) P (Exit.then K (fun _ _ _ => False)) { tmps := (ps.zip (encs x)).foldl (fun t (p, v) => t.setIfInBounds p v) a.tmps, defers := [] } W)
    (hbody : ∀ (l : Nat) (pre : List α) (x : α) (W : World), w.heap.size ≤ l → (∃ r, W.heap[l]? = some (.loop r)) → I pre W → pre.length < N → body.wpIn (F.inRound l) (n - 1 - 1) P (ownPostG w.heap.size Kp I Ix (pre ++ [x]) W) (a₁ x) W)
    (hdone : ∀ (xs : List α) (W : World), S xs → I xs W → Q .normal a W) (hstop : ∀ (c : Code) (pre : List α) (W : World), Sp pre → Ix c pre W → c.wpIn F n P Q a W) :
    (Code.rangeFunc g ps assign body).wpIn F n P Q a w :=
  wpIn_rangeFunc_ownN hro hl₀ h1 hg hFg eg hseq (fun h k => hKt h k) hKb hb0 hps I Ix hI hIx h0 (fun x a' _ => a' = a₁ x) (fun _ _ _ _ _ _ hs _ _ => hs)
    (fun l pre x W K hi hK => hassign l x W K (hK _ _ (KeepsFrom.refl _ _) (hKr W) hi rfl)) (fun l pre x a' W hl hr hi e hlen => by subst e; exact hbody l pre x W hl hr hi hlen) hdone hstop
theorem lebT_All2' (W : World) (g : Nat) (hg : g = W.heap.size) : Calls Try.prog 26 #[.slice (some ⟨g, 0, none⟩) 2 2] (W.alloc (.cells #[.int .u8 1, .int .u8 2] 5)) (lebT_AllR W [1, 2]) := by
  subst hg; exact lebT_All2 W
theorem lebT_wrap {n : Nat} (h : n ≤ 1048576) : wrap64 ((n : Int) + 1) = (n : Int) + 1 := by unfold wrap64; omega
theorem lebT_joined {F : Fence} {n : Nat} {P : Program} {c : Code} {K : Act → World → Prop} {Q' : Exit → Act → World → Prop} {a : Act} {W : World} {id : Nat} (facts : Nat → World → Prop)
    (h : c.wpIn F n P (fun e a' W' => (e = .normal ∨ e = .exit id) ∧ ∃ D, a' = { a with defers := { target := .collected D, args := #[] } :: a.defers } ∧ facts D W') a W)
    (hK : ∀ D W', facts D W' → K { a with defers := { target := .collected D, args := #[] } :: a.defers } W') : c.wpIn F n P (Exit.inBlock id (Exit.then K Q')) a W := by
  refine wpIn_mono h ?_
  rintro e a' W' ⟨rfl | rfl, D, rfl, hf⟩
  · exact hK D W' hf
  · show (if id = id then _ else _)
    rw [if_pos rfl]
    exact hK D W' hf
theorem lebT_pre {xs : List (Int × Int)} {pre : List (leb_In xs)} (h : pre <+: xs.attach) : pre.map leb_val = xs.take pre.length := by
  obtain ⟨q, hq⟩ := h
  have : xs = pre.map leb_val ++ q.map leb_val := by rw [← List.map_append, hq]; exact (leb_attach xs).symm
  have h2 : xs.take pre.length = (pre.map leb_val ++ q.map leb_val).take pre.length := congrArg (List.take pre.length) this
  rw [h2, show pre.length = (pre.map leb_val).length from (List.length_map _).symm, List.take_left]
attribute [local go_sem] Oper.semAt_some
set_option maxRecDepth 100000 in
set_option maxHeartbeats 8000000 in
theorem hawserlaw01_LebTells.calls (k : Nat) (A0 : Option Addr) (c0 : Nat) (l0 : List Int) (a1 : Int) (r : Bool) (w : World) (hr0 : Kd.C (Kd.int .u8) w A0 l0.length l0) (hc0 : l0.length ≤ c0) (h : hawserlaw01_LebTells.f k l0 a1 = some r) :
    Calls Try.prog 9 #[.slice A0 l0.length c0, .int .i64 a1] w fun e w' => e = .returned (.bool r) ∧ Below w.heap.size w w' := by
  have HR0 := Aside0.mk hr0
  have HC0 := Aside0.mk hc0
  clear hr0 hc0
  unfold hawserlaw01_LebTells.f at h
  obtain ⟨want, A1, h⟩ := Option.bind_eq_some_iff.1 h
  obtain ⟨⟨whole, part⟩, A2, h⟩ := Option.bind_eq_some_iff.1 h
  obtain ⟨xs, A3, h⟩ := Option.bind_eq_some_iff.1 h
  split at h
  case isFalse => cases h
  rename_i hc
  obtain ⟨ys, A4, h⟩ := Option.bind_eq_some_iff.1 h
  obtain ⟨zs, A5, h⟩ := Option.bind_eq_some_iff.1 h
  split at h
  case isFalse => cases h
  rename_i hc2
  obtain ⟨b, A6, h⟩ := Option.bind_eq_some_iff.1 h
  split at h
  case isFalse => cases h
  rename_i hb
  subst hb
  obtain rfl := Option.some.inj h
  have HAll := Aside0.mk A1
  have HLend := Aside0.mk A2
  have HT := Aside0.mk A3
  have HT4 := Aside0.mk A4
  have HT2 := Aside0.mk A5
  have HKept := Aside0.mk A6
  have HC := Aside0.mk hc
  have HC2 := Aside0.mk hc2
  clear h A1 A2 A3 A4 A5 A6 hc hc2
  dsimp only at HC HT HKept
  refine (callsIn_wide (n := 20)).1 ?_
  refine callsIn_of_wp_marks Try.func9 rfl trivial ?_ rfl
  simp only [Try.ntmps9, List.size_toArray, List.length_cons, List.length_nil, Nat.reduceAdd, Nat.reduceSub, Array.replicate_succ, Array.replicate_zero, List.push_toArray, List.append_toArray, List.nil_append, List.cons_append]
  have heqf := lebT_eqf
  gi_wp2_with (refine ⟨trivial, ?_⟩; first
    | (gi_at_call 25; (with_reducible refine (callsIn_wide.2 (hawserref01_All.calls k _ _ l0 want _ ?hr HC0.out HAll.out)).mono ?_); (case hr => repeat (first | exact HR0.out | (with_reducible refine Kd.C_alloc ?_ _))); rintro e w1 ⟨vw, rfl, hw, hb⟩; obtain ⟨Aw, cw, rfl⟩ := Kd.R_slice hw; have HWV := Aside0.mk hw; have HB1 := Aside0.mk hb; clear hw hb)
    | (gi_at_call 18; (with_reducible refine (callsIn_wide.2 (hawserref01_Lend.calls _ _ l0 whole part _ ?hr HC0.out HLend.out)).mono ?_); (case hr => repeat (first | exact Kd.C_below (Kd.C_alloc (Kd.C_alloc HR0.out _) _) HB1.out | (with_reducible refine Kd.C_alloc ?_ _))); rintro e w2 ⟨v0_, v1_, rfl, h0_, h1_, hb⟩; obtain ⟨Ah, ch, rfl⟩ := Kd.V_slice h0_; obtain ⟨Ap, cp, rfl⟩ := Kd.V_slice h1_; have HWH := Aside0.mk h0_; have HPV := Aside0.mk h1_; have HB2 := Aside0.mk hb; clear h0_ h1_ hb)
    | (gi_at_call 26; (with_reducible refine (callsIn_wide.2 (leb_All_calls _ _ part _ (Kd.V_reads' HPV.out).2.2 (Kd.V_reads' HPV.out).2.1 (by have := HC.out; omega))).mono ?_); rintro e w3 ⟨B, v, rfl, hB, hbx, hv, hb⟩; have GB := Aside0.mk hB; have BX := Aside0.mk hbx; have VV := Aside0.mk hv; have HB3 := Aside0.mk hb; clear hB hbx hv hb)
    | (gi_at_call 26; (with_reducible refine (callsIn_wide.2 (lebT_All4 w3)).mono ?_); rintro e w4 ⟨B4, v4, rfl, _, _, _, hb⟩; have HB4 := Aside0.mk hb; clear hb)
    | (gi_at_call 26; (with_reducible refine (callsIn_wide.2 (lebT_All2 w4)).mono ?_); rintro e w5 ⟨B5, v5, rfl, _, _, _, hb⟩; have HB5 := Aside0.mk hb; clear hb))
  have s1 := HB1.out.size
  have s2 := HB2.out.size
  have s3 := HB3.out.size
  have s4 := HB4.out.size
  have s5 := HB5.out.size
  simp only [World.size_alloc] at s1 s2
  have lB := BX.out.lt
  have gB := GB.out
  have b2 : Below w2.heap.size w2 w5 := (HB3.out.trans (HB4.out.mono s3)).trans (HB5.out.mono (Nat.le_trans s3 s4))
  have b3 : Below w3.heap.size w3 w5 := HB4.out.trans (HB5.out.mono s4)
  have b1 : Below w1.heap.size w1 w5 := (((Below.refl _ w1).alloc (Nat.le_refl _) _).trans (HB2.out.mono (by simp))).trans (b2.mono (by omega))
  have b0 : Below w.heap.size w w5 := ((((Below.refl _ w).alloc (Nat.le_refl _) _).alloc (by simp) _).trans (HB1.out.mono (by simp; omega))).trans (b1.mono (by omega))
  have hS5 : lebT_S w5.heap.size a1 w.heap.size (w.heap.size + 1) w1.heap.size B Aw cw want Ah ch whole v part (fun k => k < w3.heap.size ∧ k ≠ B) w5 := by
    refine ⟨by omega, by omega, by omega, by omega, ?_, ?_, ?_, ?_, ?_, (b3.block _ lB).trans BX.out, ?_, fun k hk => by omega⟩
    · exact (b1.block _ (by omega)).trans ((HB1.out.block _ (by simp; omega)).trans ((Boxed.new w 3 (.int .i64 a1)).alloc _))
    · refine (b1.block _ (by omega)).trans ((HB1.out.block _ (by simp)).trans ?_)
      have := Boxed.new (w.alloc (Obj.cells #[Value.int IntKind.i64 a1] 3)) 4 (.bool false)
      rw [World.size_alloc] at this
      exact this
    · refine (b2.block _ (by omega)).trans ((HB2.out.block _ (by simp)).trans (Boxed.new w1 _ _))
    · exact Kd.V_mono (Kd.V_lower (Kd.V_step (Kd.R_V (base' := 0) (Kd.R_bound HWV.out)) (fun k hk hlt => b1.block k hlt)) (Nat.zero_le _)) (fun k hk => by omega)
    · exact Kd.V_mono (Kd.V_lower (Kd.V_step (Kd.V_old HWH.out (Below.refl _ _)) (fun k hk hlt => b2.block k hk.2)) (Nat.zero_le _)) (fun k hk => by omega)
    · exact Kd.V_mono (Kd.V_lower (Kd.V_step (Kd.V_old VV.out (Below.refl _ _)) (fun k hk hlt => b3.block k hk.2)) (Nat.zero_le _)) (fun k hk => ⟨hk.2, hk.1.2⟩)
  have hS0 : lebT_S w5.heap.size a1 w.heap.size (w.heap.size + 1) w1.heap.size B Aw cw want Ah ch whole v part (fun k => k < w3.heap.size ∧ k ≠ B) (w5.alloc (.cells #[.int .i64 0] 3)) := hS5.move (fun k hk hlt => Below.heap_alloc _ _ _ hlt)
  have hx9 := Boxed.new w5 3 (.int .i64 0)
  have hBel := b0.alloc b0.size (.cells #[.int .i64 0] 3)
  have hsz0 : (w5.alloc (.cells #[.int .i64 0] 3)).heap.size = w5.heap.size + 1 := by simp
  have hwM : w.heap.size ≤ w5.heap.size := b0.size
  obtain ⟨M, hM⟩ : ∃ M, M = w5.heap.size := ⟨_, rfl⟩
  obtain ⟨W0, hW0⟩ : ∃ W0, w5.alloc (.cells #[.int .i64 0] 3) = W0 := ⟨_, rfl⟩
  obtain ⟨okp, hokp⟩ : ∃ okp : Nat → Prop, okp = fun k => k < w3.heap.size ∧ k ≠ B := ⟨_, rfl⟩
  obtain ⟨b5, hb5⟩ : ∃ b5, b5 = w1.heap.size := ⟨_, rfl⟩
  rw [← hokp] at hS0
  rw [hW0] at hS0 hx9 hBel hsz0 ⊢
  rw [← hM] at hS0 hx9 hsz0 hwM ⊢
  rw [← hb5] at hS0 ⊢
  obtain ⟨b9, hb9⟩ : ∃ b, b = M := ⟨_, rfl⟩
  rw [← hb9] at hx9 ⊢
  replace hsz0 : M < W0.heap.size := by omega
  clear hb9
  generalize w3.heap.size = n3
  generalize w4.heap.size = n4
  have HS0 := Aside0.mk hS0
  have HX9 := Aside0.mk hx9
  have HBEL := Aside0.mk hBel
  have HSZ := Aside0.mk hsz0
  have HWM := Aside0.mk hwM
  clear hS0 hx9 hBel hsz0 hwM hM hW0 hokp hb5 hS5 b0 b1 b2 b3 gB lB s1 s2 s3 s4 s5 HB1 HB2 HB3 HB4 HB5 GB BX VV HWH HPV HWV
  refine wpIn_loop_rounds 3 ?_
  rw [roundsIn_succ]
  have hc9 := HX9.out.cell
  gi_wp2
  clear hc9
  have vS := HS0.out.move (W' := W0.alloc (.cells #[.int .i64 0] 3)) (fun k hk hlt => Below.heap_alloc _ _ _ hlt)
  have vX := HX9.out.alloc (.cells #[.int .i64 0] 3)
  have vB := HBEL.out.alloc HBEL.out.size (.cells #[.int .i64 0] 3)
  have v10 := Boxed.new W0 3 (.int .i64 0)
  have vsz : (W0.alloc (.cells #[.int .i64 0] 3)).heap.size = W0.heap.size + 1 := by simp
  have vMc : M < W0.heap.size := HSZ.out
  have vbc : b9 < W0.heap.size := HX9.out.lt
  obtain ⟨V, hV⟩ : ∃ V, W0.alloc (.cells #[.int .i64 0] 3) = V := ⟨_, rfl⟩
  rw [hV] at vS vX vB v10 vsz  ⊢
  obtain ⟨c, hcj⟩ : ∃ c, c = W0.heap.size := ⟨_, rfl⟩
  rw [← hcj] at v10 vsz vMc vbc  ⊢
  clear hcj hV HS0 HX9 HBEL HSZ 
  clear W0
  have hstops := leb_All1_stops (α := leb_In xs) leb_val 19 (by decide) k k B 0 okp v part (by have := HC.out.1; have := HC.out.2.1; omega) xs.attach V vS.xB vS.vp (by rw [leb_attach]; exact HT.out)
  refine lebT_joined (fun D W => ∃ i, Boxed W c 3 (.int .i64 i) ∧ (i = (want.length : Int) ∨ (0 = 0 ∧ i = a1 ∧ i ≠ (want.length : Int))) ∧ lebT_KB c V W ∧ Below w.heap.size w W ∧ W.heap[D]? = some (.deferred (some [])) ∧ V.heap.size ≤ D) ?loop1 ?next1
  case loop1 =>
    refine wpIn_rangeFunc_ownF rfl (by decide) (gf := 33) (lb := #[.pointer (some ⟨B, 0, none⟩)]) rfl trivial (enters_of Try.func33 (by kernel_rfl) rfl) hstops leb_Keep.t (leb_Keep.b (Nat.le_refl _)) (Below.refl _ _) (fun _ => rfl)
      (lebT_In xs w V c) (lebT_Ix xs a1 0 w V c) (lebT_In_own xs w V c (by omega) vB.size) (fun c' => lebT_Ix_own xs a1 0 w V c c' (by omega) vB.size) ⟨⟨rfl, Nat.zero_le _⟩, v10, ⟨Nat.le_refl _, fun _ _ _ => rfl⟩, vB⟩ ?a11 ?assign1 ?body1 ?done1 ?stop1
    case assign1 =>
      intro l x W K hK
      gi_wp2
      exact hK
    case body1 =>
      rintro l pre x W ⟨hpre, hb10, hKB, hBl⟩ hlen
      have hlx : pre.length < xs.length := by simpa using hlen
      have hwl : want.length = xs.length := by have := congrArg List.length HC.out.2.2.2; simpa using this
      have wS := vS.move (W' := W) (fun k hk _ => hKB.2 k (by omega) (by omega))
      have hc9 := (hKB.box vX (by omega)).cell
      have hc10 := hb10.cell
      have hf10 := hb10.frozen
      have hc5 := wS.x5.cell
      have hc3 := wS.x3.cell
      have hc4 := wS.x4.cell
      have hf4 := wS.x4.frozen
      have hlenB : pre.length < want.length := by rw [hwl]; exact hlx
      have hlt3 : w.heap.size < c := by have := HWM.out; omega
      obtain ⟨_, hcw, hCw⟩ := Kd.V_reads' wS.vw
      obtain ⟨ad, hAd, ha0, ha1⟩ := at_T55 hCw (pre.length : Int) (by omega) (by omega)
      rw [Int.toNat_natCast] at ha0 ha1
      have hx0 : xs.take (pre.length + 1) = xs.take pre.length ++ [((rd_T55 want (pre.length : Int)).f0, (rd_T55 want (pre.length : Int)).f1)] := by
        have e1 : (want.map (fun x => (x.f0, x.f1))).take (pre.length + 1) = (want.map (fun x => (x.f0, x.f1))).take pre.length ++ [((rd_T55 want (pre.length : Int)).f0, (rd_T55 want (pre.length : Int)).f1)] := by
          rw [List.take_succ_eq_append_getElem (by simpa using hlenB), List.getElem_map]
          have : rd_T55 want (pre.length : Int) = want[pre.length]'(by omega) := by simp [rd_T55, List.getD_eq_getElem?_getD, hlenB]
          rw [this]
        rw [HC.out.2.2.2] at e1
        exact e1
      obtain ⟨p0, hp0⟩ : ∃ p, p = (rd_T55 want (pre.length : Int)).f0 := ⟨_, rfl⟩
      obtain ⟨p1, hp1⟩ : ∃ p, p = (rd_T55 want (pre.length : Int)).f1 := ⟨_, rfl⟩
      rw [← hp0] at ha0 hx0
      rw [← hp1] at ha1 hx0
      have cb0 : decide (want.length ≤ pre.length) = false := decide_eq_false (Nat.not_le.2 hlenB)
      have cb1 : decide ((want.length : Int) ≤ (pre.length : Int)) = false := decide_eq_false (fun h => Nat.not_le.2 hlenB (Int.ofNat_le.1 h))
      have cb2 : decide (pre.length < want.length) = true := decide_eq_true hlenB
      have cb3 : wrap64 ((pre.length : Int) + 1) = (pre.length : Int) + 1 := lebT_wrap (Nat.le_trans (Nat.le_of_lt hlenB) HC.out.2.2.1)
      subst hAd
      have HX0 := Aside0.mk hx0
      have HPRE := Aside0.mk hpre
      have HB10 := Aside0.mk hb10
      have HKB := Aside0.mk hKB
      have HBL := Aside0.mk hBl
      have HLX := Aside0.mk hlx
      have HVS := Aside0.mk vS
      clear hx0 hpre hb10 hKB hBl hlx hwl hlen hp0 hp1 wS hCw hcw vS vX vB v10 hstops heqf
      by_cases d0 : p0 = x.1.1
      · have d0b : (p0 != x.1.1) = false := bne_eq_false_iff_eq.2 d0
        by_cases d1 : p1 = x.1.2
        · have d1b : (p1 != x.1.2) = false := bne_eq_false_iff_eq.2 d1
          have hnext := lebT_In_next (w := w) HPRE.out.1 HLX.out HX0.out (show (p0, p1) = leb_val x by rw [d0, d1]) HB10.out HKB.out HBL.out (Nat.le_of_lt hlt3)
          have HNEXT := Aside0.mk hnext
          clear d0 d1 hnext
          by_cases d2 : (pre.length : Int) + 1 = a1
          · have d2b : ((pre.length : Int) + 1 == a1) = true := beq_iff_eq.2 d2
            have D2 := Aside0.mk d2
            clear d2
            gi_wp2
            exact ⟨KeepsOthers.setCell _ _ _, .inr ⟨rfl, rfl, by simpa using D2.out, HNEXT.out⟩⟩
          · have d2b : ((pre.length : Int) + 1 == a1) = false := beq_eq_false_iff_ne.2 d2
            gi_wp2
            exact ⟨KeepsOthers.setCell _ _ _, fun k hk _ => Below.heap_setCell W ⟨c, 0, none⟩ _ k (show k ≠ c from lebT_ne_c HVS.out (Nat.le_of_lt vMc) hk), HNEXT.out⟩
        · have d1b : (p1 != x.1.2) = true := bne_iff_ne.2 d1
          gi_wp2
          exact ⟨KeepsOthers.setCell _ _ _, .inl ⟨rfl, lebT_ne HPRE.out.1 HX0.out (fun e => d1 (congrArg Prod.snd e))⟩⟩
      · have d0b : (p0 != x.1.1) = true := bne_iff_ne.2 d0
        gi_wp2
        exact ⟨KeepsOthers.setCell _ _ _, .inl ⟨rfl, lebT_ne HPRE.out.1 HX0.out (fun e => d0 (congrArg Prod.fst e))⟩⟩
    case done1 =>
      rintro D ys' W hD rfl ⟨hpre, hb10, hKB, hBl⟩ hK
      have hlen' : xs.attach.length = want.length := by have := congrArg List.length HC.out.2.2.2; simpa using this.symm
      rw [hlen'] at hb10
      exact ⟨.inl rfl, D, rfl, _, hb10, .inl rfl, hKB, hBl, hK, hD⟩
    case stop1 =>
      rintro D c' pre W hD hpre (⟨rfl, hne⟩ | ⟨rfl, hj, ha, hpr, hb10, hKB, hBl⟩) hK
      · exact absurd (lebT_pre hpre) hne
      · refine wpIn_exit ⟨.inr rfl, D, rfl, _, hb10, ?_, hKB, hBl, hK, hD⟩
        rw [ha]
        by_cases e : a1 = (want.length : Int)
        · exact .inl e
        · exact .inr ⟨hj, rfl, e⟩
  case next1 =>
    clear hstops
    rintro D0 W ⟨i, hb10, hi, hKB, hBl, hK, hD⟩
    have wS := vS.move (W' := W) (fun k hk _ => hKB.2 k (by omega) (by omega))
    have wX := hKB.box vX (by omega)
    have hc9 := wX.cell
    have hc10 := hb10.cell
    have hc5 := wS.x5.cell
    have hc3 := wS.x3.cell
    have WK0 := Aside0.mk hK
    have WD0 := Aside0.mk (show M < D0 by omega)
    have WS := Aside0.mk wS
    have WBL := Aside0.mk hBl
    have WLT := Aside0.mk (show M < W.heap.size by have := hKB.1; omega)
    clear hb10 hKB hBl hK hD wS wX vS vX vB v10 vsz vbc vMc  
    clear V
    rcases hi with hi | ⟨_, hi, hne⟩
    · rw [hi] at hc10
      clear hi
      gi_wp2
      have HS0 := Aside0.mk (WS.out.move (W' := W.alloc (.cells #[.int .i64 1] 3)) (fun k hk hlt => Below.heap_alloc _ _ _ hlt))
      have HX9 := Aside0.mk (Boxed.new W 3 (.int .i64 1))
      have HBEL := Aside0.mk (WBL.out.alloc WBL.out.size (.cells #[.int .i64 1] 3))
      have HSZ := Aside0.mk (show M < (W.alloc (.cells #[.int .i64 1] 3)).heap.size by have := WLT.out; simp; omega)
      have HDK0 := Aside0.mk ((Below.heap_alloc W (.cells #[.int .i64 1] 3) D0 (Array.getElem?_eq_some_iff.1 WK0.out).1).trans WK0.out)
      obtain ⟨W0, hW0⟩ : ∃ W', W.alloc (.cells #[.int .i64 1] 3) = W' := ⟨_, rfl⟩
      rw [hW0] at HS0 HX9 HBEL HSZ HDK0 ⊢
      obtain ⟨b9, hb9⟩ : ∃ b, b = W.heap.size := ⟨_, rfl⟩
      rw [← hb9] at HX9 ⊢
      clear hb9 hW0 WS WBL WLT hc9 hc10 hc5 hc3 WK0
      clear W
      rw [roundsIn_succ]
      have hc9 := HX9.out.cell
      gi_wp2
      clear hc9
      have vS := HS0.out.move (W' := W0.alloc (.cells #[.int .i64 0] 3)) (fun k hk hlt => Below.heap_alloc _ _ _ hlt)
      have vX := HX9.out.alloc (.cells #[.int .i64 0] 3)
      have vB := HBEL.out.alloc HBEL.out.size (.cells #[.int .i64 0] 3)
      have v10 := Boxed.new W0 3 (.int .i64 0)
      have vsz : (W0.alloc (.cells #[.int .i64 0] 3)).heap.size = W0.heap.size + 1 := by simp
      have vMc : M < W0.heap.size := HSZ.out
      have vbc : b9 < W0.heap.size := HX9.out.lt
      have VDK0 := Aside0.mk ((Below.heap_alloc W0 (.cells #[.int .i64 0] 3) D0 (Array.getElem?_eq_some_iff.1 HDK0.out).1).trans HDK0.out)
      have VDL0 := Aside0.mk (Array.getElem?_eq_some_iff.1 HDK0.out).1
      obtain ⟨V, hV⟩ : ∃ V, W0.alloc (.cells #[.int .i64 0] 3) = V := ⟨_, rfl⟩
      rw [hV] at vS vX vB v10 vsz VDK0 ⊢
      obtain ⟨c, hcj⟩ : ∃ c, c = W0.heap.size := ⟨_, rfl⟩
      rw [← hcj] at v10 vsz vMc vbc VDL0 ⊢
      clear hcj hV HS0 HX9 HBEL HSZ HDK0
      clear W0
      have hstops := leb_All1_stops (α := leb_In xs) leb_val 19 (by decide) k k B 0 okp v part (by have := HC.out.1; have := HC.out.2.1; omega) xs.attach V vS.xB vS.vp (by rw [leb_attach]; exact HT.out)
      refine lebT_joined (fun D W => ∃ i, Boxed W c 3 (.int .i64 i) ∧ (i = (want.length : Int) ∨ (1 = 0 ∧ i = a1 ∧ i ≠ (want.length : Int))) ∧ lebT_KB c V W ∧ Below w.heap.size w W ∧ W.heap[D]? = some (.deferred (some [])) ∧ V.heap.size ≤ D) ?loop2 ?next2
      case loop2 =>
        refine wpIn_rangeFunc_ownF rfl (by decide) (gf := 33) (lb := #[.pointer (some ⟨B, 0, none⟩)]) rfl trivial (enters_of Try.func33 (by kernel_rfl) rfl) hstops leb_Keep.t (leb_Keep.b (Nat.le_refl _)) (Below.refl _ _) (fun _ => rfl)
          (lebT_In xs w V c) (lebT_Ix xs a1 1 w V c) (lebT_In_own xs w V c (by omega) vB.size) (fun c' => lebT_Ix_own xs a1 1 w V c c' (by omega) vB.size) ⟨⟨rfl, Nat.zero_le _⟩, v10, ⟨Nat.le_refl _, fun _ _ _ => rfl⟩, vB⟩ ?a12 ?assign2 ?body2 ?done2 ?stop2
        case assign2 =>
          intro l x W K hK
          gi_wp2
          exact hK
        case body2 =>
          rintro l pre x W ⟨hpre, hb10, hKB, hBl⟩ hlen
          have hlx : pre.length < xs.length := by simpa using hlen
          have hwl : want.length = xs.length := by have := congrArg List.length HC.out.2.2.2; simpa using this
          have wS := vS.move (W' := W) (fun k hk _ => hKB.2 k (by omega) (by omega))
          have hc9 := (hKB.box vX (by omega)).cell
          have hc10 := hb10.cell
          have hf10 := hb10.frozen
          have hc5 := wS.x5.cell
          have hc3 := wS.x3.cell
          have hc4 := wS.x4.cell
          have hf4 := wS.x4.frozen
          have hlenB : pre.length < want.length := by rw [hwl]; exact hlx
          have hlt3 : w.heap.size < c := by have := HWM.out; omega
          obtain ⟨_, hcw, hCw⟩ := Kd.V_reads' wS.vw
          obtain ⟨ad, hAd, ha0, ha1⟩ := at_T55 hCw (pre.length : Int) (by omega) (by omega)
          rw [Int.toNat_natCast] at ha0 ha1
          have hx0 : xs.take (pre.length + 1) = xs.take pre.length ++ [((rd_T55 want (pre.length : Int)).f0, (rd_T55 want (pre.length : Int)).f1)] := by
            have e1 : (want.map (fun x => (x.f0, x.f1))).take (pre.length + 1) = (want.map (fun x => (x.f0, x.f1))).take pre.length ++ [((rd_T55 want (pre.length : Int)).f0, (rd_T55 want (pre.length : Int)).f1)] := by
              rw [List.take_succ_eq_append_getElem (by simpa using hlenB), List.getElem_map]
              have : rd_T55 want (pre.length : Int) = want[pre.length]'(by omega) := by simp [rd_T55, List.getD_eq_getElem?_getD, hlenB]
              rw [this]
            rw [HC.out.2.2.2] at e1
            exact e1
          obtain ⟨p0, hp0⟩ : ∃ p, p = (rd_T55 want (pre.length : Int)).f0 := ⟨_, rfl⟩
          obtain ⟨p1, hp1⟩ : ∃ p, p = (rd_T55 want (pre.length : Int)).f1 := ⟨_, rfl⟩
          rw [← hp0] at ha0 hx0
          rw [← hp1] at ha1 hx0
          have cb0 : decide (want.length ≤ pre.length) = false := decide_eq_false (Nat.not_le.2 hlenB)
          have cb1 : decide ((want.length : Int) ≤ (pre.length : Int)) = false := decide_eq_false (fun h => Nat.not_le.2 hlenB (Int.ofNat_le.1 h))
          have cb2 : decide (pre.length < want.length) = true := decide_eq_true hlenB
          have cb3 : wrap64 ((pre.length : Int) + 1) = (pre.length : Int) + 1 := lebT_wrap (Nat.le_trans (Nat.le_of_lt hlenB) HC.out.2.2.1)
          subst hAd
          have HX0 := Aside0.mk hx0
          have HPRE := Aside0.mk hpre
          have HB10 := Aside0.mk hb10
          have HKB := Aside0.mk hKB
          have HBL := Aside0.mk hBl
          have HLX := Aside0.mk hlx
          have HVS := Aside0.mk vS
          clear hx0 hpre hb10 hKB hBl hlx hwl hlen hp0 hp1 wS hCw hcw vS vX vB v10 hstops heqf
          by_cases d0 : p0 = x.1.1
          · have d0b : (p0 != x.1.1) = false := bne_eq_false_iff_eq.2 d0
            by_cases d1 : p1 = x.1.2
            · have d1b : (p1 != x.1.2) = false := bne_eq_false_iff_eq.2 d1
              have hnext := lebT_In_next (w := w) HPRE.out.1 HLX.out HX0.out (show (p0, p1) = leb_val x by rw [d0, d1]) HB10.out HKB.out HBL.out (Nat.le_of_lt hlt3)
              have HNEXT := Aside0.mk hnext
              clear d0 d1 hnext
              gi_wp2
              exact ⟨KeepsOthers.setCell _ _ _, fun k hk _ => Below.heap_setCell W ⟨c, 0, none⟩ _ k (show k ≠ c from lebT_ne_c HVS.out (Nat.le_of_lt vMc) hk), HNEXT.out⟩
            · have d1b : (p1 != x.1.2) = true := bne_iff_ne.2 d1
              gi_wp2
              exact ⟨KeepsOthers.setCell _ _ _, .inl ⟨rfl, lebT_ne HPRE.out.1 HX0.out (fun e => d1 (congrArg Prod.snd e))⟩⟩
          · have d0b : (p0 != x.1.1) = true := bne_iff_ne.2 d0
            gi_wp2
            exact ⟨KeepsOthers.setCell _ _ _, .inl ⟨rfl, lebT_ne HPRE.out.1 HX0.out (fun e => d0 (congrArg Prod.fst e))⟩⟩
        case done2 =>
          rintro D ys' W hD rfl ⟨hpre, hb10, hKB, hBl⟩ hK
          have hlen' : xs.attach.length = want.length := by have := congrArg List.length HC.out.2.2.2; simpa using this.symm
          rw [hlen'] at hb10
          exact ⟨.inl rfl, D, rfl, _, hb10, .inl rfl, hKB, hBl, hK, hD⟩
        case stop2 =>
          rintro D c' pre W hD hpre (⟨rfl, hne⟩ | ⟨rfl, hj, ha, hpr, hb10, hKB, hBl⟩) hK
          · exact absurd (lebT_pre hpre) hne
          · refine wpIn_exit ⟨.inr rfl, D, rfl, _, hb10, ?_, hKB, hBl, hK, hD⟩
            rw [ha]
            by_cases e : a1 = (want.length : Int)
            · exact .inl e
            · exact .inr ⟨hj, rfl, e⟩
      case next2 =>
        clear hstops
        rintro D1 W ⟨i, hb10, hi, hKB, hBl, hK, hD⟩
        have wS := vS.move (W' := W) (fun k hk _ => hKB.2 k (by omega) (by omega))
        have wX := hKB.box vX (by omega)
        have hc9 := wX.cell
        have hc10 := hb10.cell
        have hc5 := wS.x5.cell
        have hc3 := wS.x3.cell
        have WK0 := Aside0.mk ((hKB.2 D0 (by have := VDL0.out; omega) (by have := VDL0.out; omega)).trans VDK0.out)
        have WK1 := Aside0.mk hK
        have WD1 := Aside0.mk (show M < D1 by omega)
        have WS := Aside0.mk wS
        have WBL := Aside0.mk hBl
        have WLT := Aside0.mk (show M < W.heap.size by have := hKB.1; omega)
        have WNE0 := Aside0.mk (show D0 ≠ D1 by have := VDL0.out; omega)
        clear hb10 hKB hBl hK hD wS wX vS vX vB v10 vsz vbc vMc VDK0 VDL0
        clear V
        rw [hi.elim id (fun h => absurd h.1 (by decide))] at hc10
        clear hi
        gi_wp2
        have HS0 := Aside0.mk (WS.out.move (W' := W.alloc (.cells #[.int .i64 2] 3)) (fun k hk hlt => Below.heap_alloc _ _ _ hlt))
        have HX9 := Aside0.mk (Boxed.new W 3 (.int .i64 2))
        have HBEL := Aside0.mk (WBL.out.alloc WBL.out.size (.cells #[.int .i64 2] 3))
        have HSZ := Aside0.mk (show M < (W.alloc (.cells #[.int .i64 2] 3)).heap.size by have := WLT.out; simp; omega)
        have HDK0 := Aside0.mk ((Below.heap_alloc W (.cells #[.int .i64 2] 3) D0 (Array.getElem?_eq_some_iff.1 WK0.out).1).trans WK0.out)
        have HDK1 := Aside0.mk ((Below.heap_alloc W (.cells #[.int .i64 2] 3) D1 (Array.getElem?_eq_some_iff.1 WK1.out).1).trans WK1.out)
        obtain ⟨W0, hW0⟩ : ∃ W', W.alloc (.cells #[.int .i64 2] 3) = W' := ⟨_, rfl⟩
        rw [hW0] at HS0 HX9 HBEL HSZ HDK0 HDK1 ⊢
        obtain ⟨b9, hb9⟩ : ∃ b, b = W.heap.size := ⟨_, rfl⟩
        rw [← hb9] at HX9 ⊢
        clear hb9 hW0 WS WBL WLT hc9 hc10 hc5 hc3 WK0 WK1
        clear W
        rw [roundsIn_succ]
        have hc9 := HX9.out.cell
        gi_wp2_with (refine ⟨trivial, ?_⟩; gi_at_call 26; (with_reducible refine (callsIn_wide.2 (lebT_All4' _ _ (by simp))).mono ?_); rintro e w6 ⟨B6, v6, rfl, hB6, hx6, hv6, hb6⟩; rw [World.size_alloc] at hB6 hv6; have GB6 := Aside0.mk hB6; have BX6 := Aside0.mk hx6; have VV6 := Aside0.mk hv6; have HB6 := Aside0.mk hb6; clear hB6 hx6 hv6 hb6)
        clear hc9
        have tb : ∀ k, k < W0.heap.size + 1 → w6.heap[k]? = (W0.alloc (.cells #[.int .i64 0] 3)).heap[k]? := fun k hk => HB6.out.block k (by simpa using hk)
        have t0 : ∀ k, k < W0.heap.size → w6.heap[k]? = W0.heap[k]? := fun k hk => (tb k (by omega)).trans (Below.heap_alloc _ _ _ hk)
        have tS := HS0.out.move (W' := w6) (fun k _ hlt => t0 k hlt)
        have t13 : Boxed w6 W0.heap.size 3 (.int .i64 0) := (tb _ (by omega)).trans (Boxed.new W0 _ _)
        have tB : Below w.heap.size w w6 := (HBEL.out.alloc HBEL.out.size (.cells #[.int .i64 0] 3)).trans (HB6.out.mono (by simp; have := HBEL.out.size; omega))
        have tK0 := (t0 _ (Array.getElem?_eq_some_iff.1 HDK0.out).1).trans HDK0.out
        have tK1 := (t0 _ (Array.getElem?_eq_some_iff.1 HDK1.out).1).trans HDK1.out
        have tL0 := (Array.getElem?_eq_some_iff.1 HDK0.out).1
        have tL1 := (Array.getElem?_eq_some_iff.1 HDK1.out).1
        have tM : M < W0.heap.size := HSZ.out
        have ts6 : W0.heap.size + 1 < w6.heap.size := by have := GB6.out; have := BX6.out.lt; omega
        obtain ⟨b13, h13⟩ : ∃ b, b = W0.heap.size := ⟨_, rfl⟩
        rw [← h13] at t13 tM ts6 tL0 tL1 GB6 VV6 ⊢
        have hwM := HWM.out
        clear h13 tb t0 HS0 HX9 HBEL HSZ HDK0 HDK1 HB6
        clear W0
        have hy3 := HC2.out.1
        have hz2 := HC2.out.2
        obtain ⟨ok6, hok6, vv6⟩ : ∃ ok6 : Nat → Prop, (∀ k, ok6 k → b13 < k) ∧ Kd.V (Kd.int .u8) 5 w6 0 ok6 v6 [5, 128, 1, 7] := ⟨_, fun k hk => by have := hk.1; omega, VV6.out⟩
        have gB6 : b13 < B6 := by have := GB6.out; omega
        have hstops6 := leb_All1_stops (α := leb_In ys) leb_val 19 (by decide) k k B6 0 ok6 v6 [5, 128, 1, 7] (by decide) ys.attach w6 BX6.out vv6 (by rw [leb_attach]; exact HT4.out)
        refine lebT_rfH rfl (by decide) (gf := 33) (lb := #[.pointer (some ⟨B6, 0, none⟩)]) rfl trivial (enters_of Try.func33 (by kernel_rfl) rfl) hstops6 (fun _ _ _ _ => rfl) leb_Keep.t (leb_Keep.b (Nat.le_refl _)) (Below.refl _ _) (fun _ => rfl)
          (fun pre W => lebT_N w w6 b13 (fun n => 2 * n) pre W) (fun _ _ _ => False) (lebT_N_own w w6 b13 _ _ (by omega) tB.size (Nat.le_refl _)) (fun _ _ _ _ _ h _ _ => h) ⟨by simpa using t13, ⟨Nat.le_refl _, fun _ _ _ => rfl⟩, tB⟩ ?aq2 ?assignq2 ?bodyq2 ?doneq2 ?stopq2
        case assignq2 =>
          intro l x W K hK
          gi_wp2
          exact hK
        case bodyq2 =>
          rintro l pre x W hl ⟨r, hr⟩ ⟨h13, hKB, hBl⟩ hlen
          have hl3 : pre.length < 3 := by have : pre.length < ys.length := by simpa using hlen
                                          omega
          gi_wp2_with (refine ⟨trivial, ?_⟩; gi_at_call 26; (with_reducible refine (CallsIn.inRound l (callsIn_wide.2 (lebT_All2' W W.heap.size rfl))).mono ?_); rintro e w7 ⟨B7, v7, rfl, hB7, hx7, hv7, hb7⟩; have GB7 := Aside0.mk hB7; have BX7 := Aside0.mk hx7; have VV7 := Aside0.mk hv7; have HB7 := Aside0.mk hb7; clear hB7 hx7 hv7 hb7)
          have wb := HB7.out
          have wx13 := (wb.block _ h13.lt).trans h13
          have wr := (wb.block _ (Array.getElem?_eq_some_iff.1 hr).1).trans hr
          have hWs := hKB.1
          obtain ⟨ok7, hok7, vv7⟩ : ∃ ok7 : Nat → Prop, (∀ k, ok7 k → W.heap.size < k) ∧ Kd.V (Kd.int .u8) 5 w7 0 ok7 v7 [1, 2] := ⟨_, fun k hk => by have := hk.1; omega, VV7.out⟩
          have gB7 : W.heap.size < B7 := by have := GB7.out; omega
          have hstops7 := leb_All1_stops (α := leb_In zs) leb_val 17 (by decide) k k B7 0 ok7 v7 [1, 2] (by decide) zs.attach w7 BX7.out vv7 (by rw [leb_attach]; exact HT2.out)
          have hB7 : Below w.heap.size w w7 := hBl.trans (wb.mono hBl.size)
          have hKB7 : lebT_KB b13 w6 w7 := hKB.t (b' := b13) (fun k hk _ => wb.block k (by omega)) wb.size
          have hw67 : w6.heap.size ≤ w7.heap.size := Nat.le_trans hWs wb.size
          refine lebT_rfN (F := Fence.wide.inRound l) (l₀ := l) (r₀ := r) rfl wr (by decide) (gf := 33) (lb := #[.pointer (some ⟨B7, 0, none⟩)]) rfl trivial (enters_of Try.func33 (by kernel_rfl) rfl) (hstops7.inRound l) (fun _ _ _ _ => rfl) leb_Keep.t (leb_Keep.b (Nat.le_refl _)) (Below.refl _ _) (fun _ => rfl)
            (fun pre' W' => lebT_N w w6 b13 (fun n => 2 * pre.length + n) pre' W' ∧ (leb_Keep (fun k => k = B6 ∨ ok6 k) w6.heap.size W W' ∧ W.heap.size ≤ W'.heap.size) ∧ KeepsFrom w6.heap.size W W')
            (fun _ _ _ => False) (OwnFrom.and (lebT_N_own w w6 b13 _ _ (by omega) hB7.size hw67) (OwnFrom.and (leb_Keep.own W _ hw67 hWs) (ownFrom_keepsFrom wb.size))) (fun _ _ _ _ _ h _ _ => h)
            ⟨⟨by show Boxed w7 b13 3 (.int .i64 (2 * (pre.length : Int) + ((0 : Nat) : Int))); rw [show (2 * (pre.length : Int) + ((0 : Nat) : Int)) = 2 * (pre.length : Int) by omega]; exact wx13, hKB7, hB7⟩, ⟨fun k hk hn => wb.block k (by omega), wb.size⟩, lebT_Below_keeps wb⟩ ?ar2 ?assignr2 ?bodyr2 ?doner2 ?stopr2
          case assignr2 =>
            intro l x W K hK
            gi_wp2
            exact hK
          case bodyr2 =>
            rintro l2 pre' x2 W' hl2 _ ⟨⟨g13, gKB, gB⟩, ⟨gK, gs⟩, gF⟩ hlen'
            have hl2' : pre'.length < 2 := by have : pre'.length < zs.length := by simpa using hlen'
                                              omega
            have hc13 := g13.cell
            have hf13 := g13.frozen
            have hwr : wrap64 (2 * (pre.length : Int) + (pre'.length : Int) + 1) = 2 * (pre.length : Int) + (pre'.length : Int) + 1 := by unfold wrap64; omega
            have G13 := Aside0.mk g13
            clear g13 hl2' hl3 wx13 h13
            gi_wp2
            refine ⟨(KeepsOthers.setCell _ _ _).from _, fun k hk hn => Below.heap_setCell W' ⟨b13, 0, none⟩ _ k ?_, ⟨?_, gKB.t (b' := b13) (fun k _ hn => Below.heap_setCell W' ⟨b13, 0, none⟩ _ k hn) (by simp), gB.setCell (p := ⟨b13, 0, none⟩) (show w.heap.size ≤ b13 by omega) _⟩, ⟨fun k hk hn => (Below.heap_setCell W' ⟨b13, 0, none⟩ _ k ?_).trans (gK k hk hn), by simpa using gs⟩, gF.trans ((KeepsOthers.setCell _ _ _).from _)⟩
            · show k ≠ b13
              rcases hk with rfl | hk
              · omega
              · have := hok7 k hk; omega
            · have := G13.out.set (.int .i64 (2 * (pre.length : Int) + (pre'.length : Int) + 1))
              show Boxed _ b13 3 (.int .i64 (2 * (pre.length : Int) + (((pre' ++ [x2]).length : Nat) : Int)))
              rw [show (2 * (pre.length : Int) + (((pre' ++ [x2]).length : Nat) : Int)) = 2 * (pre.length : Int) + (pre'.length : Int) + 1 by simp; omega]
              exact this
            · show k ≠ b13
              rcases hk with rfl | hk
              · omega
              · have := hok6 k hk; omega
          case doner2 =>
            rintro ys' W' rfl ⟨⟨g13, gKB, gB⟩, ⟨gK, gs⟩, gF⟩
            gi_wp2
            refine ⟨gF, gK, ?_, gKB, gB⟩
            show Boxed _ b13 3 (.int .i64 (2 * (((pre ++ [x]).length : Nat) : Int)))
            rw [show (2 * (((pre ++ [x]).length : Nat) : Int)) = 2 * (pre.length : Int) + (zs.attach.length : Int) by simp [hz2]; omega]
            exact g13
          case stopr2 =>
            rintro _ _ _ _ h
            exact h.elim
        case doneq2 =>
          rintro D2 ys' W hD rfl ⟨g13, gKB, gB⟩ hK
          have hlen6 : (2 * ((ys.attach.length : Nat) : Int)) = 6 := by simp [hy3]
          replace g13 : Boxed W b13 3 (.int .i64 (2 * ((ys.attach.length : Nat) : Int))) := g13
          rw [hlen6] at g13
          have wS := tS.move (W' := W) (fun k hk hlt => gKB.2 k hlt (by omega))
          have wK0 := (gKB.2 D0 (by omega) (by omega)).trans tK0
          have wK1 := (gKB.2 D1 (by omega) (by omega)).trans tK1
          have hne0 := WNE0.out
          have hc13 := g13.cell
          have hc4 := wS.x4.cell
          have hf4 := wS.x4.frozen
          have hcw := (Kd.V_reads' wS.vh)
          have WS := Aside0.mk wS
          have GB := Aside0.mk gB
          have LD0 := Aside0.mk (show M < D0 by have := WD0.out; omega)
          have LD1 := Aside0.mk (show M < D1 by have := WD1.out; omega)
          have LD2 := Aside0.mk (show M < D2 ∧ D2 ≠ D0 ∧ D2 ≠ D1 by omega)
          have LNE := Aside0.mk hne0
          have LW := Aside0.mk hwM
          have HCW := Aside0.mk hcw
          have WK0 := Aside0.mk wK0
          have WK1 := Aside0.mk wK1
          have WK2 := Aside0.mk hK
          clear wK0 wK1 hK hcw gB gKB g13 wS hD tS t13 tB tK0 tK1 tL0 tL1 tM ts6 hstops6 vv6 hok6 gB6 hwM hy3 hz2 hlen6 heqf hne0
          gi_wp2_with (refine ⟨trivial, ?_⟩; gi_at_call 21; (with_reducible refine (callsIn_wide.2 (hawserref01_Kept.calls k _ _ whole _ _ l0 true _ HCW.out.2.2 HCW.out.2.1 (Kd.C_below HR0.out GB.out) HC0.out HKept.out)).mono ?_); rintro e w' ⟨rfl, ⟨nd, rfl⟩⟩)
          have l0' := LD0.out
          have l1' := LD1.out
          have l2' := LD2.out
          have lne := LNE.out
          have lw := LW.out
          have lm4 := WS.out.m4
          have q : ∀ D, D ≠ w.heap.size + 1 → ((W.drewN nd).setCell ⟨w.heap.size + 1, 0, none⟩ (.bool true)).heap[D]? = W.heap[D]? := fun D hD => (Below.heap_setCell (W.drewN nd) ⟨w.heap.size + 1, 0, none⟩ (.bool true) D hD).trans (by simp)
          have q0 := (q D0 (by omega)).trans WK0.out
          have q1 := (q D1 (by omega)).trans WK1.out
          have q2 := (q D2 (by omega)).trans WK2.out
          have x4 : Boxed ((W.drewN nd).setCell ⟨w.heap.size + 1, 0, none⟩ (.bool true)) (w.heap.size + 1) 4 (.bool true) := Boxed.set _ (show Boxed (W.drewN nd) _ _ _ from by have := WS.out.x4; unfold Boxed at this ⊢; simpa using this)
          have bf : Below w.heap.size w ((W.drewN nd).setCell ⟨w.heap.size + 1, 0, none⟩ (.bool true)) := (pw_below_drewN GB.out nd).setCell (p := ⟨w.heap.size + 1, 0, none⟩) (by simp) _
          generalize (W.drewN nd).setCell ⟨w.heap.size + 1, 0, none⟩ (.bool true) = Wf at q0 q1 q2 x4 bf ⊢
          have p1 : (Wf.putObj D2 (.deferred none)).heap[D1]? = some (.deferred (some [])) := (World.putObj_heap_other (by omega)).trans q1
          have p0 : ((Wf.putObj D2 (.deferred none)).putObj D1 (.deferred none)).heap[D0]? = some (.deferred (some [])) := (World.putObj_heap_other (by omega)).trans ((World.putObj_heap_other (by omega)).trans q0)
          have hcell := (lebT_put (lebT_put (lebT_put x4 (show w.heap.size + 1 ≠ D2 by omega) (.deferred none)) (show w.heap.size + 1 ≠ D1 by omega) (.deferred none)) (show w.heap.size + 1 ≠ D0 by omega) (.deferred none)).cell
          have bz : Below w.heap.size w (((Wf.putObj D2 (.deferred none)).putObj D1 (.deferred none)).putObj D0 (.deferred none)) := ((bf.trans (belowK_b (w := w) (Nat.le_refl _) Wf D2 _ _ (by omega) q2 rfl rfl)).trans (belowK_b (w := w) (Nat.le_refl _) _ D1 _ _ (by omega) p1 rfl rfl)).trans (belowK_b (w := w) (Nat.le_refl _) _ D0 _ _ (by omega) p0 rfl rfl)
          refine ⟨by simp, .inl ⟨_, _, rfl, run_takeDeferred q2, ?_⟩⟩
          refine ⟨by simp, .inl ⟨_, _, rfl, run_takeDeferred p1, ?_⟩⟩
          refine ⟨by simp, .inl ⟨_, _, rfl, run_takeDeferred p0, ?_⟩⟩
          refine ⟨.bool true, ?_, rfl, bz⟩
          simp [results, Try.f9, go_sem, hcell]
        case stopq2 =>
          rintro _ _ _ _ _ _ h
          exact h.elim
    · have nb : (a1 != (want.length : Int)) = true := bne_iff_ne.2 (hi ▸ hne)
      clear hne
      rw [hi] at hc10
      clear hi
      gi_wp2
      have HS0 := Aside0.mk (WS.out.move (W' := W.alloc (.cells #[.int .i64 1] 3)) (fun k hk hlt => Below.heap_alloc _ _ _ hlt))
      have HX9 := Aside0.mk (Boxed.new W 3 (.int .i64 1))
      have HBEL := Aside0.mk (WBL.out.alloc WBL.out.size (.cells #[.int .i64 1] 3))
      have HSZ := Aside0.mk (show M < (W.alloc (.cells #[.int .i64 1] 3)).heap.size by have := WLT.out; simp; omega)
      have HDK0 := Aside0.mk ((Below.heap_alloc W (.cells #[.int .i64 1] 3) D0 (Array.getElem?_eq_some_iff.1 WK0.out).1).trans WK0.out)
      obtain ⟨W0, hW0⟩ : ∃ W', W.alloc (.cells #[.int .i64 1] 3) = W' := ⟨_, rfl⟩
      rw [hW0] at HS0 HX9 HBEL HSZ HDK0 ⊢
      obtain ⟨b9, hb9⟩ : ∃ b, b = W.heap.size := ⟨_, rfl⟩
      rw [← hb9] at HX9 ⊢
      clear hb9 hW0 WS WBL WLT hc9 hc10 hc5 hc3 WK0
      clear W
      rw [roundsIn_succ]
      have hc9 := HX9.out.cell
      gi_wp2
      clear hc9
      have vS := HS0.out.move (W' := W0.alloc (.cells #[.int .i64 0] 3)) (fun k hk hlt => Below.heap_alloc _ _ _ hlt)
      have vX := HX9.out.alloc (.cells #[.int .i64 0] 3)
      have vB := HBEL.out.alloc HBEL.out.size (.cells #[.int .i64 0] 3)
      have v10 := Boxed.new W0 3 (.int .i64 0)
      have vsz : (W0.alloc (.cells #[.int .i64 0] 3)).heap.size = W0.heap.size + 1 := by simp
      have vMc : M < W0.heap.size := HSZ.out
      have vbc : b9 < W0.heap.size := HX9.out.lt
      have VDK0 := Aside0.mk ((Below.heap_alloc W0 (.cells #[.int .i64 0] 3) D0 (Array.getElem?_eq_some_iff.1 HDK0.out).1).trans HDK0.out)
      have VDL0 := Aside0.mk (Array.getElem?_eq_some_iff.1 HDK0.out).1
      obtain ⟨V, hV⟩ : ∃ V, W0.alloc (.cells #[.int .i64 0] 3) = V := ⟨_, rfl⟩
      rw [hV] at vS vX vB v10 vsz VDK0 ⊢
      obtain ⟨c, hcj⟩ : ∃ c, c = W0.heap.size := ⟨_, rfl⟩
      rw [← hcj] at v10 vsz vMc vbc VDL0 ⊢
      clear hcj hV HS0 HX9 HBEL HSZ HDK0
      clear W0
      have hstops := leb_All1_stops (α := leb_In xs) leb_val 19 (by decide) k k B 0 okp v part (by have := HC.out.1; have := HC.out.2.1; omega) xs.attach V vS.xB vS.vp (by rw [leb_attach]; exact HT.out)
      refine lebT_joined (fun D W => ∃ i, Boxed W c 3 (.int .i64 i) ∧ (i = (want.length : Int) ∨ (1 = 0 ∧ i = a1 ∧ i ≠ (want.length : Int))) ∧ lebT_KB c V W ∧ Below w.heap.size w W ∧ W.heap[D]? = some (.deferred (some [])) ∧ V.heap.size ≤ D) ?loop3 ?next3
      case loop3 =>
        refine wpIn_rangeFunc_ownF rfl (by decide) (gf := 33) (lb := #[.pointer (some ⟨B, 0, none⟩)]) rfl trivial (enters_of Try.func33 (by kernel_rfl) rfl) hstops leb_Keep.t (leb_Keep.b (Nat.le_refl _)) (Below.refl _ _) (fun _ => rfl)
          (lebT_In xs w V c) (lebT_Ix xs a1 1 w V c) (lebT_In_own xs w V c (by omega) vB.size) (fun c' => lebT_Ix_own xs a1 1 w V c c' (by omega) vB.size) ⟨⟨rfl, Nat.zero_le _⟩, v10, ⟨Nat.le_refl _, fun _ _ _ => rfl⟩, vB⟩ ?a13 ?assign3 ?body3 ?done3 ?stop3
        case assign3 =>
          intro l x W K hK
          gi_wp2
          exact hK
        case body3 =>
          rintro l pre x W ⟨hpre, hb10, hKB, hBl⟩ hlen
          have hlx : pre.length < xs.length := by simpa using hlen
          have hwl : want.length = xs.length := by have := congrArg List.length HC.out.2.2.2; simpa using this
          have wS := vS.move (W' := W) (fun k hk _ => hKB.2 k (by omega) (by omega))
          have hc9 := (hKB.box vX (by omega)).cell
          have hc10 := hb10.cell
          have hf10 := hb10.frozen
          have hc5 := wS.x5.cell
          have hc3 := wS.x3.cell
          have hc4 := wS.x4.cell
          have hf4 := wS.x4.frozen
          have hlenB : pre.length < want.length := by rw [hwl]; exact hlx
          have hlt3 : w.heap.size < c := by have := HWM.out; omega
          obtain ⟨_, hcw, hCw⟩ := Kd.V_reads' wS.vw
          obtain ⟨ad, hAd, ha0, ha1⟩ := at_T55 hCw (pre.length : Int) (by omega) (by omega)
          rw [Int.toNat_natCast] at ha0 ha1
          have hx0 : xs.take (pre.length + 1) = xs.take pre.length ++ [((rd_T55 want (pre.length : Int)).f0, (rd_T55 want (pre.length : Int)).f1)] := by
            have e1 : (want.map (fun x => (x.f0, x.f1))).take (pre.length + 1) = (want.map (fun x => (x.f0, x.f1))).take pre.length ++ [((rd_T55 want (pre.length : Int)).f0, (rd_T55 want (pre.length : Int)).f1)] := by
              rw [List.take_succ_eq_append_getElem (by simpa using hlenB), List.getElem_map]
              have : rd_T55 want (pre.length : Int) = want[pre.length]'(by omega) := by simp [rd_T55, List.getD_eq_getElem?_getD, hlenB]
              rw [this]
            rw [HC.out.2.2.2] at e1
            exact e1
          obtain ⟨p0, hp0⟩ : ∃ p, p = (rd_T55 want (pre.length : Int)).f0 := ⟨_, rfl⟩
          obtain ⟨p1, hp1⟩ : ∃ p, p = (rd_T55 want (pre.length : Int)).f1 := ⟨_, rfl⟩
          rw [← hp0] at ha0 hx0
          rw [← hp1] at ha1 hx0
          have cb0 : decide (want.length ≤ pre.length) = false := decide_eq_false (Nat.not_le.2 hlenB)
          have cb1 : decide ((want.length : Int) ≤ (pre.length : Int)) = false := decide_eq_false (fun h => Nat.not_le.2 hlenB (Int.ofNat_le.1 h))
          have cb2 : decide (pre.length < want.length) = true := decide_eq_true hlenB
          have cb3 : wrap64 ((pre.length : Int) + 1) = (pre.length : Int) + 1 := lebT_wrap (Nat.le_trans (Nat.le_of_lt hlenB) HC.out.2.2.1)
          subst hAd
          have HX0 := Aside0.mk hx0
          have HPRE := Aside0.mk hpre
          have HB10 := Aside0.mk hb10
          have HKB := Aside0.mk hKB
          have HBL := Aside0.mk hBl
          have HLX := Aside0.mk hlx
          have HVS := Aside0.mk vS
          clear hx0 hpre hb10 hKB hBl hlx hwl hlen hp0 hp1 wS hCw hcw vS vX vB v10 hstops heqf
          by_cases d0 : p0 = x.1.1
          · have d0b : (p0 != x.1.1) = false := bne_eq_false_iff_eq.2 d0
            by_cases d1 : p1 = x.1.2
            · have d1b : (p1 != x.1.2) = false := bne_eq_false_iff_eq.2 d1
              have hnext := lebT_In_next (w := w) HPRE.out.1 HLX.out HX0.out (show (p0, p1) = leb_val x by rw [d0, d1]) HB10.out HKB.out HBL.out (Nat.le_of_lt hlt3)
              have HNEXT := Aside0.mk hnext
              clear d0 d1 hnext
              gi_wp2
              exact ⟨KeepsOthers.setCell _ _ _, fun k hk _ => Below.heap_setCell W ⟨c, 0, none⟩ _ k (show k ≠ c from lebT_ne_c HVS.out (Nat.le_of_lt vMc) hk), HNEXT.out⟩
            · have d1b : (p1 != x.1.2) = true := bne_iff_ne.2 d1
              gi_wp2
              exact ⟨KeepsOthers.setCell _ _ _, .inl ⟨rfl, lebT_ne HPRE.out.1 HX0.out (fun e => d1 (congrArg Prod.snd e))⟩⟩
          · have d0b : (p0 != x.1.1) = true := bne_iff_ne.2 d0
            gi_wp2
            exact ⟨KeepsOthers.setCell _ _ _, .inl ⟨rfl, lebT_ne HPRE.out.1 HX0.out (fun e => d0 (congrArg Prod.fst e))⟩⟩
        case done3 =>
          rintro D ys' W hD rfl ⟨hpre, hb10, hKB, hBl⟩ hK
          have hlen' : xs.attach.length = want.length := by have := congrArg List.length HC.out.2.2.2; simpa using this.symm
          rw [hlen'] at hb10
          exact ⟨.inl rfl, D, rfl, _, hb10, .inl rfl, hKB, hBl, hK, hD⟩
        case stop3 =>
          rintro D c' pre W hD hpre (⟨rfl, hne⟩ | ⟨rfl, hj, ha, hpr, hb10, hKB, hBl⟩) hK
          · exact absurd (lebT_pre hpre) hne
          · refine wpIn_exit ⟨.inr rfl, D, rfl, _, hb10, ?_, hKB, hBl, hK, hD⟩
            rw [ha]
            by_cases e : a1 = (want.length : Int)
            · exact .inl e
            · exact .inr ⟨hj, rfl, e⟩
      case next3 =>
        clear hstops
        rintro D1 W ⟨i, hb10, hi, hKB, hBl, hK, hD⟩
        have wS := vS.move (W' := W) (fun k hk _ => hKB.2 k (by omega) (by omega))
        have wX := hKB.box vX (by omega)
        have hc9 := wX.cell
        have hc10 := hb10.cell
        have hc5 := wS.x5.cell
        have hc3 := wS.x3.cell
        have WK0 := Aside0.mk ((hKB.2 D0 (by have := VDL0.out; omega) (by have := VDL0.out; omega)).trans VDK0.out)
        have WK1 := Aside0.mk hK
        have WD1 := Aside0.mk (show M < D1 by omega)
        have WS := Aside0.mk wS
        have WBL := Aside0.mk hBl
        have WLT := Aside0.mk (show M < W.heap.size by have := hKB.1; omega)
        have WNE0 := Aside0.mk (show D0 ≠ D1 by have := VDL0.out; omega)
        clear hb10 hKB hBl hK hD wS wX vS vX vB v10 vsz vbc vMc VDK0 VDL0
        clear V
        rw [hi.elim id (fun h => absurd h.1 (by decide))] at hc10
        clear hi
        gi_wp2
        have HS0 := Aside0.mk (WS.out.move (W' := W.alloc (.cells #[.int .i64 2] 3)) (fun k hk hlt => Below.heap_alloc _ _ _ hlt))
        have HX9 := Aside0.mk (Boxed.new W 3 (.int .i64 2))
        have HBEL := Aside0.mk (WBL.out.alloc WBL.out.size (.cells #[.int .i64 2] 3))
        have HSZ := Aside0.mk (show M < (W.alloc (.cells #[.int .i64 2] 3)).heap.size by have := WLT.out; simp; omega)
        have HDK0 := Aside0.mk ((Below.heap_alloc W (.cells #[.int .i64 2] 3) D0 (Array.getElem?_eq_some_iff.1 WK0.out).1).trans WK0.out)
        have HDK1 := Aside0.mk ((Below.heap_alloc W (.cells #[.int .i64 2] 3) D1 (Array.getElem?_eq_some_iff.1 WK1.out).1).trans WK1.out)
        obtain ⟨W0, hW0⟩ : ∃ W', W.alloc (.cells #[.int .i64 2] 3) = W' := ⟨_, rfl⟩
        rw [hW0] at HS0 HX9 HBEL HSZ HDK0 HDK1 ⊢
        obtain ⟨b9, hb9⟩ : ∃ b, b = W.heap.size := ⟨_, rfl⟩
        rw [← hb9] at HX9 ⊢
        clear hb9 hW0 WS WBL WLT hc9 hc10 hc5 hc3 WK0 WK1
        clear W
        rw [roundsIn_succ]
        have hc9 := HX9.out.cell
        gi_wp2_with (refine ⟨trivial, ?_⟩; gi_at_call 26; (with_reducible refine (callsIn_wide.2 (lebT_All4' _ _ (by simp))).mono ?_); rintro e w6 ⟨B6, v6, rfl, hB6, hx6, hv6, hb6⟩; rw [World.size_alloc] at hB6 hv6; have GB6 := Aside0.mk hB6; have BX6 := Aside0.mk hx6; have VV6 := Aside0.mk hv6; have HB6 := Aside0.mk hb6; clear hB6 hx6 hv6 hb6)
        clear hc9
        have tb : ∀ k, k < W0.heap.size + 1 → w6.heap[k]? = (W0.alloc (.cells #[.int .i64 0] 3)).heap[k]? := fun k hk => HB6.out.block k (by simpa using hk)
        have t0 : ∀ k, k < W0.heap.size → w6.heap[k]? = W0.heap[k]? := fun k hk => (tb k (by omega)).trans (Below.heap_alloc _ _ _ hk)
        have tS := HS0.out.move (W' := w6) (fun k _ hlt => t0 k hlt)
        have t13 : Boxed w6 W0.heap.size 3 (.int .i64 0) := (tb _ (by omega)).trans (Boxed.new W0 _ _)
        have tB : Below w.heap.size w w6 := (HBEL.out.alloc HBEL.out.size (.cells #[.int .i64 0] 3)).trans (HB6.out.mono (by simp; have := HBEL.out.size; omega))
        have tK0 := (t0 _ (Array.getElem?_eq_some_iff.1 HDK0.out).1).trans HDK0.out
        have tK1 := (t0 _ (Array.getElem?_eq_some_iff.1 HDK1.out).1).trans HDK1.out
        have tL0 := (Array.getElem?_eq_some_iff.1 HDK0.out).1
        have tL1 := (Array.getElem?_eq_some_iff.1 HDK1.out).1
        have tM : M < W0.heap.size := HSZ.out
        have ts6 : W0.heap.size + 1 < w6.heap.size := by have := GB6.out; have := BX6.out.lt; omega
        obtain ⟨b13, h13⟩ : ∃ b, b = W0.heap.size := ⟨_, rfl⟩
        rw [← h13] at t13 tM ts6 tL0 tL1 GB6 VV6 ⊢
        have hwM := HWM.out
        clear h13 tb t0 HS0 HX9 HBEL HSZ HDK0 HDK1 HB6
        clear W0
        have hy3 := HC2.out.1
        have hz2 := HC2.out.2
        obtain ⟨ok6, hok6, vv6⟩ : ∃ ok6 : Nat → Prop, (∀ k, ok6 k → b13 < k) ∧ Kd.V (Kd.int .u8) 5 w6 0 ok6 v6 [5, 128, 1, 7] := ⟨_, fun k hk => by have := hk.1; omega, VV6.out⟩
        have gB6 : b13 < B6 := by have := GB6.out; omega
        have hstops6 := leb_All1_stops (α := leb_In ys) leb_val 19 (by decide) k k B6 0 ok6 v6 [5, 128, 1, 7] (by decide) ys.attach w6 BX6.out vv6 (by rw [leb_attach]; exact HT4.out)
        refine lebT_rfH rfl (by decide) (gf := 33) (lb := #[.pointer (some ⟨B6, 0, none⟩)]) rfl trivial (enters_of Try.func33 (by kernel_rfl) rfl) hstops6 (fun _ _ _ _ => rfl) leb_Keep.t (leb_Keep.b (Nat.le_refl _)) (Below.refl _ _) (fun _ => rfl)
          (fun pre W => lebT_N w w6 b13 (fun n => 2 * n) pre W) (fun _ _ _ => False) (lebT_N_own w w6 b13 _ _ (by omega) tB.size (Nat.le_refl _)) (fun _ _ _ _ _ h _ _ => h) ⟨by simpa using t13, ⟨Nat.le_refl _, fun _ _ _ => rfl⟩, tB⟩ ?aq3 ?assignq3 ?bodyq3 ?doneq3 ?stopq3
        case assignq3 =>
          intro l x W K hK
          gi_wp2
          exact hK
        case bodyq3 =>
          rintro l pre x W hl ⟨r, hr⟩ ⟨h13, hKB, hBl⟩ hlen
          have hl3 : pre.length < 3 := by have : pre.length < ys.length := by simpa using hlen
                                          omega
          gi_wp2_with (refine ⟨trivial, ?_⟩; gi_at_call 26; (with_reducible refine (CallsIn.inRound l (callsIn_wide.2 (lebT_All2' W W.heap.size rfl))).mono ?_); rintro e w7 ⟨B7, v7, rfl, hB7, hx7, hv7, hb7⟩; have GB7 := Aside0.mk hB7; have BX7 := Aside0.mk hx7; have VV7 := Aside0.mk hv7; have HB7 := Aside0.mk hb7; clear hB7 hx7 hv7 hb7)
          have wb := HB7.out
          have wx13 := (wb.block _ h13.lt).trans h13
          have wr := (wb.block _ (Array.getElem?_eq_some_iff.1 hr).1).trans hr
          have hWs := hKB.1
          obtain ⟨ok7, hok7, vv7⟩ : ∃ ok7 : Nat → Prop, (∀ k, ok7 k → W.heap.size < k) ∧ Kd.V (Kd.int .u8) 5 w7 0 ok7 v7 [1, 2] := ⟨_, fun k hk => by have := hk.1; omega, VV7.out⟩
          have gB7 : W.heap.size < B7 := by have := GB7.out; omega
          have hstops7 := leb_All1_stops (α := leb_In zs) leb_val 17 (by decide) k k B7 0 ok7 v7 [1, 2] (by decide) zs.attach w7 BX7.out vv7 (by rw [leb_attach]; exact HT2.out)
          have hB7 : Below w.heap.size w w7 := hBl.trans (wb.mono hBl.size)
          have hKB7 : lebT_KB b13 w6 w7 := hKB.t (b' := b13) (fun k hk _ => wb.block k (by omega)) wb.size
          have hw67 : w6.heap.size ≤ w7.heap.size := Nat.le_trans hWs wb.size
          refine lebT_rfN (F := Fence.wide.inRound l) (l₀ := l) (r₀ := r) rfl wr (by decide) (gf := 33) (lb := #[.pointer (some ⟨B7, 0, none⟩)]) rfl trivial (enters_of Try.func33 (by kernel_rfl) rfl) (hstops7.inRound l) (fun _ _ _ _ => rfl) leb_Keep.t (leb_Keep.b (Nat.le_refl _)) (Below.refl _ _) (fun _ => rfl)
            (fun pre' W' => lebT_N w w6 b13 (fun n => 2 * pre.length + n) pre' W' ∧ (leb_Keep (fun k => k = B6 ∨ ok6 k) w6.heap.size W W' ∧ W.heap.size ≤ W'.heap.size) ∧ KeepsFrom w6.heap.size W W')
            (fun _ _ _ => False) (OwnFrom.and (lebT_N_own w w6 b13 _ _ (by omega) hB7.size hw67) (OwnFrom.and (leb_Keep.own W _ hw67 hWs) (ownFrom_keepsFrom wb.size))) (fun _ _ _ _ _ h _ _ => h)
            ⟨⟨by show Boxed w7 b13 3 (.int .i64 (2 * (pre.length : Int) + ((0 : Nat) : Int))); rw [show (2 * (pre.length : Int) + ((0 : Nat) : Int)) = 2 * (pre.length : Int) by omega]; exact wx13, hKB7, hB7⟩, ⟨fun k hk hn => wb.block k (by omega), wb.size⟩, lebT_Below_keeps wb⟩ ?ar3 ?assignr3 ?bodyr3 ?doner3 ?stopr3
          case assignr3 =>
            intro l x W K hK
            gi_wp2
            exact hK
          case bodyr3 =>
            rintro l2 pre' x2 W' hl2 _ ⟨⟨g13, gKB, gB⟩, ⟨gK, gs⟩, gF⟩ hlen'
            have hl2' : pre'.length < 2 := by have : pre'.length < zs.length := by simpa using hlen'
                                              omega
            have hc13 := g13.cell
            have hf13 := g13.frozen
            have hwr : wrap64 (2 * (pre.length : Int) + (pre'.length : Int) + 1) = 2 * (pre.length : Int) + (pre'.length : Int) + 1 := by unfold wrap64; omega
            have G13 := Aside0.mk g13
            clear g13 hl2' hl3 wx13 h13
            gi_wp2
            refine ⟨(KeepsOthers.setCell _ _ _).from _, fun k hk hn => Below.heap_setCell W' ⟨b13, 0, none⟩ _ k ?_, ⟨?_, gKB.t (b' := b13) (fun k _ hn => Below.heap_setCell W' ⟨b13, 0, none⟩ _ k hn) (by simp), gB.setCell (p := ⟨b13, 0, none⟩) (show w.heap.size ≤ b13 by omega) _⟩, ⟨fun k hk hn => (Below.heap_setCell W' ⟨b13, 0, none⟩ _ k ?_).trans (gK k hk hn), by simpa using gs⟩, gF.trans ((KeepsOthers.setCell _ _ _).from _)⟩
            · show k ≠ b13
              rcases hk with rfl | hk
              · omega
              · have := hok7 k hk; omega
            · have := G13.out.set (.int .i64 (2 * (pre.length : Int) + (pre'.length : Int) + 1))
              show Boxed _ b13 3 (.int .i64 (2 * (pre.length : Int) + (((pre' ++ [x2]).length : Nat) : Int)))
              rw [show (2 * (pre.length : Int) + (((pre' ++ [x2]).length : Nat) : Int)) = 2 * (pre.length : Int) + (pre'.length : Int) + 1 by simp; omega]
              exact this
            · show k ≠ b13
              rcases hk with rfl | hk
              · omega
              · have := hok6 k hk; omega
          case doner3 =>
            rintro ys' W' rfl ⟨⟨g13, gKB, gB⟩, ⟨gK, gs⟩, gF⟩
            gi_wp2
            refine ⟨gF, gK, ?_, gKB, gB⟩
            show Boxed _ b13 3 (.int .i64 (2 * (((pre ++ [x]).length : Nat) : Int)))
            rw [show (2 * (((pre ++ [x]).length : Nat) : Int)) = 2 * (pre.length : Int) + (zs.attach.length : Int) by simp [hz2]; omega]
            exact g13
          case stopr3 =>
            rintro _ _ _ _ h
            exact h.elim
        case doneq3 =>
          rintro D2 ys' W hD rfl ⟨g13, gKB, gB⟩ hK
          have hlen6 : (2 * ((ys.attach.length : Nat) : Int)) = 6 := by simp [hy3]
          replace g13 : Boxed W b13 3 (.int .i64 (2 * ((ys.attach.length : Nat) : Int))) := g13
          rw [hlen6] at g13
          have wS := tS.move (W' := W) (fun k hk hlt => gKB.2 k hlt (by omega))
          have wK0 := (gKB.2 D0 (by omega) (by omega)).trans tK0
          have wK1 := (gKB.2 D1 (by omega) (by omega)).trans tK1
          have hne0 := WNE0.out
          have hc13 := g13.cell
          have hc4 := wS.x4.cell
          have hf4 := wS.x4.frozen
          have hcw := (Kd.V_reads' wS.vh)
          have WS := Aside0.mk wS
          have GB := Aside0.mk gB
          have LD0 := Aside0.mk (show M < D0 by have := WD0.out; omega)
          have LD1 := Aside0.mk (show M < D1 by have := WD1.out; omega)
          have LD2 := Aside0.mk (show M < D2 ∧ D2 ≠ D0 ∧ D2 ≠ D1 by omega)
          have LNE := Aside0.mk hne0
          have LW := Aside0.mk hwM
          have HCW := Aside0.mk hcw
          have WK0 := Aside0.mk wK0
          have WK1 := Aside0.mk wK1
          have WK2 := Aside0.mk hK
          clear wK0 wK1 hK hcw gB gKB g13 wS hD tS t13 tB tK0 tK1 tL0 tL1 tM ts6 hstops6 vv6 hok6 gB6 hwM hy3 hz2 hlen6 heqf hne0
          gi_wp2_with (refine ⟨trivial, ?_⟩; gi_at_call 21; (with_reducible refine (callsIn_wide.2 (hawserref01_Kept.calls k _ _ whole _ _ l0 true _ HCW.out.2.2 HCW.out.2.1 (Kd.C_below HR0.out GB.out) HC0.out HKept.out)).mono ?_); rintro e w' ⟨rfl, ⟨nd, rfl⟩⟩)
          have l0' := LD0.out
          have l1' := LD1.out
          have l2' := LD2.out
          have lne := LNE.out
          have lw := LW.out
          have lm4 := WS.out.m4
          have q : ∀ D, D ≠ w.heap.size + 1 → ((W.drewN nd).setCell ⟨w.heap.size + 1, 0, none⟩ (.bool true)).heap[D]? = W.heap[D]? := fun D hD => (Below.heap_setCell (W.drewN nd) ⟨w.heap.size + 1, 0, none⟩ (.bool true) D hD).trans (by simp)
          have q0 := (q D0 (by omega)).trans WK0.out
          have q1 := (q D1 (by omega)).trans WK1.out
          have q2 := (q D2 (by omega)).trans WK2.out
          have x4 : Boxed ((W.drewN nd).setCell ⟨w.heap.size + 1, 0, none⟩ (.bool true)) (w.heap.size + 1) 4 (.bool true) := Boxed.set _ (show Boxed (W.drewN nd) _ _ _ from by have := WS.out.x4; unfold Boxed at this ⊢; simpa using this)
          have bf : Below w.heap.size w ((W.drewN nd).setCell ⟨w.heap.size + 1, 0, none⟩ (.bool true)) := (pw_below_drewN GB.out nd).setCell (p := ⟨w.heap.size + 1, 0, none⟩) (by simp) _
          generalize (W.drewN nd).setCell ⟨w.heap.size + 1, 0, none⟩ (.bool true) = Wf at q0 q1 q2 x4 bf ⊢
          have p1 : (Wf.putObj D2 (.deferred none)).heap[D1]? = some (.deferred (some [])) := (World.putObj_heap_other (by omega)).trans q1
          have p0 : ((Wf.putObj D2 (.deferred none)).putObj D1 (.deferred none)).heap[D0]? = some (.deferred (some [])) := (World.putObj_heap_other (by omega)).trans ((World.putObj_heap_other (by omega)).trans q0)
          have hcell := (lebT_put (lebT_put (lebT_put x4 (show w.heap.size + 1 ≠ D2 by omega) (.deferred none)) (show w.heap.size + 1 ≠ D1 by omega) (.deferred none)) (show w.heap.size + 1 ≠ D0 by omega) (.deferred none)).cell
          have bz : Below w.heap.size w (((Wf.putObj D2 (.deferred none)).putObj D1 (.deferred none)).putObj D0 (.deferred none)) := ((bf.trans (belowK_b (w := w) (Nat.le_refl _) Wf D2 _ _ (by omega) q2 rfl rfl)).trans (belowK_b (w := w) (Nat.le_refl _) _ D1 _ _ (by omega) p1 rfl rfl)).trans (belowK_b (w := w) (Nat.le_refl _) _ D0 _ _ (by omega) p0 rfl rfl)
          refine ⟨by simp, .inl ⟨_, _, rfl, run_takeDeferred q2, ?_⟩⟩
          refine ⟨by simp, .inl ⟨_, _, rfl, run_takeDeferred p1, ?_⟩⟩
          refine ⟨by simp, .inl ⟨_, _, rfl, run_takeDeferred p0, ?_⟩⟩
          refine ⟨.bool true, ?_, rfl, bz⟩
          simp [results, Try.f9, go_sem, hcell]
        case stopq3 =>
          rintro _ _ _ _ _ _ h
          exact h.elim

end Go.Proofs.Ytcpdnoaebbbgcaa.G
