-- Written for this claim by a program of this session (wip/xprint.py), by means of the kit's print. Not trusted: Lean checks it.
import Derived.Test.YtkkmceejfmjidaaGx0
import Derived.Test.YtkkmceejfmjidaaGx4
import Derived.Test.YtkkmceejfmjidaaGx5
import Derived.Test.YtkkmceejfmjidaaGx6
import Derived.Test.YtkkmceejfmjidaaGx8
import Derived.Test.YtkkmceejfmjidaaGx15
import Derived.Test.YtkkmceejfmjidaaGx16
namespace Go.Proofs.Ytkkmceejfmjidaa.G
open Go.RowKit Go.Proofs.YtkkmceejfmjidaaW.PrintWords Go.Proofs.YtkkmceejfmjidaaW.PrintLast Go.Proofs.YtkkmceejfmjidaaW.PrintMore
attribute [local go_sem] max2_int min2_int max_two min_two max_three min_three max_four min_four   -- for this text's walks alone
set_option linter.unusedVariables false
set_option linter.unusedSimpArgs false

/-! ### hawserlaw21_MasterReads: function 4 -/
namespace Rdr
open Go.Proofs.Ytkkmceejfmjidaa.Blocks
theorem wp_append {ops : Array Oper} {rest : List Oper} {o : Oper} {a : Act} {w w' : World} {Q : Exit → Act → World → Prop} {t : TypeId} {u v v' : Value} (hgd : o.guard = none) (s z : Operand) (hop : o.op = .call { callee := .builtin .append, args := #[s, z], argTypes := #[t, t] })
    (hs : a.eval s = u) (hx : a.eval z = v) (hrun : (Builtin.append_ #[t, t] o.type #[u, v]).run Try.prog w = .ok v' w') (h : wpList Try.prog ops Q rest (a.put o.dst v') w') : wpList Try.prog ops Q (o :: rest) a w :=
  wpList_plain hgd fun K hK => oper_app hop hs hx hrun (hK _ _ h)
/-- Where the law stands: three states, each with a chain of its own. -/
structure Lx (W w : World) (g5 g7 g9 : Nat) (A5 A7 A9 : Option Addr) (c5 c7 c9 : Nat) (cur ch : List Int) (e a2 a3 a4 a5 : Int) : Prop where
  b5 : w.heap[g5]? = some (.cells #[.int .i64 e, .slice A5 cur.length c5, .int .i64 a2, .int .i64 a3, .int .i64 a4, .int .i64 a5] 28 (0, 0))
  r5 : Kd.R (Kd.int .i64) 3 w W.heap.size (fun _ => True) (.slice A5 cur.length c5) cur
  b7 : w.heap[g7]? = some (.cells #[.int .i64 e, .slice A7 ch.length c7, .int .i64 a2, .int .i64 a3, .int .i64 a4, .int .i64 a5] 28 (0, 0))
  r7 : Kd.R (Kd.int .i64) 3 w W.heap.size (fun _ => True) (.slice A7 ch.length c7) ch
  b9 : w.heap[g9]? = some (.cells #[.int .i64 e, .slice A9 ch.length c9, .int .i64 a2, .int .i64 a3, .int .i64 a4, .int .i64 a5] 27 (0, 0))
  r9 : Kd.R (Kd.int .i64) 3 w W.heap.size (fun _ => True) (.slice A9 ch.length c9) ch
  ap : ∀ g, (Value.slice A5 cur.length c5).ownBlock = some g → (Value.slice A7 ch.length c7).ownBlock ≠ some g ∧ (Value.slice A9 ch.length c9).ownBlock ≠ some g
  ne : g5 ≠ g7 ∧ W.heap.size ≤ g5
  bel : Below W.heap.size W w
theorem Lx.below {W w w' : World} {g5 g7 g9 : Nat} {A5 A7 A9 : Option Addr} {c5 c7 c9 : Nat} {cur ch : List Int} {e a2 a3 a4 a5 : Int} (h : Lx W w g5 g7 g9 A5 A7 A9 c5 c7 c9 cur ch e a2 a3 a4 a5) (hB : Below w.heap.size w w') : Lx W w' g5 g7 g9 A5 A7 A9 c5 c7 c9 cur ch e a2 a3 a4 a5 :=
  ⟨blk_below h.b5 hB, R_below h.r5 hB, blk_below h.b7 hB, R_below h.r7 hB, blk_below h.b9 hB, R_below h.r9 hB, h.ap, h.ne, h.bel.trans (below_weak hB h.bel.size)⟩
theorem R_row {W W' : World} {base : Nat} {v : Value} {xs : List Int} {row : Option Nat} (h : Kd.R (Kd.int .i64) 3 W base (fun _ => True) v xs) (hg : W.grownBy W' row) (hn : ∀ g, row = some g → v.ownBlock ≠ some g) : Kd.R (Kd.int .i64) 3 W' base (fun _ => True) v xs := by
  refine Kd.R_of_own ?_ (fun _ _ => trivial)
  refine World.ownsRow.kept (Kd.own_of_R h) hg ?_
  cases e : v.ownBlock with
  | none => exact .inl rfl
  | some g => exact .inr (fun he => hn g he.symm e)
/-- A number of the spoilt chain is written. -/
theorem Lx.put {W w : World} {g5 g7 g9 go : Nat} {A7 A9 : Option Addr} {c5 c7 c9 : Nat} {cur ch : List Int} {e a2 a3 a4 a5 : Int} (h : Lx W w g5 g7 g9 (some ⟨go, 0, none⟩) A7 A9 c5 c7 c9 cur ch e a2 a3 a4 a5) (i : Nat) (x : Int) (hlt : i < cur.length) : Lx W (w.setCell ⟨go, i, none⟩ (.int .i64 x)) g5 g7 g9 (some ⟨go, 0, none⟩) A7 A9 c5 c7 c9 (cur.set i x) ch e a2 a3 a4 a5 := by
  have hP := Kd.R_putg h.r5 (i : Int) x
  rw [Int.toNat_natCast] at hP
  obtain ⟨hr, hg⟩ := hP
  have hob : (Value.slice (some ⟨go, 0, none⟩) cur.length c5).ownBlock = some go := rfl
  have hlen : (cur.set i x).length = cur.length := List.length_set
  obtain ⟨p1, p2⟩ := h.ap go hob
  refine ⟨?_, ?_, blk_grown h.b7 hg (Kd.R_ne h.r5 h.b7 (by decide)), R_row h.r7 hg (fun g hg' => by cases hg'; exact p1), blk_grown h.b9 hg (Kd.R_ne h.r5 h.b9 (by decide)), R_row h.r9 hg (fun g hg' => by cases hg'; exact p2), ?_, h.ne, ?_⟩
  · rw [hlen]; exact blk_grown h.b5 hg (Kd.R_ne h.r5 h.b5 (by decide))
  · rw [hlen]; exact hr
  · rw [hlen]; exact h.ap
  · exact h.bel.setCell (World.ownsRow.lt (Kd.own_of_R h.r5) go hob).1 _
/-- Where the law stands behind the spoiling. -/
structure Ly (W w : World) (g5 g7 g9 : Nat) (A7 A9 : Option Addr) (c7 c9 : Nat) (cs5 : Array Value) (ch : List Int) (e a2 a3 a4 a5 : Int) : Prop where
  b5 : w.heap[g5]? = some (.cells cs5 28 (0, 0))
  b7 : w.heap[g7]? = some (.cells #[.int .i64 e, .slice A7 ch.length c7, .int .i64 a2, .int .i64 a3, .int .i64 a4, .int .i64 a5] 28 (0, 0))
  r7 : Kd.R (Kd.int .i64) 3 w W.heap.size (fun _ => True) (.slice A7 ch.length c7) ch
  b9 : w.heap[g9]? = some (.cells #[.int .i64 e, .slice A9 ch.length c9, .int .i64 a2, .int .i64 a3, .int .i64 a4, .int .i64 a5] 27 (0, 0))
  r9 : Kd.R (Kd.int .i64) 3 w W.heap.size (fun _ => True) (.slice A9 ch.length c9) ch
  ge : W.heap.size ≤ g5
  bel : Below W.heap.size W w
theorem Ly.below {W w w' : World} {g5 g7 g9 : Nat} {A7 A9 : Option Addr} {c7 c9 : Nat} {cs5 : Array Value} {ch : List Int} {e a2 a3 a4 a5 : Int} (h : Ly W w g5 g7 g9 A7 A9 c7 c9 cs5 ch e a2 a3 a4 a5) (hB : Below w.heap.size w w') : Ly W w' g5 g7 g9 A7 A9 c7 c9 cs5 ch e a2 a3 a4 a5 :=
  ⟨blk_below h.b5 hB, blk_below h.b7 hB, R_below h.r7 hB, blk_below h.b9 hB, R_below h.r9 hB, h.ge, h.bel.trans (below_weak hB h.bel.size)⟩
theorem Lx.grow {W w w7 : World} {g5 g7 g9 : Nat} {A5 A7 A9 : Option Addr} {c5 c7 c9 : Nat} {cur ch : List Int} {e a2 a3 a4 a5 : Int} (h : Lx W w g5 g7 g9 A5 A7 A9 c5 c7 c9 cur ch e a2 a3 a4 a5) {o : Obj} (hg : (w.alloc o).grownBy w7 (Value.slice A5 cur.length c5).ownBlock) (v : Value) :
    w7.heap[g5]? = some (.cells #[.int .i64 e, .slice A5 cur.length c5, .int .i64 a2, .int .i64 a3, .int .i64 a4, .int .i64 a5] 28 (0, 0)) ∧ Ly W (w7.setCell ⟨g5, 1, none⟩ v) g5 g7 g9 A7 A9 c7 c9 #[.int .i64 e, v, .int .i64 a2, .int .i64 a3, .int .i64 a4, .int .i64 a5] ch e a2 a3 a4 a5 := by
  have h0 := h.below (below_alloc (Below.refl _ _) o)
  have b5 := blk_grown h0.b5 hg (Kd.R_ne h.r5 h.b5 (by decide))
  have b7 := blk_grown h0.b7 hg (Kd.R_ne h.r5 h.b7 (by decide))
  have b9 := blk_grown h0.b9 hg (Kd.R_ne h.r5 h.b9 (by decide))
  have r7 := R_row h0.r7 hg (fun g hg' => (h.ap g hg').1)
  have r9 := R_row h0.r9 hg (fun g hg' => (h.ap g hg').2)
  have hB : But g5 w7 (w7.setCell ⟨g5, 1, none⟩ v) := (But.refl _ _).setCell _ _
  have hbel : Below W.heap.size W w7 := h0.bel.grown hg h0.bel.size (fun k hk => (World.ownsRow.lt (Kd.own_of_R h.r5) k hk).1)
  exact ⟨b5, ⟨blk_set b5 1 v, hB.blk b7 (fun he => h.ne.1 he.symm), R_but r7 b5 (by decide) hB, hB.blk b9 (blk_ne b9 b5 (by decide)), R_but r9 b5 (by decide) hB, h.ne.2, hB.below hbel h.ne.2 (blk_lt b5)⟩⟩
theorem run_appI {W : World} {base : Nat} {u : Value} {xs : List Int} (ho : W.ownsRow base 3 1 u xs.length (nums .i64 xs)) (t ty : TypeId) (ht : Try.prog.underlying t = some (.slice 3)) (hl : xs.length ≤ 1048576) (hb : base ≤ W.heap.size) :
    ∃ v' w', (Builtin.append_ #[t, t] ty #[u, .slice (some ⟨W.heap.size, 0, none⟩) 2 2]).run Try.prog (W.alloc (.cells #[.int .i64 78, .int .i64 79] 3)) = .ok v' w' ∧ (W.alloc (.cells #[.int .i64 78, .int .i64 79] 3)).grownBy w' u.ownBlock ∧ ∃ A c, v' = .slice A (xs.length + 2) c := by
  obtain ⟨i0, hi, hzz⟩ := Option.map_eq_some_iff.1 info_int
  simp only [Prod.mk.injEq] at hzz
  obtain ⟨hz0, hz1, hz2⟩ := hzz
  have hb2 := blk_new W (.cells #[.int .i64 78, .int .i64 79] 3)
  obtain ⟨v', w', hrun, hown, hg, _, hat⟩ := run_append_own_at (P := Try.prog) (W.alloc (.cells #[.int .i64 78, .int .i64 79] 3)) base t ty 3 i0 (.int .i64 0) 1 8 ht hi hz0 hz1 hz2 rfl (by decide) u xs.length (nums .i64 xs) (ho.alloc _) ⟨W.heap.size, 0, none⟩ 2 2 (nums .i64 [78, 79]) rfl (fun j x hj => by
    match j, hj with
    | 0, hj =>
      have hj : Value.int .i64 78 = x := by simpa [nums] using hj
      subst hj
      exact blk_cell hb2 0
    | 1, hj =>
      have hj : Value.int .i64 79 = x := by simpa [nums] using hj
      subst hj
      exact blk_cell hb2 1
    | j + 2, hj => simp [nums] at hj) (nums_one _ _) (by simp only [maxLen]; omega) (by omega) (by rw [World.size_alloc]; omega)
  refine ⟨v', w', hrun, hg, ?_⟩
  obtain ⟨A, c, h⟩ := own_sl7 hown
  exact ⟨A, c, h⟩
theorem lit8 (w : World) : Kd.C (Kd.int .u8) (w.alloc (.cells #[.int .u8 3, .int .u8 1, .int .u8 1, .int .u8 2, .int .u8 0, .int .u8 0, .int .u8 0, .int .u8 0] 5)) (some ⟨w.heap.size, 0, none⟩) 8 [3, 1, 1, 2, 0, 0, 0, 0] :=
  C_of_blk (k := .u8) (L := [3, 1, 1, 2, 0, 0, 0, 0]) (o := 0) (n := 8) (blk_new w _) (by decide) (by decide)
theorem dec8 (k : Nat) (ho : master_Decode.f k [3, 1, 1, 2, 0, 0, 0, 0] = some (1, [2], 0, 0, 0, 0, 0)) (w : World) :
    Calls Try.prog 15 #[.slice (some ⟨w.heap.size, 0, none⟩) 8 8] (w.alloc (.cells #[.int .u8 3, .int .u8 1, .int .u8 1, .int .u8 2, .int .u8 0, .int .u8 0, .int .u8 0, .int .u8 0] 5)) fun e w' => ∃ v1_ : Value, e = .returned (.tuple #[.agg #[.int .i64 1, v1_, .int .i64 0, .int .i64 0, .int .i64 0, .int .i64 0], .int .i64 0]) ∧ Kd.R (Kd.int .i64) 3 w' (w.alloc (.cells #[.int .u8 3, .int .u8 1, .int .u8 1, .int .u8 2, .int .u8 0, .int .u8 0, .int .u8 0, .int .u8 0] 5)).heap.size (fun _ => True) v1_ [2] ∧ Below (w.alloc (.cells #[.int .u8 3, .int .u8 1, .int .u8 1, .int .u8 2, .int .u8 0, .int .u8 0, .int .u8 0, .int .u8 0] 5)).heap.size (w.alloc (.cells #[.int .u8 3, .int .u8 1, .int .u8 1, .int .u8 2, .int .u8 0, .int .u8 0, .int .u8 0, .int .u8 0] 5)) w' :=
  master_Decode.calls k (some ⟨w.heap.size, 0, none⟩) 8 [3, 1, 1, 2, 0, 0, 0, 0] 1 [2] 0 0 0 0 0 _ (lit8 w) (by decide) ho
set_option maxHeartbeats 8000000 in
set_option maxRecDepth 100000 in
theorem law_calls {W : World} {A : Option Addr} {c : Nat} {l : List Int} (hC : Kd.C (Kd.int .u8) W A l.length l) (hc : l.length ≤ c) (k : Nat) (e : Int) (ch : List Int) (a2 a3 a4 a5 er : Int) (whole : List Int)
    (hL : hawserref01_Lend.f l = some (whole, l)) (hd : master_Decode.f k l = some (e, ch, a2, a3, a4, a5, er)) (hr : hawserref21_Decode.f k l = some (e, ch, a2, a3, a4, a5, er)) (hch : ch.length ≤ 1048576) (hs : hawserref21_Same.f k e ch a2 a3 a4 a5 e ch a2 a3 a4 a5 = some true) (hk : hawserref01_Kept.f k whole l = some true)
    (he : er = 0 → master_Encode.f e ch a2 a3 a4 a5 = some (l, 0)) (hs1 : hawserref01_Same.f l l = some true) (ho : master_Decode.f k [3, 1, 1, 2, 0, 0, 0, 0] = some (1, [2], 0, 0, 0, 0, 0)) :
    Calls Try.prog 4 #[.slice A l.length c] W fun r w' => r = .returned (.bool true) ∧ Below W.heap.size W w' := by
  have HC := Aside0.mk hC
  have HCC := Aside0.mk hc
  have HH := Aside0.mk (And.intro hL (And.intro hd (And.intro hr (And.intro hs (And.intro hk (And.intro he (And.intro hs1 ho)))))))
  have HIS : Aside0 ((Try.prog.info? 28).map (·.size) = some 6) := ⟨by kernel_rfl⟩
  have HUS := Aside0.mk Try.underlying28
  have HIR : Aside0 ((Try.prog.info? 27).map (·.size) = some 6) := ⟨by kernel_rfl⟩
  have HUR := Aside0.mk Try.underlying27
  have HU22 := Aside0.mk Try.underlying22
  have hnb : (er != er) = false := by simp
  clear hC hc hL hd hr hs hk he hs1 ho
  go_enter Try.func4, Try.ntmps4
  go_upto_region 3 with (first
    | (go_at_call 14; refine (hawserref01_Lend.calls A c l whole l _ HC.out HCC.out HH.out.1).mono ?_; rintro r w1 ⟨vw, vp, rfl, hw, hp, hB⟩; obtain ⟨Aw, cw, rfl⟩ := Kd.V_slice hw; obtain ⟨Ap, cp, rfl⟩ := Kd.V_slice hp; (have HW1 := Aside0.mk (Kd.V_reads' hw).2); (have HP1 := Aside0.mk (Kd.V_reads' hp).2); (have HB1 := Aside0.mk hB); clear hw hp hB)
    | (go_at_call 15; refine (master_Decode.calls k Ap cp l e ch a2 a3 a4 a5 er _ HP1.out.2 HP1.out.1 HH.out.2.1).mono ?_; rintro r w2 ⟨v5, rfl, h5, hB⟩; obtain ⟨A5, c5, rfl⟩ := Kd.R_slice h5; (have R5 := Aside0.mk h5); (have HB2 := Aside0.mk hB); clear h5 hB)
    | ((with_reducible refine wpList_store_row rfl 28 (.tmp 5) (.tmp 22) rfl w2.heap.size #[.int .i64 e, .slice A5 ch.length c5, .int .i64 a2, .int .i64 a3, .int .i64 a4, .int .i64 a5] ?d1 ?d2 28 zero6 ?c1 ?c2 ?c3 ?c4 ?_); (case d1 => rfl); (case d2 => rfl); (case c1 => exact blk_new w2 _); (case c2 => exact HIS.out); (case c3 => rfl); (case c4 => kernel_rfl))
    | fail)
  have K5 := Aside0.mk (setRow_heap (w2.alloc (.cells zero6 28)) w2.heap.size zero6 #[.int .i64 e, .slice A5 ch.length c5, .int .i64 a2, .int .i64 a3, .int .i64 a4, .int .i64 a5] 28 (0, 0) (blk_new w2 _))
  have HBy5 := Aside0.mk (below_setRow (below_alloc (Below.refl w2.heap.size w2) (.cells zero6 28)) (Nat.le_refl _) #[.int .i64 e, .slice A5 ch.length c5, .int .i64 a2, .int .i64 a3, .int .i64 a4, .int .i64 a5])
  have HY2 := Aside0.mk (below_weak (HB2.out.trans (below_weak HBy5.out HB2.out.size)) HB1.out.size)
  have R5y := Aside0.mk (R_below R5.out HBy5.out)
  have HP2 := Aside0.mk (And.intro HP1.out.1 (Kd.C_below (Kd.C_below HP1.out.2 HB2.out) HBy5.out))
  have HW2 := Aside0.mk (And.intro HW1.out.1 (Kd.C_below (Kd.C_below HW1.out.2 HB2.out) HBy5.out))
  have HBW := Aside0.mk (HB1.out.trans HY2.out)
  have HZ5 := Aside0.mk (show W.heap.size ≤ w2.heap.size from Nat.le_trans HB1.out.size HB2.out.size)
  have HL5 := Aside0.mk (show w2.heap.size < ((w2.alloc (.cells zero6 28)).setRow w2.heap.size #[.int .i64 e, .slice A5 ch.length c5, .int .i64 a2, .int .i64 a3, .int .i64 a4, .int .i64 a5]).heap.size from blk_lt K5.out)
  have HO5 := Aside0.mk (show ∀ g, (Value.slice A5 ch.length c5).ownBlock = some g → w1.heap.size ≤ g ∧ g < w2.heap.size from fun g hg => World.ownsRow.lt (Kd.own_of_R R5.out) g hg)
  clear HW1 HP1 R5 HBy5 HB2 HY2
  unfold zero6 at K5 R5y HP2 HW2 HBW HL5
  generalize (w2.alloc _).setRow w2.heap.size #[.int .i64 e, .slice A5 ch.length c5, .int .i64 a2, .int .i64 a3, .int .i64 a4, .int .i64 a5] = y2 at K5 R5y HP2 HW2 HBW HL5 ⊢
  generalize w2.heap.size = g5 at K5 HZ5 HL5 HO5 ⊢
  go_upto_region 4 with (first
    | (go_at_call 15; refine (master_Decode.calls k Ap cp l e ch a2 a3 a4 a5 er _ HP2.out.2 HP2.out.1 HH.out.2.1).mono ?_; rintro r w3 ⟨v7, rfl, h7, hB⟩; obtain ⟨A7, c7, rfl⟩ := Kd.R_slice h7; (have R7 := Aside0.mk h7); (have HB3 := Aside0.mk hB); clear h7 hB)
    | ((with_reducible refine wpList_store_row rfl 28 (.tmp 7) (.tmp 27) rfl w3.heap.size #[.int .i64 e, .slice A7 ch.length c7, .int .i64 a2, .int .i64 a3, .int .i64 a4, .int .i64 a5] ?d1 ?d2 28 zero6 ?c1 ?c2 ?c3 ?c4 ?_); (case d1 => rfl); (case d2 => rfl); (case c1 => exact blk_new w3 _); (case c2 => exact HIS.out); (case c3 => rfl); (case c4 => kernel_rfl))
    | fail)
  have K7 := Aside0.mk (setRow_heap (w3.alloc (.cells zero6 28)) w3.heap.size zero6 #[.int .i64 e, .slice A7 ch.length c7, .int .i64 a2, .int .i64 a3, .int .i64 a4, .int .i64 a5] 28 (0, 0) (blk_new w3 _))
  have HBy7 := Aside0.mk (below_setRow (below_alloc (Below.refl w3.heap.size w3) (.cells zero6 28)) (Nat.le_refl _) #[.int .i64 e, .slice A7 ch.length c7, .int .i64 a2, .int .i64 a3, .int .i64 a4, .int .i64 a5])
  have HY3 := Aside0.mk (HB3.out.trans (below_weak HBy7.out HB3.out.size))
  have K53 := Aside0.mk (blk_below K5.out HY3.out)
  have R5z := Aside0.mk (R_below R5y.out HY3.out)
  have R7z := Aside0.mk (R_below R7.out HBy7.out)
  have HW3 := Aside0.mk (And.intro HW2.out.1 (Kd.C_below HW2.out.2 HY3.out))
  have HBW3 := Aside0.mk (HBW.out.trans (below_weak HY3.out HBW.out.size))
  have HN7 := Aside0.mk (show g5 < w3.heap.size from Nat.lt_of_lt_of_le HL5.out HB3.out.size)
  have HO7 := Aside0.mk (show ∀ g, (Value.slice A7 ch.length c7).ownBlock = some g → g5 < g from fun g hg => Nat.lt_of_lt_of_le HL5.out (World.ownsRow.lt (Kd.own_of_R R7.out) g hg).1)
  have HS3 := Aside0.mk (show g5 < ((w3.alloc (.cells zero6 28)).setRow w3.heap.size #[.int .i64 e, .slice A7 ch.length c7, .int .i64 a2, .int .i64 a3, .int .i64 a4, .int .i64 a5]).heap.size from Nat.lt_trans HN7.out (blk_lt K7.out))
  have HSY := Aside0.mk HBW.out.size
  clear HW2 HP2 K5 R5y R7 HBy7 HB3 HY3 HBW HL5
  unfold zero6 at K7 K53 R5z R7z HW3 HBW3 HS3
  generalize (w3.alloc _).setRow w3.heap.size #[.int .i64 e, .slice A7 ch.length c7, .int .i64 a2, .int .i64 a3, .int .i64 a4, .int .i64 a5] = y3 at K7 K53 R5z R7z HW3 HBW3 HS3 ⊢
  generalize w3.heap.size = g7 at K7 HN7 ⊢
  have HC3 := Aside0.mk (Kd.C_below HC.out HBW3.out)
  go_upto_region 5 with (first
    | (go_at_call 16; refine (hawserref21_Decode.calls k A c l e ch a2 a3 a4 a5 er _ HC3.out HCC.out HH.out.2.2.1).mono ?_; rintro r w4 ⟨v9, rfl, h9, hB⟩; obtain ⟨A9, c9, rfl⟩ := Kd.R_slice h9; (have R9 := Aside0.mk h9); (have HB4 := Aside0.mk hB); clear h9 hB)
    | ((with_reducible refine wpList_store_row rfl 27 (.tmp 9) (.tmp 32) rfl w4.heap.size #[.int .i64 e, .slice A9 ch.length c9, .int .i64 a2, .int .i64 a3, .int .i64 a4, .int .i64 a5] ?d1 ?d2 27 zero6 ?c1 ?c2 ?c3 ?c4 ?_); (case d1 => rfl); (case d2 => rfl); (case c1 => exact blk_new w4 _); (case c2 => exact HIR.out); (case c3 => rfl); (case c4 => kernel_rfl))
    | fail)
  have K9 := Aside0.mk (setRow_heap (w4.alloc (.cells zero6 27)) w4.heap.size zero6 #[.int .i64 e, .slice A9 ch.length c9, .int .i64 a2, .int .i64 a3, .int .i64 a4, .int .i64 a5] 27 (0, 0) (blk_new w4 _))
  have HBy9 := Aside0.mk (below_setRow (below_alloc (Below.refl w4.heap.size w4) (.cells zero6 27)) (Nat.le_refl _) #[.int .i64 e, .slice A9 ch.length c9, .int .i64 a2, .int .i64 a3, .int .i64 a4, .int .i64 a5])
  have HY4 := Aside0.mk (HB4.out.trans (below_weak HBy9.out HB4.out.size))
  have HX4 := Aside0.mk (show Lx W _ g5 g7 w4.heap.size A5 A7 A9 c5 c7 c9 ch ch e a2 a3 a4 a5 from ⟨blk_below K53.out HY4.out, Kd.R_lower (R_below R5z.out HY4.out) HB1.out.size, blk_below K7.out HY4.out, Kd.R_lower (R_below R7z.out HY4.out) HSY.out, K9.out, Kd.R_lower (R_below R9.out HBy9.out) HBW3.out.size, fun g hg => ⟨fun h => by have h1 := HO5.out g hg; have h2 := HO7.out g h; omega, fun h => by have h1 := HO5.out g hg; have h2 := (World.ownsRow.lt (Kd.own_of_R R9.out) g h).1; have := HS3.out; omega⟩, ⟨by have := HN7.out; omega, HZ5.out⟩, HBW3.out.trans (below_weak HY4.out HBW3.out.size)⟩)
  have HW4 := Aside0.mk (And.intro HW3.out.1 (Kd.C_below HW3.out.2 HY4.out))
  clear K53 R5z K7 R7z K9 R9 HW3 HY4 HBW3 HO5 HO7 HN7 HZ5 HBy9 HB4 HC3 HS3
  unfold zero6 at HX4 HW4
  generalize (w4.alloc _).setRow w4.heap.size #[.int .i64 e, .slice A9 ch.length c9, .int .i64 a2, .int .i64 a3, .int .i64 a4, .int .i64 a5] = y4 at HX4 HW4 ⊢
  generalize w4.heap.size = g9 at HX4 ⊢
  clear HB1
  have q50y4 : y4.cell? ⟨g5, 0, none⟩ = some (.int .i64 e) := blk_cell HX4.out.b5 0
  have q51y4 : y4.cell? ⟨g5, 1, none⟩ = some (.slice A5 ch.length c5) := blk_cell HX4.out.b5 1
  have q52y4 : y4.cell? ⟨g5, 2, none⟩ = some (.int .i64 a2) := blk_cell HX4.out.b5 2
  have q53y4 : y4.cell? ⟨g5, 3, none⟩ = some (.int .i64 a3) := blk_cell HX4.out.b5 3
  have q54y4 : y4.cell? ⟨g5, 4, none⟩ = some (.int .i64 a4) := blk_cell HX4.out.b5 4
  have q55y4 : y4.cell? ⟨g5, 5, none⟩ = some (.int .i64 a5) := blk_cell HX4.out.b5 5
  have q90y4 : y4.cell? ⟨g9, 0, none⟩ = some (.int .i64 e) := blk_cell HX4.out.b9 0
  have q91y4 : y4.cell? ⟨g9, 1, none⟩ = some (.slice A9 ch.length c9) := blk_cell HX4.out.b9 1
  have q92y4 : y4.cell? ⟨g9, 2, none⟩ = some (.int .i64 a2) := blk_cell HX4.out.b9 2
  have q93y4 : y4.cell? ⟨g9, 3, none⟩ = some (.int .i64 a3) := blk_cell HX4.out.b9 3
  have q94y4 : y4.cell? ⟨g9, 4, none⟩ = some (.int .i64 a4) := blk_cell HX4.out.b9 4
  have q95y4 : y4.cell? ⟨g9, 5, none⟩ = some (.int .i64 a5) := blk_cell HX4.out.b9 5
  go_region_held3 (fun w' => w'.cell? ⟨g5, 0, none⟩ = some (.int .i64 e) ∧ w'.cell? ⟨g5, 1, none⟩ = some (.slice A5 ch.length c5) ∧ w'.cell? ⟨g5, 2, none⟩ = some (.int .i64 a2) ∧ w'.cell? ⟨g5, 3, none⟩ = some (.int .i64 a3) ∧ w'.cell? ⟨g5, 4, none⟩ = some (.int .i64 a4) ∧ w'.cell? ⟨g5, 5, none⟩ = some (.int .i64 a5) ∧ w'.cell? ⟨g9, 0, none⟩ = some (.int .i64 e) ∧ w'.cell? ⟨g9, 1, none⟩ = some (.slice A9 ch.length c9) ∧ w'.cell? ⟨g9, 2, none⟩ = some (.int .i64 a2) ∧ w'.cell? ⟨g9, 3, none⟩ = some (.int .i64 a3) ∧ w'.cell? ⟨g9, 4, none⟩ = some (.int .i64 a4) ∧ w'.cell? ⟨g9, 5, none⟩ = some (.int .i64 a5)) (go_keep) (first
    | (go_at_call 12; refine (hawserlaw21_plain.calls e (fun _ => True) A5 c5 ch a2 a3 a4 a5 e ch a2 a3 a4 a5 _ (Kd.R_V ((HX4.out.below (Drawn0.below ⟨1, rfl⟩)).r5)) rfl).mono ?_; rintro r u1 ⟨vp, rfl, hv, hB⟩; obtain ⟨Av, cv, rfl⟩ := Kd.V_slice hv; (have Xu1 := Aside0.mk (((HX4.out.below (Drawn0.below ⟨1, rfl⟩))).below hB)); (have HVu1 := Aside0.mk (Kd.V_reads' hv).2); (have HBpu1 := Aside0.mk hB); clear hv hB; (have q50u1 : u1.cell? ⟨g5, 0, none⟩ = some (.int .i64 e) := blk_cell Xu1.out.b5 0); (have q51u1 : u1.cell? ⟨g5, 1, none⟩ = some (.slice A5 ch.length c5) := blk_cell Xu1.out.b5 1); (have q52u1 : u1.cell? ⟨g5, 2, none⟩ = some (.int .i64 a2) := blk_cell Xu1.out.b5 2); (have q53u1 : u1.cell? ⟨g5, 3, none⟩ = some (.int .i64 a3) := blk_cell Xu1.out.b5 3); (have q54u1 : u1.cell? ⟨g5, 4, none⟩ = some (.int .i64 a4) := blk_cell Xu1.out.b5 4); (have q55u1 : u1.cell? ⟨g5, 5, none⟩ = some (.int .i64 a5) := blk_cell Xu1.out.b5 5); (have q90u1 : u1.cell? ⟨g9, 0, none⟩ = some (.int .i64 e) := blk_cell Xu1.out.b9 0); (have q91u1 : u1.cell? ⟨g9, 1, none⟩ = some (.slice A9 ch.length c9) := blk_cell Xu1.out.b9 1); (have q92u1 : u1.cell? ⟨g9, 2, none⟩ = some (.int .i64 a2) := blk_cell Xu1.out.b9 2); (have q93u1 : u1.cell? ⟨g9, 3, none⟩ = some (.int .i64 a3) := blk_cell Xu1.out.b9 3); (have q94u1 : u1.cell? ⟨g9, 4, none⟩ = some (.int .i64 a4) := blk_cell Xu1.out.b9 4); (have q95u1 : u1.cell? ⟨g9, 5, none⟩ = some (.int .i64 a5) := blk_cell Xu1.out.b9 5);  skip)
    | (go_at_call 11; refine (hawserref21_Same.calls k e Av cv ch a2 a3 a4 a5 e A9 c9 ch a2 a3 a4 a5 true _ HVu1.out.2 HVu1.out.1 (Kd.R_reads' Xu1.out.r9).2.2 (Kd.R_reads' Xu1.out.r9).2.1 HH.out.2.2.2.1).mono ?_; rintro r u2 ⟨rfl, hB⟩; (have Xu2 := Aside0.mk (Xu1.out.below hB)); (have HBsu2 := Aside0.mk hB); clear hB; (have q50u2 : u2.cell? ⟨g5, 0, none⟩ = some (.int .i64 e) := blk_cell Xu2.out.b5 0); (have q51u2 : u2.cell? ⟨g5, 1, none⟩ = some (.slice A5 ch.length c5) := blk_cell Xu2.out.b5 1); (have q52u2 : u2.cell? ⟨g5, 2, none⟩ = some (.int .i64 a2) := blk_cell Xu2.out.b5 2); (have q53u2 : u2.cell? ⟨g5, 3, none⟩ = some (.int .i64 a3) := blk_cell Xu2.out.b5 3); (have q54u2 : u2.cell? ⟨g5, 4, none⟩ = some (.int .i64 a4) := blk_cell Xu2.out.b5 4); (have q55u2 : u2.cell? ⟨g5, 5, none⟩ = some (.int .i64 a5) := blk_cell Xu2.out.b5 5); (have q90u2 : u2.cell? ⟨g9, 0, none⟩ = some (.int .i64 e) := blk_cell Xu2.out.b9 0); (have q91u2 : u2.cell? ⟨g9, 1, none⟩ = some (.slice A9 ch.length c9) := blk_cell Xu2.out.b9 1); (have q92u2 : u2.cell? ⟨g9, 2, none⟩ = some (.int .i64 a2) := blk_cell Xu2.out.b9 2); (have q93u2 : u2.cell? ⟨g9, 3, none⟩ = some (.int .i64 a3) := blk_cell Xu2.out.b9 3); (have q94u2 : u2.cell? ⟨g9, 4, none⟩ = some (.int .i64 a4) := blk_cell Xu2.out.b9 4); (have q95u2 : u2.cell? ⟨g9, 5, none⟩ = some (.int .i64 a5) := blk_cell Xu2.out.b9 5);  skip)
    | (go_at_call 17; refine (hawserref01_Kept.calls k Aw cw whole A c l true _ (Kd.C_below (Kd.C_below (Kd.C_below HW4.out.2 (Drawn0.below ⟨1, rfl⟩)) HBpu1.out) HBsu2.out) HW4.out.1 (Kd.C_below HC.out Xu2.out.bel) HCC.out HH.out.2.2.2.2.1).mono ?_; rintro r u3 ⟨rfl, hd⟩; (have Xu3 := Aside0.mk (Xu2.out.below (Drawn0.below hd))); clear hd; (have q50u3 : u3.cell? ⟨g5, 0, none⟩ = some (.int .i64 e) := blk_cell Xu3.out.b5 0); (have q51u3 : u3.cell? ⟨g5, 1, none⟩ = some (.slice A5 ch.length c5) := blk_cell Xu3.out.b5 1); (have q52u3 : u3.cell? ⟨g5, 2, none⟩ = some (.int .i64 a2) := blk_cell Xu3.out.b5 2); (have q53u3 : u3.cell? ⟨g5, 3, none⟩ = some (.int .i64 a3) := blk_cell Xu3.out.b5 3); (have q54u3 : u3.cell? ⟨g5, 4, none⟩ = some (.int .i64 a4) := blk_cell Xu3.out.b5 4); (have q55u3 : u3.cell? ⟨g5, 5, none⟩ = some (.int .i64 a5) := blk_cell Xu3.out.b5 5); (have q90u3 : u3.cell? ⟨g9, 0, none⟩ = some (.int .i64 e) := blk_cell Xu3.out.b9 0); (have q91u3 : u3.cell? ⟨g9, 1, none⟩ = some (.slice A9 ch.length c9) := blk_cell Xu3.out.b9 1); (have q92u3 : u3.cell? ⟨g9, 2, none⟩ = some (.int .i64 a2) := blk_cell Xu3.out.b9 2); (have q93u3 : u3.cell? ⟨g9, 3, none⟩ = some (.int .i64 a3) := blk_cell Xu3.out.b9 3); (have q94u3 : u3.cell? ⟨g9, 4, none⟩ = some (.int .i64 a4) := blk_cell Xu3.out.b9 4); (have q95u3 : u3.cell? ⟨g9, 5, none⟩ = some (.int .i64 a5) := blk_cell Xu3.out.b9 5);  skip)
    | fail)
  go_wp2
  clear HW4 HX4 Xu1 Xu2 HVu1 HBpu1 HBsu2
  have HLC := Aside0.mk hch
  go_loopw [54] (fun v wr => ∃ (j : Nat) (cur : List Int), v = .int .i64 j ∧ j ≤ ch.length ∧ Aside0 (cur.length = ch.length ∧ Lx W wr g5 g7 g9 A5 A7 A9 c5 c7 c9 cur ch e a2 a3 a4 a5)) (fun v _ => ch.length - (intOf v).toNat)
  case atStart => exact ⟨0, ch, rfl, by omega, ⟨rfl, Xu3.out⟩⟩
  case round =>
    obtain ⟨j, cur, rfl, hj, HP⟩ := hrel
    clear Xu3
    obtain ⟨hcl, hX⟩ := HP.out
    have HX := Aside0.mk hX
    clear HP hX
    have HCL := Aside0.mk hcl
    by_cases hlt : j < ch.length
    · obtain ⟨go, co, eo, _⟩ := Kd.R_form HX.out.r5 (by omega)
      injection eo with ea _ ec
      subst ea ec
      obtain ⟨hx, hf⟩ := Kd.R_celln 0 HX.out.r5 (j : Int) (by omega) (by omega)
      rw [Int.toNat_natCast] at hx hf
      have b1 := blk_cell HX.out.b5 1
      replace b1 : wr.cell? ⟨g5, 1, none⟩ = some (.slice (some ⟨go, 0, none⟩) cur.length c5) := b1
      have h1 : (j : Int) < (ch.length : Int) := by omega
      have h2 : (j : Int) < (cur.length : Int) := by omega
      have h3 : j < cur.length := by omega
      have hj0 : (0 : Int) ≤ (j : Int) := by omega
      have hcm : (ch.length : Int) ≤ 1048576 := by omega
      clear hcl
      go_wp2
      go_roundw
      case rel => exact ⟨j + 1, cur.set j 77, by push_cast; rfl, by omega, ⟨by rw [List.length_set]; exact HCL.out, HX.out.put j 77 h3⟩⟩
      case measure => simp [intOf]; omega
    · have hn : ¬ (j : Int) < (ch.length : Int) := by omega
      have b1 := blk_cell HX.out.b5 1
      replace b1 : wr.cell? ⟨g5, 1, none⟩ = some (.slice A5 cur.length c5) := b1
      have b2 := blk_frozen HX.out.b5 1
      obtain ⟨v7, w7, hrun, hg, A8, c8, hv7⟩ := run_appI (Kd.own_of_R HX.out.r5) 22 22 HU22.out (by omega) HX.out.bel.size
      subst hv7
      have HG := Aside0.mk hg
      have HRUN := Aside0.mk hrun
      clear hg hrun hcl hlt
      go_upto_region 13 with (first | (at_builtin; refine wp_append (t := 22) rfl (.tmp 65) (.tmp 66) rfl rfl rfl HRUN.out ?_; (have hy := HX.out.grow HG.out (.slice A8 (cur.length + 2) c8)); (have d1 := blk_cell hy.1 1); (have d2 := blk_frozen hy.1 1); (have HY := Aside0.mk hy.2); clear hy) | fail)
      clear b1 b2 d1 d2 HX HG HRUN
      generalize w7.setCell _ _ = y7 at HY ⊢
      have q70y7 : y7.cell? ⟨g7, 0, none⟩ = some (.int .i64 e) := blk_cell HY.out.b7 0
      have q71y7 : y7.cell? ⟨g7, 1, none⟩ = some (.slice A7 ch.length c7) := blk_cell HY.out.b7 1
      have q72y7 : y7.cell? ⟨g7, 2, none⟩ = some (.int .i64 a2) := blk_cell HY.out.b7 2
      have q73y7 : y7.cell? ⟨g7, 3, none⟩ = some (.int .i64 a3) := blk_cell HY.out.b7 3
      have q74y7 : y7.cell? ⟨g7, 4, none⟩ = some (.int .i64 a4) := blk_cell HY.out.b7 4
      have q75y7 : y7.cell? ⟨g7, 5, none⟩ = some (.int .i64 a5) := blk_cell HY.out.b7 5
      have q90y7 : y7.cell? ⟨g9, 0, none⟩ = some (.int .i64 e) := blk_cell HY.out.b9 0
      have q91y7 : y7.cell? ⟨g9, 1, none⟩ = some (.slice A9 ch.length c9) := blk_cell HY.out.b9 1
      have q92y7 : y7.cell? ⟨g9, 2, none⟩ = some (.int .i64 a2) := blk_cell HY.out.b9 2
      have q93y7 : y7.cell? ⟨g9, 3, none⟩ = some (.int .i64 a3) := blk_cell HY.out.b9 3
      have q94y7 : y7.cell? ⟨g9, 4, none⟩ = some (.int .i64 a4) := blk_cell HY.out.b9 4
      have q95y7 : y7.cell? ⟨g9, 5, none⟩ = some (.int .i64 a5) := blk_cell HY.out.b9 5
      go_region_held3 (fun w' => w'.cell? ⟨g7, 0, none⟩ = some (.int .i64 e) ∧ w'.cell? ⟨g7, 1, none⟩ = some (.slice A7 ch.length c7) ∧ w'.cell? ⟨g7, 2, none⟩ = some (.int .i64 a2) ∧ w'.cell? ⟨g7, 3, none⟩ = some (.int .i64 a3) ∧ w'.cell? ⟨g7, 4, none⟩ = some (.int .i64 a4) ∧ w'.cell? ⟨g7, 5, none⟩ = some (.int .i64 a5) ∧ w'.cell? ⟨g9, 0, none⟩ = some (.int .i64 e) ∧ w'.cell? ⟨g9, 1, none⟩ = some (.slice A9 ch.length c9) ∧ w'.cell? ⟨g9, 2, none⟩ = some (.int .i64 a2) ∧ w'.cell? ⟨g9, 3, none⟩ = some (.int .i64 a3) ∧ w'.cell? ⟨g9, 4, none⟩ = some (.int .i64 a4) ∧ w'.cell? ⟨g9, 5, none⟩ = some (.int .i64 a5)) (go_keep) (first
        | (go_at_call 12; refine (hawserlaw21_plain.calls e (fun _ => True) A7 c7 ch a2 a3 a4 a5 e ch a2 a3 a4 a5 _ (Kd.R_V (HY.out.below (Drawn0.below ⟨1, rfl⟩)).r7) rfl).mono ?_; rintro r z1 ⟨vp, rfl, hv, hB⟩; obtain ⟨Av, cv, rfl⟩ := Kd.V_slice hv; (have Xz1 := Aside0.mk ((HY.out.below (Drawn0.below ⟨1, rfl⟩)).below hB)); (have HVz1 := Aside0.mk (Kd.V_reads' hv).2); clear hv hB; (have q70z1 : z1.cell? ⟨g7, 0, none⟩ = some (.int .i64 e) := blk_cell Xz1.out.b7 0); (have q71z1 : z1.cell? ⟨g7, 1, none⟩ = some (.slice A7 ch.length c7) := blk_cell Xz1.out.b7 1); (have q72z1 : z1.cell? ⟨g7, 2, none⟩ = some (.int .i64 a2) := blk_cell Xz1.out.b7 2); (have q73z1 : z1.cell? ⟨g7, 3, none⟩ = some (.int .i64 a3) := blk_cell Xz1.out.b7 3); (have q74z1 : z1.cell? ⟨g7, 4, none⟩ = some (.int .i64 a4) := blk_cell Xz1.out.b7 4); (have q75z1 : z1.cell? ⟨g7, 5, none⟩ = some (.int .i64 a5) := blk_cell Xz1.out.b7 5); (have q90z1 : z1.cell? ⟨g9, 0, none⟩ = some (.int .i64 e) := blk_cell Xz1.out.b9 0); (have q91z1 : z1.cell? ⟨g9, 1, none⟩ = some (.slice A9 ch.length c9) := blk_cell Xz1.out.b9 1); (have q92z1 : z1.cell? ⟨g9, 2, none⟩ = some (.int .i64 a2) := blk_cell Xz1.out.b9 2); (have q93z1 : z1.cell? ⟨g9, 3, none⟩ = some (.int .i64 a3) := blk_cell Xz1.out.b9 3); (have q94z1 : z1.cell? ⟨g9, 4, none⟩ = some (.int .i64 a4) := blk_cell Xz1.out.b9 4); (have q95z1 : z1.cell? ⟨g9, 5, none⟩ = some (.int .i64 a5) := blk_cell Xz1.out.b9 5);  skip)
        | (go_at_call 11; refine (hawserref21_Same.calls k e Av cv ch a2 a3 a4 a5 e A9 c9 ch a2 a3 a4 a5 true _ HVz1.out.2 HVz1.out.1 (Kd.R_reads' Xz1.out.r9).2.2 (Kd.R_reads' Xz1.out.r9).2.1 HH.out.2.2.2.1).mono ?_; rintro r z2 ⟨rfl, hB⟩; (have Xz2 := Aside0.mk (Xz1.out.below hB)); clear hB; (have q70z2 : z2.cell? ⟨g7, 0, none⟩ = some (.int .i64 e) := blk_cell Xz2.out.b7 0); (have q71z2 : z2.cell? ⟨g7, 1, none⟩ = some (.slice A7 ch.length c7) := blk_cell Xz2.out.b7 1); (have q72z2 : z2.cell? ⟨g7, 2, none⟩ = some (.int .i64 a2) := blk_cell Xz2.out.b7 2); (have q73z2 : z2.cell? ⟨g7, 3, none⟩ = some (.int .i64 a3) := blk_cell Xz2.out.b7 3); (have q74z2 : z2.cell? ⟨g7, 4, none⟩ = some (.int .i64 a4) := blk_cell Xz2.out.b7 4); (have q75z2 : z2.cell? ⟨g7, 5, none⟩ = some (.int .i64 a5) := blk_cell Xz2.out.b7 5); (have q90z2 : z2.cell? ⟨g9, 0, none⟩ = some (.int .i64 e) := blk_cell Xz2.out.b9 0); (have q91z2 : z2.cell? ⟨g9, 1, none⟩ = some (.slice A9 ch.length c9) := blk_cell Xz2.out.b9 1); (have q92z2 : z2.cell? ⟨g9, 2, none⟩ = some (.int .i64 a2) := blk_cell Xz2.out.b9 2); (have q93z2 : z2.cell? ⟨g9, 3, none⟩ = some (.int .i64 a3) := blk_cell Xz2.out.b9 3); (have q94z2 : z2.cell? ⟨g9, 4, none⟩ = some (.int .i64 a4) := blk_cell Xz2.out.b9 4); (have q95z2 : z2.cell? ⟨g9, 5, none⟩ = some (.int .i64 a5) := blk_cell Xz2.out.b9 5);  skip)
        | fail)
      by_cases her : er = 0
      · have HE := Aside0.mk (HH.out.2.2.2.2.2.1 her)
        subst her
        go_wp2_with (first
          | ((with_reducible refine wpList_load_row rfl 28 (.tmp 7) rfl g7 ?_ 28 #[.int .i64 e, .slice A7 ch.length c7, .int .i64 a2, .int .i64 a3, .int .i64 a4, .int .i64 a5] (0, 0) _ Xz2.out.b7 HUS.out ?_ ?_ ?_); (· rfl); (· rfl); (· exact HIS.out))
          | (go_at_call 7; (with_reducible refine (master_Encode.calls e A7 c7 ch a2 a3 a4 a5 l 0 _ (Kd.R_reads' Xz2.out.r7).2.2 (Kd.R_reads' Xz2.out.r7).2.1 HE.out).mono ?_); rintro r z3 ⟨ve, rfl, hre, hB⟩; obtain ⟨Ae, cE, rfl⟩ := Kd.R_slice hre; (have HRE := Aside0.mk (Kd.R_reads' hre).2); (have Xz3 := Aside0.mk (Xz2.out.below hB)); clear hre hB)
          | (go_at_call 10; (with_reducible refine (hawserref01_Same.calls Ae cE l A c l true _ HRE.out.2 HRE.out.1 (Kd.C_below HC.out Xz3.out.bel) HCC.out HH.out.2.2.2.2.2.2.1).mono ?_); rintro r z4 ⟨rfl, hd⟩; (have Xf := Aside0.mk (Xz3.out.below (Drawn0.below hd))); clear hd)
          | (go_at_call 15; (with_reducible refine (dec8 k HH.out.2.2.2.2.2.2.2 _).mono ?_); rintro r z5 ⟨v6, rfl, h6, hB⟩; obtain ⟨A6, c6, rfl⟩ := Kd.R_slice h6; (have Xg := Aside0.mk ((Xf.out.below (below_alloc (Below.refl _ _) _)).below hB)); clear h6 hB)
          | ((with_reducible refine wpList_store_row rfl 28 (.tmp 5) (.tmp 93) rfl g5 #[.int .i64 1, .slice A6 1 c6, .int .i64 0, .int .i64 0, .int .i64 0, .int .i64 0] ?d1 ?d2 28 #[.int .i64 e, .slice A8 (cur.length + 2) c8, .int .i64 a2, .int .i64 a3, .int .i64 a4, .int .i64 a5] ?c1 ?c2 ?c3 ?c4 ?_); (case d1 => rfl); (case d2 => rfl); (case c1 => exact Xg.out.b5); (case c2 => exact HIS.out); (case c3 => rfl); (case c4 => kernel_rfl); (have s0 := cell_setRow_same z5 g5 0 _ #[.int .i64 1, .slice A6 1 c6, .int .i64 0, .int .i64 0, .int .i64 0, .int .i64 0] _ _ Xg.out.b5))
          | fail)
        go_ret
        exact ⟨rfl, below_setRow Xg.out.bel Xg.out.ge _⟩
      · have bz : (er == 0) = false := by simpa using her
        go_wp2_with (first
          | (go_at_call 15; (with_reducible refine (dec8 k HH.out.2.2.2.2.2.2.2 _).mono ?_); rintro r z5 ⟨v6, rfl, h6, hB⟩; obtain ⟨A6, c6, rfl⟩ := Kd.R_slice h6; (have Xg := Aside0.mk ((Xz2.out.below (below_alloc (Below.refl _ _) _)).below hB)); clear h6 hB)
          | ((with_reducible refine wpList_store_row rfl 28 (.tmp 5) (.tmp 93) rfl g5 #[.int .i64 1, .slice A6 1 c6, .int .i64 0, .int .i64 0, .int .i64 0, .int .i64 0] ?d1 ?d2 28 #[.int .i64 e, .slice A8 (cur.length + 2) c8, .int .i64 a2, .int .i64 a3, .int .i64 a4, .int .i64 a5] ?c1 ?c2 ?c3 ?c4 ?_); (case d1 => rfl); (case d2 => rfl); (case c1 => exact Xg.out.b5); (case c2 => exact HIS.out); (case c3 => rfl); (case c4 => kernel_rfl); (have s0 := cell_setRow_same z5 g5 0 _ #[.int .i64 1, .slice A6 1 c6, .int .i64 0, .int .i64 0, .int .i64 0, .int .i64 0] _ _ Xg.out.b5))
          | fail)
        go_ret
        exact ⟨rfl, below_setRow Xg.out.bel Xg.out.ge _⟩
end Rdr

theorem Rdr.ite_some {c : Prop} [Decidable c] {r : Bool} (h : (if c then some true else none) = some r) : c ∧ r = true := by
  by_cases hc : c
  · rw [if_pos hc] at h; exact ⟨hc, (Option.some.inj h).symm⟩
  · rw [if_neg hc] at h; cases h
def hawserlaw21_MasterReads.f (k : Nat) (l : List Int) : Option Bool := (hawserref01_Lend.f l).bind fun w => if w.2 = l then (master_Decode.f k l).bind fun r => (hawserref21_Decode.f k l).bind fun s => if s = r ∧ r.2.1.length ≤ 1048576 then (hawserref21_Same.f k r.1 r.2.1 r.2.2.1 r.2.2.2.1 r.2.2.2.2.1 r.2.2.2.2.2.1 r.1 r.2.1 r.2.2.1 r.2.2.2.1 r.2.2.2.2.1 r.2.2.2.2.2.1).bind fun b => (hawserref01_Kept.f k w.1 l).bind fun b2 => (master_Decode.f k [3, 1, 1, 2, 0, 0, 0, 0]).bind fun o =>
    if (b = true ∧ b2 = true) ∧ o = (1, [2], 0, 0, 0, 0, 0) ∧ (if r.2.2.2.2.2.2 = 0 then master_Encode.f r.1 r.2.1 r.2.2.1 r.2.2.2.1 r.2.2.2.2.1 r.2.2.2.2.2.1 else some (l, 0)) = some (l, 0) ∧ hawserref01_Same.f l l = some true then some true else none else none else none
theorem hawserlaw21_MasterReads.calls (k : Nat) (A0 : Option Addr) (c0 : Nat) (l0 : List Int) (r : Bool) (w : World) (hr0 : Kd.C (Kd.int .u8) w A0 l0.length l0) (hc0 : l0.length ≤ c0) (h : hawserlaw21_MasterReads.f k l0 = some r) :
    Calls Try.prog 4 #[.slice A0 l0.length c0] w fun e w' => e = .returned (.bool r) ∧ Below w.heap.size w w' := by
  unfold hawserlaw21_MasterReads.f at h
  obtain ⟨⟨wh, wp⟩, hL, h⟩ := Option.bind_eq_some_iff.1 h
  simp only at h
  split at h
  case isFalse => cases h
  rename_i hw
  subst hw
  obtain ⟨⟨e, ch, a2, a3, a4, a5, er⟩, hd, h⟩ := Option.bind_eq_some_iff.1 h
  obtain ⟨s, hs, h⟩ := Option.bind_eq_some_iff.1 h
  simp only at h
  split at h
  case isFalse => cases h
  rename_i hsr
  obtain ⟨hsr, hch⟩ := hsr
  subst hsr
  obtain ⟨b, hb, h⟩ := Option.bind_eq_some_iff.1 h
  obtain ⟨b2, hb2, h⟩ := Option.bind_eq_some_iff.1 h
  obtain ⟨o, ho, h⟩ := Option.bind_eq_some_iff.1 h
  obtain ⟨⟨⟨q1, q2⟩, q3, q4, q5⟩, q6⟩ := Rdr.ite_some h
  subst q6
  rw [q1] at hb
  rw [q2] at hb2
  rw [q3] at ho
  exact Rdr.law_calls hr0 hc0 k e ch a2 a3 a4 a5 er wh hL hd hs hch hb hb2 (fun hz => by rw [if_pos hz] at q4; exact q4) q5 ho

end Go.Proofs.Ytkkmceejfmjidaa.G
