import Derived.Test.YtidijiijciokpaaProg
import Derived.Test.YtidijiijciokpaaWWords
import Derived.Test.YtidijiijciokpaaWLast
import Derived.Test.YtidijiijciokpaaWTab
import Derived.Test.YtidijiijciokpaaWFour
import Derived.Test.YtidijiijciokpaaWQPut
import Derived.Test.YtidijiijciokpaaWApart
import Derived.Test.YtidijiijciokpaaWArr
import Derived.Test.YtidijiijciokpaaWZeros
import Derived.Test.YtidijiijciokpaaWFoot
import Derived.Test.YtidijiijciokpaaWKept
import Derived.Test.YtidijiijciokpaaWShare
import Derived.Test.YtidijiijciokpaaWN
import Derived.Test.YtidijiijciokpaaWNEv
import Derived.Test.YtidijiijciokpaaWMore
import Derived.Deep.Upon
import Derived.Deep.QuietTactic
import Derived.BigQuiet
import Derived.Deep.RegionHeld3
import Derived.Deep.DeepCutAuto
import Derived.Deep.CutBlock
import Derived.Laws.EntriesVeiled
import Derived.StillTailTactics
import Derived.Laws.Tables
import Derived.Laws.CopyOwn
import Derived.IntWalk
import Derived.Test.YtidijiijciokpaaBlocks
import Derived.Laws.CopyOwn
import Derived.Laws.Tables
import Derived.Outline
namespace Go.Proofs.Ytidijiijciokpaa.G
open Go.RowKit Go.Proofs.YtidijiijciokpaaW.PrintWords Go.Proofs.YtidijiijciokpaaW.PrintLast Go.Proofs.YtidijiijciokpaaW.PrintMore
set_option linter.unusedVariables false
set_option linter.unusedSimpArgs false
namespace Frm
open Go.Proofs.Ytidijiijciokpaa.Blocks
set_option maxRecDepth 100000
/-- What a register's low four bits leave. -/
def tbl : List Int := [0, 274646895, 549293790, 820201905, 1098587580, 1361435347, 1640403810, 1905808397, 2197175160, 2460548119, 2722870694, 2987750089, 3280807620, 3553878443, 3811616794, 4084100981]
theorem results_cell1 {P : Program} {fn : Func} {p : Tmp} {ty : TypeId} (h : fn.results = #[.cell p ty]) (tmps : Array Value) (w : World) (g : Nat) (t : TypeId) (cs : Array Value) (fr : Nat × Nat) (d : TypeDesc)
    (hp : tmps.getD p undef = .pointer (some ⟨g, 0, none⟩)) (hg : w.heap[g]? = some (.cells cs t fr))
    (hu : P.underlying ty = some d) (hd : (match d with | .struct _ | .array _ _ => true | _ => false) = true) (hi : (P.info? ty).map (·.size) = some cs.size) :
    (results fn tmps).run P w = .ok (.agg cs) w := by
  have hp' : tmps[p]?.getD undef = .pointer (some ⟨g, 0, none⟩) := by simpa using hp
  simp [results, h, hp', asAddr, run_loadVar_row w g t ty cs fr d hg hu hd hi]
theorem info_tbl : (Try.prog.info? 185).map (·.size) = some 16 := by kernel_rfl
theorem halves_calls (W : World) : Calls Try.prog 139 #[] W fun r w => r = .returned (.agg (nums .u32 tbl).toArray) ∧ Below W.heap.size W w := by
  have HB := Aside0.mk (below_alloc (Below.refl W.heap.size W) (.cells (nums .u32 tbl).toArray 185))
  have HN := Aside0.mk (blk_new W (.cells (nums .u32 tbl).toArray 185))
  have HU := Aside0.mk Try.underlying185
  go_enter Try.func139, Try.ntmps139
  go_wp2
  refine bodyPost_ret (results_cell1 (P := Try.prog) rfl _ _ W.heap.size 185 (nums .u32 tbl).toArray (0, 0) _ rfl HN.out HU.out rfl info_tbl) rfl ?_
  exact ⟨rfl, HB.out⟩
theorem bits_lt (op : BinOp) (x y : Int) : 0 ≤ Go.bits op .u32 x y ∧ Go.bits op .u32 x y < 4294967296 := by
  unfold Go.bits
  rw [IntKind.wrap_u32]
  omega
theorem and15 (x : Int) (h0 : 0 ≤ x) (h1 : x < 4294967296) : Go.bits .and .u32 x 15 = x % 16 := by
  have := bits_mask .u32 32 (by decide) (fun n a b => by rw [IntKind.wrap_u32]; omega) 4 (by decide) x h0 h1
  simpa using this
def tb (i : Int) : Int := tbl.getD i.toNat 0
/-- A register's low four bits gone through. -/
def nib (x : Int) : Int := Go.bits .xor .u32 (x / 16) (tb (x % 16))
def stp (r b : Int) : Int := nib (nib (Go.bits .xor .u32 r (b % 4294967296)))
/-- Bytes gone through. -/
def runv : Int → List Int → Int
  | r, [] => r
  | r, b :: l => runv (stp r b) l
theorem nib_lt (x : Int) : 0 ≤ nib x ∧ nib x < 4294967296 := bits_lt _ _ _
theorem runv_lt : ∀ (l : List Int) (r : Int), 0 ≤ r → r < 4294967296 → 0 ≤ runv r l ∧ runv r l < 4294967296
  | [], r, h0, h1 => ⟨h0, h1⟩
  | b :: l, r, _, _ => runv_lt l _ (nib_lt _).1 (nib_lt _).2
theorem tbl_cell {w : World} {bt : Nat} (h : w.heap[bt]? = some (.cells (nums .u32 tbl).toArray 185 (0, 0))) (i : Int) (h0 : 0 ≤ i) (h1 : i < 16) : w.cell? ⟨bt, i.toNat, none⟩ = some (.int .u32 (tb i)) := by
  rw [blk_cell h]
  unfold tb
  have h2 : i.toNat < tbl.length := by show i.toNat < 16; omega
  simp [nums, List.getElem?_eq_getElem h2, List.getD_eq_getElem?_getD]
def zero16u : Array Value := #[.int .u32 0, .int .u32 0, .int .u32 0, .int .u32 0, .int .u32 0, .int .u32 0, .int .u32 0, .int .u32 0, .int .u32 0, .int .u32 0, .int .u32 0, .int .u32 0, .int .u32 0, .int .u32 0, .int .u32 0, .int .u32 0]
set_option maxHeartbeats 1000000 in
theorem run_calls (W : World) (r : Int) (A : Option Addr) (c : Nat) (l : List Int) (h0 : 0 ≤ r) (h1 : r < 4294967296) (hC : Kd.C (Kd.int .u8) W A l.length l) (hl : l.length ≤ 1099511627776) :
    Calls Try.prog 132 #[.int .u32 r, .slice A l.length c] W fun e w => e = .returned (.int .u32 (runv r l)) ∧ Below W.heap.size W w := by
  have HC := Aside0.mk hC
  have HL := Aside0.mk hl
  clear hC hl
  go_enter Try.func132, Try.ntmps132
  go_upto_region 2 with (first
    | (go_at_call 139; refine (halves_calls _).mono ?_; rintro r w1 ⟨rfl, hb⟩)
    | ((with_reducible refine wpList_store_row rfl 185 (.tmp 5) (.tmp 8) rfl w1.heap.size (nums .u32 tbl).toArray ?d1 ?d2 185 zero16u ?c1 ?c2 ?c3 ?c4 ?_); (case d1 => rfl); (case d2 => rfl); (case c1 => exact blk_new w1 _); (case c2 => exact info_tbl); (case c3 => rfl); (case c4 => kernel_rfl))
    | fail)
  have HT := Aside0.mk (setRow_heap (w1.alloc (.cells zero16u 185)) w1.heap.size zero16u (nums .u32 tbl).toArray 185 (0, 0) (blk_new w1 _))
  have HB := Aside0.mk (below_setRow (below_alloc hb (.cells zero16u 185)) hb.size (nums .u32 tbl).toArray)
  clear hb
  unfold zero16u at HT HB
  generalize (w1.alloc _).setRow w1.heap.size (nums .u32 tbl).toArray = w2 at HT HB ⊢
  generalize w1.heap.size = bt at HT ⊢
  go_wp2
  go_loopw [11, 0] (fun v u wr => ∃ (k : Nat) (x : Int), k ≤ l.length ∧ v = .int .i64 k ∧ u = .int .u32 x ∧ Aside0 (runv r l = runv x (l.drop k)) ∧ Aside0 (0 ≤ x ∧ x < 4294967296) ∧ wr = w2) (fun v _ _ => l.length - (intOf v).toNat)
  case atStart => exact ⟨0, r, by omega, rfl, rfl, ⟨rfl⟩, ⟨h0, h1⟩, rfl⟩
  case round =>
    obtain ⟨k, x, hk, rfl, rfl, hp, hx, rfl⟩ := hrel
    by_cases hlt : k < l.length
    · have HK := Aside0.mk (show k + 1 ≤ l.length from hlt)
      have HW : Aside0 (wrap64 ((k : Int) + 1) = ((k + 1 : Nat) : Int)) := ⟨by have := HL.out; unfold wrap64; omega⟩
      obtain ⟨n, hn'⟩ : ∃ n, n = rd l k := ⟨_, rfl⟩
      obtain ⟨ad, ee, hcell⟩ := Kd.at_int (Kd.C_below HC.out HB.out) (k : Int) (by omega) (by omega)
      rw [← hn', Int.toNat_natCast] at hcell
      cases ee
      have hq_ : l[k] = n := by
        rw [hn']
        simp [rd, List.getD_eq_getElem?_getD, List.getElem?_eq_getElem hlt]
      have HD := Aside0.mk (List.drop_eq_getElem_cons hlt)
      rw [hq_] at HD
      clear hn' hq_
      obtain ⟨x1, e1⟩ : ∃ y, Go.bits .xor .u32 x (n % 4294967296) = y := ⟨_, rfl⟩
      have p1 := bits_lt .xor x (n % 4294967296)
      rw [e1] at p1
      have a1 := and15 x1 p1.1 p1.2
      have t1 := tbl_cell HT.out (x1 % 16) (by omega) (by omega)
      have i0 : 0 ≤ x1 % 16 := by omega
      have i1 : x1 % 16 < 16 := by omega
      obtain ⟨x2, e2⟩ : ∃ y, Go.bits .xor .u32 (x1 / 16) (tb (x1 % 16)) = y := ⟨_, rfl⟩
      have p2 := bits_lt .xor (x1 / 16) (tb (x1 % 16))
      rw [e2] at p2
      have a2 := and15 x2 p2.1 p2.2
      have t2 := tbl_cell HT.out (x2 % 16) (by omega) (by omega)
      have j0 : 0 ≤ x2 % 16 := by omega
      have j1 : x2 % 16 < 16 := by omega
      obtain ⟨x3, e3⟩ : ∃ y, Go.bits .xor .u32 (x2 / 16) (tb (x2 % 16)) = y := ⟨_, rfl⟩
      have p3 := Aside0.mk (bits_lt .xor (x2 / 16) (tb (x2 % 16)))
      rw [e3] at p3
      have HS : Aside0 (stp x n = x3) := ⟨by unfold stp; rw [e1]; unfold nib; rw [e2, e3]⟩
      go_wp2
      go_roundw
      case rel =>
        exact ⟨k + 1, x3, HK.out, by rw [HW.out], rfl, ⟨by rw [hp.out, HD.out, runv, HS.out]⟩, p3, trivial⟩
      case measure => (try rw [HW.out]); (try simp [intOf]); (try (have := HK.out; omega))
    · have hkk : k = l.length := by omega
      subst hkk
      have HN : Aside0 (runv r l = x) := ⟨by rw [hp.out, List.drop_length, runv]⟩
      clear hp
      go_wp2
      go_ret
      exact ⟨by rw [HN.out]; rfl, HB.out⟩
end Frm

namespace Frm
open Go.Proofs.Ytidijiijciokpaa.Blocks
set_option maxRecDepth 100000
theorem nums_app (k : IntKind) (a b : List Int) : nums k (a ++ b) = nums k a ++ nums k b := by simp [nums]
theorem own_slice {W : World} {base : Nat} {u : Value} {n : Nat} {z : List Value} (h : W.ownsRow base 5 1 u n z) : ∃ A c, u = .slice A n c ∧ n ≤ c := by
  rcases h.2 with ⟨rfl, h0⟩ | ⟨g, cap, cur, rfl, _, _, hc, _⟩
  · exact ⟨none, 0, by rw [h0], by omega⟩
  · exact ⟨_, cap, rfl, hc⟩
theorem own_kept {W W' : World} {base m : Nat} {e : TypeId} {u : Value} {z : List Value} {row : Option Nat} (h : W.ownsRow base e 1 u m z) (hg : W.grownBy W' row) (hne : ∀ g, u.ownBlock = some g → row ≠ some g) : W'.ownsRow base e 1 u m z := by
  refine World.ownsRow.kept h hg ?_
  cases e : u.ownBlock with
  | none => exact .inl rfl
  | some g => exact .inr (fun h' => hne g e h'.symm)
theorem own_alloc {W : World} {base m : Nat} {e : TypeId} {u : Value} {z : List Value} (h : W.ownsRow base e 1 u m z) (o : Obj) : (W.alloc o).ownsRow base e 1 u m z := own_kept h (World.grownBy_alloc W o none) (fun _ _ e => by cases e)
theorem own_below {W W' : World} {base m : Nat} {e : TypeId} {u : Value} {z : List Value} (h : W.ownsRow base e 1 u m z) (hB : Below W.heap.size W W') : W'.ownsRow base e 1 u m z :=
  own_kept h (row := none) ⟨hB.os, hB.tape, hB.output, hB.size, fun k hk _ => hB.block k hk⟩ (fun _ _ e => by cases e)
theorem C_own {W : World} {base : Nat} {t : TypeId} {A : Option Addr} {c : Nat} {xs : List Int} (h : W.ownsRow base t 1 (.slice A xs.length c) xs.length (nums .u8 xs)) : Kd.C (Kd.int .u8) W A xs.length xs := (Kd.R_reads' (ok := fun _ => True) (Kd.R_of_own h (fun _ _ => trivial))).2.2
theorem info_u8 : (Try.prog.info? 5).map (fun i => (i.zero, i.size, i.bytes)) = some (some (.int .u8 0), 1, 1) := by kernel_rfl
/-- An append upon a row of one's own, out of any bytes that are read. -/
theorem run_app {W : World} {base : Nat} {u : Value} {xs ys : List Int} (ho : W.ownsRow base 5 1 u xs.length (nums .u8 xs)) {A : Option Addr} {c : Nat} (hC : Kd.C (Kd.int .u8) W A ys.length ys) (t ty : TypeId) (ht : Try.prog.underlying t = some (.slice 5))
    (hl : xs.length + ys.length ≤ 140737488355328) (hb : base ≤ W.heap.size) :
    ∃ v' w', (Builtin.append_ #[t, t] ty #[u, .slice A ys.length c]).run Try.prog W = .ok v' w' ∧ w'.ownsRow base 5 1 v' (xs ++ ys).length (nums .u8 (xs ++ ys)) ∧ W.grownBy w' u.ownBlock ∧ (v'.ownBlock = u.ownBlock ∨ v'.ownBlock = some W.heap.size) := by
  obtain ⟨i0, hi, hzz⟩ := Option.map_eq_some_iff.1 info_u8
  simp only [Prod.mk.injEq] at hzz
  obtain ⟨hz0, hz1, hz2⟩ := hzz
  by_cases hm : ys = []
  · subst hm
    obtain ⟨Au, cu, rfl, hcu⟩ := own_slice ho
    have hsrc : Src Try.prog i0.size t (.slice A 0 c) 0 [] W := by
      cases A with
      | none => exact Src.ofNil W ht c
      | some a => exact Src.ofSlice W ht a 0 c [] (by simp) (by simp) (by simp)
    refine ⟨_, _, run_append_nothing W t t ty 5 i0 ht hi _ _ _ hcu _ hsrc, ?_, ⟨rfl, rfl, rfl, Nat.le_refl _, fun k _ _ => rfl⟩, .inl rfl⟩
    rw [List.append_nil]
    exact ho
  · have hp : 0 < ys.length := List.length_pos_iff.2 hm
    obtain ⟨ad, rfl, hnews⟩ := cells_of_C hC hp
    obtain ⟨v', w', hrun, hown, hg, _, hat⟩ := run_append_own_at (P := Try.prog) W base t ty 5 i0 (.int .u8 0) 1 1 ht hi hz0 hz1 hz2 rfl (by decide) u xs.length (nums .u8 xs) ho ad ys.length c (nums .u8 ys) (by rw [nums_length, Nat.mul_one]) hnews (nums_one _ _) (by simp only [maxLen]; omega) (by omega) hb
    refine ⟨v', w', hrun, ?_, hg, hat⟩
    rw [List.length_append, nums_app]
    exact hown
theorem wp_app {W : World} {base : Nat} {ops : Array Oper} {rest : List Oper} {o : Oper} {a : Act} {Q : Exit → Act → World → Prop} (hgd : o.guard = none) (s z : Operand) (t : TypeId) (hop : o.op = .call { callee := .builtin .append, args := #[s, z], argTypes := #[t, t] }) (ht : Try.prog.underlying t = some (.slice 5))
    (u : Value) (xs ys : List Int) (A : Option Addr) (c : Nat) (hs : a.eval s = u) (hx : a.eval z = .slice A ys.length c) (ho : W.ownsRow base 5 1 u xs.length (nums .u8 xs)) (hC : Kd.C (Kd.int .u8) W A ys.length ys)
    (hl : xs.length + ys.length ≤ 140737488355328) (hb : base ≤ W.heap.size)
    (h : ∀ v1 w1, w1.ownsRow base 5 1 v1 (xs ++ ys).length (nums .u8 (xs ++ ys)) → W.grownBy w1 u.ownBlock → (v1.ownBlock = u.ownBlock ∨ v1.ownBlock = some W.heap.size) → wpList Try.prog ops Q rest (a.put o.dst v1) w1) :
    wpList Try.prog ops Q (o :: rest) a W := by
  obtain ⟨v1, w1, hrun, h1, h2, h3⟩ := run_app ho (c := c) hC t o.type ht hl hb
  refine wpList_plain hgd fun K hK' => ?_
  unfold Oper.wp
  simp [execOp, hop, resolve, invoke, builtin, hs, hx, hrun, Result.andThen]
  exact hK' _ _ (h v1 w1 h1 h2 h3)
theorem wp_make {W : World} {base : Nat} {ops : Array Oper} {rest : List Oper} {o : Oper} {a : Act} {Q : Exit → Act → World → Prop} (hgd : o.guard = none) (x y : Operand) (hop : o.op = .makeSlice 31 x y) (n : Nat) (hx : a.eval x = .int .i64 0) (hy : a.eval y = .int .i64 (n : Int)) (hn : n ≤ 1099511627776) (hb : base ≤ W.heap.size)
    (h : ∀ v1 w1, w1.ownsRow base 5 1 v1 0 [] → W.grownBy w1 none → wpList Try.prog ops Q rest (a.put o.dst v1) w1) :
    wpList Try.prog ops Q (o :: rest) a W := by
  obtain ⟨i0, hi, hzz⟩ := Option.map_eq_some_iff.1 info_u8
  simp only [Prod.mk.injEq] at hzz
  obtain ⟨hz0, hz1, hz2⟩ := hzz
  obtain ⟨w1, hrun, h1, h2⟩ := run_make_own (P := Try.prog) W base 31 5 i0 (.int .u8 0) 1 Try.underlying31 hi hz0 hz1 .i64 .i64 n (by rw [hz2]; omega) (by simp only [maxLen]; omega) hb
  refine wpList_plain hgd fun K hK' => ?_
  unfold Oper.wp
  simp [execOp, hop, hx, hy, hrun, Result.andThen]
  exact hK' _ _ (h _ w1 h1 h2)
theorem own_lower {W : World} {base base' n : Nat} {t : TypeId} {u : Value} {z : List Value} (h : W.ownsRow base t 1 u n z) (hb : base' ≤ base) : W.ownsRow base' t 1 u n z := by
  refine ⟨h.1, ?_⟩
  rcases h.2 with hn | ⟨g, cap, cur, e, hge, rest⟩
  · exact .inl hn
  · exact .inr ⟨g, cap, cur, e, Nat.le_trans hb hge, rest⟩
/-- A word's four bytes. -/
def word (x : Int) : List Int := [x % 256, x / 256 % 256, x / 65536 % 256, x / 16777216]
theorem below_grown {base : Nat} {W w1 w2 : World} {u : Value} {n : Nat} {t : TypeId} {z : List Value} (hB : Below base W w1) (hg : w1.grownBy w2 u.ownBlock) (ho : w1.ownsRow base t 1 u n z) (hb : base ≤ w1.heap.size) : Below base W w2 :=
  hB.grown hg hb (fun k hk => (World.ownsRow.lt ho k hk).1)
theorem laid_calls {W : World} {base : Nat} {v : Value} {xs : List Int} (ho : W.ownsRow base 5 1 v xs.length (nums .u8 xs)) (hb : base ≤ W.heap.size) (hl : xs.length ≤ 1099511627776) (x : Int) (h0 : 0 ≤ x) (h1 : x < 4294967296) :
    Calls Try.prog 117 #[v, .int .u32 x] W fun r w => ∃ v', r = .returned v' ∧ w.ownsRow base 5 1 v' (xs ++ word x).length (nums .u8 (xs ++ word x)) ∧ Below base W w := by
  obtain ⟨Ab, cb, rfl, _⟩ := own_slice ho
  have HO := Aside0.mk (own_alloc ho (.cells (nums .u8 (word x)).toArray 5))
  have HC := Aside0.mk (C_of_blk (k := .u8) (L := word x) (o := 0) (n := 4) (blk_new W (.cells (nums .u8 (word x)).toArray 5)) (by exact Nat.le_refl 4) (by exact (by decide : 4 ≤ 9223372036854775807)))
  have HB := Aside0.mk ((Below.refl base W).alloc hb (.cells (nums .u8 (word x)).toArray 5))
  clear ho
  go_enter Try.func117, Try.ntmps117
  go_wp2_with (first | ((with_reducible refine gate_builtin (b := .append) (xs := #[.tmp 5, .tmp 17]) rfl ?_); at_builtin; refine wp_app (base := base) rfl (.tmp 5) (.tmp 17) 31 rfl Try.underlying31 (.slice Ab xs.length cb) xs [x % 256, x / 256 % 256, x / 65536 % 256, x / 16777216] (some ⟨W.heap.size, 0, none⟩) 4 ?s_ ?x_ HO.out HC.out (by show xs.length + 4 ≤ _; omega) (by rw [World.size_alloc]; omega) ?_; (case s_ => go_simp); (case x_ => go_simp); intro v1 w1 h1_ h2_ h3_; obtain ⟨A1, c1, hv1, _⟩ := own_slice h1_; subst hv1; have h1 := Aside0.mk h1_; have h2 := Aside0.mk h2_; clear h1_ h2_ h3_) | go_in)

  go_ret
  exact ⟨_, rfl, by simpa [word] using h1.out, below_grown HB.out h2.out HO.out (by rw [World.size_alloc]; omega)⟩
/-- The sum of bytes. -/
def sumv (l : List Int) : Int := Go.bits .xor .u32 IntKind.u32.max (runv 4294967295 l)
theorem sumv_lt (l : List Int) : 0 ≤ sumv l ∧ sumv l < 4294967296 := by
  unfold sumv
  exact bits_lt _ _ _
theorem sum_calls (W : World) (g : Nat) (A : Option Addr) (c : Nat) (l : List Int) (hg : W.heap[g]? = some (.cells #[.slice A l.length c] 31 (0, 0))) (hC : Kd.C (Kd.int .u8) W A l.length l) (hl : l.length ≤ 1099511627776) :
    Calls Try.prog 118 #[.slice (some ⟨g, 0, none⟩) 1 1] W fun e w => e = .returned (.int .u32 (sumv l)) ∧ Below W.heap.size W w := by
  have g0 : W.cell? ⟨g, 0, none⟩ = some (.slice A l.length c) := blk_cell hg 0
  have HC := Aside0.mk hC
  have HL := Aside0.mk hl
  obtain ⟨r, hr⟩ : ∃ r, r = runv 4294967295 l := ⟨_, rfl⟩
  have HR := Aside0.mk hr
  have hp := runv_lt l 4294967295 (by decide) (by decide)
  rw [← hr] at hp
  have HP := Aside0.mk hp
  clear hg hC hl hr hp
  go_enter Try.func118, Try.ntmps118
  go_wp2
  refine wp_loop_rounds 2 ?_
  rw [rounds_succ]
  go_wp2_with (first | (go_at_call 132; refine (run_calls _ _ _ _ _ (by decide) (by decide) HC.out HL.out).mono ?_; rintro e w1 ⟨rfl, hb⟩; rw [← HR.out]; (have HB := Aside0.mk hb); clear hb) | go_in)
  try rw [rounds_succ]
  go_wp2
  go_ret
  exact ⟨by unfold sumv; rw [← HR.out]; rfl, HB.out⟩
end Frm

namespace Frm
open Go.Proofs.Ytidijiijciokpaa.Blocks
set_option maxRecDepth 100000
def fhead (ty n : Int) : List Int := [72, 87, ty % 256, n % 256, n / 256 % 256, n / 65536 % 256]
def fh1 (ty : Int) (body : List Int) : List Int := fhead ty body.length ++ word (sumv (fhead ty body.length))
def fh2 (ty : Int) (body : List Int) : List Int := fh1 ty body ++ body
/-- A frame's bytes. -/
def fenc (ty : Int) (body : List Int) : List Int := fh2 ty body ++ word (sumv (fh2 ty body))
theorem fh1_len (ty : Int) (body : List Int) : (fh1 ty body).length = 10 := rfl
theorem fh2_len (ty : Int) (body : List Int) : (fh2 ty body).length = 10 + body.length := by rw [fh2, List.length_append, fh1_len]
theorem fenc_len (ty : Int) (body : List Int) : (fenc ty body).length = 14 + body.length := by
  rw [fenc, List.length_append, fh2_len]
  show 10 + body.length + 4 = _
  omega
/-- Where Encode stands: its argument's block, and the row that it makes. -/
structure En (W w : World) (ty : Int) (A : Option Addr) (c : Nat) (body : List Int) (v : Value) (xs : List Int) : Prop where
  box : w.heap[W.heap.size]? = some (.cells #[.int .i64 ty, .slice A body.length c] 151 (0, 0))
  bdy : Kd.C (Kd.int .u8) w A body.length body
  row : w.ownsRow (W.heap.size + 1) 5 1 v xs.length (nums .u8 xs)
  bel : Below (W.heap.size + 1) (W.alloc (.cells #[.int .i64 ty, .slice A body.length c] 151)) w
theorem En.ge {W w : World} {ty : Int} {A : Option Addr} {c : Nat} {body : List Int} {v : Value} {xs : List Int} (h : En W w ty A c body v xs) : W.heap.size + 1 ≤ w.heap.size := by
  have := h.bel.size
  rwa [World.size_alloc] at this
theorem En.of {W w w' : World} {ty : Int} {A : Option Addr} {c : Nat} {body : List Int} {v v' : Value} {xs xs' : List Int} (h : En W w ty A c body v xs) (h0 : Kd.C (Kd.int .u8) W A body.length body) (hB : Below (W.heap.size + 1) w w') (hr : w'.ownsRow (W.heap.size + 1) 5 1 v' xs'.length (nums .u8 xs')) : En W w' ty A c body v' xs' := by
  have hb := h.bel.trans hB
  have h1 : Below W.heap.size W w' := (below_alloc (Below.refl _ _) _).trans ⟨hb.os, hb.tape, hb.output, hb.size, fun k hk => hb.block k (by omega)⟩
  refine ⟨(hB.block _ (by omega)).trans h.box, Kd.C_below h0 h1, hr, hb⟩
theorem En.out {W w : World} {ty : Int} {A : Option Addr} {c : Nat} {body : List Int} {v : Value} {xs : List Int} (h : En W w ty A c body v xs) : Below W.heap.size W w :=
  (below_alloc (Below.refl _ _) _).trans ⟨h.bel.os, h.bel.tape, h.bel.output, h.bel.size, fun k hk => h.bel.block k (by omega)⟩
theorem En.new {W w : World} {ty : Int} {A : Option Addr} {c : Nat} {body : List Int} {v : Value} (h0 : Kd.C (Kd.int .u8) W A body.length body) (ho : w.ownsRow (W.heap.size + 1) 5 1 v 0 []) (hg : (W.alloc (.cells #[.int .i64 ty, .slice A body.length c] 151)).grownBy w none) : En W w ty A c body v [] := by
  have hB : Below (W.heap.size + 1) (W.alloc (.cells #[.int .i64 ty, .slice A body.length c] 151)) w := ⟨hg.os, hg.tape, hg.output, hg.size, fun k hk => hg.block k (by rw [World.size_alloc]; exact hk) (fun h => by cases h)⟩
  have h1 : Below W.heap.size W w := (below_alloc (Below.refl _ _) _).trans ⟨hB.os, hB.tape, hB.output, hB.size, fun k hk => hB.block k (by omega)⟩
  exact ⟨(hB.block _ (by omega)).trans (blk_new W _), Kd.C_below h0 h1, ho, hB⟩
theorem app_step {B : Nat} {w w' : World} {o : Obj} {u : Value} {n : Nat} {z : List Value} (hb : B ≤ w.heap.size) (ho : (w.alloc o).ownsRow B 5 1 u n z) (hg : (w.alloc o).grownBy w' u.ownBlock) : Below B w w' :=
  below_grown ((Below.refl B w).alloc hb o) hg ho (by rw [World.size_alloc]; omega)
theorem below_low {B B' : Nat} {a b : World} (h : Below B' a b) (hb : B ≤ B') : Below B a b := ⟨h.os, h.tape, h.output, h.size, fun k hk => h.block k (by omega)⟩
set_option maxHeartbeats 4000000 in
theorem enc_calls (W : World) (ty : Int) (A : Option Addr) (c : Nat) (body : List Int) (hC : Kd.C (Kd.int .u8) W A body.length body) (h1 : 1 ≤ ty) (h2 : ty ≤ 255) (hl : body.length ≤ 1048576) :
    Calls Try.prog 105 #[.agg #[.int .i64 ty, .slice A body.length c]] W fun r w => ∃ v, r = .returned (.tuple #[v, .int .i64 0]) ∧ w.ownsRow W.heap.size 5 1 v (fenc ty body).length (nums .u8 (fenc ty body)) ∧ Below W.heap.size W w := by
  have HC0 := Aside0.mk hC
  have HL := Aside0.mk hl
  have b1 : decide (ty < 1) = false := decide_eq_false (by omega)
  have b2 : decide (255 < ty) = false := decide_eq_false (by omega)
  have b3 : decide (1048576 < (body.length : Int)) = false := decide_eq_false (by omega)
  have b4 : wrap64 ((body.length : Int) + 14) = (body.length : Int) + 14 := by unfold wrap64; omega
  clear hC hl h1 h2
  go_enter Try.func105, Try.ntmps105
  go_upto_region 7 with ((with_reducible refine wp_make (base := W.heap.size + 1) rfl (.const (.int .i64 0)) (.tmp 20) rfl (body.length + 14) ?mx ?my ?mn ?mb ?_); (case mx => rfl); (case my => (show Value.int .i64 (wrap64 ((body.length : Int) + 14)) = _; rw [b4]; rfl)); (case mn => (have := HL.out; omega)); (case mb => (rw [World.size_alloc]; omega)); intro v1 w1 m1 m2; obtain ⟨A1, c1, hv1, _⟩ := own_slice m1; subst hv1; (have HE1 := Aside0.mk (En.new HC0.out m1 m2)); clear m1 m2)
  have x0 : w1.cell? ⟨W.heap.size, 0, none⟩ = some (.int .i64 ty) := blk_cell HE1.out.box 0
  have HCW := Aside0.mk (C_of_blk (k := .u8) (L := fhead ty body.length) (o := 0) (n := 6) (blk_new w1 (.cells (nums .u8 (fhead ty body.length)).toArray 5)) (by exact Nat.le_refl 6) (by exact (by decide : 6 ≤ 9223372036854775807)))
  have HO1 := Aside0.mk (own_alloc HE1.out.row (.cells (nums .u8 (fhead ty body.length)).toArray 5))
  go_upto_region 8 with ((with_reducible refine gate_builtin (b := .append) (xs := #[.tmp 22, .tmp 34]) rfl ?_); at_builtin; refine wp_app (base := W.heap.size + 1) rfl (.tmp 22) (.tmp 34) 31 rfl Try.underlying31 (.slice A1 0 c1) [] [72, 87, ty % 256, body.length % 256, body.length / 256 % 256, body.length / 65536 % 256] (some ⟨w1.heap.size, 0, none⟩) 6 ?s_ ?x_ HO1.out HCW.out (by show 0 + 6 ≤ _; omega) (by rw [World.size_alloc]; have := HE1.out.ge; omega) ?_; (case s_ => go_simp); (case x_ => go_simp); intro v2 w2 h1_ h2_ h3_; obtain ⟨A2, c2, hv2, _⟩ := own_slice h1_; subst hv2; (have HE2 := Aside0.mk (show En W w2 ty A c body (.slice A2 6 c2) (fhead ty body.length) from HE1.out.of HC0.out (app_step HE1.out.ge HO1.out h2_) h1_)); clear h1_ h2_ h3_)
  clear HO1 HCW HE1 x0
  have HL1 := Aside0.mk (Nat.le_trans HL.out (by decide : 1048576 ≤ 1099511627776))
  have HS1 := Aside0.mk (sumv_lt (fhead ty body.length))
  go_upto_region 9 with (first
    | (go_at_call 118; refine (sum_calls _ w2.heap.size A2 c2 (fhead ty body.length) (blk_new w2 _) (Kd.C_alloc (C_own HE2.out.row) _) (by show 6 ≤ _; decide)).mono ?_; rintro r w3 ⟨rfl, hb⟩; (have HR3 := Aside0.mk (own_below (own_alloc HE2.out.row (.cells #[.slice A2 6 c2] 31)) hb)); (have HB3 := Aside0.mk (((Below.refl (W.heap.size + 1) w2).alloc HE2.out.ge (.cells #[.slice A2 6 c2] 31)).trans (below_low hb (by have := HE2.out.ge; rw [World.size_alloc]; omega)))); clear hb)
    | (go_at_call 117; refine (laid_calls HR3.out (Nat.le_trans HE2.out.ge HB3.out.size) (by show 6 ≤ _; decide) (sumv (fhead ty body.length)) HS1.out.1 HS1.out.2).mono ?_; rintro r w4 ⟨v4, rfl, h1_, hb⟩; obtain ⟨A4, c4, hv4, _⟩ := own_slice h1_; (have hv4_ : v4 = .slice A4 10 c4 := hv4); clear hv4; subst hv4_; (have HE4 := Aside0.mk (show En W w4 ty A c body (.slice A4 10 c4) (fh1 ty body) from HE2.out.of HC0.out (HB3.out.trans hb) h1_)); clear h1_ hb)
    | fail)
  clear HR3 HB3 HE2 HS1
  have x1 : w4.cell? ⟨W.heap.size, 1, none⟩ = some (.slice A body.length c) := blk_cell HE4.out.box 1
  have HLA : Aside0 ((fh1 ty body).length + body.length ≤ 140737488355328) := ⟨by have := HL.out; rw [fh1_len]; omega⟩
  go_upto_region 10 with ((with_reducible refine gate_builtin (b := .append) (xs := #[.tmp 41, .tmp 43]) rfl ?_); at_builtin; refine wp_app (base := W.heap.size + 1) rfl (.tmp 41) (.tmp 43) 31 rfl Try.underlying31 (.slice A4 10 c4) (fh1 ty body) body A c ?s_ ?x_ HE4.out.row HE4.out.bdy HLA.out HE4.out.ge ?_; (case s_ => go_simp); (case x_ => go_simp); intro v5 w5 h1_ h2_ h3_; obtain ⟨A5, c5, hv5, _⟩ := own_slice h1_; (have hv5_ : v5 = .slice A5 (fh2 ty body).length c5 := hv5); clear hv5; subst hv5_; (have HE5 := Aside0.mk (show En W w5 ty A c body (.slice A5 (fh2 ty body).length c5) (fh2 ty body) from HE4.out.of HC0.out (below_grown (Below.refl _ _) h2_ HE4.out.row HE4.out.ge) h1_)); clear h1_ h2_ h3_)
  clear HE4 x1 HLA
  have HS2 := Aside0.mk (sumv_lt (fh2 ty body))
  have HL2 : Aside0 ((fh2 ty body).length ≤ 1099511627776) := ⟨by have := HL.out; rw [fh2_len]; omega⟩
  go_wp2_with (first
    | (go_at_call 118; refine (sum_calls _ w5.heap.size A5 c5 (fh2 ty body) (blk_new w5 _) (Kd.C_alloc (C_own HE5.out.row) _) HL2.out).mono ?_; rintro r w6 ⟨rfl, hb⟩; (have HR6 := Aside0.mk (own_below (own_alloc HE5.out.row (.cells #[.slice A5 (fh2 ty body).length c5] 31)) hb)); (have HB6 := Aside0.mk (((Below.refl (W.heap.size + 1) w5).alloc HE5.out.ge (.cells #[.slice A5 (fh2 ty body).length c5] 31)).trans (below_low hb (by have := HE5.out.ge; rw [World.size_alloc]; omega)))); clear hb)
    | (go_at_call 117; refine (laid_calls HR6.out (Nat.le_trans HE5.out.ge HB6.out.size) HL2.out (sumv (fh2 ty body)) HS2.out.1 HS2.out.2).mono ?_; rintro r w7 ⟨v7, rfl, h1_, hb⟩; (have HE7 := Aside0.mk (show En W w7 ty A c body v7 (fenc ty body) from HE5.out.of HC0.out (HB6.out.trans hb) h1_)); clear h1_ hb)
    | fail)
  go_ret2
  exact ⟨_, rfl, own_lower HE7.out.row (by omega), HE7.out.out⟩
end Frm

end Go.Proofs.Ytidijiijciokpaa.G
