import Derived.Test.YtbfcejbjljalmaaF14
import Derived.Maps.OwnOps
import Derived.WideMake
import Derived.Laws.IdiomRangeMap
import Derived.Maps.AppendAt
import Derived.Deep.RegionLaw
import Derived.ArgAppend
import Derived.RangeFuncNested
import Derived.RangeFuncBound
import Derived.RangeFuncCalls
import Derived.RangeFuncLeaves
import Derived.RangeFuncBox
import Derived.RangeFuncFrom
import Derived.OwnWalkIn
import Derived.TacticsInMore
import Derived.LoopNIn
import Derived.LoopIn
import Derived.Deep.Upon
import Derived.Deep.QuietTactic
import Derived.BigQuiet
import Derived.Deep.RegionHeld3
import Derived.Deep.DeepCutAuto
import Derived.Deep.CutBlock
import Derived.Laws.EntriesVeiled
import Derived.StillTailTactics
import Derived.Laws.Tables
import Derived.Laws.CopyOwn
import Derived.IntWalk
import Derived.Test.YtbfcejbjljalmaaBlocks
import Derived.Laws.CopyOwn
import Derived.Laws.Tables
import Derived.Outline
namespace Go.Proofs.Ytbfcejbjljalmaa.P
open Go.RowKit Go.Proofs.YtbfcejbjljalmaaW.PrintWords Go.Proofs.YtbfcejbjljalmaaW.PrintLast Go.Proofs.YtbfcejbjljalmaaW.PrintMore
set_option linter.unusedVariables false
set_option linter.unusedSimpArgs false
namespace Wl
open Go.Proofs.Ytbfcejbjljalmaa.Blocks Frm
set_option maxRecDepth 100000
theorem info_func : (Try.prog.info? 34).map (fun i => (i.zero, i.size, i.bytes)) = some (some .nilFunc, 1, 8) := by kernel_rfl
theorem info_bytes : (Try.prog.info? 29).map (fun i => (i.zero, i.size, i.bytes)) = some (some (.slice none 0 0), 1, 24) := by kernel_rfl
/-- One value behind a row of one's own. -/
theorem run_app1 {W : World} {base : Nat} {e t ty : TypeId} {z : Value} {bs : Nat} (hinfo : (Try.prog.info? e).map (fun i => (i.zero, i.size, i.bytes)) = some (some z, 1, bs)) (hz : z.cells.size = 1) (hb0 : 0 < bs) (hb1 : bs ≤ 64) (ht : Try.prog.underlying t = some (.slice e)) {u : Value} {rs : List Value} (ho : W.ownsRow base e 1 u rs.length rs) (a : Nat) (x : Value) (ha : W.heap[a]? = some (.cells #[x] e (0, 0))) (hx : x.oneCell' = true) (hl : rs.length ≤ 1000000) (hb : base ≤ W.heap.size) :
    ∃ v' w', (Builtin.append_ #[t, t] ty #[u, .slice (some ⟨a, 0, none⟩) 1 1]).run Try.prog W = .ok v' w' ∧ w'.ownsRow base e 1 v' (rs.length + 1) (rs ++ [x]) ∧ W.grownBy w' u.ownBlock := by
  obtain ⟨i0, hi, hzz⟩ := Option.map_eq_some_iff.1 hinfo
  simp only [Prod.mk.injEq] at hzz
  obtain ⟨hz0, hz1, hz2⟩ := hzz
  obtain ⟨v', w', hrun, hown, hg, _⟩ := run_append_own_at (P := Try.prog) W base t ty e i0 z 1 bs ht hi hz0 hz1 hz2 hz (by decide) u rs.length rs ho ⟨a, 0, none⟩ 1 1 [x] rfl (World.news_of_block (cs := #[x]) (t := e) (fr := (0, 0)) ha) (fun u hu => by obtain rfl := List.mem_singleton.1 hu; exact hx) (by simp only [maxLen]; omega) (Nat.le_trans (Nat.mul_le_mul (show rs.length + 1 ≤ 1000001 by omega) hb1) (by decide)) hb
  exact ⟨v', w', hrun, hown, hg⟩
theorem wp_app1 {W : World} {base : Nat} {ops : Array Oper} {rest : List Oper} {o : Oper} {a : Act} {Q : Exit → Act → World → Prop} (hgd : o.guard = none) (s z : Operand) (t : TypeId) (hop : o.op = .call { callee := .builtin .append, args := #[s, z], argTypes := #[t, t] }) {e : TypeId} {zv : Value} {bs : Nat} (hinfo : (Try.prog.info? e).map (fun i => (i.zero, i.size, i.bytes)) = some (some zv, 1, bs)) (hz : zv.cells.size = 1) (hb0 : 0 < bs) (hb1 : bs ≤ 64) (ht : Try.prog.underlying t = some (.slice e))
    (u : Value) (rs : List Value) (g : Nat) (x : Value) (hs : a.eval s = u) (hx : a.eval z = .slice (some ⟨g, 0, none⟩) 1 1) (ho : W.ownsRow base e 1 u rs.length rs) (ha : W.heap[g]? = some (.cells #[x] e (0, 0))) (hxc : x.oneCell' = true) (hl : rs.length ≤ 1000000) (hb : base ≤ W.heap.size)
    (h : ∀ v1 w1, w1.ownsRow base e 1 v1 (rs.length + 1) (rs ++ [x]) → W.grownBy w1 u.ownBlock → wpList Try.prog ops Q rest (a.put o.dst v1) w1) : wpList Try.prog ops Q (o :: rest) a W := by
  obtain ⟨v1, w1, hrun, h1, h2⟩ := run_app1 (ty := o.type) hinfo hz hb0 hb1 ht ho g x ha hxc hl hb
  refine wpList_plain hgd fun K hK' => ?_
  unfold Oper.wp
  simp [execOp, hop, resolve, invoke, builtin, hs, hx, hrun, Result.andThen]
  exact hK' _ _ (h v1 w1 h1 h2)
theorem state_calls {W : World} {dp lp : Nat} {nm : ByteArray} {th : Bool} {rv : Value} {las : Int} (hl : W.heap[lp]? = some (.cells (lcells dp nm th rv las) 63 (0, 0))) : Calls Try.prog 31 #[.pointer (some ⟨lp, 0, none⟩)] W fun e w => e = .returned (.int .i64 0) ∧ w = W := by
  have l0 : W.cell? ⟨lp, 0, none⟩ = some (.pointer (some ⟨dp, 0, none⟩)) := blk_cell hl 0
  have l6 : W.cell? ⟨lp, 6, none⟩ = some (.bool false) := blk_cell hl 6
  clear hl
  go_enter Try.func31, Try.ntmps31
  go_wp2
  go_ret
  exact ⟨rfl, rfl⟩
theorem obj_below {W w : World} {k : Nat} {o : Obj} (e : W.heap[k]? = some o) (hB : Below W.heap.size W w) : w.heap[k]? = some o := (hB.block k (Array.getElem?_eq_some_iff.1 e).1).trans e
theorem Fr.atz {dp mp k : Nat} {W w : World} {cs : Array Value} {t : TypeId} {z : Nat × Nat} (h : Fr dp mp W w) (hb : W.heap[k]? = some (.cells cs t z)) (h1 : k ≠ dp) (h2 : k ≠ mp) (ht : t ≠ 89) : w.heap[k]? = some (.cells cs t z) :=
  (h.blk k (Array.getElem?_eq_some_iff.1 hb).1 h1 h2 (fun cs' e => by rw [hb] at e; injection e with e; injection e with _ e; exact ht e)).trans hb
theorem C_z {W : World} {g : Nat} {xs : List Int} {z : Nat × Nat} {e : TypeId} (hb : W.heap[g]? = some (.cells (nums .u8 xs).toArray e z)) (hl : xs.length ≤ 9223372036854775807) : Kd.C (Kd.int .u8) W (some ⟨g, 0, none⟩) xs.length xs := by
  refine ⟨rfl, hl, fun _ => ⟨_, rfl, fun j p hj => ⟨[.int .u8 p], rfl, rfl, fun i u hu => ?_⟩⟩⟩
  have hi : i = 0 := by
    rcases i with _ | i
    · rfl
    · simp at hu
  subst hi
  have hu : Value.int .u8 p = u := by simpa using hu
  subst hu
  have : (⟨g, 0, none⟩ : Addr).add (j * (Kd.int .u8).sz + 0) = ⟨g, j, none⟩ := by
    rw [show j * (Kd.int .u8).sz + 0 = j from Nat.mul_one j]
    unfold Addr.add; split <;> simp_all
  rw [this]
  simp [World.cell?, hb, nums, hj]
/-- Where Append stands: the disk, the log, its box, its records, the record that was handed in. -/
structure Ap (W : World) (B R dp mp lp lb rb : Nat) (room used acts las : Int) (la sv rv : Value) (ss rs : List Value) (es : Array MapEntry) (n : Nat) (th : Bool) (xs : List Int) : Prop where
  ds : Ds W B dp mp room used acts la sv ss es n
  lg : W.heap[lp]? = some (.cells (lcells dp ⟨#[97]⟩ th rv las) 63 (0, 0))
  bx : W.heap[lb]? = some (.cells #[.pointer (some ⟨lp, 0, none⟩)] 26 (0, 0))
  rw : W.ownsRow R 29 1 rv rs.length rs
  rc : ∃ z, W.heap[rb]? = some (.cells (nums .u8 xs).toArray 5 z)
theorem Ap.below {W w : World} {B R dp mp lp lb rb : Nat} {room used acts las : Int} {la sv rv : Value} {ss rs : List Value} {es : Array MapEntry} {n : Nat} {th : Bool} {xs : List Int} (h : Ap W B R dp mp lp lb rb room used acts las la sv rv ss rs es n th xs) (hB : Below W.heap.size W w) : Ap w B R dp mp lp lb rb room used acts las la sv rv ss rs es n th xs :=
  ⟨h.ds.below hB, blk_below h.lg hB, blk_below h.bx hB, own_below h.rw hB, h.rc.imp fun _ e => obj_below e hB⟩
theorem Ds.ne {W : World} {B dp mp : Nat} {room used acts : Int} {la sv : Value} {ss : List Value} {es : Array MapEntry} {n : Nat} (h : Ds W B dp mp room used acts la sv ss es n) {k : Nat} {cs : Array Value} {t : TypeId} {z : Nat × Nat} (hb : W.heap[k]? = some (.cells cs t z)) (ht : t ≠ 54) : k ≠ dp ∧ k ≠ mp := by
  refine ⟨fun e => ?_, fun e => ?_⟩
  · subst e
    rw [h.dsk] at hb
    injection hb with hb
    injection hb with _ hb
    exact ht hb.symm
  · subst e
    rw [h.map] at hb
    cases hb
theorem Ap.fr {W w : World} {B R dp mp lp lb rb : Nat} {room used acts las : Int} {la sv rv : Value} {ss rs : List Value} {es : Array MapEntry} {n : Nat} {th : Bool} {xs : List Int} (h : Ap W B R dp mp lp lb rb room used acts las la sv rv ss rs es n th xs) (hf : Fr dp mp W w) {used' acts' : Int} {sv' : Value} {ss' : List Value} {es' : Array MapEntry} {n' : Nat} (hd : Ds w B dp mp room used' acts' la sv' ss' es' n') : Ap w B R dp mp lp lb rb room used' acts' las la sv' rv ss' rs es' n' th xs :=
  ⟨hd, hf.at h.lg (h.ds.ne h.lg (by decide)).1 (h.ds.ne h.lg (by decide)).2 (by decide), hf.at h.bx (h.ds.ne h.bx (by decide)).1 (h.ds.ne h.bx (by decide)).2 (by decide), hf.own h.rw (h.ds.apart h.rw (by decide)) (by decide), h.rc.imp fun _ e => hf.atz e (h.ds.ne e (by decide)).1 (h.ds.ne e (by decide)).2 (by decide)⟩
end Wl

end Go.Proofs.Ytbfcejbjljalmaa.P
