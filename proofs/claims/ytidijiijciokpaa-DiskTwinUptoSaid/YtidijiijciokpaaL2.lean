import Derived.Test.YtidijiijciokpaaK5
import Derived.Maps.OwnOps
import Derived.WideMake
import Derived.Laws.IdiomRangeMap
import Derived.Maps.AppendAt
import Derived.Deep.RegionLaw
import Derived.ArgAppend
import Derived.Maps.RangeRun
import Derived.Deep.Upon
import Derived.Deep.QuietTactic
import Derived.BigQuiet
import Derived.Deep.RegionHeld3
import Derived.Deep.DeepCutAuto
import Derived.Deep.CutBlock
import Derived.Laws.EntriesVeiled
import Derived.StillTailTactics
import Derived.Laws.Tables
import Derived.Laws.CopyOwn
import Derived.IntWalk
import Derived.Test.YtidijiijciokpaaBlocks
import Derived.Laws.CopyOwn
import Derived.Laws.Tables
import Derived.Outline
namespace Go.Proofs.Ytidijiijciokpaa.G
open Go.RowKit Go.Proofs.YtidijiijciokpaaW.PrintWords Go.Proofs.YtidijiijciokpaaW.PrintLast Go.Proofs.YtidijiijciokpaaW.PrintMore
set_option linter.unusedVariables false
set_option linter.unusedSimpArgs false
namespace Gd
open Go.Proofs.Ytidijiijciokpaa.Blocks Frm Go.Proofs.Ytidijiijciokpaa.E
set_option maxRecDepth 100000
/-! Names that a disk may know. -/
def St.nm : St → Prop
  | .created n => isNm n = true
  | .laid n _ => isNm n = true
  | .cut n _ => isNm n = true
  | .renamed a b => isNm a = true ∧ isNm b = true
  | .removed n => isNm n = true
def Nmf (f : Fs) : Prop := ∀ p ∈ f, isNm p.1 = true
theorem mem_put : ∀ {f : Fs} {s d : ByteArray} {p : ByteArray × ByteArray}, p ∈ put f s d → p = (s, d) ∨ p ∈ f
  | [], s, d, p, h => .inl (List.mem_singleton.1 h)
  | (t, e) :: r, s, d, p, h => by
    unfold put at h
    split at h
    · rcases List.mem_cons.1 h with h | h
      · exact .inl h
      · exact .inr (.tail _ h)
    · split at h
      · rcases List.mem_cons.1 h with h | h
        · exact .inl h
        · exact .inr h
      · rcases List.mem_cons.1 h with h | h
        · exact .inr (h ▸ .head _)
        · exact (mem_put h).imp id (.tail _)
theorem nm_put {f : Fs} {s d : ByteArray} (h : Nmf f) (hs : isNm s = true) : Nmf (put f s d) := fun p hp => by
  rcases mem_put hp with rfl | hp
  · exact hs
  · exact h p hp
theorem nm_del {f : Fs} {s : ByteArray} (h : Nmf f) : Nmf (del f s) := fun p hp => h p (List.mem_filter.1 hp).1
theorem nm_do {f : Fs} {s : St} (h : Nmf f) (hs : s.nm) (k : Nat) : Nmf (doSt f s k) := by
  cases s with
  | created n => exact nm_put h hs
  | laid n b => exact nm_put h hs
  | cut n c => exact nm_put h hs
  | removed n => exact nm_del h
  | renamed a b =>
    show Nmf (if a = b then f else del (put f b (dat f a)) a)
    split
    · exact h
    · exact nm_del (nm_put h hs.2)
theorem nm_remn : ∀ {ss : List St} {f : Fs} (k : Nat), Nmf f → (∀ s ∈ ss, s.nm) → Nmf (remn f ss k)
  | [], _, _, h, _ => h
  | s :: ss, f, k, h, hs => by
    unfold remn
    split
    · exact h
    · exact nm_remn _ (nm_do h (hs s (.head _)) _) fun t ht => hs t (.tail _ ht)
structure Ab.Nm (d : Ab) : Prop where
  lasts : Nmf d.lasts
  seen : Nmf d.seen
  steps : ∀ s ∈ d.steps, s.nm
theorem step_nm {d : Ab} {s : St} (h : d.Nm) (hs : s.nm) : (d.step s).1.Nm := by
  obtain ⟨_, e1, e2, e3, _⟩ := act_same d
  unfold Ab.step
  split
  · refine ⟨by show Nmf d.act.1.lasts; rw [e3]; exact h.lasts, nm_do h.seen hs _, ?_⟩
    show ∀ t ∈ (if 0 < s.count then d.steps ++ [s] else d.steps), t.nm
    split
    · intro t ht
      rcases List.mem_append.1 ht with ht | ht
      · exact h.steps t ht
      · obtain rfl := List.mem_singleton.1 ht
        exact hs
    · exact h.steps
  · exact ⟨by rw [e3]; exact h.lasts, by rw [e2]; exact h.seen, by rw [e1]; exact h.steps⟩
theorem rdy_nm {d : Ab} {l : List ByteArray} (h : rdy d l = 0) : ∀ n ∈ l, isNm n = true := by
  unfold rdy at h
  split at h
  · cases h
  · split at h
    · rename_i q
      exact fun n hn => List.all_eq_true.1 q n hn
    · cases h
theorem thr_nm {d : Ab} {a : ByteArray} {l : List ByteArray} (h : thr d a l = 0) : ∀ n ∈ a :: l, isNm n = true := by
  unfold thr at h
  split at h
  · rename_i q; exact absurd h q
  · rename_i q
    exact rdy_nm (Decidable.not_not.1 q)
theorem sync_nm {d : Ab} (h : d.Nm) : d.sync.1.Nm := by
  obtain ⟨_, e1, e2, e3, _⟩ := act_same d
  unfold Ab.sync
  split
  · exact h
  · split
    · exact ⟨by rw [e3]; exact h.lasts, by rw [e2]; exact h.seen, by rw [e1]; exact h.steps⟩
    · exact ⟨h.seen, by show Nmf d.act.1.seen; rw [e2]; exact h.seen, by intro s hs; cases hs⟩
theorem doAct_nm {d : Ab} (h : d.Nm) (kd : Int) (nm to_ dt : ByteArray) (sz : Int) : (d.doAct kd nm to_ dt sz).1.Nm := by
  unfold Ab.doAct
  split
  · unfold Ab.create
    split
    · exact h
    · rename_i q
      repeat' split
      · exact h
      · exact h
      · exact step_nm h (rdy_nm (Decidable.not_not.1 q) nm (.head _))
  · split
    · unfold Ab.append
      split
      · exact h
      · rename_i q
        split
        · exact h
        · exact step_nm h (thr_nm (Decidable.not_not.1 q) nm (.head _))
    · split
      · unfold Ab.cut
        split
        · exact h
        · rename_i q
          split
          · exact h
          · exact step_nm h (thr_nm (Decidable.not_not.1 q) nm (.head _))
      · split
        · unfold Ab.rename
          split
          · exact h
          · rename_i q
            split
            · exact h
            · exact step_nm h ⟨thr_nm (Decidable.not_not.1 q) nm (.head _), thr_nm (Decidable.not_not.1 q) to_ (.tail _ (.head _))⟩
        · split
          · unfold Ab.remove
            split
            · exact h
            · rename_i q
              exact step_nm h (thr_nm (Decidable.not_not.1 q) nm (.head _))
          · exact sync_nm h
theorem crash_nm {d : Ab} (h : d.Nm) (k : Int) : (d.crash k).Nm := by
  unfold Ab.crash
  split
  · exact h
  · exact ⟨nm_remn _ h.lasts h.steps, nm_remn _ h.lasts h.steps, by intro s hs; cases hs⟩
theorem fail_nm {d : Ab} (h : d.Nm) (k : Int) : (d.fail k).Nm := by
  unfold Ab.fail
  split
  · exact h
  · exact ⟨h.lasts, h.seen, h.steps⟩
theorem op_nm {d : Ab} (h : d.Nm) (o : S47) : (d.op o).Nm := by
  unfold Ab.op
  split
  · exact doAct_nm h _ _ _ _ _
  · split
    · exact fail_nm h _
    · split
      · exact crash_nm h _
      · split
        · exact ⟨h.lasts, h.seen, h.steps⟩
        · exact h
theorem play_nm : ∀ (l : List S47) {d : Ab}, d.Nm → (d.play l).Nm
  | [], _, h => h
  | o :: l, _, h => play_nm l (op_nm h o)
theorem wk_nm (room : Nat) : (wk room).Nm := ⟨fun p hp => (by cases hp), fun p hp => (by obtain rfl := List.mem_singleton.1 hp; exact nF_ok), fun s hs => by
  rcases List.mem_cons.1 hs with rfl | hs
  · exact nF_ok
  · obtain rfl := List.mem_singleton.1 hs
    exact nF_ok⟩
/-! A disk of a disk's files. -/
theorem put_last : ∀ {f : Fs} {s d : ByteArray}, (∀ p ∈ f, lt p.1 s) → put f s d = f ++ [(s, d)]
  | [], _, _, _ => rfl
  | (t, e) :: r, s, d, h => by
    have h1 : lt t s := h (t, e) (.head _)
    unfold put
    rw [if_neg (fun q => lt_ne h1 q.symm), if_neg (lt_asymm h1), put_last fun p hp => h p (.tail _ hp)]
    rfl
theorem newF_self {room : Nat} : ∀ (l pre : Fs), Srt (pre ++ l) → Nmf l → taken (pre ++ l) ≤ room → newF room pre l = (some (pre ++ l), 0)
  | [], pre, _, _, _ => by rw [List.append_nil]; rfl
  | (n, b) :: r, pre, h, hn, ht => by
    have hp : ∀ p ∈ pre, lt p.1 n := fun p hp => (List.pairwise_append.1 h).2.2 p hp (n, b) (.head _)
    have hg : get pre n = none := get_none_of fun p hq => lt_ne (hp p hq)
    have e : pre ++ (n, b) :: r = (pre ++ [(n, b)]) ++ r := by rw [List.append_assoc]; rfl
    have hx : taken (pre ++ (n, b) :: r) = taken pre + (n.size + b.size + taken r) := by
      rw [← taken_cons (n, b) r]
      simp [taken]
    unfold newF
    rw [if_neg (by rw [hn (n, b) (.head _)]; simp), if_neg (by rw [hg]; simp), if_neg (by omega), put_last hp, e]
    rw [e] at h ht
    exact newF_self r _ h (fun p hp => hn p (.tail _ hp)) ht
/-! Disks that differ in the number of acts alone. -/
def Ab.wa (d : Ab) (a : Nat) : Ab := { d with acts := a }
theorem act_wa (d : Ab) (a : Nat) : (d.wa a).act = (d.act.1.wa (a + 1), d.act.2) := by
  unfold Ab.act Ab.wa
  dsimp only
  repeat' split
  all_goals rfl
theorem wa_ite {c : Prop} [Decidable c] {x y x' y' : Ab × Int} (hx : ∃ b, x' = (x.1.wa b, x.2)) (hy : ∃ b, y' = (y.1.wa b, y.2)) : ∃ b, (if c then x' else y') = ((if c then x else y).1.wa b, (if c then x else y).2) := by
  split
  · exact hx
  · exact hy
theorem step_wa (d : Ab) (a : Nat) (s : St) : ∃ b, (d.wa a).step s = ((d.step s).1.wa b, (d.step s).2) := by
  unfold Ab.step
  rw [act_wa]
  exact wa_ite ⟨a + 1, rfl⟩ ⟨a + 1, rfl⟩
theorem sync_wa (d : Ab) (a : Nat) : ∃ b, (d.wa a).sync = (d.sync.1.wa b, d.sync.2) := by
  unfold Ab.sync
  rw [act_wa]
  exact wa_ite ⟨a, rfl⟩ (wa_ite ⟨a + 1, rfl⟩ ⟨a + 1, rfl⟩)
theorem doAct_wa (d : Ab) (a : Nat) (kd : Int) (nm to_ dt : ByteArray) (sz : Int) : ∃ b, (d.wa a).doAct kd nm to_ dt sz = ((d.doAct kd nm to_ dt sz).1.wa b, (d.doAct kd nm to_ dt sz).2) := by
  unfold Ab.doAct
  refine wa_ite ?_ (wa_ite ?_ (wa_ite ?_ (wa_ite ?_ (wa_ite ?_ (sync_wa d a)))))
  · unfold Ab.create
    exact wa_ite ⟨a, rfl⟩ (wa_ite ⟨a, rfl⟩ (wa_ite ⟨a, rfl⟩ (step_wa d a _)))
  · unfold Ab.append
    exact wa_ite ⟨a, rfl⟩ (wa_ite ⟨a, rfl⟩ (step_wa d a _))
  · unfold Ab.cut
    exact wa_ite ⟨a, rfl⟩ (wa_ite ⟨a, rfl⟩ (step_wa d a _))
  · unfold Ab.rename
    exact wa_ite ⟨a, rfl⟩ (wa_ite ⟨a, rfl⟩ (step_wa d a _))
  · unfold Ab.remove
    exact wa_ite ⟨a, rfl⟩ (step_wa d a _)
theorem op_bare (d : Ab) (o : S47) : d.op (bare o) = if 1 ≤ o.f0.f0 ∧ o.f0.f0 ≤ 6 then (d.doAct o.f0.f0 o.f0.f1 o.f0.f2 o.f0.f3 o.f0.f4).1 else d := rfl
theorem op_wa (d : Ab) (a : Nat) (o : S47) : ∃ b, (d.wa a).op (bare o) = (d.op (bare o)).wa b := by
  rw [op_bare, op_bare]
  split
  · obtain ⟨b, h⟩ := doAct_wa d a o.f0.f0 o.f0.f1 o.f0.f2 o.f0.f3 o.f0.f4
    exact ⟨b, congrArg Prod.fst h⟩
  · exact ⟨a, rfl⟩
theorem play_wa : ∀ (l : List S47) (d : Ab) (a : Nat), ∃ b, (d.wa a).play (l.map bare) = (d.play (l.map bare)).wa b
  | [], _, a => ⟨a, rfl⟩
  | o :: l, d, a => by
    obtain ⟨b, h⟩ := op_wa d a o
    obtain ⟨c, h2⟩ := play_wa l (d.op (bare o)) b
    exact ⟨c, by show ((d.wa a).op (bare o)).play (l.map bare) = _; rw [h]; exact h2⟩
theorem wts_bare (l : List S47) : wts (l.map bare) = wts l := by
  unfold wts
  rw [List.map_map]
  rfl
end Gd

namespace Gd
open Go.Proofs.Ytidijiijciokpaa.Blocks Frm Go.Proofs.Ytidijiijciokpaa.E
set_option maxRecDepth 100000
section
variable {W0 w w' : World} {S S' T T' : Nat → Prop} {dp tp : Nat} {d d' t t' : Ab} {A : Option Addr} {fs : Fs} {rows : List (Option Addr × Fs)}
/-- Two disks apart, and rows of files that were told. -/
structure Tq (W0 w : World) (S T : Nat → Prop) (dp tp : Nat) (d t : Ab) (rows : List (Option Addr × Fs)) : Prop where
  dk : Dk w S dp d
  tk : Dk w T tp t
  apart : ∀ k, S k → ¬ T k
  ge : ∀ k, S k ∨ T k → W0.heap.size ≤ k
  bel : Below W0.heap.size W0 w
  rows : ∀ A fs, (A, fs) ∈ rows → Lv w (fun k => S k ∨ T k) A fs
theorem Tq.mutD (h : Tq W0 w S T dp tp d t rows) (h2 : Dk w' S' dp d') (x : Ext S w w' S') : Tq W0 w' S' T dp tp d' t rows := by
  have o := h.tk.other x (fun k a b => h.apart k b a)
  have y : Ext (fun k => S k ∨ T k) w w' (fun k => S' k ∨ T k) := x.join
  have q := y.below h.bel h.ge h.bel.size
  exact ⟨h2, o.1, fun k a b => o.2 k b a, q.2, q.1, fun A fs hp => (h.rows A fs hp).ext y⟩
theorem Tq.swap (h : Tq W0 w S T dp tp d t rows) : Tq W0 w T S tp dp t d rows := ⟨h.tk, h.dk, fun k a b => h.apart k b a, fun k q => h.ge k q.symm, h.bel, fun A fs hp => ⟨Kd.F_mono (h.rows A fs hp).1 (fun k a b => a b.symm), (h.rows A fs hp).2⟩⟩
theorem Tq.mutT (h : Tq W0 w S T dp tp d t rows) (h2 : Dk w' T' tp t') (x : Ext T w w' T') : Tq W0 w' S T' dp tp d t' rows := (h.swap.mutD h2 x).swap
theorem Tq.look (h : Tq W0 w S T dp tp d t rows) (hb : Below w.heap.size w w') : Tq W0 w' S T dp tp d t rows := h.mutD (h.dk.below hb) (Ext.of hb)
theorem Tq.row {v : Value} (h : Tq W0 w S T dp tp d t rows) (hr : Kd.R k33 33 w' w.heap.size (fun k => w.heap.size ≤ k) v (fs.map sf)) (hb : Below w.heap.size w w') (hl : fs.length ≤ 1099511627777) : ∃ A c, v = .slice A fs.length c ∧ Tq W0 w' S T dp tp d t ((A, fs) :: rows) := by
  obtain ⟨A, c, e, q⟩ := Lv.of_R (S := fun k => S k ∨ T k) hr (fun k a => a.elim (h.dk.lt k) (h.tk.lt k)) hl
  have h2 := h.look hb
  refine ⟨A, c, e, h2.dk, h2.tk, h2.apart, h2.ge, h2.bel, fun B gs hp => ?_⟩
  cases hp with
  | head => exact q
  | tail _ hp => exact h2.rows B gs hp
theorem Tq.argC {l : List S47} (h : Tq W0 w S T dp tp d t rows) (hC : Kd.C k47 W0 A l.length l) : Kd.C k47 w A l.length l := Kd.C_below hC h.bel
theorem Sq.two (h : Sq W0 w S dp d []) (h2 : Dk w' T tp t) (hT : ∀ k, T k → w.heap.size ≤ k) (hb : Below w.heap.size w w') : Tq W0 w' S T dp tp d t [] :=
  have q := h.look hb
  ⟨q.dk, h2, fun k a b => by have := h.dk.lt k a; have := hT k b; omega, fun k a => a.elim (h.ge k) (fun b => by have := hT k b; have := h.bel.size; omega), q.bel, fun A fs hp => by cases hp⟩
/-- Files that were told are files to lay. -/
theorem fl_of_R {B : Nat} {ok : Nat → Prop} {v : Value} (h : Kd.R k33 33 w B ok v (fs.map sf)) : ∃ A g c, v = .slice A fs.length c ∧ (0 < fs.length → A = some ⟨g, 0, none⟩) ∧ Fl w (fun _ => True) g fs := by
  rcases Nat.eq_zero_or_pos fs.length with h0 | h0
  · obtain ⟨A, c, e⟩ := Kd.R_slice h
    refine ⟨A, 0, c, by rw [e, List.length_map], fun q => by omega, fun i n b hi => ?_⟩
    have := (List.getElem?_eq_some_iff.1 hi).1
    omega
  · obtain ⟨g, c, e, _⟩ := Kd.R_form h (by rw [List.length_map]; exact h0)
    refine ⟨_, g, c, by rw [e, List.length_map], fun _ => rfl, fun i n b hi => ?_⟩
    obtain ⟨A2, c2, e2, _, hr⟩ := OwnRow.reads h.2
    rw [e] at e2
    obtain ⟨ad, ea, hc⟩ := hr.2.2 (by rw [List.length_map]; exact h0)
    injection e2 with e3 e4 e5
    rw [← e3] at ea
    obtain rfl := (Option.some.inj ea).symm
    obtain ⟨cs, _, hm, hcell⟩ := hc i (sf (n, b)) (by rw [List.getElem?_map, hi]; rfl)
    obtain ⟨v1, rfl, hv⟩ := k33_openM hm
    have hbl := bytesOf_length b
    have hv2 : Kd.R (Kd.int .u8) 5 w B (fun _ => True) v1 (bytesOf b) := Kd.R_mono hv (fun _ _ => trivial)
    refine ⟨v1, ?_, fun j u hu => ?_⟩
    · have hform : ∃ A c, v1 = .slice A b.size c ∧ (A = none → c = 0) := by
        obtain ⟨inner, ho, _⟩ := hv.2
        rcases ho.2 with ⟨ev, hn⟩ | ⟨g2, cap, cur, ev, _⟩
        · exact ⟨none, 0, by rw [ev, show b.size = 0 by rw [← hbl]; exact hn], fun _ => rfl⟩
        · exact ⟨_, cap, by rw [ev]; show Value.slice _ (bytesOf b).length _ = _; rw [hbl], fun e => by cases e⟩
      obtain ⟨A1, c1, rfl, hA⟩ := hform
      have hq := Kd.R_reads' hv2
      rw [hbl] at hq
      exact rw_of_C hq.2.2 hq.2.1 hA
    · have h9 : w.cell? ⟨g, 0 + (i * 2 + j), none⟩ = some u := by
        have := hcell j u hu
        rw [Addr.add_mid] at this
        exact this
      rwa [Nat.zero_add] at h9
end
end Gd

namespace Gd
open Go.Proofs.Ytidijiijciokpaa.Blocks Frm Go.Proofs.Ytidijiijciokpaa.E
set_option maxRecDepth 100000
theorem step_room (d : Ab) (s : St) : (d.step s).1.room = d.room := (step_keeps d s).2.2
theorem doAct_room (d : Ab) (kd : Int) (nm to_ dt : ByteArray) (sz : Int) : (d.doAct kd nm to_ dt sz).1.room = d.room := by
  by_cases h : 1 ≤ kd ∧ kd ≤ 5
  · exact (doAct_keeps d nm to_ dt sz h).2.2
  · have e : d.doAct kd nm to_ dt sz = d.sync := by
      unfold Ab.doAct
      rw [if_neg (by omega), if_neg (by omega), if_neg (by omega), if_neg (by omega), if_neg (by omega)]
    rw [e]
    obtain ⟨_, _, _, _, e2, _⟩ := act_same d
    unfold Ab.sync
    repeat' split
    · rfl
    · exact e2
    · exact e2
theorem op_room (d : Ab) (o : S47) : (d.op o).room = d.room := by
  unfold Ab.op
  split
  · exact doAct_room d _ _ _ _ _
  · split
    · unfold Ab.fail; split <;> rfl
    · split
      · unfold Ab.crash; split <;> rfl
      · split <;> rfl
theorem play_room : ∀ (l : List S47) (d : Ab), (d.play l).room = d.room
  | [], _ => rfl
  | o :: l, d => (play_room l (d.op o)).trans (op_room d o)
theorem twin0 {d : Ab} {room : Nat} (h : d.Ok) (hr : d.room = room) (ht : d.steps = []) (hl : d.lasts = d.seen) (hf : d.fails = 0) (hd : d.down = false) : Ab.fresh room d.seen = d.wa 0 := by
  have hu := h.used
  cases d
  simp only at hr ht hl hf hd hu
  subst hr ht hl hf hd hu
  rfl
theorem twin_new {d : Ab} {room : Nat} (h : d.Ok) (hn : d.Nm) (hr : d.room = room) : newF room [] d.seen = (some d.seen, 0) := newF_self d.seen [] h.seenSrt hn.seen (by have := h.seenLe; rw [hr] at this; exact this)
theorem sizes_le {f : Fs} (h : taken f ≤ 1099511627776) : ∀ p ∈ f, p.1.size ≤ 1099511627776 ∧ p.2.size ≤ 1099511627776 := fun p hp => by
  have := taken_mem hp
  omega
theorem Tq.bare {W0 w : World} {S T : Nat → Prop} {dp tp : Nat} {d t : Ab} {rows : List (Option Addr × Fs)} (h : Tq W0 w S T dp tp d t rows) : Tq W0 w S T dp tp d t [] := ⟨h.dk, h.tk, h.apart, h.ge, h.bel, fun A fs hp => by cases hp⟩
/-- Two disks behind the first so many acts. -/
def Ts (W0 w : World) (dp tp : Nat) (d : Ab) (l : List S47) (k : Nat) : Prop := ∃ S T b, Tq W0 w S T dp tp (d.play (l.take k)) ((d.play (l.take k)).wa b) [] ∧ ((d.play (l.take k)).wa b).Bq (wts (l.take k))
theorem wts_snoc {l : List S47} {k : Nat} (hk : k < l.length) : wts (l.take (k + 1)) = wts (l.take k) + opw l[k] := by
  unfold wts
  rw [List.take_succ_eq_append_getElem hk, List.map_append, List.sum_append_nat]
  simp
set_option maxHeartbeats 8000000 in
theorem twin_calls {W : World} (A1 A2 : Option Addr) (c1 c2 : Nat) (l1 l2 : List S47) (hC1 : Kd.C k47 W A1 l1.length l1) (hC2 : Kd.C k47 W A2 l2.length l2)
    (h1 : ∀ o ∈ l1, OpSz o) (h2 : ∀ o ∈ l2, OpSz o) (hw : wts l1 ≤ 1099511627776) (hw2 : wts l2 ≤ 1099511627776) :
    Calls Try.prog 5 #[.slice A1 l1.length c1, .slice A2 l2.length c2] W fun e w => e = .returned (.bool true) ∧ Below W.heap.size W w := by
  obtain ⟨d3, e3⟩ : ∃ x, x = (((wk 300).play l1).start).fail 0 := ⟨_, rfl⟩
  have q3 : d3.down = false := by rw [e3]; rfl
  have f3 : d3.fails = 0 := by rw [e3]; rfl
  have s3 := sync_live q3 f3
  obtain ⟨d4, e4⟩ : ∃ x, x = d3.sync.1 := ⟨_, rfl⟩
  have t4 : d4.steps = [] := by rw [e4, s3]
  have q4 : d4.down = false := by rw [e4, s3]; exact q3
  have f4 : d4.fails = 0 := by rw [e4, s3]; exact f3
  have l4 : d4.lasts = d4.seen := by rw [e4, s3]
  have r4 : d4.room = 300 := by
    rw [e4, s3, e3]
    exact play_room l1 (wk 300)
  have n4 : d4.Nm := by rw [e4]; exact sync_nm (by rw [e3]; exact fail_nm (d := ((wk 300).play l1).start) ⟨(play_nm l1 (wk_nm 300)).lasts, (play_nm l1 (wk_nm 300)).seen, (play_nm l1 (wk_nm 300)).steps⟩ 0)
  have b1 : ((wk 300).play l1).Bq (4 + wts l1) := play_bq l1 (wk_bq 300)
  have b3 : d3.Bq (4 + wts l1) := by rw [e3]; exact fail_bq (d := ((wk 300).play l1).start) b1 0
  have b4 : d4.Bq (5 + wts l1) := by rw [e4]; exact (sync_bq b3).mono (by omega)
  have b4' : (d4.wa 0).Bq 0 := ⟨Nat.le_refl _, by show d4.steps.length ≤ 0; rw [t4]; exact Nat.le_refl _, by show pend d4.steps ≤ 0; rw [t4]; exact Nat.le_refl _⟩
  have E1 := Aside0.mk (show d3.sync.2 = 0 by rw [s3])
  have E2 := Aside0.mk (fun h : d4.Ok => twin0 h r4 t4 l4 f4 q4)
  have E3 := Aside0.mk (fun h : d4.Ok => twin_new h n4 r4)
  have B3 := Aside0.mk (b3.bd (by omega))
  have B4 := Aside0.mk b4
  have B4' := Aside0.mk b4'
  have HW := Aside0.mk (And.intro hw hw2)
  have e3' := Aside0.mk e3.symm
  have e4' := Aside0.mk e4.symm
  have HA := Aside0.mk (And.intro hC1 (And.intro hC2 (And.intro h1 h2)))
  have hl2 : l2.length ≤ 1099511627776 := by
    refine Nat.le_trans ?_ hw2
    unfold wts
    exact (show l2.length ≤ (l2.map opw).sum by
      clear hC2 h2 HA HW hw2
      induction l2 with
      | nil => exact Nat.le_refl _
      | cons o l ih => simp [opw]; omega)
  clear e3 q3 f3 s3 e4 t4 q4 f4 l4 r4 n4 b1 b3 b4 b4' hw hw2 hC1 hC2 h1 h2
  go_enter Try.func5, Try.ntmps5
  go_wp2_with (first
    | (go_at_call 10; refine (works_calls (W := W) 300 (by decide) (by decide)).mono ?_; rintro r w2 ⟨dp, S, rfl, hD, hS, hB⟩; (have HD := Aside0.mk (show Sq W w2 S dp (wk 300) [] from ⟨hD, hS, hB, fun A fs h => by cases h⟩)); clear hD hS hB)
    | (go_at_call 11; refine (play_calls HD.out.dk (wk_bq 300) A1 c1 l1 (HD.out.arg HA.out.1) (by have := HW.out.1; omega) HA.out.2.2.1).mono ?_; rintro r w3 ⟨rfl, S3, hx, hy⟩; replace HD := Aside0.mk (HD.out.mut hx hy); clear hx hy)
    | (go_at_call 18; refine (start_calls HD.out.dk).mono ?_; rintro r w3 ⟨rfl, S3, hx, hy⟩; replace HD := Aside0.mk (HD.out.mut hx hy); clear hx hy)
    | (go_at_call 19; refine (fail_calls HD.out.dk 0 (by omega)).mono ?_; rintro r w3 ⟨rfl, S3, hx, hy⟩; rw [e3'.out] at hx; replace HD := Aside0.mk (HD.out.mut hx hy); clear hx hy)
    | (go_at_call 20; refine (sync_calls HD.out.dk B3.out).mono ?_; rintro r w3 ⟨rfl, S3, hx, hy⟩; rw [e4'.out] at hx; rw [E1.out]; replace HD := Aside0.mk (HD.out.mut hx hy); clear hx hy)
    | (go_at_call 17; refine (files_calls HD.out.dk).mono ?_; rintro r w4 ⟨v, rfl, hx, hy⟩; (have HOK := Aside0.mk HD.out.dk.ok); obtain ⟨A, g, c, rfl, hA, hF⟩ := fl_of_R hx; replace HD := Aside0.mk (HD.out.look hy); (have HF := Aside0.mk (And.intro hA hF)); clear hx hy hA hF)
    | (go_at_call 23; refine (new_calls (300 : Int) g c d4.seen HF.out.2 (by have := len_taken HOK.out.seenSrt; have := HOK.out.seenLe; have := HOK.out.room; omega) (sizes_le (by have := HOK.out.seenLe; have := HOK.out.room; omega)) (by omega) (by omega) A HF.out.1).mono ?_; rintro r w5 (⟨tp, T, f, hf, rfl, hT, hl, hb⟩ | ⟨x, hf, _⟩); rotate_left; (exact absurd ((E3.out HOK.out).symm.trans hf) (by simp)); (have e := Option.some.inj (congrArg Prod.fst ((E3.out HOK.out).symm.trans hf))); subst e; (have TQ := Aside0.mk (HD.out.two (show Dk w5 T tp (d4.wa 0) by rw [← E2.out HOK.out]; exact hT) hl hb)); clear hT hl hb hf HD HF)
    | (go_at_call 17; (with_reducible refine Calls.mono (files_calls TQ.out.dk) ?_); rintro r w6 ⟨v, rfl, hx, hy⟩; obtain ⟨A, c, rfl, hz⟩ := TQ.out.row hx hy TQ.out.dk.ok.seenLen; replace TQ := Aside0.mk hz; clear hx hy hz)
    | (go_at_call 17; (with_reducible refine Calls.mono (files_calls TQ.out.tk) ?_); rintro r w6 ⟨v, rfl, hx, hy⟩; obtain ⟨A, c, rfl, hz⟩ := TQ.out.row hx hy TQ.out.tk.ok.seenLen; replace TQ := Aside0.mk hz; clear hx hy hz)
    | (go_at_call 16; refine Calls.mono (equal_calls _ _ _ _ _ _ ?m1 ?m2 ?m3 ?m4) ?_; (case m1 => exact Lv.now (TQ.out.rows _ _ (by repeat (first | exact List.Mem.head _ | refine List.Mem.tail _ ?_)))); (case m2 => exact Lv.now (TQ.out.rows _ _ (by repeat (first | exact List.Mem.head _ | refine List.Mem.tail _ ?_)))); (case m3 => exact (TQ.out.rows _ _ (by repeat (first | exact List.Mem.head _ | refine List.Mem.tail _ ?_))).2); (case m4 => exact (TQ.out.rows _ _ (by repeat (first | exact List.Mem.head _ | refine List.Mem.tail _ ?_))).2); rintro r w6 ⟨rfl, hb⟩; rw [decide_eq_true (show (d4.wa 0).seen = d4.seen from rfl)]; replace TQ := Aside0.mk (TQ.out.look hb); clear hb)
    | (go_at_call 24; (with_reducible refine Calls.mono (free_calls TQ.out.dk) ?_); rintro r w6 ⟨rfl, hb⟩; replace TQ := Aside0.mk (TQ.out.look hb); clear hb)
    | (go_at_call 24; (with_reducible refine Calls.mono (free_calls TQ.out.tk) ?_); rintro r w6 ⟨rfl, hb⟩; rw [show ((d4.wa 0).room : Int) - ((d4.wa 0).used : Int) = (d4.room : Int) - (d4.used : Int) from rfl]; replace TQ := Aside0.mk (TQ.out.look hb); clear hb)
    | fail)
  have H0 : Aside0 (Ts W w6 dp tp d4 (l2.map bare) 0) := ⟨⟨_, _, 0, TQ.out.bare, B4'.out⟩⟩
  clear TQ HOK
  go_loopw [8] (fun v wr => ∃ k : Nat, v = .int .i64 k ∧ k ≤ l2.length ∧ Aside0 (Ts W wr dp tp d4 (l2.map bare) k)) (fun v _ => l2.length - (intOf v).toNat)
  case atStart => exact ⟨0, rfl, Nat.zero_le _, H0⟩
  case round =>
    obtain ⟨k, rfl, hk, HP⟩ := hrel
    clear H0
    by_cases hlt : k < l2.length
    · obtain ⟨S1, T1, b, tq, bq⟩ := HP.out
      obtain ⟨ad, rfl, c0, c1, c2, c3, c4, c5, c6⟩ := op_at (tq.argC HA.out.2.1) hlt
      have HO := Aside0.mk (HA.out.2.2.2 _ (List.getElem_mem hlt))
      have hlm : k < (l2.map bare).length := by rw [List.length_map]; exact hlt
      have hwk : wts ((l2.map bare).take k) ≤ 1099511627776 := Nat.le_trans (wts_take _ _) (by rw [wts_bare]; exact HW.out.2)
      have HBd := Aside0.mk (show (d4.play ((l2.map bare).take k)).Bd from (play_bq _ B4.out).bd (by have := HW.out.1; omega))
      have HBt := Aside0.mk (show ((d4.play ((l2.map bare).take k)).wa b).Bd from bq.bd (by omega))
      have HN := Aside0.mk (play_snoc d4 hlm)
      have HWs := Aside0.mk (wts_snoc hlm)
      have HBq := Aside0.mk bq
      have hel : (l2.map bare)[k] = bare l2[k] := by rw [List.getElem_map]
      rw [hel] at HN HWs
      have HT := Aside0.mk tq
      clear tq bq HP hlm hwk hel
      have w4 : IntKind.i64.wrap ((k : Int) + 1) = (k : Int) + 1 := IntWalk.i64_in _ (by omega)
      have hki : (k : Int) < (l2.length : Int) := by omega
      have hk0 : (0 : Int) ≤ (k : Int) := by omega
      generalize l2[k] = o at c0 c1 c2 c3 c4 c5 c6 HO HN HWs
      obtain ⟨⟨kd, nm, to_, dt, sz⟩, kk, nn⟩ := o
      have HZ := Aside0.mk (show nm.size ≤ 1099511627776 ∧ to_.size ≤ 1099511627776 ∧ dt.size ≤ 549755813888 from ⟨HO.out.1, HO.out.2.1, HO.out.2.2.1⟩)
      clear HO
      dsimp only at c0 c1 c2 c3 c4 c5 c6
      go_upto_region 16 with fail
      have HB1 := Aside0.mk (below_alloc (Below.refl wr.heap.size wr) (.cells #[.int .i64 kd, .string nm, .string to_, .string dt, .int .i64 sz, .int .i64 kk, .int .i64 nn] 47))
      have HX1 := Aside0.mk (blk_new wr (.cells #[.int .i64 kd, .string nm, .string to_, .string dt, .int .i64 sz, .int .i64 kk, .int .i64 nn] 47))
      have HS1 := Aside0.mk (show wr.heap.size < (wr.alloc (.cells #[.int .i64 kd, .string nm, .string to_, .string dt, .int .i64 sz, .int .i64 kk, .int .i64 nn] 47)).heap.size by rw [World.size_alloc]; omega)
      clear c0 c1 c2 c3 c4 c5 c6
      generalize wr.alloc _ = w1 at HB1 HX1 HS1 ⊢
      have c0 : w1.cell? ⟨wr.heap.size, 0, none⟩ = some (.int .i64 kd) := blk_cell HX1.out 0
      have c1 : w1.cell? ⟨wr.heap.size, 1, none⟩ = some (.string nm) := blk_cell HX1.out 1
      have c2 : w1.cell? ⟨wr.heap.size, 2, none⟩ = some (.string to_) := blk_cell HX1.out 2
      have c3 : w1.cell? ⟨wr.heap.size, 3, none⟩ = some (.string dt) := blk_cell HX1.out 3
      have c4 : w1.cell? ⟨wr.heap.size, 4, none⟩ = some (.int .i64 sz) := blk_cell HX1.out 4
      have HT1 := Aside0.mk (HT.out.look HB1.out)
      have HSl := Aside0.mk (show ¬ S1 wr.heap.size from fun q => by have := HT.out.dk.lt _ q; omega)
      by_cases hin : 1 ≤ kd ∧ kd ≤ 6
      · have HI := Aside0.mk hin
        have g1 : decide (1 ≤ kd) = true := decide_eq_true hin.1
        have g2 : decide (kd ≤ 6) = true := decide_eq_true hin.2
        obtain ⟨b', hb'⟩ := doAct_wa (d4.play ((l2.map bare).take k)) b kd nm to_ dt sz
        have HBB := Aside0.mk hb'
        have HE := Aside0.mk (HN.out.trans ((op_bare _ _).trans (if_pos hin)))
        have HE2 := Aside0.mk (show (((d4.play ((l2.map bare).take k)).doAct kd nm to_ dt sz).1.wa b').Bq (wts ((l2.map bare).take k) + (dt.size + 2)) by
          have := doAct_bq HBq.out kd nm to_ dt sz
          rwa [hb'] at this)
        clear hin HN hb'
        go_wp2_with (first
          | (go_at_call 25; (with_reducible refine Calls.mono (act_live HT1.out.dk HBd.out kd nm to_ dt sz HI.out HZ.out.1 HZ.out.2.1 HZ.out.2.2) ?_); rintro r w2 ⟨rfl, S2, h2, h3⟩; (have HX2 := Aside0.mk ((h3.block _ HS1.out HSl.out).trans HX1.out)); (have HT2 := Aside0.mk (HT1.out.mutD h2 h3)); clear h2 h3 c0 c1 c2 c3 c4; (have c0 : w2.cell? ⟨wr.heap.size, 0, none⟩ = some (.int .i64 kd) := blk_cell HX2.out 0); (have c1 : w2.cell? ⟨wr.heap.size, 1, none⟩ = some (.string nm) := blk_cell HX2.out 1); (have c2 : w2.cell? ⟨wr.heap.size, 2, none⟩ = some (.string to_) := blk_cell HX2.out 2); (have c3 : w2.cell? ⟨wr.heap.size, 3, none⟩ = some (.string dt) := blk_cell HX2.out 3); (have c4 : w2.cell? ⟨wr.heap.size, 4, none⟩ = some (.int .i64 sz) := blk_cell HX2.out 4))
          | (go_at_call 25; (with_reducible refine Calls.mono (act_live HT2.out.tk HBt.out kd nm to_ dt sz HI.out HZ.out.1 HZ.out.2.1 HZ.out.2.2) ?_); rintro r w5 ⟨rfl, T2, h2, h3⟩; rw [HBB.out] at h2 ⊢; (have HT3 := Aside0.mk (HT2.out.mutT h2 h3)); clear h2 h3)
          | fail)
        go_roundw
        case rel => exact ⟨k + 1, by push_cast; rfl, by omega, ⟨S2, T2, b', by rw [HE.out]; exact HT3.out, by rw [HE.out, HWs.out]; exact HE2.out⟩⟩
        case measure => simp [intOf]; omega
      · have HE := Aside0.mk (HN.out.trans ((op_bare _ _).trans (if_neg hin)))
        clear HN
        have HG : (decide (1 ≤ kd) = true ∧ decide (kd ≤ 6) = false) ∨ decide (1 ≤ kd) = false := by
          by_cases q : 1 ≤ kd
          · exact .inl ⟨decide_eq_true q, decide_eq_false fun q2 => hin ⟨q, q2⟩⟩
          · exact .inr (decide_eq_false q)
        clear hin
        rcases HG with ⟨g1, g2⟩ | g1
        all_goals
          go_wp2_with fail
          go_roundw
          case rel => exact ⟨k + 1, by push_cast; rfl, by omega, ⟨S1, T1, b, by rw [HE.out]; exact HT1.out, by rw [HE.out, HWs.out]; exact HBq.out.mono (by omega)⟩⟩
          case measure => simp [intOf]; omega
    · have h8 : k = l2.length := by omega
      subst h8
      clear hlt hk
      obtain ⟨S1, T1, b, tq, bq⟩ := HP.out
      have hwk : wts ((l2.map bare).take l2.length) ≤ 1099511627776 := Nat.le_trans (wts_take _ _) (by rw [wts_bare]; exact HW.out.2)
      have hbd : (d4.play ((l2.map bare).take l2.length)).Bd := (play_bq _ B4.out).bd (by have := HW.out.1; omega)
      generalize d4.play ((l2.map bare).take l2.length) = D at tq bq hbd
      have TQ := Aside0.mk tq
      have BD := Aside0.mk (And.intro hbd (show (D.wa b).Bd from bq.bd (by omega)))
      have BL := Aside0.mk (And.intro (show D.steps.length ≤ 4398046511104 from BD.out.1.2.1) (show (D.wa b).steps.length ≤ 4398046511104 from BD.out.1.2.1))
      clear tq bq hwk hbd HP
      go_wp2_with (first
        | (go_at_call 17; (with_reducible refine Calls.mono (files_calls TQ.out.dk) ?_); rintro r w6 ⟨v, rfl, hx, hy⟩; obtain ⟨A, c, rfl, hz⟩ := TQ.out.row hx hy TQ.out.dk.ok.seenLen; replace TQ := Aside0.mk hz; clear hx hy hz)
        | (go_at_call 17; (with_reducible refine Calls.mono (files_calls TQ.out.tk) ?_); rintro r w6 ⟨v, rfl, hx, hy⟩; obtain ⟨A, c, rfl, hz⟩ := TQ.out.row hx hy TQ.out.tk.ok.seenLen; replace TQ := Aside0.mk hz; clear hx hy hz)
        | (go_at_call 14; (with_reducible refine Calls.mono (leftp_calls TQ.out.dk BL.out.1 3 (by omega) (by omega)) ?_); rintro r w6 ⟨v, rfl, hx, hy⟩; obtain ⟨A, c, rfl, hz⟩ := TQ.out.row hx hy (TQ.out.dk.ok.leftLen 3); replace TQ := Aside0.mk hz; clear hx hy hz)
        | (go_at_call 14; (with_reducible refine Calls.mono (leftp_calls TQ.out.tk BL.out.2 3 (by omega) (by omega)) ?_); rintro r w6 ⟨v, rfl, hx, hy⟩; obtain ⟨A, c, rfl, hz⟩ := TQ.out.row hx hy (TQ.out.tk.ok.leftLen 3); replace TQ := Aside0.mk hz; clear hx hy hz)
        | (go_at_call 16; refine Calls.mono (equal_calls _ _ _ _ _ _ ?m1 ?m2 ?m3 ?m4) ?_; (case m1 => exact Lv.now (TQ.out.rows _ _ (by repeat (first | exact List.Mem.head _ | refine List.Mem.tail _ ?_)))); (case m2 => exact Lv.now (TQ.out.rows _ _ (by repeat (first | exact List.Mem.head _ | refine List.Mem.tail _ ?_)))); (case m3 => exact (TQ.out.rows _ _ (by repeat (first | exact List.Mem.head _ | refine List.Mem.tail _ ?_))).2); (case m4 => exact (TQ.out.rows _ _ (by repeat (first | exact List.Mem.head _ | refine List.Mem.tail _ ?_))).2); rintro r w6 ⟨rfl, hb⟩; (first | rw [decide_eq_true (show (D.wa b).seen = D.seen from rfl)] | rw [decide_eq_true (show (D.wa b).left 3 = D.left 3 from rfl)]); replace TQ := Aside0.mk (TQ.out.look hb); clear hb)
        | (go_at_call 24; (with_reducible refine Calls.mono (free_calls TQ.out.dk) ?_); rintro r w6 ⟨rfl, hb⟩; replace TQ := Aside0.mk (TQ.out.look hb); clear hb)
        | (go_at_call 24; (with_reducible refine Calls.mono (free_calls TQ.out.tk) ?_); rintro r w6 ⟨rfl, hb⟩; rw [show ((D.wa b).room : Int) - ((D.wa b).used : Int) = (D.room : Int) - (D.used : Int) from rfl]; replace TQ := Aside0.mk (TQ.out.look hb); clear hb)
        | (go_at_call 13; (with_reducible refine Calls.mono (pending_calls TQ.out.dk BD.out.1) ?_); rintro r w6 ⟨rfl, hb⟩; replace TQ := Aside0.mk (TQ.out.look hb); clear hb)
        | (go_at_call 13; (with_reducible refine Calls.mono (pending_calls TQ.out.tk BD.out.2) ?_); rintro r w6 ⟨rfl, hb⟩; rw [show pend (D.wa b).steps = pend D.steps from rfl]; replace TQ := Aside0.mk (TQ.out.look hb); clear hb)
        | fail)
      go_ret
      exact ⟨rfl, TQ.out.bel⟩
end Gd

end Go.Proofs.Ytidijiijciokpaa.G
