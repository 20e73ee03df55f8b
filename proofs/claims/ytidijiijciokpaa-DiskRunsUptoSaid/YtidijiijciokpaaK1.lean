import Derived.Test.YtidijiijciokpaaH0
import Derived.Lib.Bytealg
import Derived.Maps.OwnOps
import Derived.WideMake
import Derived.Laws.IdiomRangeMap
import Derived.Maps.AppendAt
import Derived.Deep.RegionLaw
import Derived.ArgAppend
import Derived.Maps.RangeRun
import Derived.Deep.Upon
import Derived.Deep.QuietTactic
import Derived.BigQuiet
import Derived.Deep.RegionHeld3
import Derived.Deep.DeepCutAuto
import Derived.Deep.CutBlock
import Derived.Laws.EntriesVeiled
import Derived.StillTailTactics
import Derived.Laws.Tables
import Derived.Laws.CopyOwn
import Derived.IntWalk
import Derived.Test.YtidijiijciokpaaBlocks
import Derived.Laws.CopyOwn
import Derived.Laws.Tables
import Derived.Outline
namespace Go.Proofs.Ytidijiijciokpaa.G
open Go.RowKit Go.Proofs.YtidijiijciokpaaW.PrintWords Go.Proofs.YtidijiijciokpaaW.PrintLast Go.Proofs.YtidijiijciokpaaW.PrintMore
set_option linter.unusedVariables false
set_option linter.unusedSimpArgs false
namespace Gd
set_option maxRecDepth 100000
/-- Files: names and bytes. -/
abbrev Fs := List (ByteArray × ByteArray)
def key (s : ByteArray) : List UInt8 := s.data.toList
theorem key_inj {s t : ByteArray} (h : key s = key t) : s = t := by
  cases s with
  | mk a => cases t with
    | mk b => exact congrArg ByteArray.mk (Array.toList_inj.1 h)
/-- The order of names. -/
def lt (s t : ByteArray) : Prop := key s < key t
instance (s t : ByteArray) : Decidable (lt s t) := inferInstanceAs (Decidable (key s < key t))
theorem lt_irrefl (s : ByteArray) : ¬ lt s s := List.lt_irrefl _
theorem lt_trans {a b c : ByteArray} (h : lt a b) (g : lt b c) : lt a c := List.lt_trans h g
theorem lt_ne {a b : ByteArray} (h : lt a b) : a ≠ b := fun e => lt_irrefl _ (e ▸ h)
theorem lt_asymm {a b : ByteArray} (h : lt a b) : ¬ lt b a := fun g => lt_irrefl _ (lt_trans h g)
theorem lt_tri (a b : ByteArray) (h : a ≠ b) (g : ¬ lt a b) : lt b a := by
  rcases Classical.em (lt b a) with q | q
  · exact q
  · exact absurd (key_inj (List.le_antisymm (List.not_lt.1 q) (List.not_lt.1 g))) h
/-- Names rise. -/
def Srt (f : Fs) : Prop := f.Pairwise fun a b => lt a.1 b.1
def put : Fs → ByteArray → ByteArray → Fs
  | [], s, d => [(s, d)]
  | (t, e) :: r, s, d => if s = t then (s, d) :: r else if lt s t then (s, d) :: (t, e) :: r else (t, e) :: put r s d
def del (f : Fs) (s : ByteArray) : Fs := f.filter fun p => decide (p.1 ≠ s)
def get : Fs → ByteArray → Option ByteArray
  | [], _ => none
  | (t, e) :: r, s => if s = t then some e else get r s
theorem get_mem : ∀ {f : Fs} {s d : ByteArray}, get f s = some d → (s, d) ∈ f
  | (t, e) :: r, s, d, h => by
    unfold get at h
    split at h
    · rename_i q
      cases h
      subst q
      exact .head _
    · exact .tail _ (get_mem h)
theorem get_none : ∀ {f : Fs} {s : ByteArray}, get f s = none → ∀ p ∈ f, p.1 ≠ s
  | [], _, _, p, hp => by cases hp
  | (t, e) :: r, s, h, p, hp => by
    unfold get at h
    split at h
    · cases h
    · rename_i q
      cases hp with
      | head => exact fun h => q h.symm
      | tail _ hp => exact get_none h p hp
theorem get_none_of : ∀ {f : Fs} {s : ByteArray}, (∀ p ∈ f, p.1 ≠ s) → get f s = none
  | [], _, _ => rfl
  | (t, e) :: r, s, h => by
    unfold get
    rw [if_neg (fun q => h (t, e) (.head _) q.symm)]
    exact get_none_of (fun p hp => h p (.tail _ hp))
theorem Srt.tail {p : ByteArray × ByteArray} {f : Fs} (h : Srt (p :: f)) : Srt f := (List.pairwise_cons.1 h).2
theorem Srt.head {p : ByteArray × ByteArray} {f : Fs} (h : Srt (p :: f)) : ∀ q ∈ f, lt p.1 q.1 := (List.pairwise_cons.1 h).1
theorem Srt.nodup {f : Fs} (h : Srt f) : f.Pairwise fun a b => a.1 ≠ b.1 := h.imp fun h => lt_ne h
theorem get_of_mem : ∀ {f : Fs} {s d : ByteArray}, f.Pairwise (fun a b => a.1 ≠ b.1) → (s, d) ∈ f → get f s = some d
  | (t, e) :: r, s, d, h, hm => by
    unfold get
    rw [List.pairwise_cons] at h
    cases hm with
    | head => rw [if_pos rfl]
    | tail _ hm =>
      rw [if_neg (fun q => h.1 _ hm q.symm)]
      exact get_of_mem h.2 hm
theorem del_notin {f : Fs} {s : ByteArray} (h : ∀ p ∈ f, p.1 ≠ s) : del f s = f := List.filter_eq_self.2 fun p hp => by simpa using h p hp
theorem del_cons_ne {t s e : ByteArray} {r : Fs} (h : t ≠ s) : del ((t, e) :: r) s = (t, e) :: del r s := by
  unfold del
  rw [List.filter_cons_of_pos (by simpa using h)]
theorem del_cons_eq {s e : ByteArray} {r : Fs} : del ((s, e) :: r) s = del r s := by
  unfold del
  rw [List.filter_cons_of_neg (by simp)]
theorem put_perm : ∀ {f : Fs} (s d : ByteArray), Srt f → (put f s d).Perm ((s, d) :: del f s)
  | [], s, d, _ => .refl _
  | (t, e) :: r, s, d, h => by
    unfold put
    split
    · rename_i q
      subst q
      rw [del_cons_eq, del_notin fun p hp => fun q => lt_ne (h.head p hp) q.symm]
    · rename_i q
      rw [del_cons_ne (fun q' => q q'.symm)]
      split
      · rename_i q2
        rw [del_notin fun p hp => fun q3 => lt_asymm (h.head p hp) (q3 ▸ q2)]
      · exact (List.Perm.cons _ (put_perm s d h.tail)).trans (.swap _ _ _)
theorem put_mem {f : Fs} {s d : ByteArray} (h : Srt f) (p : ByteArray × ByteArray) : p ∈ put f s d ↔ p = (s, d) ∨ (p ∈ f ∧ p.1 ≠ s) := by
  rw [(put_perm s d h).mem_iff, List.mem_cons, del, List.mem_filter]
  simp
theorem srt_put : ∀ {f : Fs} (s d : ByteArray), Srt f → Srt (put f s d)
  | [], s, d, _ => by simp [put, Srt]
  | (t, e) :: r, s, d, h => by
    unfold put
    split
    · rename_i q
      subst q
      exact List.pairwise_cons.2 ⟨fun q hq => h.head q hq, h.tail⟩
    · rename_i q
      split
      · rename_i q2
        refine List.pairwise_cons.2 ⟨fun p hp => ?_, h⟩
        cases hp with
        | head => exact q2
        | tail _ hp => exact lt_trans q2 (h.head p hp)
      · rename_i q2
        refine List.pairwise_cons.2 ⟨fun p hp => ?_, srt_put s d h.tail⟩
        rcases (put_mem h.tail p).1 hp with rfl | ⟨hp, _⟩
        · exact lt_tri s t q q2
        · exact h.head p hp
theorem srt_del {f : Fs} (s : ByteArray) (h : Srt f) : Srt (del f s) := h.sublist List.filter_sublist
theorem srt_nil : Srt [] := List.Pairwise.nil
/-- Sorted lists with the same members are the same. -/
theorem srt_ext : ∀ {f g : Fs}, Srt f → Srt g → f.Perm g → f = g
  | [], g, _, _, h => (List.nil_perm.1 h).symm
  | p :: f, [], _, _, h => absurd h.symm (by intro h; have := List.nil_perm.1 h; cases this)
  | p :: f, q :: g, hf, hg, h => by
    have e : p = q := by
      have h1 : p ∈ q :: g := h.subset (.head _)
      have h2 : q ∈ p :: f := h.symm.subset (.head _)
      cases h1 with
      | head => rfl
      | tail _ h1 =>
        cases h2 with
        | head => rfl
        | tail _ h2 => exact absurd (hf.head q h2) (lt_asymm (hg.head p h1))
    subst e
    rw [srt_ext hf.tail hg.tail ((List.perm_cons p).1 h)]
theorem get_put_self {f : Fs} (s d : ByteArray) (h : Srt f) : get (put f s d) s = some d := get_of_mem (srt_put s d h).nodup ((put_mem h _).2 (.inl rfl))
theorem get_put_ne {f : Fs} {s t : ByteArray} (d : ByteArray) (h : Srt f) (hn : t ≠ s) : get (put f s d) t = get f t := by
  rcases hg : get f t with _ | e
  · exact get_none_of fun p hp => by
      rcases (put_mem h p).1 hp with rfl | ⟨hp, _⟩
      · exact fun q => hn q.symm
      · exact get_none hg p hp
  · exact get_of_mem (srt_put s d h).nodup ((put_mem h _).2 (.inr ⟨get_mem hg, hn⟩))
theorem get_del_self (f : Fs) (s : ByteArray) : get (del f s) s = none := get_none_of fun p hp => by
  have := (List.mem_filter.1 hp).2
  simpa using this
theorem get_del_ne {f : Fs} {s t : ByteArray} (h : Srt f) (hn : t ≠ s) : get (del f s) t = get f t := by
  rcases hg : get f t with _ | e
  · exact get_none_of fun p hp => get_none hg p (List.mem_filter.1 hp).1
  · exact get_of_mem (srt_del s h).nodup (List.mem_filter.2 ⟨get_mem hg, by simpa using hn⟩)
/-- The room that files take. -/
def taken (f : Fs) : Nat := (f.map fun p => p.1.size + p.2.size).sum
theorem taken_perm {f g : Fs} (h : f.Perm g) : taken f = taken g := (h.map _).sum_nat
theorem taken_cons (p : ByteArray × ByteArray) (f : Fs) : taken (p :: f) = p.1.size + p.2.size + taken f := by
  simp [taken]
theorem taken_del : ∀ (f : Fs) (s : ByteArray), taken (del f s) ≤ taken f
  | [], _ => Nat.le_refl _
  | (t, e) :: r, s => by
    have := taken_del r s
    by_cases h : t = s
    · subst h
      rw [del_cons_eq, taken_cons]
      omega
    · rw [del_cons_ne h, taken_cons, taken_cons]
      omega
theorem taken_put {f : Fs} (s d : ByteArray) (h : Srt f) : taken (put f s d) = s.size + d.size + taken (del f s) := by
  rw [taken_perm (put_perm s d h), taken_cons]
theorem taken_get : ∀ {f : Fs} {s d : ByteArray}, Srt f → get f s = some d → taken f = s.size + d.size + taken (del f s)
  | (t, e) :: r, s, d, h, hg => by
    unfold get at hg
    split at hg
    · rename_i q
      cases hg
      subst q
      rw [del_cons_eq, taken_cons, del_notin fun p hp => fun q => lt_ne (h.head p hp) q.symm]
    · rename_i q
      rw [del_cons_ne (fun q' => q q'.symm), taken_cons, taken_cons, taken_get h.tail hg]
      omega
theorem taken_mem : ∀ {f : Fs} {p : ByteArray × ByteArray}, p ∈ f → p.1.size + p.2.size ≤ taken f
  | q :: r, p, h => by
    rw [taken_cons]
    cases h with
    | head => omega
    | tail _ h => have := taken_mem h; omega
/-- The first so many bytes. -/
def cutB (d : ByteArray) (n : Nat) : ByteArray := ⟨(d.data.toList.take n).toArray⟩
theorem size_list (d : ByteArray) : d.data.toList.length = d.size := by rw [Array.length_toList]; rfl
theorem cutB_size (d : ByteArray) (n : Nat) : (cutB d n).size = min n d.size := by
  rw [← size_list]
  show ((d.data.toList.take n).toArray).toList.length = _
  rw [List.toList_toArray, List.length_take, size_list]
theorem cutB_all {d : ByteArray} {n : Nat} (h : d.size ≤ n) : cutB d n = d := by
  apply key_inj
  unfold cutB key
  simp only [List.toList_toArray]
  exact List.take_of_length_le (by rw [size_list]; exact h)
def apB (d e : ByteArray) : ByteArray := ⟨(d.data.toList ++ e.data.toList).toArray⟩
theorem apB_size (d e : ByteArray) : (apB d e).size = d.size + e.size := by
  rw [← size_list]
  simp only [apB, List.toList_toArray, List.length_append, size_list]
/-- A change. -/
inductive St
  | created (n : ByteArray)
  | laid (n b : ByteArray)
  | cut (n : ByteArray) (k : Nat)
  | renamed (a b : ByteArray)
  | removed (n : ByteArray)
def St.count : St → Nat
  | .laid _ b => b.size
  | _ => 1
def dat (f : Fs) (n : ByteArray) : ByteArray := (get f n).getD ⟨#[]⟩
/-- A change's first so many steps done. -/
def doSt (f : Fs) : St → Nat → Fs
  | .created n, _ => put f n ⟨#[]⟩
  | .laid n b, k => put f n (apB (dat f n) (cutB b k))
  | .cut n k, _ => put f n (cutB (dat f n) k)
  | .renamed a b, _ => if a = b then f else del (put f b (dat f a)) a
  | .removed n, _ => del f n
/-- May a change be done? -/
def okSt (f : Fs) : St → Prop
  | .created _ => True
  | .laid n _ => get f n ≠ none
  | .cut n k => get f n ≠ none ∧ k ≤ (dat f n).size
  | .renamed a _ => get f a ≠ none
  | .removed n => get f n ≠ none
theorem srt_do {f : Fs} (h : Srt f) (s : St) (k : Nat) : Srt (doSt f s k) := by
  cases s with
  | created n => exact srt_put _ _ h
  | laid n b => exact srt_put _ _ h
  | cut n k => exact srt_put _ _ h
  | removed n => exact srt_del _ h
  | renamed a b =>
    show Srt (if a = b then f else del (put f b (dat f a)) a)
    split
    · exact h
    · exact srt_del _ (srt_put _ _ h)
/-- All of a change. -/
def doAll (f : Fs) (s : St) : Fs := doSt f s s.count
/-- Changes that may be done one behind the other, in so much room. -/
def good (room : Nat) : Fs → List St → Prop
  | f, [] => taken f ≤ room
  | f, s :: ss => taken f ≤ room ∧ okSt f s ∧ good room (doAll f s) ss
theorem good_head {room : Nat} {f : Fs} {ss : List St} (h : good room f ss) : taken f ≤ room := by
  cases ss with
  | nil => exact h
  | cons s ss => exact h.1
theorem good_snoc {room : Nat} : ∀ {f : Fs} {ss : List St} {s : St}, good room f ss → okSt (ss.foldl doAll f) s → taken (doAll (ss.foldl doAll f) s) ≤ room → good room f (ss ++ [s])
  | _, [], _, h, h1, h2 => ⟨h, h1, h2⟩
  | f, t :: ss, s, h, h1, h2 => ⟨h.1, h.2.1, good_snoc (f := doAll f t) h.2.2 h1 h2⟩
theorem good_last {room : Nat} : ∀ {f : Fs} {ss : List St}, good room f ss → taken (ss.foldl doAll f) ≤ room
  | _, [], h => h
  | f, t :: ss, h => good_last (f := doAll f t) (ss := ss) h.2.2
theorem srt_fold : ∀ {f : Fs} (ss : List St), Srt f → Srt (ss.foldl doAll f)
  | _, [], h => h
  | f, t :: ss, h => srt_fold (f := doAll f t) ss (srt_do h t _)
/-- What is left of the first so many steps. -/
def remn (f : Fs) : List St → Nat → Fs
  | [], _ => f
  | s :: ss, k => if k = 0 then f else remn (doSt f s (min k s.count)) ss (k - min k s.count)
/-- A disk. -/
structure Ab where
  room : Nat
  seen : Fs
  lasts : Fs
  steps : List St
  used : Nat
  acts : Nat
  fails : Int
  down : Bool
/-- What holds of every disk. -/
structure Ab.Ok (d : Ab) : Prop where
  room : d.room ≤ 67108864
  srt : Srt d.lasts
  good : good d.room d.lasts d.steps
  seen : d.seen = d.steps.foldl doAll d.lasts
  used : d.used = taken d.seen
  pos : ∀ s ∈ d.steps, 0 < s.count
  fails : 0 ≤ d.fails ∧ d.fails ≤ 9223372036854775807
end Gd

namespace Gd
open Go.Proofs.Ytidijiijciokpaa.Blocks Frm
set_option maxRecDepth 100000
/-- Bytes that stand in blocks of R. -/
def Rw (W : World) (R : Nat → Prop) (v : Value) (d : ByteArray) : Prop :=
  ∃ A c, v = .slice A d.size c ∧ d.size ≤ c ∧ (A = none → c = 0) ∧ Kd.F (Kd.int .u8) W R A d.size (bytesOf d)
theorem Rw.keep {W W' : World} {R R' : Nat → Prop} {v : Value} {d : ByteArray} (h : Rw W R v d) (hk : ∀ k, R k → k < W.heap.size → W'.heap[k]? = W.heap[k]?) (hR : ∀ k, R k → R' k) : Rw W' R' v d := by
  obtain ⟨A, c, e, h1, h2, h3⟩ := h
  exact ⟨A, c, e, h1, h2, Kd.F_mono (Kd.F_step h3 hk) hR⟩
theorem Rw.bound {W : World} {R : Nat → Prop} {v : Value} {d : ByteArray} (h : Rw W R v d) : Rw W (fun k => R k ∧ k < W.heap.size) v d := by
  obtain ⟨A, c, e, h1, h2, h3⟩ := h
  exact ⟨A, c, e, h1, h2, Kd.F_bound h3⟩
/-- A map's row. -/
structure Rn where
  n : ByteArray
  d : ByteArray
  v : Value
  b : Nat
def ent (r : Rn) : MapEntry := { key := .string r.n, val := r.v, born := r.b }
def nd (r : Rn) : ByteArray × ByteArray := (r.n, r.d)
/-- Block mp is a map of these rows. -/
structure Fr0 (W : World) (R : Nat → Prop) (mp : Nat) (rows : List Rn) (clock : Nat) (fs : Fs) : Prop where
  blk : W.heap[mp]? = some (.map (rows.map ent).toArray clock)
  old : ∀ r ∈ rows, r.b < clock
  born : (rows.map (·.b)).Nodup
  row : ∀ r ∈ rows, Rw W R r.v r.d
  perm : (rows.map nd).Perm fs
  srt : Srt fs
/-- Block mp is a map that holds these files. -/
def Fm (W : World) (R : Nat → Prop) (mp : Nat) (fs : Fs) : Prop := ∃ rows clock, Fr0 W R mp rows clock fs
theorem Fr0.keep {W W' : World} {R R' : Nat → Prop} {mp clock : Nat} {rows : List Rn} {fs : Fs} (h : Fr0 W R mp rows clock fs) (hm : W'.heap[mp]? = W.heap[mp]?) (hk : ∀ k, R k → k < W.heap.size → W'.heap[k]? = W.heap[k]?) (hR : ∀ k, R k → R' k) : Fr0 W' R' mp rows clock fs :=
  ⟨hm.trans h.blk, h.old, h.born, fun r hr => (h.row r hr).keep hk hR, h.perm, h.srt⟩
theorem Fm.keep {W W' : World} {R R' : Nat → Prop} {mp : Nat} {fs : Fs} (h : Fm W R mp fs) (hm : W'.heap[mp]? = W.heap[mp]?) (hk : ∀ k, R k → k < W.heap.size → W'.heap[k]? = W.heap[k]?) (hR : ∀ k, R k → R' k) : Fm W' R' mp fs := by
  obtain ⟨rows, clock, h⟩ := h
  exact ⟨rows, clock, h.keep hm hk hR⟩
theorem Fm.lt {W : World} {R : Nat → Prop} {mp : Nat} {fs : Fs} (h : Fm W R mp fs) : mp < W.heap.size := by
  obtain ⟨rows, clock, h⟩ := h
  exact (Array.getElem?_eq_some_iff.1 h.blk).1
theorem Fm.srt {W : World} {R : Nat → Prop} {mp : Nat} {fs : Fs} (h : Fm W R mp fs) : Srt fs := by
  obtain ⟨rows, clock, h⟩ := h
  exact h.srt
theorem Fm.new (W : World) (R : Nat → Prop) (n : Nat) {mp : Nat} (h : W.heap[mp]? = some (.map #[] n)) : Fm W R mp [] :=
  ⟨[], n, h, by simp, by simp, by simp, .refl _, srt_nil⟩
theorem bytes_beq (a b : ByteArray) : (a == b) = decide (a = b) := by
  rcases Classical.em (a = b) with h | h
  · rw [(MapKept.bytes_beq a b).2 h, decide_eq_true h]
  · rw [decide_eq_false h]
    rcases hb : (a == b) with _ | _
    · rfl
    · exact absurd ((MapKept.bytes_beq a b).1 hb) h
theorem find_none (s : ByteArray) : ∀ (rows : List Rn) (i : Nat), (∀ r ∈ rows, r.n ≠ s) → Instr.findNow .string (.string s) (rows.map ent) i = some none
  | [], _, _ => rfl
  | r :: rows, i, h => by
    have h1 : (s == r.n) = false := by rw [bytes_beq, decide_eq_false fun e => h r (.head _) e.symm]
    simp only [List.map_cons, Instr.findNow, ent, Instr.sameNow, h1]
    exact find_none s rows (i + 1) fun x hx => h x (.tail _ hx)
theorem find_at (r : Rn) (post : List Rn) : ∀ (pre : List Rn) (i : Nat), (∀ x ∈ pre, x.n ≠ r.n) → Instr.findNow .string (.string r.n) ((pre ++ r :: post).map ent) i = some (some (i + pre.length, r.v))
  | [], i, _ => by
    have h1 : (r.n == r.n) = true := by rw [bytes_beq, decide_eq_true rfl]
    simp [Instr.findNow, ent, Instr.sameNow, h1]
  | x :: pre, i, h => by
    have h1 : (r.n == x.n) = false := by rw [bytes_beq, decide_eq_false fun e => h x (.head _) e.symm]
    simp only [List.cons_append, List.map_cons, Instr.findNow, ent, Instr.sameNow, h1]
    have := find_at r post pre (i + 1) fun x hx => h x (.tail _ hx)
    rw [show i + (x :: pre).length = i + 1 + pre.length by simp; omega]
    exact this
theorem split_at {rows : List Rn} {fs : Fs} {s d : ByteArray} (hp : (rows.map nd).Perm fs) (hs : Srt fs) (hg : get fs s = some d) : ∃ pre r post, rows = pre ++ r :: post ∧ r.n = s ∧ r.d = d ∧ (∀ x ∈ pre, x.n ≠ s) ∧ ∀ x ∈ post, x.n ≠ s := by
  have hm : (s, d) ∈ rows.map nd := hp.symm.subset (get_mem hg)
  obtain ⟨r, hr, e⟩ := List.mem_map.1 hm
  cases e
  obtain ⟨pre, post, rfl⟩ := List.append_of_mem hr
  have hn : ((pre ++ r :: post).map nd).Pairwise fun a b => a.1 ≠ b.1 := by
    have h1 := hs.nodup
    exact (hp.pairwise_iff fun h => Ne.symm h).2 h1
  rw [List.pairwise_map, List.pairwise_append] at hn
  refine ⟨pre, r, post, rfl, rfl, rfl, fun x hx => hn.2.2 x hx r (.head _), fun x hx => ?_⟩
  exact fun q => (List.pairwise_cons.1 hn.2.1).1 x hx q.symm
theorem none_at {rows : List Rn} {fs : Fs} {s : ByteArray} (hp : (rows.map nd).Perm fs) (hg : get fs s = none) : ∀ r ∈ rows, r.n ≠ s := fun r hr => get_none hg (nd r) (hp.subset (List.mem_map_of_mem hr))
theorem run_key (W : World) (s : ByteArray) (e : Bool) : (Instr.checkKey e 10000 9 (.string s)).run Try.prog W = .ok () W := MapKept.run_checkKey (k := .string s) Try.underlying9 (by simp [MapKept.IsKey]) e 9999
theorem Fm.look {W : World} {R : Nat → Prop} {mp : Nat} {fs : Fs} {s d : ByteArray} (h : Fm W R mp fs) (hg : get fs s = some d) : ∃ v, Rw W R v d ∧ (Instr.lookup 87 (.map (some mp)) (.string s) true).run Try.prog W = .ok (.tuple #[v, .bool true]) W ∧ (Instr.lookup 87 (.map (some mp)) (.string s) false).run Try.prog W = .ok v W := by
  obtain ⟨rows, clock, h⟩ := h
  obtain ⟨pre, r, post, rfl, rfl, rfl, h1, h2⟩ := split_at h.perm h.srt hg
  have hf := MapKept.run_findKey (w := W) Try.underlying9 (show Instr.findNow .string (.string r.n) (((pre ++ r :: post).map ent).toArray.toList) 0 = some (some (0 + pre.length, r.v)) from find_at r post pre 0 h1)
  refine ⟨r.v, h.row r (by simp), ?_, ?_⟩ <;> simp only [Instr.lookup, run_underlying Try.underlying87, MapKept.run_getObj_map h.blk, run_key W, hf, Result.andThen, Sem.run_bind, Sem.run_pure] <;> rfl
theorem Fm.looks {W : World} {R : Nat → Prop} {mp : Nat} {fs : Fs} {s d : ByteArray} (h : Fm W R mp fs) (hg : get fs s = some d) : ∃ v, Rw W R v d ∧ ∀ w : World, w.heap[mp]? = W.heap[mp]? → (Instr.lookup 87 (.map (some mp)) (.string s) true).run Try.prog w = .ok (.tuple #[v, .bool true]) w ∧ (Instr.lookup 87 (.map (some mp)) (.string s) false).run Try.prog w = .ok v w := by
  obtain ⟨rows, clock, h⟩ := h
  obtain ⟨pre, r, post, rfl, rfl, rfl, h1, h2⟩ := split_at h.perm h.srt hg
  refine ⟨r.v, h.row r (by simp), fun w hw => ?_⟩
  have hf := MapKept.run_findKey (w := w) Try.underlying9 (show Instr.findNow .string (.string r.n) (((pre ++ r :: post).map ent).toArray.toList) 0 = some (some (0 + pre.length, r.v)) from find_at r post pre 0 h1)
  have hb := hw.trans h.blk
  constructor <;> simp only [Instr.lookup, run_underlying Try.underlying87, MapKept.run_getObj_map hb, run_key w, hf, Result.andThen, Sem.run_bind, Sem.run_pure] <;> rfl
theorem zero_bytes (W : World) : (zeroValue 31).run Try.prog W = .ok (.slice none 0 0) W := by kernel_rfl
theorem Fm.none {W : World} {R : Nat → Prop} {mp : Nat} {fs : Fs} {s : ByteArray} (h : Fm W R mp fs) (hg : get fs s = .none) : (Instr.lookup 87 (.map (some mp)) (.string s) true).run Try.prog W = .ok (.tuple #[.slice .none 0 0, .bool false]) W ∧ (Instr.lookup 87 (.map (some mp)) (.string s) false).run Try.prog W = .ok (.slice .none 0 0) W := by
  obtain ⟨rows, clock, h⟩ := h
  have hf := MapKept.run_findKey (w := W) Try.underlying9 (show Instr.findNow .string (.string s) ((rows.map ent).toArray.toList) 0 = some Option.none from find_none s rows 0 (none_at h.perm hg))
  have hz := zero_bytes W
  constructor <;> simp only [Instr.lookup, run_underlying Try.underlying87, MapKept.run_getObj_map h.blk, run_key W, hf, hz, Result.andThen, Sem.run_bind, Sem.run_pure] <;> rfl
theorem Fm.nones {W : World} {R : Nat → Prop} {mp : Nat} {fs : Fs} {s : ByteArray} (h : Fm W R mp fs) (hg : get fs s = .none) (w : World) (hw : w.heap[mp]? = W.heap[mp]?) : (Instr.lookup 87 (.map (some mp)) (.string s) true).run Try.prog w = .ok (.tuple #[.slice .none 0 0, .bool false]) w ∧ (Instr.lookup 87 (.map (some mp)) (.string s) false).run Try.prog w = .ok (.slice .none 0 0) w := by
  obtain ⟨rows, clock, h⟩ := h
  have hf := MapKept.run_findKey (w := w) Try.underlying9 (show Instr.findNow .string (.string s) ((rows.map ent).toArray.toList) 0 = some Option.none from find_none s rows 0 (none_at h.perm hg))
  have hz := zero_bytes w
  have hb := hw.trans h.blk
  constructor <;> simp only [Instr.lookup, run_underlying Try.underlying87, MapKept.run_getObj_map hb, run_key w, hf, hz, Result.andThen, Sem.run_bind, Sem.run_pure] <;> rfl
theorem modify_at (pre post : List Rn) (r r' : Rn) (f : MapEntry → MapEntry) (hf : f (ent r) = ent r') : ((pre ++ r :: post).map ent).toArray.modify pre.length f = ((pre ++ r' :: post).map ent).toArray := by
  apply Array.toList_inj.1
  apply List.ext_getElem?
  intro j
  rw [Array.getElem?_toList, Array.getElem?_modify]
  simp only [List.getElem?_toArray, Array.getElem?_toList, List.map_append, List.map_cons]
  rcases Nat.lt_trichotomy j pre.length with h | h | h
  · rw [if_neg (by omega), List.getElem?_append_left (by simpa using h), List.getElem?_append_left (by simpa using h)]
  · subst h
    rw [if_pos rfl, List.getElem?_append_right (by simp), List.getElem?_append_right (by simp)]
    simp [hf]
  · rw [if_neg (by omega), List.getElem?_append_right (by simp; omega), List.getElem?_append_right (by simp; omega)]
    obtain ⟨m, hm⟩ : ∃ m, j - (pre.map ent).length = m + 1 := ⟨j - (pre.map ent).length - 1, by simp; omega⟩
    rw [hm]
    simp
theorem erase_at (pre post : List Rn) (r : Rn) : ((pre ++ r :: post).map ent).toArray.eraseIdxIfInBounds pre.length = ((pre ++ post).map ent).toArray := by
  unfold Array.eraseIdxIfInBounds
  rw [dif_pos (by simp)]
  apply Array.toList_inj.1
  rw [Array.toList_eraseIdx]
  simp [List.eraseIdx_append_of_length_le]
theorem perm_split {pre post : List Rn} {r : Rn} {fs : Fs} (hp : ((pre ++ r :: post).map nd).Perm fs) (h1 : ∀ x ∈ pre, x.n ≠ r.n) (h2 : ∀ x ∈ post, x.n ≠ r.n) : ((pre ++ post).map nd).Perm (del fs r.n) := by
  have e1 : (nd r :: (pre ++ post).map nd).Perm fs := by
    refine List.Perm.trans ?_ hp
    rw [List.map_append, List.map_append, List.map_cons]
    exact List.perm_middle.symm
  have e2 : (del (nd r :: (pre ++ post).map nd) r.n).Perm (del fs r.n) := e1.filter _
  have e3 : del (nd r :: (pre ++ post).map nd) r.n = (pre ++ post).map nd := by
    show del ((r.n, r.d) :: _) r.n = _
    rw [del_cons_eq]
    refine del_notin fun p hp => ?_
    obtain ⟨x, hx, rfl⟩ := List.mem_map.1 hp
    rcases List.mem_append.1 hx with hx | hx
    · exact h1 x hx
    · exact h2 x hx
  rwa [e3] at e2
theorem setMap (W : World) (mp : Nat) (o : Obj) (h : mp < W.heap.size) : ({ W with heap := W.heap.setIfInBounds mp o } : World).heap[mp]? = some o := by
  show (W.heap.setIfInBounds mp o)[mp]? = _
  simp [h]
theorem setMap_ne (W : World) (mp : Nat) (o : Obj) {k : Nat} (h : k ≠ mp) : ({ W with heap := W.heap.setIfInBounds mp o } : World).heap[k]? = W.heap[k]? := Array.getElem?_setIfInBounds_ne (Ne.symm h)
theorem Rw.setMap {W : World} {R : Nat → Prop} {v : Value} {d : ByteArray} {mp : Nat} (h : Rw W R v d) (hn : ¬ R mp) (o : Obj) : Rw { W with heap := W.heap.setIfInBounds mp o } R v d := h.keep (fun k hk _ => setMap_ne W mp o (fun e => hn (e ▸ hk))) fun _ h => h
theorem stays (W : World) (s : ByteArray) : (Instr.keyThatStays (.string s) (.string s)).run Try.prog W = .ok (.string s) W := by
  have : Instr.sameBits 10000 (.string s) (.string s) = true := by
    show (s == s) = true
    rw [bytes_beq, decide_eq_true rfl]
  simp [Instr.keyThatStays, this]
theorem Fm.store {W : World} {R : Nat → Prop} {mp : Nat} {fs : Fs} {s d : ByteArray} {v : Value} (h : Fm W R mp fs) (hv : Rw W R v d) (hn : ¬ R mp) : ∃ es n, (Instr.mapUpdate 87 (.map (some mp)) (.string s) v).run Try.prog W = .ok () { W with heap := W.heap.setIfInBounds mp (.map es n) } ∧ Fm { W with heap := W.heap.setIfInBounds mp (.map es n) } R mp (put fs s d) := by
  have hlt := h.lt
  obtain ⟨rows, clock, h⟩ := h
  rcases hg : get fs s with _ | d0
  · have hno := none_at h.perm hg
    have hf := MapKept.run_findKey (w := W) Try.underlying9 (show Instr.findNow .string (.string s) ((rows.map ent).toArray.toList) 0 = some Option.none from find_none s rows 0 hno)
    refine ⟨((rows ++ [Rn.mk s d v clock]).map ent).toArray, clock + 1, ?_, rows ++ [Rn.mk s d v clock], clock + 1, setMap W mp _ hlt, ?_, ?_, ?_, ?_, srt_put s d h.srt⟩
    · simp only [Instr.mapUpdate, run_underlying Try.underlying87, MapKept.run_getObj_map h.blk, run_key W, hf, Result.andThen, Sem.run_bind, Sem.run_pure, MapKept.run_setObj_map _ h.blk]
      simp [ent]
    · intro r hr
      rcases List.mem_append.1 hr with hr | hr
      · have := h.old r hr; omega
      · obtain rfl := List.mem_singleton.1 hr
        exact Nat.lt_succ_self _
    · rw [List.map_append]
      refine List.nodup_append.2 ⟨h.born, by simp, fun a ha b hb => ?_⟩
      obtain ⟨x, hx, rfl⟩ := List.mem_map.1 ha
      have hb : b = clock := by simpa using hb
      have := h.old x hx
      omega
    · intro r hr
      rcases List.mem_append.1 hr with hr | hr
      · exact (h.row r hr).setMap hn _
      · obtain rfl := List.mem_singleton.1 hr
        exact hv.setMap hn _
    · rw [List.map_append]
      refine (List.perm_append_comm).trans (List.Perm.trans ?_ (put_perm s d h.srt).symm)
      rw [del_notin (get_none hg)]
      exact h.perm.cons _
  · obtain ⟨pre, r, post, rfl, rfl, rfl, h1, h2⟩ := split_at h.perm h.srt hg
    have hf := MapKept.run_findKey (w := W) Try.underlying9 (show Instr.findNow .string (.string r.n) (((pre ++ r :: post).map ent).toArray.toList) 0 = some (some (0 + pre.length, r.v)) from find_at r post pre 0 h1)
    have hmod := modify_at pre post r (Rn.mk r.n d v r.b) (fun e => { e with key := .string r.n, val := v }) rfl
    refine ⟨((pre ++ Rn.mk r.n d v r.b :: post).map ent).toArray, clock, ?_, pre ++ Rn.mk r.n d v r.b :: post, clock, setMap W mp _ hlt, ?_, ?_, ?_, ?_, srt_put r.n d h.srt⟩
    · have hk : ((((pre ++ r :: post).map ent).toArray[0 + pre.length]?).map (·.key)).getD (.string r.n) = .string r.n := by
        rw [Nat.zero_add]
        simp [ent]
      simp only [Instr.mapUpdate, run_underlying Try.underlying87, MapKept.run_getObj_map h.blk, run_key W, hf, Result.andThen, Sem.run_bind, Sem.run_pure, hk, stays, MapKept.run_setObj_map _ h.blk]
      rw [Nat.zero_add, hmod]
    · intro x hx
      rcases List.mem_append.1 hx with hx | hx
      · exact h.old x (List.mem_append.2 (.inl hx))
      · cases hx with
        | head => exact h.old r (by simp)
        | tail _ hx => exact h.old x (List.mem_append.2 (.inr (.tail _ hx)))
    · have hb := h.born
      rw [List.map_append, List.map_cons] at hb ⊢
      exact hb
    · intro x hx
      rcases List.mem_append.1 hx with hx | hx
      · exact (h.row x (List.mem_append.2 (.inl hx))).setMap hn _
      · cases hx with
        | head => exact hv.setMap hn _
        | tail _ hx => exact (h.row x (List.mem_append.2 (.inr (.tail _ hx)))).setMap hn _
    · rw [List.map_append, List.map_cons]
      refine List.perm_middle.trans (List.Perm.trans ?_ (put_perm r.n d h.srt).symm)
      refine List.Perm.cons _ ?_
      rw [← List.map_append]
      exact perm_split h.perm h1 h2
theorem Fm.drop {W : World} {R : Nat → Prop} {mp : Nat} {fs : Fs} {s : ByteArray} (h : Fm W R mp fs) (hn : ¬ R mp) (ty : TypeId) : ∃ es n, (Builtin.delete_ #[87, 9] ty #[.map (some mp), .string s]).run Try.prog W = .ok (.tuple #[]) { W with heap := W.heap.setIfInBounds mp (.map es n) } ∧ Fm { W with heap := W.heap.setIfInBounds mp (.map es n) } R mp (del fs s) := by
  have hlt := h.lt
  obtain ⟨rows, clock, h⟩ := h
  rcases hg : get fs s with _ | d0
  · have hno := none_at h.perm hg
    have hf := MapKept.run_findKey (w := W) Try.underlying9 (show Instr.findNow .string (.string s) ((rows.map ent).toArray.toList) 0 = some Option.none from find_none s rows 0 hno)
    refine ⟨(rows.map ent).toArray, clock, ?_, rows, clock, setMap W mp _ hlt, h.old, h.born, fun r hr => (h.row r hr).setMap hn _, ?_, srt_del s h.srt⟩
    · simp only [Builtin.delete_, run_underlying Try.underlying87, MapKept.run_getObj_map h.blk, run_key W, hf, Result.andThen, Sem.run_bind, Sem.run_pure, MapKept.run_setObj_map _ h.blk, List.getElem?_toArray, List.getElem?_cons_zero, List.getElem?_cons_succ]
    · rw [del_notin (get_none hg)]
      exact h.perm
  · obtain ⟨pre, r, post, rfl, rfl, rfl, h1, h2⟩ := split_at h.perm h.srt hg
    have hf := MapKept.run_findKey (w := W) Try.underlying9 (show Instr.findNow .string (.string r.n) (((pre ++ r :: post).map ent).toArray.toList) 0 = some (some (0 + pre.length, r.v)) from find_at r post pre 0 h1)
    have her := erase_at pre post r
    have hsub : (pre ++ post).Sublist (pre ++ r :: post) := List.Sublist.append (List.Sublist.refl _) (List.sublist_cons_self _ _)
    refine ⟨((pre ++ post).map ent).toArray, clock, ?_, pre ++ post, clock, setMap W mp _ hlt, fun x hx => h.old x (hsub.subset hx), (hsub.map _).nodup h.born, fun x hx => (h.row x (hsub.subset hx)).setMap hn _, perm_split h.perm h1 h2, srt_del _ h.srt⟩
    simp only [Builtin.delete_, run_underlying Try.underlying87, MapKept.run_getObj_map h.blk, run_key W, hf, Result.andThen, Sem.run_bind, Sem.run_pure, MapKept.run_setObj_map _ h.blk, List.getElem?_toArray, List.getElem?_cons_zero, List.getElem?_cons_succ, Nat.zero_add, her]
end Gd

namespace Gd
open Go.Proofs.Ytidijiijciokpaa.Blocks Frm
set_option maxRecDepth 100000
/-- A step's value. -/
def stf (W : World) (R : Nat → Prop) (v : Value) : St → Prop
  | .created n => v = .iface 130 (.agg #[.string n])
  | .laid n b => ∃ u, v = .iface 132 (.agg #[.string n, u]) ∧ Rw W R u b
  | .cut n k => v = .iface 136 (.agg #[.string n, .int .i64 k])
  | .renamed a b => v = .iface 138 (.agg #[.string a, .string b])
  | .removed n => v = .iface 139 (.agg #[.string n])
def Sts (W : World) (R : Nat → Prop) : List Value → List St → Prop
  | [], [] => True
  | v :: vs, s :: ss => stf W R v s ∧ Sts W R vs ss
  | _, _ => False
theorem stf.keep {W W' : World} {R R' : Nat → Prop} {v : Value} {s : St} (h : stf W R v s) (hk : ∀ k, R k → k < W.heap.size → W'.heap[k]? = W.heap[k]?) (hR : ∀ k, R k → R' k) : stf W' R' v s := by
  cases s with
  | laid n b =>
    obtain ⟨u, e, hu⟩ := h
    exact ⟨u, e, hu.keep hk hR⟩
  | created n => exact h
  | cut n k => exact h
  | renamed a b => exact h
  | removed n => exact h
theorem Sts.keep {W W' : World} {R R' : Nat → Prop} (hk : ∀ k, R k → k < W.heap.size → W'.heap[k]? = W.heap[k]?) (hR : ∀ k, R k → R' k) : ∀ {vs : List Value} {ss : List St}, Sts W R vs ss → Sts W' R' vs ss
  | [], [], _ => trivial
  | v :: vs, s :: ss, h => ⟨h.1.keep hk hR, Sts.keep (vs := vs) (ss := ss) hk hR h.2⟩
  | [], _ :: _, h => h.elim
  | _ :: _, [], h => h.elim
theorem Sts.len {W : World} {R : Nat → Prop} : ∀ {vs : List Value} {ss : List St}, Sts W R vs ss → vs.length = ss.length
  | [], [], _ => rfl
  | v :: vs, s :: ss, h => by
    simp only [List.length_cons]
    rw [Sts.len (vs := vs) (ss := ss) h.2]
  | [], _ :: _, h => h.elim
  | _ :: _, [], h => h.elim
theorem Sts.snoc {W : World} {R : Nat → Prop} {v : Value} {s : St} (hv : stf W R v s) : ∀ {vs : List Value} {ss : List St}, Sts W R vs ss → Sts W R (vs ++ [v]) (ss ++ [s])
  | [], [], _ => ⟨hv, trivial⟩
  | u :: vs, t :: ss, h => ⟨h.1, Sts.snoc hv (vs := vs) (ss := ss) h.2⟩
  | [], _ :: _, h => h.elim
  | _ :: _, [], h => h.elim
theorem Sts.at {W : World} {R : Nat → Prop} : ∀ {vs : List Value} {ss : List St} {i : Nat}, Sts W R vs ss → i < ss.length → ∃ v s, vs[i]? = some v ∧ ss[i]? = some s ∧ stf W R v s
  | v :: vs, s :: ss, 0, h, _ => ⟨v, s, rfl, rfl, h.1⟩
  | v :: vs, s :: ss, i + 1, h, hi => Sts.at (vs := vs) (ss := ss) (i := i) h.2 (by simpa using hi)
  | [], [], i, _, hi => absurd hi (by simp)
  | [], _ :: _, _, h, _ => h.elim
  | _ :: _, [], _, h, _ => h.elim
def dcells (d : Ab) (mp lp : Nat) (sv : Value) : Array Value := #[.int .i64 (d.room : Int), .map (some mp), .map (some lp), sv, .int .i64 (d.used : Int), .int .i64 (d.acts : Int), .int .i64 d.fails, .bool d.down]
/-- The disk at dp is d; its rows of bytes stand in R. -/
structure Dm (W : World) (R : Nat → Prop) (dp mp lp : Nat) (sv : Value) (ss : List Value) (d : Ab) : Prop where
  dsk : W.heap[dp]? = some (.cells (dcells d mp lp sv) 90 (0, 0))
  seen : Fm W R mp d.seen
  lasts : Fm W R lp d.lasts
  ne : mp ≠ lp
  own : W.ownsRow 0 92 1 sv ss.length ss
  sts : Sts W R ss d.steps
  rlt : ∀ k, R k → k < W.heap.size
  rdp : ¬ R dp
  rmp : ¬ R mp
  rlp : ¬ R lp
  rsv : ∀ g, sv.ownBlock = some g → ¬ R g
/-- The blocks of a disk. -/
def Ft (R : Nat → Prop) (dp mp lp : Nat) (sv : Value) : Nat → Prop := fun k => R k ∨ k = dp ∨ k = mp ∨ k = lp ∨ sv.ownBlock = some k
/-- The disk at dp is d, and stands in blocks of S. -/
def Dk (W : World) (S : Nat → Prop) (dp : Nat) (d : Ab) : Prop := ∃ R mp lp sv ss, Dm W R dp mp lp sv ss d ∧ d.Ok ∧ (∀ k, Ft R dp mp lp sv k → S k) ∧ ∀ k, S k → k < W.heap.size
/-- What lies outside S lies as it lay; S' is S and what is new. -/
structure Ext (S : Nat → Prop) (W w : World) (S' : Nat → Prop) : Prop where
  os : w.os = W.os
  tape : w.tape = W.tape
  output : w.output = W.output
  size : W.heap.size ≤ w.heap.size
  block : ∀ k, k < W.heap.size → ¬ S k → w.heap[k]? = W.heap[k]?
  new : ∀ k, S' k → S k ∨ W.heap.size ≤ k
theorem Ext.trans {S S1 S2 : Nat → Prop} {W w1 w2 : World} (h : Ext S W w1 S1) (g : Ext S1 w1 w2 S2) : Ext S W w2 S2 :=
  ⟨g.os.trans h.os, g.tape.trans h.tape, g.output.trans h.output, Nat.le_trans h.size g.size, fun k hk hn => (g.block k (Nat.lt_of_lt_of_le hk h.size) (fun q => by rcases h.new k q with q | q; exact hn q; omega)).trans (h.block k hk hn), fun k hk => by
    rcases g.new k hk with q | q
    · exact h.new k q
    · exact .inr (Nat.le_trans h.size q)⟩
theorem Ext.of {S : Nat → Prop} {W w : World} (h : Below W.heap.size W w) : Ext S W w S := ⟨h.os, h.tape, h.output, h.size, fun k hk _ => h.block k hk, fun _ hk => .inl hk⟩
theorem Ext.mono {S T S' : Nat → Prop} {W w : World} (h : Ext S W w S') (hT : ∀ k, S k → T k) : Ext T W w S' := ⟨h.os, h.tape, h.output, h.size, fun k hk hn => h.block k hk fun q => hn (hT k q), fun k hk => (h.new k hk).imp (hT k) id⟩
theorem Ext.join {S T S' : Nat → Prop} {W w : World} (h : Ext S W w S') : Ext (fun k => S k ∨ T k) W w (fun k => S' k ∨ T k) := ⟨h.os, h.tape, h.output, h.size, fun k hk hn => h.block k hk fun q => hn (.inl q), fun k hk => by
  rcases hk with hk | hk
  · exact (h.new k hk).imp .inl id
  · exact .inl (.inr hk)⟩
theorem Ext.below {S S' : Nat → Prop} {B : Nat} {W0 W w : World} (h : Ext S W w S') (h0 : Below B W0 W) (hB : ∀ k, S k → B ≤ k) (hs : B ≤ W.heap.size) : Below B W0 w ∧ ∀ k, S' k → B ≤ k :=
  ⟨h0.trans ⟨h.os, h.tape, h.output, h.size, fun k hk => h.block k (by omega) (fun q => by have := hB k q; omega)⟩, fun k hk => by
    rcases h.new k hk with q | q
    · exact hB k q
    · omega⟩
theorem Ext.at {S S' : Nat → Prop} {W w : World} {k : Nat} {o : Obj} (h : Ext S W w S') (hb : W.heap[k]? = some o) (hn : ¬ S k) : w.heap[k]? = some o := (h.block k (Array.getElem?_eq_some_iff.1 hb).1 hn).trans hb
theorem Ext.out {S S' : Nat → Prop} {W w : World} {k : Nat} (h : Ext S W w S') (hk : k < W.heap.size) (hn : ¬ S k) : ¬ S' k := fun q => by
  rcases h.new k q with q | q
  · exact hn q
  · omega
theorem Dm.keep {W w : World} {R : Nat → Prop} {dp mp lp : Nat} {sv : Value} {ss : List Value} {d : Ab} (h : Dm W R dp mp lp sv ss d) (hk : ∀ k, Ft R dp mp lp sv k → k < W.heap.size → w.heap[k]? = W.heap[k]?) (hs : W.heap.size ≤ w.heap.size) : Dm w R dp mp lp sv ss d :=
  have hR := fun k (hR : R k) hl => hk k (.inl hR) hl
  ⟨(hk dp (.inr (.inl rfl)) (blk_lt h.dsk)).trans h.dsk, h.seen.keep (hk mp (.inr (.inr (.inl rfl))) h.seen.lt) hR fun _ h => h, h.lasts.keep (hk lp (.inr (.inr (.inr (.inl rfl)))) h.lasts.lt) hR fun _ h => h, h.ne,
    own_move h.own fun k q => by
      obtain ⟨c, hc⟩ := own_typed h.own k q
      exact hk k (.inr (.inr (.inr (.inr q)))) (blk_lt hc), h.sts.keep hR fun _ h => h, fun k q => Nat.lt_of_lt_of_le (h.rlt k q) hs, h.rdp, h.rmp, h.rlp, h.rsv⟩
theorem Dm.below {W w : World} {R : Nat → Prop} {dp mp lp : Nat} {sv : Value} {ss : List Value} {d : Ab} (h : Dm W R dp mp lp sv ss d) (hb : Below W.heap.size W w) : Dm w R dp mp lp sv ss d := h.keep (fun k _ hl => hb.block k hl) hb.size
theorem Dk.keep {W w : World} {S : Nat → Prop} {dp : Nat} {d : Ab} (h : Dk W S dp d) (hk : ∀ k, S k → w.heap[k]? = W.heap[k]?) (hs : W.heap.size ≤ w.heap.size) : Dk w S dp d := by
  obtain ⟨R, mp, lp, sv, ss, h, ho, hS, hl⟩ := h
  exact ⟨R, mp, lp, sv, ss, h.keep (fun k q _ => hk k (hS k q)) hs, ho, hS, fun k q => Nat.lt_of_lt_of_le (hl k q) hs⟩
theorem Dk.below {W w : World} {S : Nat → Prop} {dp : Nat} {d : Ab} (h : Dk W S dp d) (hb : Below W.heap.size W w) : Dk w S dp d := by
  obtain ⟨R, mp, lp, sv, ss, h, ho, hS, hl⟩ := h
  exact ⟨R, mp, lp, sv, ss, h.below hb, ho, hS, fun k q => Nat.lt_of_lt_of_le (hl k q) hb.size⟩
theorem Dk.lt {W : World} {S : Nat → Prop} {dp : Nat} {d : Ab} (h : Dk W S dp d) : ∀ k, S k → k < W.heap.size := by
  obtain ⟨R, mp, lp, sv, ss, h, ho, hS, hl⟩ := h
  exact hl
theorem Dk.ok {W : World} {S : Nat → Prop} {dp : Nat} {d : Ab} (h : Dk W S dp d) : d.Ok := by
  obtain ⟨R, mp, lp, sv, ss, h, ho, hS, hl⟩ := h
  exact ho
/-- Another disk's changes leave it. -/
theorem Dk.other {W w : World} {S T T' : Nat → Prop} {dp : Nat} {d : Ab} (h : Dk W S dp d) (g : Ext T W w T') (hd : ∀ k, S k → ¬ T k) : Dk w S dp d ∧ ∀ k, S k → ¬ T' k :=
  ⟨h.keep (fun k q => g.block k (h.lt k q) (hd k q)) g.size, fun k q => g.out (h.lt k q) (hd k q)⟩
theorem Dm.nd1 {W : World} {R : Nat → Prop} {dp mp lp : Nat} {sv : Value} {ss : List Value} {d : Ab} (h : Dm W R dp mp lp sv ss d) : mp ≠ dp := by
  obtain ⟨rows, c, hr⟩ := h.seen
  intro e
  have h1 := hr.blk
  rw [e, h.dsk] at h1
  cases h1
theorem Dm.nd2 {W : World} {R : Nat → Prop} {dp mp lp : Nat} {sv : Value} {ss : List Value} {d : Ab} (h : Dm W R dp mp lp sv ss d) : lp ≠ dp := by
  obtain ⟨rows, c, hr⟩ := h.lasts
  intro e
  have h1 := hr.blk
  rw [e, h.dsk] at h1
  cases h1
theorem Dm.ns {W : World} {R : Nat → Prop} {dp mp lp : Nat} {sv : Value} {ss : List Value} {d : Ab} (h : Dm W R dp mp lp sv ss d) : ∀ g, sv.ownBlock = some g → g ≠ dp ∧ g ≠ mp ∧ g ≠ lp := by
  intro g hg
  obtain ⟨c, hc⟩ := own_typed h.own g hg
  refine ⟨fun e => ?_, fun e => ?_, fun e => ?_⟩
  · subst e
    rw [h.dsk] at hc
    injection hc with hc
    injection hc with _ hc
    exact absurd hc (by decide)
  · obtain ⟨rows, c1, hr⟩ := h.seen
    have h1 := hr.blk
    rw [← e, hc] at h1
    cases h1
  · obtain ⟨rows, c1, hr⟩ := h.lasts
    have h1 := hr.blk
    rw [← e, hc] at h1
    cases h1
theorem Dm.flt {W : World} {R : Nat → Prop} {dp mp lp : Nat} {sv : Value} {ss : List Value} {d : Ab} (h : Dm W R dp mp lp sv ss d) : ∀ k, Ft R dp mp lp sv k → k < W.heap.size := by
  rintro k (q | rfl | rfl | rfl | q)
  · exact h.rlt k q
  · exact blk_lt h.dsk
  · exact h.seen.lt
  · exact h.lasts.lt
  · obtain ⟨c, hc⟩ := own_typed h.own k q
    exact blk_lt hc
end Gd

namespace Gd
open Go.Proofs.Ytidijiijciokpaa.Blocks Frm
set_option maxRecDepth 100000
theorem below_w {B B' : Nat} {a b : World} (h : Below B' a b) (hb : B ≤ B') : Below B a b := ⟨h.os, h.tape, h.output, h.size, fun k hk => h.block k (by omega)⟩
theorem eqslice (w : World) (ad : Addr) (n c : Nat) : (binOp .eql 31 (.slice (some ad) n c) (.slice none 0 0)).run Try.prog w = .ok (.bool false) w := by
  have h1 : ∀ d : Nat, (Op.equalIn (d + 1) 31 (.slice (some ad) n c) (.slice none 0 0)).run Try.prog w = .ok false w := fun d => by
    simp [Op.equalIn, run_underlying Try.underlying31]
  simp only [binOp]
  simp [Op.equal, Op.maxDepth, h1 9999]
theorem clone_calls {W : World} {ad : Addr} {c : Nat} {xs : List Int} (hC : Kd.C (Kd.int .u8) W (some ad) xs.length xs) (hl : xs.length ≤ 1099511627776) : Calls Try.prog 57 #[.slice (some ad) xs.length c] W fun e w => ∃ v, e = .returned v ∧ w.ownsRow W.heap.size 5 1 v xs.length (nums .u8 xs) ∧ (∃ a, v.ownBlock = some a) ∧ Below W.heap.size W w := by
  have hq := eqslice W ad xs.length c
  have HN : Aside0 ((W.alloc (.cells #[] 5)).ownsRow W.heap.size 5 1 (.slice (some ⟨W.heap.size, 0, none⟩) 0 0) ([] : List Int).length (nums .u8 [])) := ⟨⟨by simp [nums], .inr ⟨W.heap.size, 0, #[], rfl, Nat.le_refl _, blk_new W _, Nat.le_refl _, by simp [maxLen], rfl, rfl⟩⟩⟩
  have HC := Aside0.mk (Kd.C_alloc hC (.cells #[] 5))
  have HL := Aside0.mk hl
  clear hC hl
  go_enter Try.func57, Try.ntmps57
  go_wp2_with (first | ((with_reducible refine gate_builtin (b := .append) (xs := #[.tmp 5, .tmp 6]) rfl ?_); at_builtin; refine wp_app (base := W.heap.size) rfl (.tmp 5) (.tmp 6) 31 rfl Try.underlying31 (.slice (some ⟨W.heap.size, 0, none⟩) 0 0) [] xs (some ad) c ?s_ ?x_ HN.out HC.out (by have := HL.out; simp only [List.length_nil]; omega) (by rw [World.size_alloc]; omega) ?_; (case s_ => go_simp); (case x_ => go_simp); intro v1 w1 h1_ h2_ h3_; have h1 := Aside0.mk h1_; have h2 := Aside0.mk h2_; have h3 := Aside0.mk h3_; clear h1_ h2_ h3_) | go_in)
  go_ret
  refine ⟨_, rfl, h1.out, ?_, below_grown ((Below.refl _ _).alloc (Nat.le_refl _) _) h2.out HN.out (by rw [World.size_alloc]; omega)⟩
  rcases h3.out with e | e
  · exact ⟨_, e.trans rfl⟩
  · exact ⟨_, e⟩
/-- Bytes behind a full slice, in new memory. -/
theorem run_fresh {W : World} {A : Option Addr} {xs ys : List Int} (hX : Kd.C (Kd.int .u8) W A xs.length xs) (hA : A = none → xs = []) {A2 : Option Addr} {c2 : Nat} (hY : Kd.C (Kd.int .u8) W A2 ys.length ys) (hy : 0 < ys.length) (t ty : TypeId) (ht : Try.prog.underlying t = some (.slice 5)) (hl : xs.length + ys.length ≤ 1099511627776) :
    ∃ v' w', (Builtin.append_ #[t, t] ty #[.slice A xs.length xs.length, .slice A2 ys.length c2]).run Try.prog W = .ok v' w' ∧ w'.ownsRow W.heap.size 5 1 v' (xs ++ ys).length (nums .u8 (xs ++ ys)) ∧ Below W.heap.size W w' := by
  obtain ⟨i0, hi, hzz⟩ := Option.map_eq_some_iff.1 info_u8
  simp only [Prod.mk.injEq] at hzz
  obtain ⟨hz0, hz1, hz2⟩ := hzz
  cases A with
  | none =>
    obtain rfl := hA rfl
    have hn : W.ownsRow W.heap.size 5 1 (.slice none 0 0) ([] : List Int).length (nums .u8 []) := ⟨by simp [nums], .inl ⟨rfl, rfl⟩⟩
    obtain ⟨v', w', hrun, ho, hg, _⟩ := run_app hn hY (c := c2) t ty ht (by simp only [List.length_nil]; omega) (Nat.le_refl _)
    exact ⟨v', w', hrun, ho, below_grown (Below.refl _ _) hg hn (Nat.le_refl _)⟩
  | some ad =>
    obtain ⟨a2, rfl, hnews⟩ := cells_of_C hY hy
    have holds : ∀ j u, (nums .u8 xs)[j]? = some u → W.cell? (ad.add j) = some u := by
      intro j u hj
      have hx : 0 < xs.length := by
        rcases xs with _ | ⟨x, xs⟩
        · simp [nums] at hj
        · simp
      obtain ⟨a1, e1, h1⟩ := cells_of_C hX hx
      cases e1
      exact h1 j u hj
    obtain ⟨v', w', hrun, ho, hg⟩ := run_append_arg_grows (P := Try.prog) W t ty 5 i0 (.int .u8 0) 1 1 ht hi hz0 hz1 hz2 rfl (by decide) ad xs.length xs.length (nums .u8 xs) (by rw [nums_length, Nat.mul_one]) holds a2 ys.length c2 (nums .u8 ys) (by rw [nums_length, Nat.mul_one]) hnews (by omega) (by simp only [maxLen]; omega) (by omega)
    refine ⟨v', w', hrun, ?_, ⟨hg.os, hg.tape, hg.output, hg.size, fun k hk => hg.block k hk (fun h => by cases h)⟩⟩
    rw [List.length_append, Frm.nums_app]
    exact ho
theorem clip_calls (W : World) (A : Option Addr) (n c : Nat) (hc : n ≤ c) (hA : A = none → c = 0) : Calls Try.prog 106 #[.slice A n c] W fun e w => e = .returned (.slice A n n) ∧ w = W := by
  have h1 : (n : Int) ≤ (c : Int) := by omega
  cases A with
  | none =>
    obtain rfl := hA rfl
    obtain rfl : n = 0 := by omega
    clear hA hc h1
    go_enter Try.func106, Try.ntmps106
    go_wp2
    go_ret
    exact ⟨rfl, rfl⟩
  | some ad =>
    clear hA
    go_enter Try.func106, Try.ntmps106
    go_wp2
    go_ret
    exact ⟨by simp, rfl⟩
theorem wpo_app {o : Oper} {a : Act} {K : Act → World → Prop} {Q : Exit → Act → World → Prop} {W w1 : World} {x y v1 : Value} (s z : Operand) (t : TypeId) (hop : o.op = .call { callee := .builtin .append, args := #[s, z], argTypes := #[t, t] }) (hs : a.eval s = x) (hz : a.eval z = y) (hrun : (Builtin.append_ #[t, t] o.type #[x, y]).run Try.prog W = .ok v1 w1) (h : K (a.put o.dst v1) w1) : o.wp Try.prog a W K Q := by
  unfold Oper.wp
  simp [execOp, hop, resolve, invoke, builtin, hs, hz, hrun, Result.andThen]
  exact h
theorem rw_own {W : World} {B : Nat} {v : Value} {d : ByteArray} (h : W.ownsRow B 5 1 v d.size (nums .u8 (bytesOf d))) : Rw W (fun k => B ≤ k ∧ v.ownBlock = some k) v d := by
  obtain ⟨A, c, rfl, hc⟩ := Frm.own_slice h
  refine ⟨A, c, rfl, hc, ?_, fun W' hW => ?_⟩
  · rintro rfl
    rcases h.2 with ⟨hv, _⟩ | ⟨g, cap, cur, hv, _⟩
    · injection hv
    · injection hv with hv
      cases hv
  · have h2 : W'.ownsRow B 5 1 (.slice A d.size c) d.size (nums .u8 (bytesOf d)) := own_move h fun k hk => by
      obtain ⟨cs, hcs⟩ := own_typed h k hk
      exact hW k ⟨own_base h k hk, hk⟩ (blk_lt hcs)
    have hl := bytesOf_length d
    rw [← hl] at h2 ⊢
    exact C_own h2
theorem Rw.grow {W : World} {R R' : Nat → Prop} {v : Value} {d : ByteArray} (h : Rw W R v d) (hR : ∀ k, R k → R' k) : Rw W R' v d := h.keep (fun _ _ _ => rfl) hR
theorem Rw.below {W W' : World} {R : Nat → Prop} {v : Value} {d : ByteArray} (h : Rw W R v d) (hB : Below W.heap.size W W') : Rw W' R v d := h.keep (fun k _ hl => hB.block k hl) fun _ h => h
theorem clone_any {W : World} {R : Nat → Prop} {v : Value} {d : ByteArray} (h : Rw W R v d) (hl : d.size ≤ 1099511627776) : Calls Try.prog 57 #[v] W fun e w => ∃ v', e = .returned v' ∧ w.ownsRow W.heap.size 5 1 v' d.size (nums .u8 (bytesOf d)) ∧ Below W.heap.size W w := by
  obtain ⟨A, c, rfl, hc, hA, hF⟩ := h
  have hbl := bytesOf_length d
  cases A with
  | none =>
    obtain rfl := hA rfl
    have h0 : d.size = 0 := by omega
    have hb : bytesOf d = [] := List.eq_nil_of_length_eq_zero (by omega)
    rw [h0, hb]
    clear hF hbl hc hA hb
    have hq : (binOp .eql 31 (.slice none 0 0) (.slice none 0 0)).run Try.prog W = .ok (.bool true) W := by kernel_rfl
    go_enter Try.func57, Try.ntmps57
    go_wp2
    go_ret
    exact ⟨_, rfl, ⟨by simp [nums], .inl ⟨rfl, rfl⟩⟩, Below.refl _ _⟩
  | some ad =>
    have hC := Kd.F_now hF
    rw [← hbl] at hC hl ⊢
    exact (clone_calls hC hl).mono fun e w ⟨v', h1, h2, _, h3⟩ => ⟨v', h1, h2, h3⟩
/-- A range over a map: these rows are done. -/
structure It (W : World) (R : Nat → Prop) (mp it : Nat) (rows : List Rn) (clock : Nat) (fs : Fs) (done : List Rn) : Prop where
  map : Fr0 W R mp rows clock fs
  itr : W.heap[it]? = some (.mapIter (some mp) clock (done.map (·.b)).toArray clock)
  part : ∃ left, (done ++ left).Perm rows
theorem It.keep {W W' : World} {R R' : Nat → Prop} {mp it clock : Nat} {rows done : List Rn} {fs : Fs} (h : It W R mp it rows clock fs done) (hm : W'.heap[mp]? = W.heap[mp]?) (hi : W'.heap[it]? = W.heap[it]?) (hk : ∀ k, R k → k < W.heap.size → W'.heap[k]? = W.heap[k]?) (hR : ∀ k, R k → R' k) : It W' R' mp it rows clock fs done := ⟨h.map.keep hm hk hR, hi.trans h.itr, h.part⟩
theorem It.start {W : World} {R : Nat → Prop} {mp clock : Nat} {rows : List Rn} {fs : Fs} (h : Fr0 W R mp rows clock fs) : (Instr.range 87 (.map (some mp))).run Try.prog W = .ok (.pointer (some ⟨W.heap.size, 0, none⟩)) (W.alloc (.mapIter (some mp) clock #[] clock)) ∧ It (W.alloc (.mapIter (some mp) clock #[] clock)) R mp W.heap.size rows clock fs [] :=
  ⟨run_range_map W _ _ _ mp _ clock Try.underlying87 h.blk, h.keep (heap_alloc_old W _ (blk_lt h.blk)) (fun k _ hl => heap_alloc_old W _ hl) (fun _ h => h), heap_alloc_new _ _, rows, .refl _⟩
theorem It.ne {W : World} {R : Nat → Prop} {mp it clock : Nat} {rows done : List Rn} {fs : Fs} (h : It W R mp it rows clock fs done) : it ≠ mp := by
  intro e
  have h1 := h.itr
  rw [e, h.map.blk] at h1
  cases h1
theorem left_mem {rows done : List Rn} {e : MapEntry} (h : e ∈ (leftOf (rows.map ent).toArray (done.map (·.b)).toArray).toList) : ∃ r ∈ rows, e = ent r ∧ r.b ∉ done.map (·.b) := by
  unfold leftOf at h
  simp only [Array.toList_filter, List.toList_toArray, List.mem_filter, List.mem_map, Bool.not_eq_true', List.contains_toArray] at h
  obtain ⟨⟨r, hr, rfl⟩, h2⟩ := h
  refine ⟨r, hr, rfl, fun hm => ?_⟩
  have : (done.map (·.b)).contains (ent r).born = true := List.contains_iff_mem.2 hm
  rw [this] at h2
  cases h2
theorem left_none {rows done : List Rn} (h : (leftOf (rows.map ent).toArray (done.map (·.b)).toArray).size = 0) : ∀ r ∈ rows, r.b ∈ done.map (·.b) := by
  intro r hr
  have h1 : leftOf (rows.map ent).toArray (done.map (·.b)).toArray = #[] := Array.eq_empty_of_size_eq_zero h
  unfold leftOf at h1
  rw [Array.filter_eq_empty_iff] at h1
  have := h1 (ent r) (by simpa using List.mem_map_of_mem (f := ent) hr)
  simp only [Bool.not_eq_true', List.contains_toArray, Bool.not_eq_false] at this
  exact List.contains_iff_mem.1 this
theorem It.next {W : World} {R : Nat → Prop} {mp it clock : Nat} {rows done : List Rn} {fs : Fs} (h : It W R mp it rows clock fs done) (hR : ¬ R it) :
    (done.Perm rows ∧ ∀ ty, (Instr.next (.pointer (some ⟨it, 0, none⟩)) false ty).run Try.prog W = .ok (.tuple #[.bool false]) W) ∨
    ∃ r W', (∀ ty, (Instr.next (.pointer (some ⟨it, 0, none⟩)) false ty).run Try.prog W = .ok (.tuple #[.bool true, .string r.n, r.v]) W') ∧ r ∈ rows ∧ It W' R mp it rows clock fs (done ++ [r]) ∧ (∀ k, k ≠ it → W'.heap[k]? = W.heap[k]?) ∧ W'.heap.size = W.heap.size ∧ W'.os = W.os ∧ W'.tape = W.tape ∧ W'.output = W.output := by
  have hold : ∀ x ∈ (rows.map ent).toArray.toList, x.born < clock := by
    intro x hx
    obtain ⟨r, hr, rfl⟩ := List.mem_map.1 (by simpa using hx)
    exact h.map.old r hr
  obtain ⟨left, hleft⟩ := h.part
  have hnd : ((done ++ left).map (·.b)).Nodup := (hleft.map _).nodup_iff.2 h.map.born
  rcases run_next_at (P := Try.prog) W 0 it mp clock clock _ _ clock h.itr h.map.blk hold (Nat.le_refl _) with ⟨h0, hrun⟩ | ⟨e, he, w1, hw, hrun⟩
  · refine .inl ⟨?_, fun _ => hrun⟩
    have hall := left_none h0
    rcases left with _ | ⟨x, left⟩
    · simpa using hleft
    · exfalso
      rw [List.map_append, List.nodup_append] at hnd
      have h1 := hall x (hleft.subset (by simp))
      exact hnd.2.2 _ h1 x.b (by simp) rfl
  · obtain ⟨r, hr, rfl, hnot⟩ := left_mem he
    have hs : w1.heap = W.heap ∧ w1.os = W.os ∧ w1.tape = W.tape ∧ w1.output = W.output := by rcases hw with rfl | rfl <;> exact ⟨rfl, rfl, rfl, rfl⟩
    have hlt : it < w1.heap.size := by rw [hs.1]; exact blk_lt h.itr
    have hkeep : ∀ k, k ≠ it → (ChangeMaps.setBlock w1 it (.mapIter (some mp) clock ((done.map (·.b)).toArray.push (ent r).born) clock)).heap[k]? = W.heap[k]? := fun k hk => by
      show (w1.heap.setIfInBounds it _)[k]? = _
      rw [Array.getElem?_setIfInBounds_ne (Ne.symm hk), hs.1]
    refine .inr ⟨r, _, fun _ => hrun, hr, ⟨h.map.keep (hkeep mp (Ne.symm h.ne)) (fun k hk _ => hkeep k fun e => hR (e ▸ hk)) (fun _ h => h), ?_, ?_⟩, hkeep, ?_, hs.2.1, hs.2.2.1, hs.2.2.2⟩
    · show (w1.heap.setIfInBounds it _)[it]? = _
      simp [hlt, ent]
    · have hr2 : r ∈ done ++ left := hleft.symm.subset hr
      rcases List.mem_append.1 hr2 with hd | hd
      · exact absurd (List.mem_map_of_mem hd) hnot
      · obtain ⟨a, b, rfl⟩ := List.append_of_mem hd
        refine ⟨a ++ b, List.Perm.trans ?_ hleft⟩
        rw [List.append_assoc]
        exact List.Perm.append_left _ (show (r :: (a ++ b)).Perm (a ++ r :: b) from List.perm_middle.symm)
    · show (w1.heap.setIfInBounds it _).size = _
      rw [Array.size_setIfInBounds, hs.1]
theorem It.entry {W : World} {R : Nat → Prop} {mp it clock : Nat} {rows done : List Rn} {fs : Fs} {r : Rn} (h : It W R mp it rows clock fs (done ++ [r])) (hr : r ∈ rows) : (Instr.entry (.pointer (some ⟨it, 0, none⟩))).run Try.prog W = .ok (.tuple #[.string r.n, r.v]) W := by
  have hi := h.itr
  rw [List.map_append, List.map_cons, List.map_nil, ← List.push_toArray] at hi
  refine run_entry_at (P := Try.prog) W it mp clock (done.map (·.b)).toArray (rows.map ent).toArray clock (ent r) hi h.map.blk ?_ ?_
  · simpa using List.mem_map_of_mem (f := ent) hr
  · have : (rows.map ent).toArray.toList.map (·.born) = rows.map (·.b) := by simp [ent, Function.comp_def]
    rw [this]
    exact h.map.born
end Gd

namespace Gd
open Go.Proofs.Ytidijiijciokpaa.Blocks Frm
set_option maxRecDepth 100000
def sumR (rows : List Rn) : Nat := taken (rows.map nd)
theorem sumR_snoc (rows : List Rn) (r : Rn) : sumR (rows ++ [r]) = sumR rows + (r.n.size + r.d.size) := by simp [sumR, taken, nd]
theorem sumR_sub {a b c : List Rn} (h : (a ++ b).Perm c) : sumR a ≤ sumR c := by
  have h1 : sumR (a ++ b) = sumR c := taken_perm (h.map _)
  simp only [sumR, taken, List.map_append, List.sum_append] at h1 ⊢
  omega
theorem ret_nat {a b : Nat} (h : a = b) : Ending.returned (.int .i64 ((a : Nat) : Int)) = .returned (.int .i64 ((b : Nat) : Int)) := by rw [h]
/-- How many rows a range has still to go. -/
def itLeft (n it : Nat) (w : World) : Nat := match w.heap[it]? with
  | some (.mapIter _ _ seen _) => n - seen.size
  | _ => 0
theorem It.left {W : World} {R : Nat → Prop} {mp it clock : Nat} {rows done : List Rn} {fs : Fs} (h : It W R mp it rows clock fs done) : itLeft rows.length it W = rows.length - done.length := by
  unfold itLeft
  rw [h.itr]
  simp
theorem It.len {W : World} {R : Nat → Prop} {mp it clock : Nat} {rows done : List Rn} {fs : Fs} (h : It W R mp it rows clock fs done) : done.length ≤ rows.length := by
  obtain ⟨left, hl⟩ := h.part
  have := hl.length_eq
  rw [List.length_append] at this
  omega
set_option maxHeartbeats 1000000 in
theorem takes_calls {W : World} {R : Nat → Prop} {mp : Nat} {fs : Fs} (h : Fm W R mp fs) (hR : ∀ k, R k → k < W.heap.size) (hl : taken fs ≤ 1099511627776) : Calls Try.prog 55 #[.map (some mp)] W fun e w' => e = .returned (.int .i64 ((taken fs : Nat) : Int)) ∧ Below W.heap.size W w' := by
  obtain ⟨rows, clock, h⟩ := h
  have hst : sumR rows = taken fs := taken_perm h.perm
  have hst2 := It.start h
  obtain ⟨hr, hit⟩ := hst2
  have HI := Aside0.mk hit
  have HT := Aside0.mk (And.intro hst hl)
  have HRR : Aside0 (¬ R W.heap.size) := ⟨fun q => by have := hR _ q; omega⟩
  have HB := Aside0.mk (below_alloc (Below.refl W.heap.size W) (.mapIter (some mp) clock #[] clock))
  clear h hR hst hl hit
  go_enter Try.func55, Try.ntmps55
  go_wp2
  generalize W.alloc (.mapIter (some mp) clock #[] clock) = w1 at HI HB ⊢
  go_loopw [3] (fun v wr => ∃ done, v = .int .i64 ((sumR done : Nat) : Int) ∧ Aside0 (It wr R mp W.heap.size rows clock fs done ∧ Below W.heap.size W wr)) (fun _ wr => itLeft rows.length W.heap.size wr)
  case atStart => exact ⟨[], rfl, ⟨HI.out, HB.out⟩⟩
  case round =>
    obtain ⟨done, rfl, HP⟩ := hrel
    rcases HP.out.1.next HRR.out with ⟨hp, hn⟩ | ⟨r, w2, hn, hr, hi2, hk, hz, ho, htp, hou⟩
    · have HE := Aside0.mk (show sumR done = taken fs from (taken_perm (hp.map nd)).trans HT.out.1)
      clear hp HI HB
      go_wp2
      go_ret
      exact ⟨ret_nat HE.out, HP.out.2⟩
    · have he := hi2.entry hr
      obtain ⟨A, c, hv, _⟩ := hi2.map.row r hr
      rw [hv] at hn he
      have hle := sumR_sub (hi2.part.choose_spec)
      rw [sumR_snoc, HT.out.1] at hle
      have h9 := HT.out.2
      have HQ := Aside0.mk (And.intro hi2 (show Below W.heap.size W w2 from ⟨ho.trans HP.out.2.os, htp.trans HP.out.2.tape, hou.trans HP.out.2.output, by rw [hz]; exact HP.out.2.size, fun k hkk => (hk k (by omega)).trans (HP.out.2.block k hkk)⟩))
      have s1 : IntKind.i64.wrap ((r.n.size : Int) + (r.d.size : Int)) = (r.n.size : Int) + (r.d.size : Int) := IntWalk.i64_in _ (by omega)
      have s2 : IntKind.i64.wrap (((sumR done : Nat) : Int) + ((r.n.size : Int) + (r.d.size : Int))) = ((sumR done : Nat) : Int) + ((r.n.size : Int) + (r.d.size : Int)) := IntWalk.i64_in _ (by omega)
      have HS := Aside0.mk (sumR_snoc done r)
      have HM := Aside0.mk (show itLeft rows.length W.heap.size w2 < itLeft rows.length W.heap.size wr by
        rw [hi2.left, HP.out.1.left]
        have := hi2.len
        rw [List.length_append, List.length_singleton] at this ⊢
        omega)
      clear hi2 hk hz ho htp hou hle h9 hv HI HB
      go_wp2
      go_roundw
      case rel => exact ⟨done ++ [r], by rw [HS.out]; push_cast; rfl, HQ⟩
      case measure => exact HM.out
theorem It.fresh {W : World} {R : Nat → Prop} {mp it clock : Nat} {rows done : List Rn} {fs : Fs} {r : Rn} (h : It W R mp it rows clock fs (done ++ [r])) : ∀ p ∈ done.map nd, p.1 ≠ r.n := by
  obtain ⟨left, hl⟩ := h.part
  have h1 : ((done ++ [r] ++ left).map nd).Perm fs := (hl.map nd).trans h.map.perm
  have h2 := (h1.pairwise_iff fun h => Ne.symm h).2 h.map.srt.nodup
  rw [List.map_append, List.map_append, List.pairwise_append] at h2
  have h3 := h2.1
  rw [List.pairwise_append] at h3
  exact fun p hp => h3.2.2 p hp (nd r) (by simp)
/-- A copy under way. -/
structure Cp (W wr : World) (R : Nat → Prop) (mp out it : Nat) (rows : List Rn) (clock : Nat) (fs : Fs) (done : List Rn) (acc : Fs) : Prop where
  itr : It wr R mp it rows clock fs done
  om : Fm wr (fun k => W.heap.size ≤ k ∧ k ≠ out ∧ k ≠ it) out acc
  perm : acc.Perm (done.map nd)
  bel : Below W.heap.size W wr
  ne : out ≠ it
  ge : W.heap.size ≤ out
  gi : W.heap.size ≤ it
  lt : mp < W.heap.size
  rl : ∀ k, R k → k < W.heap.size
  sm : ∀ r ∈ rows, r.d.size ≤ 1099511627776
theorem Cp.step {W wr w2 w3 : World} {R : Nat → Prop} {mp out it clock : Nat} {rows done : List Rn} {fs acc : Fs} {r : Rn} {v' : Value} (h : Cp W wr R mp out it rows clock fs done acc) (hi : It w2 R mp it rows clock fs (done ++ [r])) (hk : ∀ k, k ≠ it → w2.heap[k]? = wr.heap[k]?) (hz : w2.heap.size = wr.heap.size) (ho : w2.os = wr.os) (htp : w2.tape = wr.tape) (hou : w2.output = wr.output)
    (hv : w3.ownsRow w2.heap.size 5 1 v' r.d.size (nums .u8 (bytesOf r.d))) (hB : Below w2.heap.size w2 w3) :
    ∃ es n, (Instr.mapUpdate 87 (.map (some out)) (.string r.n) v').run Try.prog w3 = .ok () { w3 with heap := w3.heap.setIfInBounds out (.map es n) } ∧ Cp W { w3 with heap := w3.heap.setIfInBounds out (.map es n) } R mp out it rows clock fs (done ++ [r]) (put acc r.n r.d) := by
  have hlo := h.om.lt
  have hli := blk_lt h.itr.itr
  have hRo : ¬ R out := fun q => by have := h.rl _ q; have := h.ge; omega
  have hRi : ¬ R it := fun q => by have := h.rl _ q; have := h.gi; omega
  have hout3 : Fm w3 (fun k => W.heap.size ≤ k ∧ k ≠ out ∧ k ≠ it) out acc := by
    refine (h.om.keep (W' := w2) (hk _ h.ne) (fun k q _ => hk k q.2.2) (fun _ q => q)).keep (hB.block _ (by omega)) (fun k _ hl => hB.block k hl) (fun _ q => q)
  have hrw : Rw w3 (fun k => W.heap.size ≤ k ∧ k ≠ out ∧ k ≠ it) v' r.d := (rw_own hv).grow fun k q => by have := h.bel.size; have := q.1; omega
  obtain ⟨es, n, hrun, hnew⟩ := hout3.store (s := r.n) hrw (fun q => q.2.1 rfl)
  refine ⟨es, n, hrun, ?_, hnew, ?_, ?_, h.ne, h.ge, h.gi, h.lt, h.rl, h.sm⟩
  · have hi3 := hi.keep (W' := w3) (hB.block _ (by have := h.lt; have := h.bel.size; omega)) (hB.block _ (by omega)) (fun k _ hl => hB.block k hl) (fun _ q => q)
    exact hi3.keep (setMap_ne _ _ _ (by have := h.lt; have := h.ge; omega)) (setMap_ne _ _ _ (Ne.symm h.ne)) (fun k q _ => setMap_ne _ _ _ (fun e => hRo (e ▸ q))) (fun _ q => q)
  · refine (put_perm _ _ h.om.srt).trans ?_
    have hf : ∀ p ∈ acc, p.1 ≠ r.n := fun p hp => hi.fresh p (h.perm.subset hp)
    rw [del_notin hf, List.map_append]
    exact (h.perm.cons _).trans (List.perm_append_singleton _ _).symm
  · have hb := h.bel
    refine ⟨hB.os.trans (ho.trans hb.os), hB.tape.trans (htp.trans hb.tape), hB.output.trans (hou.trans hb.output), ?_, fun k hkk => ?_⟩
    · show W.heap.size ≤ (w3.heap.setIfInBounds out _).size
      rw [Array.size_setIfInBounds]
      have := hB.size
      have := hb.size
      omega
    · have h1 := h.ge
      have h2 := h.gi
      have h3 := hb.size
      exact (setMap_ne _ _ _ (by omega)).trans ((hB.block k (by omega)).trans ((hk k (by omega)).trans (hb.block k hkk)))
set_option maxHeartbeats 1000000 in
theorem copied_calls {W : World} {R : Nat → Prop} {mp : Nat} {fs : Fs} (h : Fm W R mp fs) (hR : ∀ k, R k → k < W.heap.size) (hl : taken fs ≤ 1099511627776) : Calls Try.prog 54 #[.map (some mp)] W fun e w' => ∃ out R', e = .returned (.map (some out)) ∧ Fm w' R' out fs ∧ (∀ k, R' k → W.heap.size ≤ k ∧ k ≠ out ∧ k < w'.heap.size) ∧ W.heap.size ≤ out ∧ Below W.heap.size W w' := by
  have hmm := fun t w => run_makeMap (P := Try.prog) t w
  obtain ⟨rows, clock, h⟩ := h
  have hlt := blk_lt h.blk
  have h1 : Fr0 (W.alloc (.map #[] 0)) R mp rows clock fs := h.keep (heap_alloc_old W _ hlt) (fun k _ hl => heap_alloc_old W _ hl) (fun _ h => h)
  obtain ⟨hr, hit⟩ := It.start h1
  have hsz : (W.alloc (.map #[] 0)).heap.size = W.heap.size + 1 := World.size_alloc _ _
  have hsm : ∀ r ∈ rows, r.d.size ≤ 1099511627776 := fun r hr => by
    have h2 := taken_mem (h.perm.subset (List.mem_map_of_mem hr))
    have h3 : (nd r).1.size + (nd r).2.size = r.n.size + r.d.size := rfl
    omega
  rw [hsz] at hr hit
  have hp := h.perm
  have hs := h.srt
  have HI := Aside0.mk (show Cp W ((W.alloc (.map #[] 0)).alloc (.mapIter (some mp) clock #[] clock)) R mp W.heap.size (W.heap.size + 1) rows clock fs [] [] from ⟨hit, Fm.new _ _ 0 ((heap_alloc_old _ _ (by rw [hsz]; omega)).trans (heap_alloc_new _ _)), .refl _, below_alloc (below_alloc (Below.refl W.heap.size W) _) _, by omega, Nat.le_refl _, by omega, hlt, hR, hsm⟩)
  have HRR : Aside0 (¬ R (W.heap.size + 1)) := ⟨fun q => by have := hR _ q; omega⟩
  have HP := Aside0.mk (And.intro hp hs)
  clear h hR hit h1 hlt hl hsm hp hs
  go_enter Try.func54, Try.ntmps54
  go_wp2
  clear hr
  generalize (W.alloc (.map #[] 0)).alloc (.mapIter (some mp) clock #[] clock) = w1 at HI ⊢
  go_loopw [4] (fun _ wr => ∃ done acc, Aside0 (Cp W wr R mp W.heap.size (W.heap.size + 1) rows clock fs done acc)) (fun _ wr => itLeft rows.length (W.heap.size + 1) wr)
  case atStart => exact ⟨[], [], HI⟩
  case round =>
    obtain ⟨done, acc, HC⟩ := hrel
    rcases HC.out.itr.next HRR.out with ⟨hp, hn⟩ | ⟨r, w2, hn, hr, hi2, hk, hz, ho, htp, hou⟩
    · have HE := Aside0.mk (show acc = fs from srt_ext HC.out.om.srt HP.out.2 (HC.out.perm.trans ((hp.map nd).trans HP.out.1)))
      clear hp HI
      go_wp2
      go_ret
      refine ⟨_, fun k => (W.heap.size ≤ k ∧ k ≠ W.heap.size ∧ k ≠ W.heap.size + 1) ∧ k < wr.heap.size, rfl, ?_, fun k q => ⟨q.1.1, q.1.2.1, q.2⟩, Nat.le_refl _, HC.out.bel⟩
      obtain ⟨rows', c', hf⟩ := HE.out ▸ HC.out.om
      exact ⟨rows', c', hf.blk, hf.old, hf.born, fun r hr => (hf.row r hr).bound, hf.perm, hf.srt⟩
    · have he := hi2.entry hr
      have HRW := Aside0.mk (hi2.map.row r hr)
      have HS := Aside0.mk (HC.out.sm r hr)
      have HST := Aside0.mk (fun (w3 : World) (v' : Value) => HC.out.step (w3 := w3) (v' := v') hi2 hk hz ho htp hou)
      have HM := Aside0.mk (show itLeft rows.length (W.heap.size + 1) w2 < itLeft rows.length (W.heap.size + 1) wr by
        rw [hi2.left, HC.out.itr.left]
        have := hi2.len
        rw [List.length_append, List.length_singleton] at this ⊢
        omega)
      clear hi2 hk hz ho htp hou HI hr
      go_wp2_with (first | (go_at_call 57; refine (clone_any HRW.out HS.out).mono ?_; rintro e w3 ⟨v3, rfl, hv3, hb3⟩; obtain ⟨es, n, hmu, hcp⟩ := HST.out w3 v3 hv3 hb3; (have HCP := Aside0.mk hcp); clear hcp hv3 hb3) | fail)
      go_roundw
      case rel => exact ⟨_, _, HCP⟩
      case measure =>
        have h1 := HM.out
        rw [HC.out.itr.left] at h1 ⊢
        rw [HCP.out.itr.left]
        have := HCP.out.itr.len
        rw [List.length_append, List.length_singleton] at this ⊢
        omega
end Gd

namespace Gd
open Go.Proofs.Ytidijiijciokpaa.Blocks Frm
set_option maxRecDepth 100000
theorem size_u8 : ∃ i, Try.prog.info? 5 = some i ∧ i.size = 1 := by
  obtain ⟨i0, hi, hzz⟩ := Option.map_eq_some_iff.1 info_u8
  simp only [Prod.mk.injEq] at hzz
  exact ⟨i0, hi, hzz.2.1⟩
theorem add_zero' (A : Option Addr) : A.map (·.add 0) = A := by
  cases A with
  | none => rfl
  | some a => simp [Addr.add]
theorem slice_h (W : World) (A : Option Addr) (n c k : Nat) (h : k ≤ c) : (Instr.slice 31 (.slice A n c) none (some (.int .i64 (k : Int))) none).run Try.prog W = .ok (.slice A k c) W := by
  obtain ⟨i0, hi, hs⟩ := size_u8
  have hel : Try.prog.elem 31 = 5 := by simp [Program.elem, Try.underlying31]
  have hu : Try.prog.underlying 31 = some (.slice (Try.prog.elem 31)) := by rw [hel]; exact Try.underlying31
  rw [run_slice_h W 31 A n c hu .i64 (k : Int) (Int.natCast_nonneg _) (by omega), hel]
  simp [sizeOf, typeInfo, hi, hs, sliced, Result.andThen, add_zero']
theorem slice_hm (W : World) (A : Option Addr) (n c k : Nat) (h : k ≤ c) : (Instr.slice 31 (.slice A n c) none (some (.int .i64 (k : Int))) (some (.int .i64 (k : Int)))).run Try.prog W = .ok (.slice A k k) W := by
  obtain ⟨i0, hi, hs⟩ := size_u8
  have hel : Try.prog.elem 31 = 5 := by simp [Program.elem, Try.underlying31]
  have hu : Try.prog.underlying 31 = some (.slice (Try.prog.elem 31)) := by rw [hel]; exact Try.underlying31
  rw [run_slice_hm W 31 A n c hu .i64 .i64 (k : Int) (k : Int) (Int.natCast_nonneg _) (Int.le_refl _) (by omega), hel]
  simp [sizeOf, typeInfo, hi, hs, sliced, Result.andThen, add_zero']
theorem bytes_cut (d : ByteArray) (k : Nat) : bytesOf (cutB d k) = (bytesOf d).take k := by simp [bytesOf, cutB, List.map_take]
theorem bytes_app (d e : ByteArray) : bytesOf (apB d e) = bytesOf d ++ bytesOf e := by simp [bytesOf, apB]
theorem bytes_inj {d e : ByteArray} (h : bytesOf d = bytesOf e) : d = e := by
  apply key_inj
  unfold bytesOf at h
  exact List.map_inj_right (fun a b q => by
    have := Int.ofNat_inj.1 q
    exact UInt8.toNat_inj.1 this) |>.1 h
theorem Rw.cut {W : World} {R : Nat → Prop} {A : Option Addr} {c : Nat} {d : ByteArray} (h : Rw W R (.slice A d.size c) d) {k : Nat} (hk : k ≤ d.size) (c' : Nat) (hc : k ≤ c') (hc' : c' ≤ c) : Rw W R (.slice A k c') (cutB d k) := by
  obtain ⟨A', c0, e, h1, h2, h3⟩ := h
  cases e
  have hs : (cutB d k).size = k := by rw [cutB_size]; omega
  refine ⟨A, c', by rw [hs], by omega, fun q => by have := h2 q; omega, ?_⟩
  rw [← bytesOf_length] at h3
  have h4 := Kd.F_take (m := k) h3 (by rw [bytesOf_length]; exact hk)
  rw [bytes_cut, hs]
  have hl : ((bytesOf d).take k).length = k := by rw [List.length_take, bytesOf_length]; omega
  rwa [hl] at h4
theorem Rw.form {W : World} {R : Nat → Prop} {v : Value} {d : ByteArray} (h : Rw W R v d) : ∃ A c, v = .slice A d.size c ∧ d.size ≤ c := by
  obtain ⟨A, c, e, h1, _⟩ := h
  exact ⟨A, c, e, h1⟩
theorem apB_nil (d b : ByteArray) (h : b.size = 0) : apB d b = d := by
  apply key_inj
  have : b.data.toList = [] := List.eq_nil_of_length_eq_zero (by rw [size_list]; exact h)
  simp [apB, key, this]
theorem app_rw {W : World} {R Q : Nat → Prop} {A A2 : Option Addr} {c c2 : Nat} {d b : ByteArray} (h : Rw W R (.slice A d.size c) d) (hb : Rw W Q (.slice A2 b.size c2) b) (ty : TypeId) (hl : d.size + b.size ≤ 1099511627776) :
    ∃ v' w', (Builtin.append_ #[31, 31] ty #[.slice A d.size d.size, .slice A2 b.size c2]).run Try.prog W = .ok v' w' ∧ Rw w' (fun j => R j ∨ W.heap.size ≤ j) v' (apB d b) ∧ Below W.heap.size W w' := by
  obtain ⟨A', c0, e, h1, h2, h3⟩ := h
  cases e
  obtain ⟨A2', c20, e2, h12, h22, h32⟩ := hb
  cases e2
  by_cases h0 : b.size = 0
  · obtain ⟨i0, hi, hs⟩ := size_u8
    have hsrc : Src Try.prog i0.size 31 (.slice A2 0 c2) 0 [] W := by
      cases A2 with
      | none => exact Src.ofNil W Try.underlying31 c2
      | some a => exact Src.ofSlice W Try.underlying31 a 0 c2 [] (by simp) (by simp) (by simp)
    have hr := run_append_nothing W 31 31 ty 5 i0 Try.underlying31 hi A d.size d.size (Nat.le_refl _) _ hsrc
    rw [h0]
    refine ⟨_, _, hr, ?_, Below.refl _ _⟩
    rw [apB_nil d b h0]
    exact ⟨A, d.size, rfl, Nat.le_refl _, fun q => by have := h2 q; omega, Kd.F_mono h3 fun _ q => .inl q⟩
  · have hx := Kd.F_now h3
    have hy := Kd.F_now h32
    have e1 := bytesOf_length d
    have e2 := bytesOf_length b
    have hA : A = none → bytesOf d = [] := fun q => List.eq_nil_of_length_eq_zero (by have := h2 q; omega)
    have hpos : 0 < (bytesOf b).length := by omega
    rw [← e1] at hx
    rw [← e2] at hy
    obtain ⟨v', w', hrun, ho, hB⟩ := run_fresh (c2 := c2) hx hA hy hpos 31 ty Try.underlying31 (by omega)
    rw [e1, e2] at hrun
    refine ⟨v', w', hrun, ?_, hB⟩
    rw [← bytes_app, bytesOf_length] at ho
    exact (rw_own ho).grow fun k q => .inr q.1
/-- All blocks but b lie as they lay. -/
structure But (b : Nat) (W w' : World) : Prop where
  os : w'.os = W.os
  tape : w'.tape = W.tape
  output : w'.output = W.output
  size : W.heap.size ≤ w'.heap.size
  block : ∀ k, k < W.heap.size → k ≠ b → w'.heap[k]? = W.heap[k]?
theorem But.put {W W1 : World} (mp : Nat) (o : Obj) (hB : Below W.heap.size W W1) : But mp W { W1 with heap := W1.heap.setIfInBounds mp o } :=
  ⟨hB.os, hB.tape, hB.output, by show W.heap.size ≤ (W1.heap.setIfInBounds mp o).size; rw [Array.size_setIfInBounds]; exact hB.size, fun k hk hne => (setMap_ne W1 mp o hne).trans (hB.block k hk)⟩
/-- A map's change: its rows of bytes stand in R', the old ones and new ones. -/
structure Chg (W w' : World) (R R' : Nat → Prop) (mp : Nat) : Prop where
  sub : ∀ k, R k → R' k
  new : ∀ k, R' k → R k ∨ W.heap.size ≤ k
  lt : ∀ k, R' k → k < w'.heap.size
  but : But mp W w'
theorem Fm.bound {W : World} {R : Nat → Prop} {mp : Nat} {fs : Fs} (h : Fm W R mp fs) : Fm W (fun k => R k ∧ k < W.heap.size) mp fs := by
  obtain ⟨rows, c, h⟩ := h
  exact ⟨rows, c, h.blk, h.old, h.born, fun r hr => (h.row r hr).bound, h.perm, h.srt⟩
theorem Fm.below {W W' : World} {R : Nat → Prop} {mp : Nat} {fs : Fs} (h : Fm W R mp fs) (hB : Below W.heap.size W W') : Fm W' R mp fs := h.keep (hB.block _ h.lt) (fun k _ hl => hB.block k hl) fun _ q => q
/-- A store's change. -/
theorem Chg.store {W W1 : World} {R : Nat → Prop} {mp : Nat} {fs : Fs} {es : Array MapEntry} {n : Nat} (hR : ∀ k, R k → k < W.heap.size) (hB : Below W.heap.size W W1) (hf : Fm { W1 with heap := W1.heap.setIfInBounds mp (.map es n) } (fun k => R k ∨ W.heap.size ≤ k) mp fs) : ∃ R', Fm { W1 with heap := W1.heap.setIfInBounds mp (.map es n) } R' mp fs ∧ Chg W { W1 with heap := W1.heap.setIfInBounds mp (.map es n) } R R' mp :=
  ⟨_, hf.bound, fun k q => ⟨.inl q, by
    show k < (W1.heap.setIfInBounds mp _).size
    rw [Array.size_setIfInBounds]
    exact Nat.lt_of_lt_of_le (hR k q) hB.size⟩, fun k q => q.1, fun k q => q.2, But.put mp _ hB⟩
set_option maxHeartbeats 1000000 in
theorem do_created {W : World} {R : Nat → Prop} {mp : Nat} {fs : Fs} (h : Fm W R mp fs) (hR : ∀ k, R k → k < W.heap.size) (hn : ¬ R mp) (n : ByteArray) (k : Int) : Calls Try.prog 92 #[.map (some mp), .iface 130 (.agg #[.string n]), .int .i64 k] W fun e w' => e = .returned (.tuple #[]) ∧ ∃ R', Fm w' R' mp (put fs n ⟨#[]⟩) ∧ Chg W w' R R' mp := by
  have hta : ∀ w, (Instr.typeAssert (.iface 130 (.agg #[.string n])) 92 130 true).run Try.prog w = .ok (.tuple #[.agg #[.string n], .bool true]) w := fun _ => by kernel_rfl
  have hB := below_alloc (Below.refl W.heap.size W) (Obj.cells #[Value.string n] 130)
  have h1 := (h.below hB).keep (R' := fun k => R k ∨ W.heap.size ≤ k) rfl (fun _ _ _ => rfl) fun _ q => .inl q
  have hlt := h.lt
  have hv : Rw (W.alloc (Obj.cells #[Value.string n] 130)) (fun k => R k ∨ W.heap.size ≤ k) (.slice none 0 0) ⟨#[]⟩ := ⟨none, 0, rfl, Nat.le_refl _, fun _ => rfl, fun W' _ => Kd.C_nil _ _⟩
  obtain ⟨es, m, hmu, hf⟩ := h1.store (s := n) hv (fun q => by rcases q with q | q; exact hn q; omega)
  have HP := Aside0.mk (Chg.store hR hB hf)
  clear h h1 hB hf hlt hv hR hn
  go_enter Try.func92, Try.ntmps92
  go_wp2
  go_end0
  exact ⟨rfl, HP.out⟩
end Gd

namespace Gd
open Go.Proofs.Ytidijiijciokpaa.Blocks Frm
set_option maxRecDepth 100000
theorem toList_data (s : ByteArray) : s.toList = s.data.toList := by
  have : ∀ (n i : Nat) (r : List UInt8), s.size - i = n → ByteArray.toList.loop s i r = r.reverse ++ s.data.toList.drop i := by
    intro n
    induction n with
    | zero =>
      intro i r h
      unfold ByteArray.toList.loop
      rw [if_neg (by omega), List.drop_of_length_le (by rw [Array.length_toList]; show s.size ≤ i; omega)]
      simp
    | succ n ih =>
      intro i r h
      unfold ByteArray.toList.loop
      rw [if_pos (by omega), ih (i + 1) _ (by omega)]
      have hi : i < s.data.toList.length := by rw [Array.length_toList]; show i < s.size; omega
      rw [List.drop_eq_getElem_cons hi]
      have hs : i < s.data.size := by simpa using hi
      have : s.get! i = s.data.toList[i] := by
        rw [show s.get! i = s.data[i]! from rfl, getElem!_pos s.data i hs]
        simp
      rw [this]
      simp
  have h := this s.size 0 [] (by omega)
  simpa [ByteArray.toList] using h
theorem toList_nil (s : ByteArray) : (s.toList = ([] : List UInt8)) ↔ s.size = 0 := by
  rw [toList_data]
  constructor
  · intro h
    have : s.data.toList.length = 0 := by rw [h]; rfl
    simpa using this
  · intro h
    have : s.data.toList.length = 0 := by simpa using h
    exact List.length_eq_zero_iff.mp this
theorem toList_beq (a b : ByteArray) : (a.toList == b.toList) = decide (a = b) := by
  rw [toList_data, toList_data]
  by_cases h : a = b
  · subst h; simp
  · rw [decide_eq_false h]
    rcases hb : (a.data.toList == b.data.toList) with _ | _
    · rfl
    · exact absurd (key_inj (eq_of_beq hb)) h
theorem wpl_delete {W w' : World} {ops : Array Oper} {rest : List Oper} {o : Oper} {a : Act} {Q : Exit → Act → World → Prop} (hgd : o.guard = none) (m x : Operand) (hop : o.op = .call { callee := .builtin .delete, args := #[m, x], argTypes := #[87, 9] }) (mp : Nat) (s : ByteArray) (hm : a.eval m = .map (some mp)) (hx : a.eval x = .string s)
    (hrun : (Builtin.delete_ #[87, 9] o.type #[.map (some mp), .string s]).run Try.prog W = .ok (.tuple #[]) w') (h : wpList Try.prog ops Q rest (a.put o.dst (.tuple #[])) w') : wpList Try.prog ops Q (o :: rest) a W := by
  refine wpList_plain hgd fun K hK => ?_
  unfold Oper.wp
  simp [execOp, hop, resolve, invoke, builtin, hm, hx, hrun, Result.andThen]
  exact hK _ _ h
theorem drop_run {W : World} {s : ByteArray} {mp : Nat} {es : Array MapEntry} {n : Nat} {ty : TypeId} (ty' : TypeId) (h : (Builtin.delete_ #[87, 9] ty #[.map (some mp), .string s]).run Try.prog W = .ok (.tuple #[]) { W with heap := W.heap.setIfInBounds mp (.map es n) }) : (Builtin.delete_ #[87, 9] ty' #[.map (some mp), .string s]).run Try.prog W = .ok (.tuple #[]) { W with heap := W.heap.setIfInBounds mp (.map es n) } := h
set_option maxHeartbeats 1000000 in
theorem do_removed {W : World} {R : Nat → Prop} {mp : Nat} {fs : Fs} (h : Fm W R mp fs) (hR : ∀ k, R k → k < W.heap.size) (hn : ¬ R mp) (n : ByteArray) (k : Int) : Calls Try.prog 92 #[.map (some mp), .iface 139 (.agg #[.string n]), .int .i64 k] W fun e w' => e = .returned (.tuple #[]) ∧ ∃ R', Fm w' R' mp (del fs n) ∧ Chg W w' R R' mp := by
  have hta : ∀ w, (Instr.typeAssert (.iface 139 (.agg #[.string n])) 92 130 true).run Try.prog w = .ok (.tuple #[.agg #[.string ⟨#[]⟩], .bool false]) w := fun _ => by kernel_rfl
  have htb : ∀ w, (Instr.typeAssert (.iface 139 (.agg #[.string n])) 92 132 true).run Try.prog w = .ok (.tuple #[.agg #[.string ⟨#[]⟩, .slice none 0 0], .bool false]) w := fun _ => by kernel_rfl
  have htc : ∀ w, (Instr.typeAssert (.iface 139 (.agg #[.string n])) 92 136 true).run Try.prog w = .ok (.tuple #[.agg #[.string ⟨#[]⟩, .int .i64 0], .bool false]) w := fun _ => by kernel_rfl
  have htd : ∀ w, (Instr.typeAssert (.iface 139 (.agg #[.string n])) 92 138 true).run Try.prog w = .ok (.tuple #[.agg #[.string ⟨#[]⟩, .string ⟨#[]⟩], .bool false]) w := fun _ => by kernel_rfl
  have hte : ∀ w, (Instr.typeAssert (.iface 139 (.agg #[.string n])) 92 139 true).run Try.prog w = .ok (.tuple #[.agg #[.string n], .bool true]) w := fun _ => by kernel_rfl
  have hB := below_alloc (Below.refl W.heap.size W) (Obj.cells #[Value.string n] 139)
  have h1 := (h.below hB).keep (R' := fun k => R k ∨ W.heap.size ≤ k) rfl (fun _ _ _ => rfl) fun _ q => .inl q
  have hlt := h.lt
  obtain ⟨es, m, hmu_, hf⟩ := h1.drop (s := n) (fun q => by rcases q with q | q; exact hn q; omega) 0
  have hmu := Aside0.mk hmu_
  have HP := Aside0.mk (Chg.store hR hB hf)
  clear h h1 hB hf hlt hR hn hmu_
  go_enter Try.func92, Try.ntmps92
  go_wp2_with (first
    | ((with_reducible refine gate_builtin (b := .delete) (xs := #[.tmp 70, .tmp 72]) rfl ?_); refine wpl_delete rfl (.tmp 70) (.tmp 72) rfl mp n ?m_ ?x_ (drop_run _ hmu.out) ?_; (case m_ => go_simp); (case x_ => go_simp))
    | fail)
  go_end0
  exact ⟨rfl, HP.out⟩
set_option maxHeartbeats 1000000 in
theorem do_renamed {W : World} {R : Nat → Prop} {mp : Nat} {fs : Fs} (h : Fm W R mp fs) (hR : ∀ k, R k → k < W.heap.size) (hn : ¬ R mp) (n to_ : ByteArray) (k : Int) (hg : get fs n ≠ none) : Calls Try.prog 92 #[.map (some mp), .iface 138 (.agg #[.string n, .string to_]), .int .i64 k] W fun e w' => e = .returned (.tuple #[]) ∧ ∃ R', Fm w' R' mp (doSt fs (.renamed n to_) 1) ∧ Chg W w' R R' mp := by
  have hta : ∀ w, (Instr.typeAssert (.iface 138 (.agg #[.string n, .string to_])) 92 130 true).run Try.prog w = .ok (.tuple #[.agg #[.string ⟨#[]⟩], .bool false]) w := fun _ => by kernel_rfl
  have htb : ∀ w, (Instr.typeAssert (.iface 138 (.agg #[.string n, .string to_])) 92 132 true).run Try.prog w = .ok (.tuple #[.agg #[.string ⟨#[]⟩, .slice none 0 0], .bool false]) w := fun _ => by kernel_rfl
  have htc : ∀ w, (Instr.typeAssert (.iface 138 (.agg #[.string n, .string to_])) 92 136 true).run Try.prog w = .ok (.tuple #[.agg #[.string ⟨#[]⟩, .int .i64 0], .bool false]) w := fun _ => by kernel_rfl
  have htd : ∀ w, (Instr.typeAssert (.iface 138 (.agg #[.string n, .string to_])) 92 138 true).run Try.prog w = .ok (.tuple #[.agg #[.string n, .string to_], .bool true]) w := fun _ => by kernel_rfl
  have hB := below_alloc (Below.refl W.heap.size W) (Obj.cells #[Value.string n, Value.string to_] 138)
  have hx0 := blk_new W (Obj.cells #[Value.string n, Value.string to_] 138)
  have h1 := (h.below hB).keep (R' := fun k => R k ∨ W.heap.size ≤ k) rfl (fun _ _ _ => rfl) fun _ q => .inl q
  have hlt := h.lt
  have hnR : ¬ (R mp ∨ W.heap.size ≤ mp) := fun q => by rcases q with q | q; exact hn q; omega
  obtain ⟨d, hd⟩ := Option.ne_none_iff_exists'.1 hg
  obtain ⟨v, hv, _, hlk⟩ := h1.look hd
  obtain ⟨es, m, hmu, hf⟩ := h1.store (s := to_) hv hnR
  obtain ⟨es2, m2, hdl_, hf2⟩ := hf.drop (s := n) hnR 0
  have hdl := Aside0.mk hdl_
  have hx1 : ({ (W.alloc (Obj.cells #[Value.string n, Value.string to_] 138)) with heap := (W.alloc (Obj.cells #[Value.string n, Value.string to_] 138)).heap.setIfInBounds mp (.map es m) } : World).heap[W.heap.size]? = some (.cells #[Value.string n, Value.string to_] 138 (0, 0)) := (setMap_ne _ _ _ (by omega)).trans hx0
  have hdat : dat fs n = d := by simp [dat, hd]
  have h1' := Aside0.mk (h.below hB)
  have HBx := Aside0.mk hB
  generalize hw1 : W.alloc (Obj.cells #[Value.string n, Value.string to_] 138) = w1 at hx0 h1 hlk hmu hf hf2 hdl hx1 hB h1' HBx
  by_cases e : n = to_
  · subst e
    have HP : Aside0 (∃ R', Fm w1 R' mp (doSt fs (.renamed n n) 1) ∧ Chg W w1 R R' mp) := ⟨⟨R, by show Fm w1 R mp (if n = n then fs else del (put fs n (dat fs n)) n); rw [if_pos rfl]; exact h1'.out, fun _ q => q, fun _ q => .inl q, fun k q => Nat.lt_of_lt_of_le (hR k q) HBx.out.size, HBx.out.os, HBx.out.tape, HBx.out.output, HBx.out.size, fun k hk _ => HBx.out.block k hk⟩⟩
    have c0 : w1.cell? ⟨W.heap.size, 0, none⟩ = some (.string n) := blk_cell hx0 0
    have c1 : w1.cell? ⟨W.heap.size, 1, none⟩ = some (.string n) := blk_cell hx0 1
    have hbn : (n == n) = true := by rw [bytes_beq, decide_eq_true rfl]
    have hbn2 : (n != n) = false := by simp [bne, hbn]
    have HW := Aside0.mk hw1
    clear h h1 hB hf hf2 hlt hR hn hnR hv hlk hmu hdl hdl_ hx0 hx1 hd hdat hw1 h1' HBx
    go_enter Try.func92, Try.ntmps92
    go_upto_region 12 with fail
    rw [HW.out]
    go_wp2
    go_end0
    exact ⟨rfl, HP.out⟩
  · have HP := Aside0.mk (show ∃ R', Fm _ R' mp (doSt fs (.renamed n to_) 1) ∧ Chg W _ R R' mp by
      simp only [doSt]
      rw [if_neg e, hdat]
      obtain ⟨R1, g1, g2⟩ := Chg.store (es := es) (n := m) hR hB hf
      refine ⟨_, hf2.bound, fun k q => ⟨.inl q, ?_⟩, fun k q => q.1, fun k q => q.2, ?_⟩
      · have := hR k q
        show k < ((w1.heap.setIfInBounds mp _).setIfInBounds mp _).size
        rw [Array.size_setIfInBounds, Array.size_setIfInBounds]
        exact Nat.lt_of_lt_of_le this hB.size
      · refine ⟨g2.but.os, g2.but.tape, g2.but.output, ?_, fun k hk hne => (setMap_ne _ _ _ hne).trans (g2.but.block k hk hne)⟩
        show W.heap.size ≤ ((w1.heap.setIfInBounds mp _).setIfInBounds mp _).size
        rw [Array.size_setIfInBounds, Array.size_setIfInBounds]
        exact hB.size)
    have c0 : w1.cell? ⟨W.heap.size, 0, none⟩ = some (.string n) := blk_cell hx0 0
    have c1 : w1.cell? ⟨W.heap.size, 1, none⟩ = some (.string to_) := blk_cell hx0 1
    have d0 := blk_cell hx1 0
    have hbn : (n == to_) = false := by rw [bytes_beq, decide_eq_false e]
    have hbn2 : (n != to_) = true := by simp [bne, hbn]
    have hbn3 : (n.toList == to_.toList) = false := by rw [toList_beq, decide_eq_false e]
    have HW := Aside0.mk hw1
    clear h h1 hB hf hf2 hlt hR hn hnR hv hdl_ hx0 hx1 hd hdat hw1 h1' HBx
    go_enter Try.func92, Try.ntmps92
    go_upto_region 12 with fail
    rw [HW.out]
    go_wp2_with (first
      | ((with_reducible refine gate_builtin (b := .delete) (xs := #[.tmp 64, .tmp 66]) rfl ?_); refine wpl_delete rfl (.tmp 64) (.tmp 66) rfl mp n ?m_ ?x_ (drop_run _ hdl.out) ?_; (case m_ => go_simp); (case x_ => go_simp))
      | fail)
    go_end0
    have HP2 := HP.out
    simp only [Array.setIfInBounds_setIfInBounds] at HP2
    exact ⟨rfl, HP2⟩
end Gd

namespace Gd
open Go.Proofs.Ytidijiijciokpaa.Blocks Frm
set_option maxRecDepth 100000
theorem blk_setMap {W : World} {k mp : Nat} {cs : Array Value} {t : TypeId} {z : Nat × Nat} (h : W.heap[k]? = some (.cells cs t z)) (hne : k ≠ mp) (o : Obj) : ({ W with heap := W.heap.setIfInBounds mp o } : World).heap[k]? = some (.cells cs t z) := (setMap_ne W mp o hne).trans h
set_option maxHeartbeats 1000000 in
theorem do_cut {W : World} {R : Nat → Prop} {mp : Nat} {fs : Fs} (h : Fm W R mp fs) (hR : ∀ k, R k → k < W.heap.size) (hn : ¬ R mp) (n : ByteArray) (c : Nat) (k : Int) (hg : get fs n ≠ none) (hc : c ≤ (dat fs n).size) (hsz : (dat fs n).size ≤ 1099511627776) : Calls Try.prog 92 #[.map (some mp), .iface 136 (.agg #[.string n, .int .i64 c]), .int .i64 k] W fun e w' => e = .returned (.tuple #[]) ∧ ∃ R', Fm w' R' mp (put fs n (cutB (dat fs n) c)) ∧ Chg W w' R R' mp := by
  have hta : ∀ w, (Instr.typeAssert (.iface 136 (.agg #[.string n, .int .i64 c])) 92 130 true).run Try.prog w = .ok (.tuple #[.agg #[.string ⟨#[]⟩], .bool false]) w := fun _ => by kernel_rfl
  have htb : ∀ w, (Instr.typeAssert (.iface 136 (.agg #[.string n, .int .i64 c])) 92 132 true).run Try.prog w = .ok (.tuple #[.agg #[.string ⟨#[]⟩, .slice none 0 0], .bool false]) w := fun _ => by kernel_rfl
  have htc : ∀ w, (Instr.typeAssert (.iface 136 (.agg #[.string n, .int .i64 c])) 92 136 true).run Try.prog w = .ok (.tuple #[.agg #[.string n, .int .i64 c], .bool true]) w := fun _ => by kernel_rfl
  have hB := below_alloc (Below.refl W.heap.size W) (Obj.cells #[Value.string n, Value.int .i64 c] 136)
  have hx0 := blk_new W (Obj.cells #[Value.string n, Value.int .i64 c] 136)
  generalize hw1 : W.alloc (Obj.cells #[Value.string n, Value.int .i64 c] 136) = w1 at hx0 hB
  have hdr : Below w1.heap.size w1 w1.drew := Drawn0.below ⟨1, rfl⟩
  have h1 := ((h.below hB).below hdr).keep (R' := fun k => R k ∨ W.heap.size ≤ k) rfl (fun _ _ _ => rfl) fun _ q => .inl q
  have hlt := h.lt
  have hnR : ¬ (R mp ∨ W.heap.size ≤ mp) := fun q => by rcases q with q | q; exact hn q; omega
  obtain ⟨d, hd⟩ := Option.ne_none_iff_exists'.1 hg
  have hdat : dat fs n = d := by simp [dat, hd]
  rw [hdat] at hc hsz ⊢
  obtain ⟨v, hv, hlks⟩ := h1.looks hd
  obtain ⟨A, cc, rfl, hcc⟩ := hv.form
  have hlk0 := (hlks w1.drew rfl).2
  have hv2 := hv.cut hc c (Nat.le_refl _) (by omega)
  obtain ⟨es, m, hmu, hf⟩ := h1.store (s := n) hv2 hnR
  have hsl := fun w => slice_hm w A d.size cc c (by omega)
  have HP := Aside0.mk (Chg.store hR (hB.trans (below_w hdr hB.size)) hf)
  have c0 : w1.cell? ⟨W.heap.size, 0, none⟩ = some (.string n) := blk_cell hx0 0
  have c1 : w1.cell? ⟨W.heap.size, 1, none⟩ = some (.int .i64 c) := blk_cell hx0 1
  have HW := Aside0.mk hw1
  have HMU := Aside0.mk hmu
  clear h h1 hB hf hlt hR hn hnR hv hv2 hlks hmu hx0 hd hdat hw1 hdr hc hcc hsz
  go_enter Try.func92, Try.ntmps92
  go_upto_region 9 with fail
  rw [HW.out]
  clear HW
  go_still_tail 12, (by kernel_rfl)
  repeat still_step
  try refine wpStill_nil ?_
  change wpList _ _ _ _ _ w1.drew
  clear c0 c1 hlk0
  have hmu := HMU.out
  generalize w1.drew = w2 at hmu HP ⊢
  clear HMU
  go_wp2
  go_end0
  exact ⟨rfl, HP.out⟩
end Gd

namespace Gd
open Go.Proofs.Ytidijiijciokpaa.Blocks Frm
set_option maxRecDepth 100000
set_option maxHeartbeats 1000000 in
theorem do_laid {W : World} {R : Nat → Prop} {mp : Nat} {fs : Fs} (h : Fm W R mp fs) (hR : ∀ k, R k → k < W.heap.size) (hn : ¬ R mp) (n b : ByteArray) (u : Value) {Q : Nat → Prop} (hu : Rw W Q u b) (k : Nat) (hk : k ≤ b.size) (hg : get fs n ≠ none) (hsz : (dat fs n).size + b.size ≤ 1099511627776) : Calls Try.prog 92 #[.map (some mp), .iface 132 (.agg #[.string n, u]), .int .i64 (k : Int)] W fun e w' => e = .returned (.tuple #[]) ∧ ∃ R', Fm w' R' mp (put fs n (apB (dat fs n) (cutB b k))) ∧ Chg W w' R R' mp := by
  obtain ⟨A2, c2, rfl, hc2⟩ := hu.form
  have hta : ∀ w, (Instr.typeAssert (.iface 132 (.agg #[.string n, .slice A2 b.size c2])) 92 130 true).run Try.prog w = .ok (.tuple #[.agg #[.string ⟨#[]⟩], .bool false]) w := fun _ => by kernel_rfl
  have htb : ∀ w, (Instr.typeAssert (.iface 132 (.agg #[.string n, .slice A2 b.size c2])) 92 132 true).run Try.prog w = .ok (.tuple #[.agg #[.string n, .slice A2 b.size c2], .bool true]) w := fun _ => by kernel_rfl
  have hB := below_alloc (Below.refl W.heap.size W) (Obj.cells #[Value.string n, .slice A2 b.size c2] 132)
  have hx0 := blk_new W (Obj.cells #[Value.string n, .slice A2 b.size c2] 132)
  generalize hw1 : W.alloc (Obj.cells #[Value.string n, .slice A2 b.size c2] 132) = w1 at hx0 hB
  have hdr : Below w1.heap.size w1 w1.drew := Drawn0.below ⟨1, rfl⟩
  have hBD := hB.trans (below_w hdr hB.size)
  have h1 := ((h.below hB).below hdr).keep (R' := fun k => R k ∨ W.heap.size ≤ k) rfl (fun _ _ _ => rfl) fun _ q => .inl q
  have hlt := h.lt
  have hnR : ¬ (R mp ∨ W.heap.size ≤ mp) := fun q => by rcases q with q | q; exact hn q; omega
  obtain ⟨d, hd⟩ := Option.ne_none_iff_exists'.1 hg
  have hdat : dat fs n = d := by simp [dat, hd]
  rw [hdat] at hsz ⊢
  obtain ⟨v, hv, hlks⟩ := h1.looks hd
  obtain ⟨A, cc, rfl, hcc⟩ := hv.form
  have hA : A = none → cc = 0 := by
    obtain ⟨A', c', e, _, q, _⟩ := hv
    cases e
    exact q
  have hvd : Rw w1.drew (fun k => R k ∨ W.heap.size ≤ k) (.slice A d.size d.size) d := by
    have := hv.cut (Nat.le_refl _) d.size (Nat.le_refl _) hcc
    rwa [cutB_all (Nat.le_refl _)] at this
  have hub : Rw w1.drew Q (.slice A2 (cutB b k).size c2) (cutB b k) := by
    have := ((hu.below hB).below hdr).cut hk c2 (by omega) (Nat.le_refl _)
    rwa [show (cutB b k).size = k by rw [cutB_size]; omega]
  obtain ⟨v4, w4, hrun, ho, hb⟩ := app_rw (ty := 31) hvd hub (by rw [cutB_size]; omega)
  rw [show (cutB b k).size = k by rw [cutB_size]; omega] at hrun
  have h4 := (h1.below hb).keep (R' := fun k => R k ∨ W.heap.size ≤ k) rfl (fun _ _ _ => rfl) fun _ q => q
  have ho4 := ho.grow (R' := fun k => R k ∨ W.heap.size ≤ k) fun j q => by
    rcases q with q | q
    · exact q
    · exact .inr (Nat.le_trans hBD.size q)
  obtain ⟨es, m, hmu, hf⟩ := h4.store (s := n) ho4 hnR
  have HP := Aside0.mk (Chg.store hR (hBD.trans (below_w hb hBD.size)) hf)
  have hsl := fun w => slice_h w A2 b.size c2 k (by omega)
  have HRUN := Aside0.mk hrun
  have HMU := Aside0.mk hmu
  have HLK := Aside0.mk (hlks w1.drew rfl).2
  have HX1 := Aside0.mk hx0
  have HXD := Aside0.mk (blk_drew hx0)
  have HX4 := Aside0.mk (blk_below (blk_drew hx0) hb)
  have HX5 := Aside0.mk (blk_setMap (blk_below (blk_drew hx0) hb) (mp := mp) (by omega) (.map es m))
  have HA := Aside0.mk (And.intro hcc hA)
  have HW := Aside0.mk hw1
  clear h h1 hB hBD hf hlt hR hn hnR hv hvd hub hu hlks hmu hx0 hd hdat hw1 hdr hc2 hcc hA hsz hg hrun ho hb h4 ho4 hk
  have hfix : ((fun _ => True) : Nat → Prop) 0 := trivial
  clear hfix
  go_enter Try.func92, Try.ntmps92
  go_upto_region 6 with fail
  rw [HW.out]
  clear HW
  refine wp_region_held_drew (S := fun w' => Aside0 (w'.heap[W.heap.size]? = some (.cells #[.string n, .slice A2 b.size c2] 132 (0, 0)))) (by kernel_rfl) ⟨HXD.out⟩ (fun hHeld => ?_)
  refine wpAnyH_take (i := 0) (oi := Oper.mk _ _ _ _ _ _) (v := ?v0) rfl (by kernel_rfl) (by kernel_rfl) (by kernel_rfl) (fun _ _ _ h => h) (Or.inl ⟨by rfl, ?hy0⟩) (by assumption) ?r0
  case hy0 => (intro w hSw; clear hSw; go_simp; (try with_reducible rfl))
  try simp only [Act.put, List.setIfInBounds_toArray, List.set_cons_zero, List.set_cons_succ]
  refine wpAnyH_take (i := 1) (oi := Oper.mk _ _ _ _ _ _) (v := ?v1) rfl (by kernel_rfl) (by kernel_rfl) (by kernel_rfl) (fun _ _ _ h => h) (Or.inl ⟨by rfl, ?hy1⟩) (by assumption) ?r1
  case hy1 => (intro w hSw; clear hSw; go_simp; (try with_reducible rfl))
  try simp only [Act.put, List.setIfInBounds_toArray, List.set_cons_zero, List.set_cons_succ]
  refine wpAnyH_take (i := 2) (oi := Oper.mk _ _ _ _ _ _) (v := ?v2) rfl (by kernel_rfl) (by kernel_rfl) (by kernel_rfl) (fun _ _ _ h => h) (Or.inl ⟨by rfl, ?hy2⟩) (by assumption) ?r2
  case hy2 => (intro w hSw; (have g0 : w.cell? ⟨W.heap.size, 0, none⟩ = some (.string n) := blk_cell hSw.out 0); clear hSw; go_simp; (try with_reducible rfl))
  try simp only [Act.put, List.setIfInBounds_toArray, List.set_cons_zero, List.set_cons_succ]
  refine wpAnyH_take (i := 3) (oi := Oper.mk _ _ _ _ _ _) (v := ?v3) rfl (by kernel_rfl) (by kernel_rfl) (by kernel_rfl) (fun _ _ _ h => h) (Or.inl ⟨by rfl, ?hy3⟩) (by assumption) ?r3
  case hy3 => (intro w hSw; clear hSw; go_simp; (try with_reducible rfl))
  try simp only [Act.put, List.setIfInBounds_toArray, List.set_cons_zero, List.set_cons_succ]
  refine wpAnyH_take (i := 4) (oi := Oper.mk _ _ _ _ _ _) (v := ?v4) rfl (by kernel_rfl) (by kernel_rfl) (by kernel_rfl) (fun _ _ _ h => h) (Or.inl ⟨by rfl, ?hy4⟩) (by assumption) ?r4
  case hy4 => (intro w hSw; clear hSw; go_simp; (try with_reducible rfl))
  try simp only [Act.put, List.setIfInBounds_toArray, List.set_cons_zero, List.set_cons_succ]
  refine wpAnyH_take (i := 5) (oi := Oper.mk _ _ _ _ _ _) (v := ?v5) rfl (by kernel_rfl) (by kernel_rfl) (by kernel_rfl) (fun _ _ _ h => h) (Or.inl ⟨by rfl, ?hy5⟩) (by assumption) ?r5
  case hy5 => (intro w hSw; (have g0 : w.cell? ⟨W.heap.size, 0, none⟩ = some (.string n) := blk_cell hSw.out 0); clear hSw; go_simp; (try with_reducible rfl))
  try simp only [Act.put, List.setIfInBounds_toArray, List.set_cons_zero, List.set_cons_succ]
  refine wpAnyH_take (i := 8) (oi := Oper.mk _ _ _ _ _ _) (v := ?v8) rfl (by kernel_rfl) (by kernel_rfl) (by kernel_rfl) (fun _ _ _ h => h) (Or.inl ⟨by rfl, ?hy8⟩) (by assumption) ?r8
  case hy8 => (intro w hSw; clear hSw; go_simp; (try with_reducible rfl))
  try simp only [Act.put, List.setIfInBounds_toArray, List.set_cons_zero, List.set_cons_succ]
  refine wpAnyH_take (i := 9) (oi := Oper.mk _ _ _ _ _ _) (v := ?v9) rfl (by kernel_rfl) (by kernel_rfl) (by kernel_rfl) (fun _ _ _ h => h) (Or.inl ⟨by rfl, ?hy9⟩) (by assumption) ?r9
  case hy9 => (intro w hSw; (have g1 : w.cell? ⟨W.heap.size, 1, none⟩ = some (.slice A2 b.size c2) := blk_cell hSw.out 1); clear hSw; go_simp; (try with_reducible rfl))
  try simp only [Act.put, List.setIfInBounds_toArray, List.set_cons_zero, List.set_cons_succ]
  refine wpAnyH_take (i := 10) (oi := Oper.mk _ _ _ _ _ _) (v := ?v10) rfl (by kernel_rfl) (by kernel_rfl) (by kernel_rfl) (fun _ _ _ h => h) (Or.inl ⟨by rfl, ?hy10⟩) (by assumption) ?r10
  case hy10 => (intro w hSw; clear hSw; go_simp; (try with_reducible rfl))
  try simp only [Act.put, List.setIfInBounds_toArray, List.set_cons_zero, List.set_cons_succ]
  refine wpAnyH_take (i := 11) (oi := Oper.mk _ _ _ _ _ _) (v := ?v11) rfl (by kernel_rfl) (by kernel_rfl) (by kernel_rfl) (fun _ _ _ h => h) (Or.inl ⟨by rfl, ?hy11⟩) (by assumption) ?r11
  case hy11 => (intro w hSw; clear hSw; go_simp; (try with_reducible rfl))
  try simp only [Act.put, List.setIfInBounds_toArray, List.set_cons_zero, List.set_cons_succ]
  clear HX1
  have HLK0 := HLK
  generalize w1.drew = w2 at HXD HRUN HLK hHeld ⊢
  clear HLK0
  have hl1 := HLK.out
  refine wpAnyH_ready (rs := [6]) (by kernel_rfl) (by simp) ?_
  refine AllReadyH.cons (o := Oper.mk _ _ _ _ _ _) rfl (fun K hK => ?_) AllReadyH.nil
  go_simp
  refine hK.out _ _ ⟨HXD.out⟩ (fun hHeld6 => ?_)
  clear hK K
  try simp only [Act.put, List.setIfInBounds_toArray, List.set_cons_zero, List.set_cons_succ]
  refine wpAnyH_ready (rs := [7]) (by kernel_rfl) (by simp) ?_
  refine AllReadyH.cons (o := Oper.mk _ _ _ _ _ _) rfl (fun K hK => ?_) AllReadyH.nil
  go_simp
  refine (clip_calls _ _ _ _ HA.out.1 HA.out.2).mono ?_
  rintro r w3 ⟨rfl, rfl⟩
  refine hK.out _ _ ⟨HXD.out⟩ (fun hHeld7 => ?_)
  clear hK K
  try simp only [Act.put, List.setIfInBounds_toArray, List.set_cons_zero, List.set_cons_succ]
  refine wpAnyH_ready (rs := [12]) (by kernel_rfl) (by simp) ?_
  refine AllReadyH.cons (o := Oper.mk _ _ _ _ _ _) rfl (fun K hK => ?_) AllReadyH.nil
  rw [if_pos (by rfl)]
  refine wpo_app (.tmp 28) (.tmp 32) 31 rfl rfl rfl HRUN.out ?_
  refine hK.out _ _ ⟨HX4.out⟩ (fun hHeld8 => ?_)
  clear hK K
  try simp only [Act.put, List.setIfInBounds_toArray, List.set_cons_zero, List.set_cons_succ]
  have hput := HMU.out
  refine wpAnyH_ready (rs := [13]) (by kernel_rfl) (by simp) ?_
  refine AllReadyH.cons (o := Oper.mk _ _ _ _ _ _) rfl (fun K hK => ?_) AllReadyH.nil
  go_simp
  refine hK.out _ _ ⟨HX5.out⟩ (fun hHeld9 => ?_)
  clear hK K hput
  try simp only [Act.put, List.setIfInBounds_toArray, List.set_cons_zero, List.set_cons_succ]
  refine wpAnyH_done (by kernel_rfl) ?_ _
  go_wp2
  go_end0
  exact ⟨rfl, HP.out⟩
end Gd

namespace Gd
open Go.Proofs.Ytidijiijciokpaa.Blocks Frm
set_option maxRecDepth 100000
def dots : List UInt8 := [46, 45, 95]
theorem ib_calls (x : Int) (w : World) : Calls Try.prog 93 #[.string ⟨#[46, 45, 95]⟩, .int .u8 x] w fun e w' => e = .returned (.int .i64 (Lib.indexByte dots x.toNat.toUInt8)) ∧ w' = w := by
  have hx : (callFunc 119 #[.string ⟨#[46, 45, 95]⟩, .int .u8 x]).run Try.prog w = .ok (.value (.int .i64 (Lib.indexByte dots x.toNat.toUInt8))) w := by
    rw [run_callFunc_extern Try.func119 (by kernel_rfl) (by kernel_rfl) (by kernel_rfl) (e := Extern.BytealgIndexByte.indexByte) (by kernel_rfl), Lib.run_indexByteString]
    rfl
  go_enter Try.func93, Try.ntmps93
  go_wp2_with go_in
  go_ret
  exact ⟨rfl, rfl⟩
theorem ret_bool {a b : Bool} (h : a = b) : Ending.returned (.bool a) = .returned (.bool b) := by rw [h]
/-- May a name bear this sign? -/
def isCh (c : UInt8) : Bool := !((decide ((c.toNat : Int) < 97) || decide ((122 : Int) < (c.toNat : Int))) && ((decide ((c.toNat : Int) < 48) || decide ((57 : Int) < (c.toNat : Int))) && decide (Lib.indexByte dots c < 0)))
/-- May a file be called so? -/
def isNm (s : ByteArray) : Bool := decide (1 ≤ s.size) && (decide (s.size ≤ 60) && s.data.toList.all isCh)
theorem all_take (s : ByteArray) (k : Nat) (h : k < s.size) : (s.data.toList.take (k + 1)).all isCh = ((s.data.toList.take k).all isCh && isCh s[k]) := by
  rw [List.take_succ_eq_append_getElem (by rw [size_list]; exact h), List.all_append]
  simp only [List.all_cons, List.all_nil, Bool.and_true]
  rfl
theorem all_no (s : ByteArray) (k : Nat) (h : k < s.size) (hc : isCh s[k] = false) : s.data.toList.all isCh = false := by
  rw [List.all_eq_false]
  refine ⟨s[k], ?_, by simp [hc]⟩
  have : k < s.data.toList.length := by rw [size_list]; exact h
  exact List.getElem_mem (l := s.data.toList) this
set_option maxHeartbeats 1000000 in
theorem isName_calls (s : ByteArray) (w : World) (hs : s.size ≤ 9223372036854775807) : Calls Try.prog 56 #[.string s] w fun e w' => e = .returned (.bool (isNm s)) ∧ w' = w := by
  by_cases h1 : s.size < 1
  · have hr : isNm s = false := by simp [isNm, show ¬ 1 ≤ s.size by omega]
    have hz : s.size = 0 := by omega
    have hi : ((s.size : Nat) : Int) < 1 := by omega
    rw [hr]
    clear hr h1 hz
    go_enter Try.func56, Try.ntmps56
    go_wp2
    go_ret
    exact ⟨rfl, rfl⟩
  by_cases h2 : 60 < s.size
  · have hr : isNm s = false := by simp [isNm, show ¬ s.size ≤ 60 by omega]
    have hi : ¬ ((s.size : Nat) : Int) < 1 := by omega
    have hi2 : (60 : Int) < ((s.size : Nat) : Int) := by omega
    rw [hr]
    clear hr h1 h2
    go_enter Try.func56, Try.ntmps56
    go_wp2
    go_ret
    exact ⟨rfl, rfl⟩
  have hr : isNm s = s.data.toList.all isCh := by simp [isNm, show 1 ≤ s.size by omega, show s.size ≤ 60 by omega]
  have hi : ¬ ((s.size : Nat) : Int) < 1 := by omega
  have hi2 : ¬ (60 : Int) < ((s.size : Nat) : Int) := by omega
  have HR := Aside0.mk (And.intro hr (show s.size ≤ 60 by omega))
  clear hr h1 h2
  go_enter Try.func56, Try.ntmps56
  go_wp2
  go_loop [15] (fun i => ∃ k : Nat, i = .int .i64 (k : Int) ∧ Aside0 (k ≤ s.size ∧ (s.data.toList.take k).all isCh = true)) (fun i => s.size - (intOf i).toNat)
  case atStart => exact ⟨0, rfl, ⟨Nat.zero_le _, rfl⟩⟩
  case round =>
    obtain ⟨k, rfl, HK⟩ := hrel
    by_cases hlt : k < s.size
    · have hw : IntKind.i64.wrap ((k : Int) + 1) = (k : Int) + 1 := IntWalk.i64_in _ (by have := HR.out.2; omega)
      rcases hc : isCh s[k] with _ | _
      · have HN := Aside0.mk (show isNm s = false by rw [HR.out.1]; exact all_no s k hlt hc)
        simp only [isCh, Bool.not_eq_false', Bool.and_eq_true, Bool.or_eq_true] at hc
        obtain ⟨ha, hb, hd⟩ := hc
        rcases hb1 : decide ((s[k].toNat : Int) < 97) with _ | _
        all_goals rcases hb3 : decide ((s[k].toNat : Int) < 48) with _ | _
        all_goals try (rw [hb1] at ha)
        all_goals try (rw [hb3] at hb)
        all_goals simp only [Bool.false_eq_true, false_or, true_or] at ha hb
        all_goals
          go_wp2_with (first | (go_at_call 93; refine (ib_calls _ _).mono ?_; rintro e w' ⟨rfl, rfl⟩) | fail)
          go_ret
          exact ⟨ret_bool HN.out.symm, rfl⟩
      · have HT := Aside0.mk (show (s.data.toList.take (k + 1)).all isCh = true by rw [all_take s k hlt, HK.out.2, hc]; rfl)
        simp only [isCh, Bool.not_eq_true', Bool.and_eq_false_iff, Bool.or_eq_false_iff] at hc
        rcases hb1 : decide ((s[k].toNat : Int) < 97) with _ | _
        all_goals rcases hb2 : decide ((122 : Int) < (s[k].toNat : Int)) with _ | _
        all_goals try (rw [hb1] at hc)
        all_goals try (rw [hb2] at hc)
        all_goals simp only [Bool.false_eq_true, Bool.true_eq_false, false_and, and_false, true_and, and_true, true_or, false_or] at hc
        all_goals try (
          go_wp2
          go_round
          case rel => exact ⟨k + 1, by go_num, ⟨by omega, HT.out⟩⟩
          case measure => simp [intOf]; omega
          done)
        all_goals rcases hc with ⟨hb3, hb4⟩ | hd
        all_goals try (
          go_wp2
          go_round
          case rel => exact ⟨k + 1, by go_num, ⟨by omega, HT.out⟩⟩
          case measure => simp [intOf]; omega
          done)
        all_goals rcases hb3 : decide ((s[k].toNat : Int) < 48) with _ | _
        all_goals rcases hb4 : decide ((57 : Int) < (s[k].toNat : Int)) with _ | _
        all_goals
          go_wp2_with (first | (go_at_call 93; refine (ib_calls _ _).mono ?_; rintro e w' ⟨rfl, rfl⟩) | fail)
          go_round
          case rel => exact ⟨k + 1, by go_num, ⟨by omega, HT.out⟩⟩
          case measure => simp [intOf]; omega
    · have hk : k = s.size := by have := HK.out.1; omega
      subst hk
      have HN := Aside0.mk (show isNm s = true by rw [HR.out.1, ← HK.out.2, List.take_of_length_le (by rw [size_list]; omega)])
      go_wp2
      go_ret
      exact ⟨ret_bool HN.out.symm, rfl⟩
end Gd

end Go.Proofs.Ytidijiijciokpaa.G
