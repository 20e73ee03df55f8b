import Derived.Test.YtidijiijciokpaaKU5
import Derived.Test.YtidijiijciokpaaUx5
import Derived.Maps.OwnOps
import Derived.WideMake
import Derived.Laws.IdiomRangeMap
import Derived.Maps.AppendAt
import Derived.Deep.RegionLaw
import Derived.ArgAppend
import Derived.Maps.RangeRun
import Derived.Deep.Upon
import Derived.Deep.QuietTactic
import Derived.BigQuiet
import Derived.Deep.RegionHeld3
import Derived.Deep.DeepCutAuto
import Derived.Deep.CutBlock
import Derived.Laws.EntriesVeiled
import Derived.StillTailTactics
import Derived.Laws.Tables
import Derived.Laws.CopyOwn
import Derived.IntWalk
import Derived.Test.YtidijiijciokpaaBlocks
import Derived.Laws.CopyOwn
import Derived.Laws.Tables
import Derived.Outline
namespace Go.Proofs.Ytidijiijciokpaa.G
open Go.RowKit Go.Proofs.YtidijiijciokpaaW.PrintWords Go.Proofs.YtidijiijciokpaaW.PrintLast Go.Proofs.YtidijiijciokpaaW.PrintMore
set_option linter.unusedVariables false
set_option linter.unusedSimpArgs false
namespace Gd
open Go.Proofs.Ytidijiijciokpaa.Blocks Frm Go.Proofs.Ytidijiijciokpaa.U
set_option maxRecDepth 100000
/-! The document's steps. -/
theorem apB_append (d e : ByteArray) : d ++ e = apB d e := by
  apply key_inj
  show (d ++ e).data.toList = _
  rw [ByteArray.data_append, Array.toList_append]
  simp [apB, key]
theorem extract_cutB (d : ByteArray) (n : Nat) : d.extract 0 n = cutB d n := by
  apply key_inj
  show (d.extract 0 n).data.toList = _
  rw [ByteArray.data_extract, Array.toList_extract]
  simp [cutB, key, List.extract]
theorem bytes_ext {a b : ByteArray} (h : a.data.toList = b.data.toList) : a = b := key_inj h
abbrev Sp := S145
/-- A step of the document's, done on files. -/
def one (f : Fs) (s : Sp) : Fs := if s.f0 = 1 then put f s.f1 ⟨#[]⟩ else if get f s.f1 = none then f else if s.f0 = 2 then put f s.f1 (apB (dat f s.f1) (strOfNums [s.f3])) else if s.f0 = 3 then put f s.f1 (cutB (dat f s.f1) s.f4.toNat) else if s.f0 = 4 then put (del f s.f1) s.f2 (dat f s.f1) else del f s.f1
/-- A change in steps. -/
def expn : St → List Sp
  | .created n => [⟨1, n, ⟨#[]⟩, 0, 0⟩]
  | .laid n b => (bytesOf b).map fun c => ⟨2, n, ⟨#[]⟩, c, 0⟩
  | .cut n k => [⟨3, n, ⟨#[]⟩, 0, (k : Int)⟩]
  | .renamed a b => [⟨4, a, b, 0, 0⟩]
  | .removed n => [⟨5, n, ⟨#[]⟩, 0, 0⟩]
def expns (ss : List St) : List Sp := ss.flatMap expn
theorem expn_len (s : St) : (expn s).length = s.count := by
  cases s with
  | laid n b => show ((bytesOf b).map _).length = b.size; rw [List.length_map, bytesOf_length]
  | created n => rfl
  | cut n k => rfl
  | renamed a b => rfl
  | removed n => rfl
theorem expns_len : ∀ ss : List St, (expns ss).length = pend ss
  | [] => rfl
  | s :: ss => by
    show (expn s ++ expns ss).length = _
    rw [List.length_append, expn_len, expns_len ss]
    simp [pend]
theorem expns_snoc (ss : List St) (s : St) : expns (ss ++ [s]) = expns ss ++ expn s := by simp [expns]
theorem srt_get_ext {f g : Fs} (hf : Srt f) (hg : Srt g) (h : ∀ n, get f n = get g n) : f = g := by
  refine srt_ext hf hg ((List.perm_ext_iff_of_nodup (hf.nodup.imp fun h e => h (congrArg Prod.fst e)) (hg.nodup.imp fun h e => h (congrArg Prod.fst e))).2 fun p => ?_)
  obtain ⟨n, d⟩ := p
  constructor
  · intro hm
    have := get_of_mem hf.nodup hm
    rw [h] at this
    exact get_mem this
  · intro hm
    have := get_of_mem hg.nodup hm
    rw [← h] at this
    exact get_mem this
theorem put_put {f : Fs} {n d e : ByteArray} (hs : Srt f) : put (put f n d) n e = put f n e := by
  refine srt_get_ext (srt_put _ _ (srt_put _ _ hs)) (srt_put _ _ hs) fun m => ?_
  by_cases q : m = n
  · subst q
    rw [get_put_self _ _ (srt_put _ _ hs), get_put_self _ _ hs]
  · rw [get_put_ne _ (srt_put _ _ hs) q, get_put_ne _ hs q, get_put_ne _ hs q]
theorem rename_eq {f : Fs} {a b d : ByteArray} (hs : Srt f) (h : get f a = some d) : put (del f a) b d = if a = b then f else del (put f b d) a := by
  split
  · rename_i q
    subst q
    refine srt_get_ext (srt_put _ _ (srt_del _ hs)) hs fun m => ?_
    by_cases e : m = a
    · subst e
      rw [get_put_self _ _ (srt_del _ hs), h]
    · rw [get_put_ne _ (srt_del _ hs) e, get_del_ne hs e]
  · rename_i q
    refine srt_get_ext (srt_put _ _ (srt_del _ hs)) (srt_del _ (srt_put _ _ hs)) fun m => ?_
    by_cases e : m = b
    · subst e
      rw [get_put_self _ _ (srt_del _ hs), get_del_ne (srt_put _ _ hs) (fun e => q e.symm), get_put_self _ _ hs]
    · rw [get_put_ne _ (srt_del _ hs) e]
      by_cases e2 : m = a
      · subst e2
        rw [get_del_self, get_del_self]
      · rw [get_del_ne hs e2, get_del_ne (srt_put _ _ hs) e2, get_put_ne _ hs e]
theorem dat_some {f : Fs} {n d : ByteArray} (h : get f n = some d) : dat f n = d := by simp [dat, h]
theorem byte_one (c : UInt8) : strOfNums [(c.toNat : Int)] = ⟨#[c]⟩ := by
  unfold strOfNums
  simp
theorem cutB_zero (b : ByteArray) : cutB b 0 = ⟨#[]⟩ := rfl
theorem cutB_succ {b : ByteArray} {k : Nat} (h : k < b.data.toList.length) (d : ByteArray) : apB (apB d (cutB b k)) ⟨#[b.data.toList[k]]⟩ = apB d (cutB b (k + 1)) := by
  apply key_inj
  simp only [apB, key, cutB, List.toList_toArray]
  rw [List.take_succ_eq_append_getElem h, List.append_assoc]
theorem laid_fold {f : Fs} {n d b : ByteArray} (hs : Srt f) (h : get f n = some d) : ∀ k, k ≤ b.size → ((expn (.laid n b)).take k).foldl one f = put f n (apB d (cutB b k))
  | 0, _ => by
    rw [List.take_zero, cutB_zero, apB_nil d ⟨#[]⟩ rfl, put_same hs h]
    rfl
  | k + 1, hk => by
    have hl : k < b.data.toList.length := by rw [size_list]; omega
    have he : k < (expn (.laid n b)).length := by rw [expn_len]; exact hk
    have hx : (expn (.laid n b))[k] = ⟨2, n, ⟨#[]⟩, (b.data.toList[k].toNat : Int), 0⟩ := by simp [expn, bytesOf]
    rw [List.take_succ_eq_append_getElem he, List.foldl_append, laid_fold hs h k (by omega), hx]
    have hg := get_put_self n (apB d (cutB b k)) hs
    show one (put f n (apB d (cutB b k))) ⟨2, n, ⟨#[]⟩, (b.data.toList[k].toNat : Int), 0⟩ = _
    unfold one
    dsimp only
    rw [if_neg (by decide), if_neg (by rw [hg]; simp), if_pos rfl, dat_some hg, byte_one, cutB_succ hl, put_put hs]
theorem expn_fold {f : Fs} {s : St} (hs : Srt f) (h : okSt f s) {k : Nat} (h0 : 0 < k) (hk : k ≤ s.count) : ((expn s).take k).foldl one f = doSt f s k := by
  cases s with
  | laid n b =>
    obtain ⟨d, hd⟩ := Option.ne_none_iff_exists'.1 (show get f n ≠ none from h)
    rw [laid_fold hs hd k hk]
    show _ = put f n (apB (dat f n) (cutB b k))
    rw [dat_some hd]
  | created n =>
    obtain rfl : k = 1 := Nat.le_antisymm hk h0
    rfl
  | cut n j =>
    obtain rfl : k = 1 := Nat.le_antisymm hk h0
    show one f ⟨3, n, ⟨#[]⟩, 0, (j : Int)⟩ = put f n (cutB (dat f n) j)
    unfold one
    dsimp only
    rw [if_neg (by decide), if_neg h.1, if_neg (by decide), if_pos rfl, Int.toNat_natCast]
  | renamed a b =>
    obtain rfl : k = 1 := Nat.le_antisymm hk h0
    obtain ⟨d, hd⟩ := Option.ne_none_iff_exists'.1 (show get f a ≠ none from h)
    show one f ⟨4, a, b, 0, 0⟩ = if a = b then f else del (put f b (dat f a)) a
    unfold one
    dsimp only
    rw [if_neg (by decide), if_neg h, if_neg (by decide), if_neg (by decide), if_pos rfl, dat_some hd]
    exact rename_eq hs hd
  | removed n =>
    obtain rfl : k = 1 := Nat.le_antisymm hk h0
    show one f ⟨5, n, ⟨#[]⟩, 0, 0⟩ = del f n
    unfold one
    dsimp only
    rw [if_neg (by decide), if_neg h, if_neg (by decide), if_neg (by decide), if_neg (by decide)]
/-- What is left, in the document's steps. -/
theorem expns_left {room : Nat} : ∀ {ss : List St} {f : Fs}, Srt f → good room f ss → (∀ s ∈ ss, 0 < s.count) → ∀ k, ((expns ss).take k).foldl one f = remn f ss k
  | [], f, _, _, _, k => by simp [expns, remn]
  | s :: ss, f, hs, hg, hp, k => by
    by_cases h0 : k = 0
    · subst h0
      rw [remn_zero]
      rfl
    unfold remn
    rw [if_neg h0]
    have hc := hp s (.head _)
    show ((expn s ++ expns ss).take k).foldl one f = _
    rw [List.take_append, List.foldl_append, expn_len]
    by_cases hk : k ≤ s.count
    · rw [expn_fold hs hg.2.1 (by omega) hk, show min k s.count = k by omega, show k - s.count = 0 by omega, show k - k = 0 by omega, remn_zero, List.take_zero]
      rfl
    · have he : (expn s).take k = (expn s).take s.count := by
        rw [List.take_of_length_le (by rw [expn_len]; omega), List.take_of_length_le (by rw [expn_len]; omega)]
      rw [he, expn_fold hs hg.2.1 hc (Nat.le_refl _), show min k s.count = s.count by omega]
      exact expns_left (f := doAll f s) (srt_do hs s _) hg.2.2 (fun t ht => hp t (.tail _ ht)) _
end Gd

namespace Gd
open Go.Proofs.Ytidijiijciokpaa.Blocks Frm Go.Proofs.Ytidijiijciokpaa.U
set_option maxRecDepth 100000
/-- An act's own error. -/
def Ab.refuse (d : Ab) (kd : Int) (nm to_ dt : ByteArray) (sz : Int) : Int :=
  if kd = 6 then 0 else if isNm nm = false ∨ (kd = 4 ∧ isNm to_ = false) then 120
  else if kd = 1 then (if get d.seen nm ≠ none then 122 else if d.room < taken d.seen + nm.size then 123 else 0)
  else if get d.seen nm = none then 121
  else if kd = 2 ∧ d.room < taken d.seen + dt.size then 123
  else if kd = 3 ∧ (sz < 0 ∨ ((dat d.seen nm).size : Int) < sz) then 1
  else if kd = 4 ∧ d.room < taken (doAll d.seen (.renamed nm to_)) then 123 else 0
def stepOf (kd : Int) (nm to_ dt : ByteArray) (sz : Int) : St := if kd = 1 then .created nm else if kd = 2 then .laid nm dt else if kd = 3 then .cut nm sz.toNat else if kd = 4 then .renamed nm to_ else .removed nm
theorem thr_one (d : Ab) (n : ByteArray) (hd : d.down = false) : thr d n [] = if isNm n = false then 120 else if get d.seen n = none then 121 else 0 := by
  unfold thr rdy
  rcases h : isNm n with _ | _ <;> simp [hd, h]
theorem thr_two (d : Ab) (n m : ByteArray) (hd : d.down = false) : thr d n [m] = if isNm n = false ∨ isNm m = false then 120 else if get d.seen n = none then 121 else 0 := by
  unfold thr rdy
  rcases h : isNm n with _ | _ <;> rcases h2 : isNm m with _ | _ <;> simp [hd, h, h2]
theorem doAct_eq {d : Ab} (h : d.Ok) {kd : Int} (nm to_ dt : ByteArray) (sz : Int) (hk : 1 ≤ kd ∧ kd ≤ 6) : d.doAct kd nm to_ dt sz = if d.down = true then (d, 125) else if d.refuse kd nm to_ dt sz ≠ 0 then (d, d.refuse kd nm to_ dt sz) else if kd = 6 then (if d.act.2 ≠ 0 then d.act else ({ d.act.1 with lasts := d.seen, steps := [] }, 0)) else d.step (stepOf kd nm to_ dt sz) := by
  have hu := h.used
  by_cases hd : d.down = true
  · rw [if_pos hd]
    have hr : ∀ ns, rdy d ns = 125 := fun ns => by simp [rdy, hd]
    have ht : ∀ n ns, thr d n ns = 125 := fun n ns => by unfold thr; simp [hr]
    unfold Ab.doAct Ab.create Ab.append Ab.cut Ab.rename Ab.remove Ab.sync
    simp only [hr, ht]
    repeat' split
    all_goals first | rfl | simp_all
  rw [if_neg hd]
  have hd : d.down = false := by simpa using hd
  have hn : ∀ n, rdy d [n] = if isNm n = false then 120 else 0 := fun n => by
    unfold rdy
    rcases h : isNm n with _ | _ <;> simp [hd, h]
  have h0 : rdy d [] = 0 := by simp [rdy, hd]
  have hcs : kd = 1 ∨ kd = 2 ∨ kd = 3 ∨ kd = 4 ∨ kd = 5 ∨ kd = 6 := by omega
  rcases hcs with rfl | rfl | rfl | rfl | rfl | rfl
  · show d.create nm = _
    unfold Ab.create Ab.refuse stepOf
    rw [hn, hu]
    by_cases q : isNm nm = false
    · simp [q]
    · by_cases q2 : get d.seen nm = none
      · by_cases q3 : d.room < taken d.seen + nm.size
        · simp [q, q2, q3]
        · simp [q, q2, q3]
      · have q4 : (get d.seen nm).isSome = true := by
          rw [Option.isSome_iff_ne_none]; exact q2
        simp [q, q2, q4]
  · show d.append nm dt = _
    unfold Ab.append Ab.refuse stepOf
    rw [thr_one d nm hd, hu]
    by_cases q : isNm nm = false
    · simp [q]
    · by_cases q2 : get d.seen nm = none
      · simp [q, q2]
      · by_cases q3 : d.room < taken d.seen + dt.size
        · simp [q, q2, q3]
        · simp [q, q2, q3]
  · show d.cut nm sz = _
    unfold Ab.cut Ab.refuse stepOf
    rw [thr_one d nm hd]
    by_cases q : isNm nm = false
    · simp [q]
    · by_cases q2 : get d.seen nm = none
      · simp [q, q2]
      · by_cases q3 : sz < 0 ∨ ((dat d.seen nm).size : Int) < sz
        · simp [q, q2, q3]
        · simp [q, q2, q3]
  · show d.rename nm to_ = _
    unfold Ab.rename Ab.refuse stepOf
    rw [thr_two d nm to_ hd]
    by_cases q : isNm nm = false ∨ isNm to_ = false
    · simp [q]
    · by_cases q2 : get d.seen nm = none
      · simp [q, q2]
      · have hru := taken_renamed (b := to_) h.seenSrt q2
        by_cases q3 : d.room < taken (doAll d.seen (.renamed nm to_))
        · have q4 : (d.room : Int) < ru d.seen nm to_ := by omega
          simp [q, q2, q3, q4]
        · have q4 : ¬ (d.room : Int) < ru d.seen nm to_ := by omega
          simp [q, q2, q3, q4]
  · show d.remove nm = _
    unfold Ab.remove Ab.refuse stepOf
    rw [thr_one d nm hd]
    by_cases q : isNm nm = false
    · simp [q]
    · by_cases q2 : get d.seen nm = none
      · simp [q, q2]
      · simp [q, q2]
  · show d.sync = _
    unfold Ab.sync Ab.refuse
    rw [h0]
    simp
/-- Steps of a disk behind a step. -/
theorem step_expns (d : Ab) (s : St) (h : d.act.2 = 0) : expns (d.step s).1.steps = expns d.steps ++ expn s := by
  unfold Ab.step
  rw [if_pos h]
  show expns (if 0 < s.count then d.steps ++ [s] else d.steps) = _
  split
  · exact expns_snoc _ _
  · rename_i q
    have : expn s = [] := List.eq_nil_of_length_eq_zero (by rw [expn_len]; omega)
    rw [this, List.append_nil]
end Gd

namespace Gd
open Go.Proofs.Ytidijiijciokpaa.Blocks Frm Go.Proofs.Ytidijiijciokpaa.U
set_option maxRecDepth 100000
theorem bytesLess_lt : ∀ a b : List UInt8, Op.bytesLess a b = decide (a < b)
  | _, [] => by
    rw [decide_eq_false (List.not_lt_nil _)]
    unfold Op.bytesLess
    rfl
  | [], b :: y => by
    rw [decide_eq_true (List.nil_lt_cons _ _)]
    rfl
  | a :: x, b :: y => by
    unfold Op.bytesLess
    rw [bytesLess_lt x y]
    rcases Classical.em (a < b) with h | h
    · rw [decide_eq_true h, Bool.true_or, decide_eq_true (List.cons_lt_cons_iff.2 (.inl h))]
    · rw [decide_eq_false h, Bool.false_or]
      rcases Classical.em (a = b) with e | e
      · subst e
        simp only [beq_self_eq_true, Bool.true_and]
        rcases Classical.em (x < y) with g | g
        · rw [decide_eq_true g, decide_eq_true (List.cons_lt_cons_iff.2 (.inr ⟨rfl, g⟩))]
        · rw [decide_eq_false g, decide_eq_false fun q => by
            rcases List.cons_lt_cons_iff.1 q with q | ⟨_, q⟩
            · exact h q
            · exact g q]
      · rw [show (a == b) = false from beq_eq_false_iff_ne.2 e, Bool.false_and, decide_eq_false fun q => by
          rcases List.cons_lt_cons_iff.1 q with q | ⟨q, _⟩
          · exact h q
          · exact e q]
theorem less_lt (a b : ByteArray) : Op.bytesLess a.toList b.toList = decide (lt a b) := by
  rw [bytesLess_lt, toList_data, toList_data]
  rfl
/-! A name's place. -/
def pos : Fs → ByteArray → Nat
  | [], _ => 0
  | (t, _) :: r, n => if lt t n then pos r n + 1 else 0
theorem pos_le : ∀ (f : Fs) (n : ByteArray), pos f n ≤ f.length
  | [], _ => Nat.le_refl _
  | (t, e) :: r, n => by
    unfold pos
    split
    · have := pos_le r n
      simp only [List.length_cons]
      omega
    · exact Nat.zero_le _
theorem pos_lt : ∀ {f : Fs} {n : ByteArray} {j : Nat} {p : ByteArray × ByteArray}, j < pos f n → f[j]? = some p → lt p.1 n
  | (t, e) :: r, n, j, p, h, hp => by
    unfold pos at h
    split at h
    · rename_i q
      cases j with
      | zero =>
        obtain rfl := Option.some.inj hp
        exact q
      | succ j => exact pos_lt (f := r) (by omega) hp
    · omega
theorem pos_stop : ∀ {f : Fs} {n : ByteArray} {p : ByteArray × ByteArray}, f[pos f n]? = some p → ¬ lt p.1 n
  | [], n, p, h => by cases h
  | (t, e) :: r, n, p, h => by
    unfold pos at h
    split at h
    · exact pos_stop (f := r) h
    · rename_i q
      obtain rfl := Option.some.inj h
      exact q
theorem pos_get : ∀ {f : Fs} {n d : ByteArray}, Srt f → get f n = some d → f[pos f n]? = some (n, d)
  | (t, e) :: r, n, d, hs, h => by
    unfold get at h
    split at h
    · rename_i q
      subst q
      cases h
      unfold pos
      rw [if_neg (lt_irrefl _)]
      rfl
    · unfold pos
      rw [if_pos (hs.head _ (get_mem h))]
      exact pos_get hs.tail h
theorem put_pos : ∀ {f : Fs} (n d : ByteArray), Srt f → put f n d = f.take (pos f n) ++ (n, d) :: f.drop (if (get f n).isSome then pos f n + 1 else pos f n)
  | [], n, d, _ => rfl
  | (t, e) :: r, n, d, hs => by
    unfold put pos get
    by_cases q : n = t
    · subst q
      rw [if_pos rfl, if_neg (lt_irrefl _), if_pos rfl]
      rfl
    · rw [if_neg q, if_neg q]
      by_cases q2 : lt n t
      · rw [if_pos q2, if_neg (lt_asymm q2), get_none_of fun p hp e9 => lt_asymm q2 (by have h9 := hs.head p hp; rw [e9] at h9; exact h9)]
        rfl
      · rw [if_neg q2, if_pos (lt_tri n t q q2), put_pos n d hs.tail]
        split <;> rfl
theorem del_pos : ∀ {f : Fs} {n d : ByteArray}, Srt f → get f n = some d → del f n = f.take (pos f n) ++ f.drop (pos f n + 1)
  | (t, e) :: r, n, d, hs, h => by
    unfold get at h
    split at h
    · rename_i q
      subst q
      unfold pos
      rw [if_neg (lt_irrefl _), del_cons_eq, del_notin fun p hp e => lt_ne (hs.head p hp) e.symm]
      rfl
    · rename_i q
      have hl := hs.head _ (get_mem h)
      unfold pos
      rw [if_pos hl, del_cons_ne (fun e => q e.symm), del_pos hs.tail h]
      rfl
theorem pos_some {f : Fs} {n d : ByteArray} (hs : Srt f) (h : get f n = some d) : pos f n < f.length := (List.getElem?_eq_some_iff.1 (pos_get hs h)).1
theorem w1 {i : Nat} (h : i ≤ 9223372036854775806) : wrap64 ((i : Int) + 1) = ((i + 1 : Nat) : Int) := by
  rw [w64_of (by omega)]
  rfl
theorem sp_rd (f : Fs) {i : Nat} (h : i < f.length) : rd_T118 (f.map sp) (i : Int) = sp f[i] := by simp [rd_T118, List.getD, h]
theorem place_l0 {f : Fs} (n : ByteArray) (hs : Srt f) (hl : f.length ≤ 1099511627777) : ∀ (k i : Nat), i ≤ pos f n → pos f n - i < k → hawserref12_place.l0 k (f.map sp) n (i : Int) = some ((pos f n : Int), (get f n).isSome)
  | 0, i, _, h => by omega
  | k + 1, i, hi, hk => by
    have hp := pos_le f n
    unfold hawserref12_place.l0
    rw [List.length_map]
    by_cases h : i < f.length
    · rw [if_pos (by omega), if_pos (by omega), sp_rd f h]
      show (if Op.bytesLess f[i].1.toList n.toList = true then _ else some ((i : Int), f[i].1.toList == n.toList)) = _
      rw [less_lt, toList_beq]
      have hfi : f[i]? = some f[i] := List.getElem?_eq_getElem h
      by_cases hip : i < pos f n
      · rw [if_pos (by rw [decide_eq_true_eq]; exact pos_lt hip hfi), w1 (by omega)]
        exact place_l0 n hs hl k (i + 1) (by omega) (by omega)
      · obtain rfl : i = pos f n := by omega
        rw [if_neg (by rw [decide_eq_true_eq]; exact pos_stop hfi)]
        congr 2
        rcases hg : get f n with _ | d
        · exact decide_eq_false fun e => get_none hg _ (List.getElem_mem h) e
        · have h1 := pos_get hs hg
          rw [hfi] at h1
          rw [Option.some.inj h1]
          exact decide_eq_true rfl
    · obtain rfl : i = pos f n := by omega
      rw [if_neg (by omega)]
      congr 2
      rcases hg : get f n with _ | d
      · rfl
      · have := pos_some hs hg
        omega
theorem place_f {f : Fs} (n : ByteArray) (hs : Srt f) (hl : f.length ≤ 1099511627777) {k : Nat} (hk : f.length < k) : hawserref12_place.f k (f.map sp) n = some ((pos f n : Int), (get f n).isSome) :=
  place_l0 n hs hl k 0 (Nat.zero_le _) (by have := pos_le f n; omega)
theorem put_len (f : Fs) (n d : ByteArray) : (put f n d).length ≤ f.length + 1 := by
  induction f with
  | nil => exact Nat.le_refl _
  | cons p r ih =>
    obtain ⟨t, e⟩ := p
    unfold put
    split
    · exact Nat.le_succ _
    · split
      · exact Nat.le_refl _
      · simp only [List.length_cons]
        omega
theorem with_f {f : Fs} (n d : ByteArray) (hs : Srt f) (hl : f.length ≤ 1099511627777) {k : Nat} (hk : f.length < k) : hawserref12_with.f k (f.map sp) n d = some ((put f n d).map sp) := by
  have hp := pos_le f n
  have hm : (f.map sp).length = f.length := List.length_map _
  unfold hawserref12_with.f
  rw [place_f n hs hl hk, put_pos n d hs]
  simp only [Option.bind_some, hm, Int.toNat_natCast, List.nil_append, List.length_nil, List.length_take, List.length_append, List.length_singleton, List.length_drop]
  rw [if_pos (by omega), if_pos (by omega), if_pos (by omega), if_pos (by omega), w1 (by omega)]
  have e2 : ∀ j, (f.take (pos f n) ++ (n, d) :: f.drop j).map sp = (f.map sp).take (pos f n) ++ [(⟨n, d⟩ : S118)] ++ (f.map sp).drop j := fun j => by
    rw [List.map_append, List.map_cons, List.map_take, List.map_drop, List.append_assoc]
    rfl
  rcases hg : get f n with _ | x
  · rw [if_neg (by simp), if_pos (by omega), e2, if_neg (by simp)]
  · have h1 := pos_some hs hg
    rw [if_pos (by rfl), if_pos (by omega), if_pos (by omega), Int.toNat_natCast, if_pos (by omega), e2, if_pos (by rfl)]
theorem without_f {f : Fs} (n : ByteArray) (hs : Srt f) (hl : f.length ≤ 1099511627777) {k : Nat} (hk : f.length < k) : hawserref12_without.f k (f.map sp) n = some ((del f n).map sp) := by
  have hp := pos_le f n
  have hm : (f.map sp).length = f.length := List.length_map _
  unfold hawserref12_without.f
  rw [place_f n hs hl hk]
  simp only [Option.bind_some, hm, Int.toNat_natCast, List.nil_append, List.length_nil, List.length_take, List.length_append, List.length_singleton, List.length_drop]
  rcases hg : get f n with _ | x
  · rw [if_neg (by simp), del_notin (get_none hg)]
  · have h1 := pos_some hs hg
    rw [if_pos (by rfl), if_pos (by omega), if_pos (by omega), if_pos (by omega), w1 (by omega), if_pos (by omega), if_pos (by omega), Int.toNat_natCast, if_pos (by omega), del_pos hs hg, List.map_append, List.map_take, List.map_drop]
theorem taken_take {f : Fs} {i : Nat} (h : i < f.length) : taken (f.take (i + 1)) = taken (f.take i) + f[i].1.size + f[i].2.size := by
  have h2 : taken (f.take i ++ [f[i]]) = taken (f.take i) + (f[i].1.size + f[i].2.size) := by
    unfold taken
    rw [List.map_append, List.sum_append_nat]
    rfl
  rw [List.take_succ_eq_append_getElem h, h2]
  omega
theorem taken_take_le (f : Fs) (i : Nat) : taken (f.take i) ≤ taken f := by
  have h : taken f = taken (f.take i) + taken (f.drop i) := by
    unfold taken
    rw [← List.sum_append_nat, ← List.map_append, List.take_append_drop]
  omega
theorem taken_l0 {f : Fs} (hl : f.length ≤ 1099511627777) (ht : taken f ≤ 1099511627776) : ∀ (k i : Nat), i ≤ f.length → f.length - i < k → hawserref12_Taken.l0 k (f.map sp) (taken (f.take i) : Int) (i : Int) = some (taken f : Int)
  | 0, i, _, h => by omega
  | k + 1, i, hi, hk => by
    unfold hawserref12_Taken.l0
    rw [List.length_map]
    by_cases h : i < f.length
    · have h2 := taken_take_le f (i + 1)
      have h3 := taken_take h
      rw [if_pos (by omega), if_pos (by omega), sp_rd f h, w1 (by omega)]
      show hawserref12_Taken.l0 k (f.map sp) (wrap64 (wrap64 ((taken (f.take i) : Int) + (f[i].1.size : Int)) + (f[i].2.size : Int))) _ = _
      rw [w64_of (x := (taken (f.take i) : Int) + (f[i].1.size : Int)) (by omega), w64_of (by omega), show (taken (f.take i) : Int) + (f[i].1.size : Int) + (f[i].2.size : Int) = (taken (f.take (i + 1)) : Int) by omega]
      exact taken_l0 hl ht k (i + 1) (by omega) (by omega)
    · rw [if_neg (by omega), List.take_of_length_le (by omega)]
theorem taken_f {f : Fs} (hl : f.length ≤ 1099511627777) (ht : taken f ≤ 1099511627776) {k : Nat} (hk : f.length < k) : hawserref12_Taken.f k (f.map sp) = some (taken f : Int) :=
  taken_l0 hl ht k 0 (Nat.zero_le _) (by omega)
theorem ib_dots (c : UInt8) : decide (Lib.indexByte dots c < 0) = !(decide ((c.toNat : Int) = 46) || decide ((c.toNat : Int) = 45) || decide ((c.toNat : Int) = 95)) := by
  have hc : ∀ m : UInt8, (m == c) = decide ((c.toNat : Int) = (m.toNat : Int)) := fun m => by
    by_cases e : m = c
    · subst e
      rw [beq_self_eq_true, decide_eq_true rfl]
    · rw [beq_eq_false_iff_ne.2 e, decide_eq_false fun q => e (by
        have : m.toNat = c.toNat := by omega
        exact UInt8.toNat_inj.1 this)]
  unfold dots Lib.indexByte Lib.indexByte Lib.indexByte Lib.indexByte
  rw [hc 46, hc 45, hc 95]
  show decide ((if decide ((c.toNat : Int) = 46) = true then (0 : Int) else _) < 0) = _
  by_cases h1 : (c.toNat : Int) = 46
  · simp [h1]
  · by_cases h2 : (c.toNat : Int) = 45
    · simp [h2]
    · by_cases h3 : (c.toNat : Int) = 95
      · simp [h3]
      · simp [h1, h2, h3]
theorem isCh_int (c : UInt8) : isCh c = !((decide ((c.toNat : Int) < 97) || decide ((122 : Int) < (c.toNat : Int))) && ((decide ((c.toNat : Int) < 48) || decide ((57 : Int) < (c.toNat : Int))) && !(decide ((c.toNat : Int) = 46) || decide ((c.toNat : Int) = 45) || decide ((c.toNat : Int) = 95)))) := by
  unfold isCh
  rw [ib_dots]
theorem isName_l0 {s : ByteArray} (hs : s.size ≤ 2199023255552) : ∀ (k i : Nat), i ≤ s.size → s.size - i < k → hawserref12_IsName.l0 k s (i : Int) = some (decide (1 ≤ s.size) && (decide (s.size ≤ 60) && (s.data.toList.drop i).all isCh))
  | 0, i, _, h => by omega
  | k + 1, i, hi, hk => by
    unfold hawserref12_IsName.l0
    by_cases h : i < s.size
    · have hl : i < s.data.toList.length := by rw [size_list]; exact h
      have hb : bt s (i : Int) = ((s[i]'h).toNat : Int) := by
        unfold bt
        rw [dif_pos (by rw [Int.toNat_natCast]; exact h)]
        rfl
      have ih := isName_l0 hs k (i + 1) (by omega) (by omega)
      rw [if_pos (by omega), if_pos (by omega), w1 (by omega), ih, hb, List.drop_eq_getElem_cons hl, List.all_cons, show s.data.toList[i] = s[i]'h from rfl, isCh_int]
      generalize ((s[i]'h).toNat : Int) = c
      generalize (s.data.toList.drop (i + 1)).all isCh = z
      generalize decide (1 ≤ s.size) = a
      generalize decide (s.size ≤ 60) = b
      have hf : ∀ p q : Bool, some false = some (p && (q && (false && z))) := fun p q => by simp
      by_cases c1 : c < 97 <;> by_cases c2 : c < 48 <;> by_cases c3 : c > 57 <;> by_cases c4 : c > 122 <;> by_cases c5 : c = 46 <;> by_cases c6 : c = 45 <;> by_cases c7 : c = 95 <;> first
        | (exfalso; omega)
        | (simp only [c1, c2, c3, c4, c5, c6, c7, if_true, if_false, show (122 : Int) < c ↔ c > 122 from Iff.rfl, show (57 : Int) < c ↔ c > 57 from Iff.rfl]; simp)
    · obtain rfl : i = s.size := by omega
      rw [if_neg (by omega), List.drop_eq_nil_of_le (by rw [size_list]; omega)]
      by_cases h1 : 1 ≤ s.size
      · rw [if_pos (by omega), decide_eq_true h1]
        simp only [List.all_nil, Bool.and_true, Bool.true_and]
        congr 1
        exact decide_eq_decide.2 (by omega)
      · rw [if_neg (by omega), decide_eq_false h1]
        rfl
theorem isName_f {s : ByteArray} (hs : s.size ≤ 2199023255552) {k : Nat} (hk : s.size < k) : hawserref12_IsName.f k s = some (isNm s) := isName_l0 hs k 0 (Nat.zero_le _) (by omega)
end Gd

namespace Gd
open Go.Proofs.Ytidijiijciokpaa.Blocks Frm Go.Proofs.Ytidijiijciokpaa.U
set_option maxRecDepth 100000
/-- May the document's step be done? -/
def okS (g : Fs) (s : Sp) : Prop := ∀ d, get g s.f1 = some d → (s.f0 = 2 → d.size ≤ 549755813888) ∧ (s.f0 = 3 → 0 ≤ s.f4 ∧ s.f4 ≤ (d.size : Int))
theorem str_one (x : Int) : (strOfNums [x]).size = 1 := rfl
theorem del_len (f : Fs) (n : ByteArray) : (del f n).length ≤ f.length := List.length_filter_le _ _
theorem done_f {g : Fs} {s : Sp} (hs : Srt g) (hl : g.length ≤ 1099511627776) (h : okS g s) {k : Nat} (hk : g.length < k) : hawserref12_done.f k (g.map sp) s.f0 s.f1 s.f2 s.f3 s.f4 = some ((one g s).map sp) := by
  unfold hawserref12_done.f one
  rw [place_f s.f1 hs (by omega) hk]
  simp only [Option.bind_some]
  by_cases k1 : s.f0 = 1
  · rw [if_pos k1, if_pos k1]
    exact with_f _ _ hs (by omega) hk
  rw [if_neg k1, if_neg k1]
  rcases hg : get g s.f1 with _ | d
  · rw [if_pos (by rfl), if_pos (by rfl)]
  have hp := pos_some hs hg
  have hat := pos_get hs hg
  have hrd : rd_T118 (g.map sp) (pos g s.f1 : Int) = ⟨s.f1, d⟩ := by
    rw [sp_rd g hp]
    have : g[pos g s.f1] = (s.f1, d) := by
      rw [List.getElem?_eq_getElem hp] at hat
      exact Option.some.inj hat
    rw [this]
    rfl
  have hk2 := h d hg
  rw [if_neg (show ¬ (some d).isSome = false by simp), if_neg (show ¬ some d = none by simp), if_pos (show 0 ≤ (pos g s.f1 : Int) ∧ (pos g s.f1 : Int) < ((g.map sp).length : Int) from ⟨by omega, by rw [List.length_map]; omega⟩), hrd]
  by_cases k2 : s.f0 = 2
  · have := hk2.1 k2
    rw [if_pos k2, if_pos k2, if_pos (by rw [str_one]; show d.size + 1 ≤ _; omega)]
    show hawserref12_with.f k (g.map sp) s.f1 (d ++ strOfNums [s.f3]) = _
    rw [with_f _ _ hs (by omega) hk, apB_append, dat_some hg]
  rw [if_neg k2, if_neg k2]
  by_cases k3 : s.f0 = 3
  · have := hk2.2 k3
    rw [if_pos k3, if_pos k3, if_pos this]
    show hawserref12_with.f k (g.map sp) s.f1 (d.extract 0 s.f4.toNat) = _
    rw [with_f _ _ hs (by omega) hk, extract_cutB, dat_some hg]
  rw [if_neg k3, if_neg k3]
  by_cases k4 : s.f0 = 4
  · have h1 := del_len g s.f1
    rw [if_pos k4, if_pos k4, without_f _ hs (by omega) hk, Option.bind_some]
    show hawserref12_with.f k ((del g s.f1).map sp) s.f2 d = _
    rw [with_f _ _ (srt_del _ hs) (by omega) (by omega), dat_some hg]
  rw [if_neg k4, if_neg k4]
  exact without_f _ hs (by omega) hk
theorem expn_cut {t : St} {x : Sp} {i : Nat} (h : (expn t)[i]? = some x) (h3 : x.f0 = 3) : ∃ n k, t = .cut n k ∧ i = 0 ∧ x.f1 = n ∧ x.f4 = (k : Int) := by
  have hi := (List.getElem?_eq_some_iff.1 h).1
  cases t with
  | laid n b =>
    have h : ((bytesOf b).map fun c => (⟨2, n, ⟨#[]⟩, c, 0⟩ : Sp))[i]? = some x := h
    rw [List.getElem?_map, Option.map_eq_some_iff] at h
    obtain ⟨c, _, rfl⟩ := h
    exact absurd h3 (by show ¬ (2 : Int) = 3; decide)
  | cut n k =>
    obtain rfl : i = 0 := by
      have : (expn (.cut n k)).length = 1 := rfl
      omega
    obtain rfl := Option.some.inj h
    exact ⟨n, k, rfl, rfl, rfl, rfl⟩
  | created n =>
    obtain rfl : i = 0 := by
      have : (expn (.created n)).length = 1 := rfl
      omega
    obtain rfl := Option.some.inj h
    exact absurd h3 (by show ¬ (1 : Int) = 3; decide)
  | renamed a b =>
    obtain rfl : i = 0 := by
      have : (expn (.renamed a b)).length = 1 := rfl
      omega
    obtain rfl := Option.some.inj h
    exact absurd h3 (by show ¬ (4 : Int) = 3; decide)
  | removed n =>
    obtain rfl : i = 0 := by
      have : (expn (.removed n)).length = 1 := rfl
      omega
    obtain rfl := Option.some.inj h
    exact absurd h3 (by show ¬ (5 : Int) = 3; decide)
theorem expns_cut {room : Nat} : ∀ {ss : List St} {f : Fs}, good room f ss → (∀ s ∈ ss, 0 < s.count) → ∀ {i : Nat} {x : Sp}, (expns ss)[i]? = some x → x.f0 = 3 → 0 ≤ x.f4 ∧ ∀ d, get (remn f ss i) x.f1 = some d → x.f4 ≤ (d.size : Int)
  | [], _, _, _, i, x, h, _ => by simp [expns] at h
  | t :: ss, f, hg, hp, i, x, h, h3 => by
    have h : (expn t ++ expns ss)[i]? = some x := h
    have hc := hp t (.head _)
    by_cases hi : i < t.count
    · rw [List.getElem?_append_left (by rw [expn_len]; exact hi)] at h
      obtain ⟨n, k, rfl, rfl, e1, e2⟩ := expn_cut h h3
      rw [remn_zero, e1, e2]
      refine ⟨by omega, fun d hd => ?_⟩
      have := hg.2.1.2
      rw [dat_some hd] at this
      omega
    · rw [List.getElem?_append_right (by rw [expn_len]; omega), expn_len] at h
      have := expns_cut (f := doAll f t) hg.2.2 (fun s hs => hp s (.tail _ hs)) h h3
      unfold remn
      rw [if_neg (by omega), show min i t.count = t.count by omega]
      exact this
/-- A disk, as the document's. -/
structure Rd where
  room : Int
  l : List S118
  s : List Sp
  acts : Int
  fails : Int
  off : Bool
def Ab.doc (d : Ab) : Rd := ⟨(d.room : Int), d.lasts.map sp, expns d.steps, (d.acts : Int), d.fails, d.down⟩
theorem sp_steps (ss : List Sp) {i : Nat} (h : i < ss.length) : rd_T145 ss (i : Int) = ss[i] := by simp [rd_T145, List.getD, h]
theorem remn_ok {d : Ab} (h : d.Ok) (k : Nat) : Srt (remn d.lasts d.steps k) ∧ taken (remn d.lasts d.steps k) ≤ 67108864 ∧ (remn d.lasts d.steps k).length ≤ 67108865 := by
  have h1 := srt_remn (ss := d.steps) k h.srt
  have h2 := taken_remn k h.srt h.good
  have h3 := h.room
  have h4 := len_taken h1
  exact ⟨h1, by omega, by omega⟩
theorem left_l0 {d : Ab} (h : d.Ok) (hb : pend d.steps ≤ 1152921504606846976) (keep : Int) (r : Int) (l : List S118) (a fl : Int) (o : Bool) : ∀ (k i : Nat), i ≤ keep.toNat → i ≤ pend d.steps → pend d.steps - i + 67108866 < k → hawserref12_Disk_Left.l0 k keep ((remn d.lasts d.steps i).map sp) (i : Int) r l (expns d.steps) a fl o = some ((d.left keep).map sp)
  | 0, _, _, _, h => by omega
  | k + 1, i, hi, hp, hk => by
    have hlen := expns_len d.steps
    have hle := fun j => expns_left h.srt h.good h.pos j
    unfold hawserref12_Disk_Left.l0
    by_cases h1 : i < pend d.steps
    · have h1l : i < (expns d.steps).length := by omega
      rw [if_pos (by rw [hlen]; omega)]
      by_cases h2 : (i : Int) < keep
      · have hr := remn_ok h i
        have hok : okS (remn d.lasts d.steps i) (expns d.steps)[i] := fun b hg => ⟨fun _ => by
          have := taken_mem (get_mem hg)
          dsimp only at this
          omega, fun h3 => by
          have := expns_cut h.good h.pos (List.getElem?_eq_getElem h1l) h3
          exact ⟨this.1, this.2 b hg⟩⟩
        rw [if_pos h2, if_pos (by omega), sp_steps _ h1l, done_f hr.1 (by omega) hok (by omega), Option.bind_some, w1 (by omega)]
        have : one (remn d.lasts d.steps i) (expns d.steps)[i] = remn d.lasts d.steps (i + 1) := by
          rw [← hle, ← hle, List.take_succ_eq_append_getElem h1l, List.foldl_append]
          rfl
        rw [this]
        exact left_l0 h hb keep r l a fl o k (i + 1) (by omega) (by omega) (by omega)
      · rw [if_neg h2]
        have : i = keep.toNat := by omega
        rw [this]
        rfl
    · rw [if_neg (by rw [hlen]; omega)]
      unfold Ab.left
      rw [← hle, ← hle, List.take_of_length_le (by omega), List.take_of_length_le (by omega)]
theorem left_f {d : Ab} (h : d.Ok) (hb : pend d.steps ≤ 1152921504606846976) (keep : Int) {k : Nat} (hk : pend d.steps + 67108866 < k) : hawserref12_Disk_Left.f k d.doc.room d.doc.l d.doc.s d.doc.acts d.doc.fails d.doc.off keep = some ((d.left keep).map sp) := by
  have := left_l0 h hb keep d.doc.room d.doc.l d.doc.acts d.doc.fails d.doc.off k 0 (Nat.zero_le _) (Nat.zero_le _) (by omega)
  rw [remn_zero] at this
  exact this
theorem files_f {d : Ab} (h : d.Ok) (hb : pend d.steps ≤ 1152921504606846976) {k : Nat} (hk : pend d.steps + 67108866 < k) : hawserref12_Disk_Files.f k d.doc.room d.doc.l d.doc.s d.doc.acts d.doc.fails d.doc.off = some (d.seen.map sp) := by
  unfold hawserref12_Disk_Files.f
  rw [left_f h hb _ hk, Option.bind_some]
  show some ((d.left ((expns d.steps).length : Int)).map sp) = _
  rw [expns_len, left_all h]
theorem new_l0 {room : Nat} (hr : room ≤ 67108864) {l : Fs} (hsz : ∀ p ∈ l, p.1.size ≤ 4294967296 ∧ p.2.size ≤ 4294967296) (hll : l.length ≤ 1099511627776) : ∀ (k i : Nat) (f : Fs), Srt f → taken f ≤ room → i ≤ l.length → l.length - i + 4294967300 < k →
    hawserref12_New.l0 k (room : Int) (l.map sp) (f.map sp) (i : Int) = (match newF room f (l.drop i) with | (some g, _) => some ((room : Int), g.map sp, ([] : List Sp), 0, 0, false, 0) | (none, x) => some (0, ([] : List S118), ([] : List Sp), 0, 0, false, x))
  | 0, _, _, _, _, _, h => by omega
  | k + 1, i, f, hs, ht, hi, hk => by
    have hfl := len_taken hs
    unfold hawserref12_New.l0
    rw [List.length_map]
    by_cases h1 : i < l.length
    · rw [if_pos (by omega), if_pos (by omega), sp_rd l h1, List.drop_eq_getElem_cons h1]
      have hz := hsz _ (List.getElem_mem h1)
      generalize hp : l[i] = p at hz
      obtain ⟨n, b⟩ := p
      dsimp only at hz
      show (hawserref12_place.f k (f.map sp) n).bind _ = _
      rw [place_f n hs (by omega) (by omega), Option.bind_some]
      show (hawserref12_IsName.f k n).bind _ = _
      rw [isName_f (by omega) (by omega), Option.bind_some]
      unfold newF
      by_cases q : isNm n = false
      · rw [if_pos q, if_neg (by rw [q]; simp)]
      rw [if_neg q, if_pos (by simpa using q)]
      by_cases q2 : (get f n).isSome = true
      · rw [if_pos q2, if_pos q2]
      rw [if_neg q2, if_neg q2]
      have hgn : get f n = none := by simpa using q2
      have htk : taken (put f n b) = taken f + n.size + b.size := by
        rw [taken_put _ _ hs, del_notin (get_none hgn)]
        omega
      have hpl := put_len f n b
      show (hawserref12_with.f k (f.map sp) n b).bind _ = _
      rw [with_f n b hs (by omega) (by omega), Option.bind_some, taken_f (by omega) (by omega) (by omega), Option.bind_some, htk]
      by_cases q3 : room < taken f + n.size + b.size
      · rw [if_pos q3, if_pos (by omega)]
      rw [if_neg q3, if_neg (by omega), w1 (by omega)]
      exact new_l0 hr hsz hll k (i + 1) (put f n b) (srt_put _ _ hs) (by omega) (by omega) (by omega)
    · rw [if_neg (by omega), List.drop_eq_nil_of_le (by omega)]
      rfl
/-- What New answers. -/
def newR (room : Int) (l : Fs) : Option Fs × Int := if room < 0 ∨ 67108864 < room then (none, 1) else newF room.toNat [] l
def docNew (room : Int) : Option Fs × Int → Rd × Int
  | (some g, _) => (⟨room, g.map sp, [], 0, 0, false⟩, 0)
  | (none, x) => (⟨0, [], [], 0, 0, false⟩, x)
theorem new_f (room : Int) {l : Fs} (hsz : ∀ p ∈ l, p.1.size ≤ 4294967296 ∧ p.2.size ≤ 4294967296) (hll : l.length ≤ 1099511627776) {k : Nat} (hk : l.length + 4294967301 < k) :
    hawserref12_New.f k room (l.map sp) = some ((docNew room (newR room l)).1.room, (docNew room (newR room l)).1.l, (docNew room (newR room l)).1.s, (docNew room (newR room l)).1.acts, (docNew room (newR room l)).1.fails, (docNew room (newR room l)).1.off, (docNew room (newR room l)).2) := by
  obtain ⟨k, rfl⟩ : ∃ j, k = j + 1 := ⟨k - 1, by omega⟩
  have hj : ∀ b, hawserref12_New.j0 (k + 1) room (l.map sp) b = if b = true then some (0, ([] : List S118), ([] : List Sp), 0, 0, false, 1) else hawserref12_New.l0 k room (l.map sp) [] 0 := fun b => by rw [hawserref12_New.j0]
  unfold hawserref12_New.f newR
  by_cases h0 : room < 0
  · rw [if_pos h0, if_pos (.inl h0)]
    rw [hj, if_pos rfl]
    rfl
  rw [if_neg h0, hj]
  by_cases h1 : room > 67108864
  · rw [if_pos (decide_eq_true h1), if_pos (.inr h1)]
    rfl
  rw [if_neg (by rw [decide_eq_true_eq]; exact h1), if_neg (by omega)]
  obtain ⟨rm, rfl⟩ : ∃ rm : Nat, room = (rm : Int) := ⟨room.toNat, by omega⟩
  have := new_l0 (room := rm) (by omega) hsz hll k 0 [] srt_nil (Nat.zero_le _) (Nat.zero_le _) (by omega)
  rw [List.drop_zero] at this
  rw [Int.toNat_natCast]
  refine Eq.trans this ?_
  rcases newF rm [] l with ⟨_ | g, x⟩ <;> rfl
end Gd

end Go.Proofs.Ytidijiijciokpaa.G
