import Derived.Test.YtidijiijciokpaaK5
import Derived.Maps.OwnOps
import Derived.WideMake
import Derived.Laws.IdiomRangeMap
import Derived.Maps.AppendAt
import Derived.Deep.RegionLaw
import Derived.ArgAppend
import Derived.Maps.RangeRun
import Derived.Deep.Upon
import Derived.Deep.QuietTactic
import Derived.BigQuiet
import Derived.Deep.RegionHeld3
import Derived.Deep.DeepCutAuto
import Derived.Deep.CutBlock
import Derived.Laws.EntriesVeiled
import Derived.StillTailTactics
import Derived.Laws.Tables
import Derived.Laws.CopyOwn
import Derived.IntWalk
import Derived.Test.YtidijiijciokpaaBlocks
import Derived.Laws.CopyOwn
import Derived.Laws.Tables
import Derived.Outline
namespace Go.Proofs.Ytidijiijciokpaa.G
open Go.RowKit Go.Proofs.YtidijiijciokpaaW.PrintWords Go.Proofs.YtidijiijciokpaaW.PrintLast Go.Proofs.YtidijiijciokpaaW.PrintMore
set_option linter.unusedVariables false
set_option linter.unusedSimpArgs false
namespace Gd
open Go.Proofs.Ytidijiijciokpaa.Blocks Frm Go.Proofs.Ytidijiijciokpaa.E
set_option maxRecDepth 100000
theorem Sq.own {W0 w w' : World} {S : Nat → Prop} {dp n c : Nat} {d : Ab} {rows : List (Option Addr × Fs)} {A : Option Addr} {l : List S47} (h : Sq W0 w S dp d rows) (hr : Kd.R k47 47 w' w.heap.size (fun _ => True) (.slice A n c) l) : Kd.F k47 w' (fun k => ¬ S k) A n l :=
  Kd.F_mono (Kd.R_F (Kd.R_bound hr)) (fun k hk q => by have := h.dk.lt k q; have := hk.2.1; omega)
end Gd

namespace Gd
open Go.Proofs.Ytidijiijciokpaa.Blocks Frm Go.Proofs.Ytidijiijciokpaa.E
set_option maxRecDepth 100000
def isIn (p : ByteArray × ByteArray) (fs : Fs) : Bool := fs.any fun q => decide (q = p)
theorem isIn_iff {p : ByteArray × ByteArray} {fs : Fs} : isIn p fs = true ↔ p ∈ fs := by
  unfold isIn
  rw [List.any_eq_true]
  constructor
  · rintro ⟨q, h, e⟩
    exact of_decide_eq_true e ▸ h
  · intro h
    exact ⟨p, h, decide_eq_true rfl⟩
theorem isIn_none {p : ByteArray × ByteArray} {fs : Fs} (h : ∀ q ∈ fs, q ≠ p) : isIn p fs = false := by
  rw [Bool.eq_false_iff]
  exact fun e => h p (isIn_iff.1 e) rfl
set_option maxHeartbeats 4000000 in
theorem hasf_calls {W : World} (A F : Option Addr) (c cf : Nat) (fs : Fs) (p : ByteArray × ByteArray) (hC : Kd.C k33 W A (fs.map sf).length (fs.map sf)) (hF : Kd.C (Kd.int .u8) W F p.2.size (bytesOf p.2)) (hl : fs.length ≤ 1099511627777) : Calls Try.prog 15 #[.slice A fs.length c, .agg #[.string p.1, .slice F p.2.size cf]] W fun e w => e = .returned (.bool (isIn p fs)) ∧ Below W.heap.size W w := by
  have HB := Aside0.mk (below_alloc (Below.refl W.heap.size W) (.cells #[.string p.1, .slice F p.2.size cf] 33))
  have HX := Aside0.mk (blk_new W (.cells #[.string p.1, .slice F p.2.size cf] 33))
  have HC := Aside0.mk (And.intro (Kd.C_below hC HB.out) (And.intro (Kd.C_below hF HB.out) hl))
  clear hC hF hl
  go_enter Try.func15, Try.ntmps15
  go_upto_region 1 with fail
  generalize W.alloc _ = w1 at HB HX HC ⊢
  go_wp2
  go_loopw [5] (fun i wr => ∃ k : Nat, i = .int .i64 (k : Int) ∧ Aside0 (k ≤ fs.length ∧ (∀ q ∈ fs.take k, q ≠ p) ∧ Below w1.heap.size w1 wr)) (fun i _ => fs.length - (intOf i).toNat)
  case atStart => exact ⟨0, rfl, ⟨Nat.zero_le _, (fun q hq => by cases hq), Below.refl _ _⟩⟩
  case round =>
    obtain ⟨k, rfl, HK⟩ := hrel
    by_cases h1 : k < fs.length
    · have hki : (k : Int) < (fs.length : Int) := by omega
      have w9 := i64_of (show -9223372036854775808 ≤ (k : Int) + 1 ∧ (k : Int) + 1 ≤ 9223372036854775807 by have := HC.out.2.2; omega)
      obtain ⟨ad, A1, c1, hA, a1, a2, a3, a4⟩ := sf_at (Kd.C_below HC.out.1 HK.out.2.2) h1
      subst hA
      have a5 := Kd.C_below HC.out.2.1 HK.out.2.2
      have hx := blk_below HX.out HK.out.2.2
      have b1 : wr.cell? ⟨W.heap.size, 0, none⟩ = some (.string p.1) := blk_cell hx 0
      have b2 : wr.cell? ⟨W.heap.size, 1, none⟩ = some (.slice F p.2.size cf) := blk_cell hx 1
      have hcv : ∀ q, (convert 31 9 (.slice A1 fs[k].2.size c1)).run Try.prog (wr.drewN q) = .ok (.string fs[k].2) (wr.drewN q) := fun q => by
        have g2 := Kd.C_string (P := Try.prog) (c := c1) Try.underlying31 Try.underlying5 Try.underlying9 (Kd.C_drewN a4 q)
        rwa [str_bytes] at g2
      have hcw : ∀ q, (convert 31 9 (.slice F p.2.size cf)).run Try.prog (wr.drewN q) = .ok (.string p.2) (wr.drewN q) := fun q => by
        have g2 := Kd.C_string (P := Try.prog) (c := cf) Try.underlying31 Try.underlying5 Try.underlying9 (Kd.C_drewN a5 q)
        rwa [str_bytes] at g2
      have hmem := List.getElem_mem h1
      have htk := List.take_succ_eq_append_getElem h1
      clear a3 a4 a5 hx
      by_cases e1 : fs[k].1 = p.1
      · by_cases e2 : fs[k].2 = p.2
        · have HN := Aside0.mk (show isIn p fs = true from isIn_iff.2 (by have : fs[k] = p := Prod.ext e1 e2; rw [← this]; exact hmem))
          have hs1 : (fs[k].1.toList == p.1.toList) = true := by rw [toList_beq, decide_eq_true e1]
          have hs2 : (fs[k].2.toList == p.2.toList) = true := by rw [toList_beq, decide_eq_true e2]
          have hs3 : (fs[k].1 == p.1) = true := by rw [bytes_beq, decide_eq_true e1]
          have hs4 : (fs[k].2 == p.2) = true := by rw [bytes_beq, decide_eq_true e2]
          clear hmem htk e1 e2
          go_upto_region 4 with fail
          go_quiet (fail)
          have HB2 := Aside0.mk (HK.out.2.2.trans (below_w (Drawn0.below (w := wr) (w' := wr.drewN nq) ⟨nq, rfl⟩) HK.out.2.2.size))
          clear a1 a2 b1 b2 hcv hcw
          generalize wr.drewN nq = w5 at HB2 ⊢
          go_wp2
          go_ret
          exact ⟨ret_bool HN.out.symm, HB.out.trans (below_w HB2.out HB.out.size)⟩
        · have HT := Aside0.mk (show ∀ q ∈ fs.take (k + 1), q ≠ p from fun q hq => by
            rw [htk] at hq
            rcases List.mem_append.1 hq with hq | hq
            · exact HK.out.2.1 q hq
            · obtain rfl := List.mem_singleton.1 hq
              exact fun e => e2 (by rw [e]))
          have hs1 : (fs[k].1.toList == p.1.toList) = true := by rw [toList_beq, decide_eq_true e1]
          have hs2 : (fs[k].2.toList == p.2.toList) = false := by rw [toList_beq, decide_eq_false e2]
          have hs3 : (fs[k].1 == p.1) = true := by rw [bytes_beq, decide_eq_true e1]
          have hs4 : (fs[k].2 == p.2) = false := by rw [bytes_beq, decide_eq_false e2]
          clear hmem htk e1 e2
          go_upto_region 4 with fail
          go_quiet (fail)
          have HB2 := Aside0.mk (HK.out.2.2.trans (below_w (Drawn0.below (w := wr) (w' := wr.drewN nq) ⟨nq, rfl⟩) HK.out.2.2.size))
          clear a1 a2 b1 b2 hcv hcw
          generalize wr.drewN nq = w5 at HB2 ⊢
          go_wp2
          go_roundw
          case rel => exact ⟨k + 1, by push_cast; rfl, ⟨by omega, HT.out, HB2.out⟩⟩
          case measure => simp [intOf]; omega
      · have HT := Aside0.mk (show ∀ q ∈ fs.take (k + 1), q ≠ p from fun q hq => by
          rw [htk] at hq
          rcases List.mem_append.1 hq with hq | hq
          · exact HK.out.2.1 q hq
          · obtain rfl := List.mem_singleton.1 hq
            exact fun e => e1 (by rw [e]))
        have hs1 : (fs[k].1.toList == p.1.toList) = false := by rw [toList_beq, decide_eq_false e1]
        have hs3 : (fs[k].1 == p.1) = false := by rw [bytes_beq, decide_eq_false e1]
        clear hmem htk e1
        go_upto_region 4 with fail
        go_quiet (fail)
        have HB2 := Aside0.mk (HK.out.2.2.trans (below_w (Drawn0.below (w := wr) (w' := wr.drewN nq) ⟨nq, rfl⟩) HK.out.2.2.size))
        clear a1 a2 b1 b2 hcv hcw
        generalize wr.drewN nq = w5 at HB2 ⊢
        go_wp2
        go_roundw
        case rel => exact ⟨k + 1, by push_cast; rfl, ⟨by omega, HT.out, HB2.out⟩⟩
        case measure => simp [intOf]; omega
    · have hk : k = fs.length := by have := HK.out.1; omega
      have HN := Aside0.mk (show isIn p fs = false from isIn_none (by have := HK.out.2.1; rwa [hk, List.take_length] at this))
      subst hk
      clear h1
      go_wp2
      go_ret
      exact ⟨ret_bool HN.out.symm, HB.out.trans (below_w HK.out.2.2 HB.out.size)⟩
end Gd

namespace Gd
open Go.Proofs.Ytidijiijciokpaa.Blocks Frm Go.Proofs.Ytidijiijciokpaa.E
set_option maxRecDepth 100000
/-- How many of some are not among others. -/
def us (a b : Fs) : Nat := (a.filter fun p => !isIn p b).length
theorem us_le {a b l c : Fs} (h : a.Perm (l ++ c)) (hc : ∀ p ∈ c, p ∈ b) : us a b ≤ l.length := by
  unfold us
  rw [(h.filter _).length_eq, List.filter_append, List.length_append]
  have h2 : c.filter (fun p => !isIn p b) = [] := List.filter_eq_nil_iff.2 fun p hp => by rw [isIn_iff.2 (hc p hp)]; simp
  rw [h2]
  exact List.length_filter_le _ _
structure Near (a b : Fs) : Prop where
  un : us a b ≤ 2
  gr : us b a ≤ 1
  up : b.length ≤ a.length + 1
  dn : a.length ≤ b.length + 1
theorem near_of {a b l m c : Fs} (ha : a.Perm (l ++ c)) (hb : b.Perm (m ++ c)) (h1 : l.length ≤ 2) (h2 : m.length ≤ 1) (h3 : l.length ≤ m.length + 1) : Near a b := by
  have e1 := ha.length_eq
  have e2 := hb.length_eq
  rw [List.length_append] at e1 e2
  exact ⟨Nat.le_trans (us_le ha fun p hp => hb.mem_iff.2 (List.mem_append.2 (.inr hp))) h1, Nat.le_trans (us_le hb fun p hp => ha.mem_iff.2 (List.mem_append.2 (.inr hp))) h2, by omega, by omega⟩
theorem split_del {f : Fs} (h : Srt f) (n : ByteArray) : ∃ l : Fs, l.length ≤ 1 ∧ f.Perm (l ++ del f n) := by
  rcases hg : get f n with _ | d
  · exact ⟨[], Nat.zero_le _, by rw [del_notin (get_none hg)]; exact .refl _⟩
  · exact ⟨[(n, d)], Nat.le_refl _, by have := put_perm n d h; rwa [put_same h hg] at this⟩
theorem near_put {f : Fs} (h : Srt f) (n d : ByteArray) : Near f (put f n d) := by
  obtain ⟨l, hl, hp⟩ := split_del h n
  exact near_of hp (m := [(n, d)]) (put_perm n d h) (by omega) (by simp) (by simp; omega)
theorem near_do {f : Fs} (h : Srt f) (s : St) (k : Nat) : Near f (doSt f s k) := by
  cases s with
  | created n => exact near_put h n _
  | laid n b => exact near_put h n _
  | cut n c => exact near_put h n _
  | removed n =>
    obtain ⟨l, hl, hp⟩ := split_del h n
    exact near_of hp (m := []) (.refl _) (by omega) (by simp) (by simp; omega)
  | renamed x y =>
    show Near f (if x = y then f else del (put f y (dat f x)) x)
    split
    · exact near_of (l := []) (m := []) (c := f) (.refl _) (.refl _) (by simp) (by simp) (by simp)
    · rename_i hne
      obtain ⟨l, hl, hp⟩ := split_del h y
      obtain ⟨l2, hl2, hp2⟩ := split_del (srt_del y h) x
      have hb : (del (put f y (dat f x)) x).Perm ([(y, dat f x)] ++ del (del f y) x) := by
        have := (put_perm y (dat f x) h).filter (fun p => decide (p.1 ≠ x))
        have e : ((y, dat f x) :: del f y).filter (fun p => decide (p.1 ≠ x)) = (y, dat f x) :: del (del f y) x := List.filter_cons_of_pos (by simpa using fun e => hne e.symm)
        rw [e] at this
        exact this
      have ha : f.Perm ((l ++ l2) ++ del (del f y) x) := hp.trans (by rw [List.append_assoc]; exact (List.Perm.refl l).append hp2)
      exact near_of ha hb (by rw [List.length_append]; omega) (by simp) (by rw [List.length_append]; simp; omega)
theorem near_mid {f : Fs} (h : Srt f) (s : St) (k : Nat) (h0 : 0 < k) (hk : k < s.count) : Near (doSt f s k) (doSt f s (k + 1)) := by
  cases s with
  | laid n b => exact near_of (l := [_]) (m := [_]) (put_perm n _ h) (put_perm n _ h) (by simp) (by simp) (by simp)
  | created n => exact absurd hk (by show ¬ k < 1; omega)
  | cut n c => exact absurd hk (by show ¬ k < 1; omega)
  | removed n => exact absurd hk (by show ¬ k < 1; omega)
  | renamed x y => exact absurd hk (by show ¬ k < 1; omega)
theorem remn_z0 (f : Fs) (ss : List St) : remn f ss 0 = f := by
  cases ss with
  | nil => rfl
  | cons s r => rfl
theorem near_remn : ∀ {ss : List St} {f : Fs} {k : Nat}, Srt f → (∀ s ∈ ss, 0 < s.count) → k < pend ss → Near (remn f ss k) (remn f ss (k + 1))
  | [], _, _, _, _, hk => absurd hk (by show ¬ _ < 0; omega)
  | s :: ss, f, k, h, hp, hk => by
    have h1 := hp s (.head _)
    have h2 : pend (s :: ss) = s.count + pend ss := by simp [pend]
    have e : ∀ j, 0 < j → remn f (s :: ss) j = remn (doSt f s (min j s.count)) ss (j - min j s.count) := fun j hj => by
      show (if j = 0 then f else _) = _
      rw [if_neg (by omega)]
    by_cases c0 : k = 0
    · subst c0
      rw [e 1 (by omega), remn_z0, show (0 + 1) - min (0 + 1) s.count = 0 by omega, remn_z0]
      exact near_do h s _
    · rw [e k (by omega), e (k + 1) (by omega)]
      by_cases c1 : k < s.count
      · rw [show min k s.count = k by omega, show min (k + 1) s.count = k + 1 by omega, show k - k = 0 by omega, show k + 1 - (k + 1) = 0 by omega, remn_z0, remn_z0]
        exact near_mid h s k (by omega) c1
      · rw [show min k s.count = s.count by omega, show min (k + 1) s.count = s.count by omega, show k + 1 - s.count = (k - s.count) + 1 by omega]
        exact near_remn (srt_do h s _) (fun t ht => hp t (.tail _ ht)) (by omega)
theorem near_left {d : Ab} (h : d.Ok) {k : Nat} (hk : k < pend d.steps) : Near (d.left (k : Int)) (d.left ((k + 1 : Nat) : Int)) := by
  unfold Ab.left
  rw [Int.toNat_natCast, Int.toNat_natCast]
  exact near_remn h.srt h.pos hk
/-- How many are new, so many steps far. -/
def gsum (d : Ab) : Nat → Nat
  | 0 => 0
  | k + 1 => gsum d k + us (d.left ((k + 1 : Nat) : Int)) (d.left (k : Int))
theorem gsum_le {d : Ab} (h : d.Ok) : ∀ k, k ≤ pend d.steps → gsum d k ≤ k
  | 0, _ => Nat.le_refl _
  | k + 1, hk => by
    have := gsum_le h k (by omega)
    have := (near_left h (k := k) (by omega)).gr
    show gsum d k + _ ≤ _
    omega
theorem gsum_mono (d : Ab) {j : Nat} : ∀ k, j ≤ k → gsum d j ≤ gsum d k
  | 0, h => by rw [show j = 0 by omega]; exact Nat.le_refl _
  | k + 1, h => by
    rcases Nat.lt_or_ge j (k + 1) with c | c
    · exact Nat.le_trans (gsum_mono d k (by omega)) (Nat.le_add_right _ _)
    · rw [show j = k + 1 by omega]; exact Nat.le_refl _
theorem step_more (d : Ab) (s : St) : ∃ e, (d.step s).1.steps = d.steps ++ e := by
  obtain ⟨_, e1, _⟩ := act_same d
  unfold Ab.step
  split
  · show ∃ e, (if 0 < s.count then d.steps ++ [s] else d.steps) = _
    split
    · exact ⟨[s], rfl⟩
    · exact ⟨[], (List.append_nil _).symm⟩
  · exact ⟨[], by rw [e1, List.append_nil]⟩
theorem more_refl (d : Ab) : ∃ e, d.steps = d.steps ++ e := ⟨[], (List.append_nil _).symm⟩
theorem doAct_more (d : Ab) {kd : Int} (nm to_ dt : ByteArray) (sz : Int) (h : 1 ≤ kd ∧ kd ≤ 5) : ∃ e, (d.doAct kd nm to_ dt sz).1.steps = d.steps ++ e := by
  unfold Ab.doAct
  split
  · unfold Ab.create
    repeat' split
    all_goals first | exact more_refl d | exact step_more _ _
  · split
    · unfold Ab.append
      repeat' split
      all_goals first | exact more_refl d | exact step_more _ _
    · split
      · unfold Ab.cut
        repeat' split
        all_goals first | exact more_refl d | exact step_more _ _
      · split
        · unfold Ab.rename
          repeat' split
          all_goals first | exact more_refl d | exact step_more _ _
        · split
          · unfold Ab.remove
            repeat' split
            all_goals first | exact more_refl d | exact step_more _ _
          · omega
theorem play_more : ∀ {l : List S47} {d : Ab}, (∀ o ∈ l, okO o = true) → ∃ e, (d.play l).steps = d.steps ++ e
  | [], d, _ => more_refl d
  | o :: l, d, h => by
    have h1 := h o (.head _)
    simp only [okO, Bool.and_eq_true, decide_eq_true_eq] at h1
    have h2 : d.op o = (d.doAct o.f0.f0 o.f0.f1 o.f0.f2 o.f0.f3 o.f0.f4).1 := if_pos ⟨h1.1, by omega⟩
    obtain ⟨e, he⟩ := doAct_more d o.f0.f1 o.f0.f2 o.f0.f3 o.f0.f4 ⟨h1.1, h1.2.1⟩
    obtain ⟨e2, he2⟩ := play_more (d := d.op o) (fun x hx => h x (.tail _ hx))
    exact ⟨e ++ e2, by
      show ((d.op o).play l).steps = _
      rw [he2, h2, he, List.append_assoc]⟩
theorem first_steps {d : Ab} {r : List St} (hl : d.lasts = []) (hs : d.steps = .created nF :: .laid nF nO :: r) : 4 ≤ gsum d 4 ∧ 4 ≤ pend d.steps := by
  have h0 : d.left ((0 : Nat) : Int) = [] := by unfold Ab.left; rw [hl, hs]; rfl
  have h1 : d.left ((1 : Nat) : Int) = [(nF, ⟨#[]⟩)] := by unfold Ab.left; rw [hl, hs]; rfl
  have h2 : d.left ((2 : Nat) : Int) = [(nF, ⟨#[111]⟩)] := by unfold Ab.left; rw [hl, hs]; cases r <;> rfl
  have h3 : d.left ((3 : Nat) : Int) = [(nF, ⟨#[111, 110]⟩)] := by unfold Ab.left; rw [hl, hs]; cases r <;> rfl
  have h4 : d.left ((4 : Nat) : Int) = [(nF, ⟨#[111, 110, 101]⟩)] := by unfold Ab.left; rw [hl, hs]; cases r <;> rfl
  constructor
  · show 4 ≤ (((0 + us (d.left ((1 : Nat) : Int)) (d.left ((0 : Nat) : Int))) + us (d.left ((2 : Nat) : Int)) (d.left ((1 : Nat) : Int))) + us (d.left ((3 : Nat) : Int)) (d.left ((2 : Nat) : Int))) + us (d.left ((4 : Nat) : Int)) (d.left ((3 : Nat) : Int))
    rw [h0, h1, h2, h3, h4]
    decide
  · rw [hs]
    show 4 ≤ (1 + (3 + pend r))
    omega
/-- The first so many that are not among others. -/
theorem us_snoc {a b : Fs} {k : Nat} (hk : k < a.length) : us (a.take (k + 1)) b = us (a.take k) b + (if isIn a[k] b then 0 else 1) := by
  unfold us
  rw [List.take_succ_eq_append_getElem hk, List.filter_append, List.length_append]
  rcases hi : isIn a[k] b with _ | _
  · simp [hi]
  · simp [hi]
end Gd

namespace Gd
open Go.Proofs.Ytidijiijciokpaa.Blocks Frm Go.Proofs.Ytidijiijciokpaa.E
set_option maxRecDepth 100000
set_option maxHeartbeats 8000000 in
theorem steps_calls {W : World} (A1 : Option Addr) (c1 : Nat) (l1 : List S47) (hC1 : Kd.C k47 W A1 l1.length l1) (hl1 : l1.length ≤ c1) (h1 : ∀ o ∈ l1, OpSz o) (hw : wts l1 ≤ 1099511627776) :
    Calls Try.prog 3 #[.slice A1 l1.length c1] W fun e w => e = .returned (.bool true) ∧ Below W.heap.size W w := by
  obtain ⟨d, ed⟩ : ∃ x, x = (wk 5000).play (onl l1) := ⟨_, rfl⟩
  have k5 := play_only (d := wk 5000) (onl_ok (l := l1))
  rw [← ed] at k5
  have hl : d.lasts = [] := k5.1
  obtain ⟨r, hr⟩ := play_more (d := wk 5000) (onl_ok (l := l1))
  rw [← ed] at hr
  have hf := first_steps hl (r := r) hr
  have b1 : d.Bq 2524 := by rw [ed]; exact (play_bq (onl l1) (wk_bq 5000)).mono (by have := wts_onl l1; omega)
  have E1 := Aside0.mk (And.intro hf (show d.left 0 = [] from (left_zero d).trans hl))
  have B1 := Aside0.mk (b1.bd (by omega))
  have BL := Aside0.mk (show d.steps.length ≤ 4398046511104 from (b1.bd (by omega)).2.1)
  have BP := Aside0.mk (show pend d.steps ≤ 2524 from b1.2.2)
  have ed' := Aside0.mk ed.symm
  have HA := Aside0.mk (And.intro hC1 (And.intro h1 hl1))
  clear k5 hl hr hf b1 ed hC1 h1 hl1 hw
  go_enter Try.func3, Try.ntmps3
  have n4 : decide ((pend d.steps : Int) < 4) = false := decide_eq_false (by have := E1.out.1.2; omega)
  go_wp2_with (first
    | (go_at_call 10; refine (works_calls (W := W) 5000 (by decide) (by decide)).mono ?_; rintro r w2 ⟨dp, S, rfl, hD, hS, hB⟩; (have HD := Aside0.mk (show Sq W w2 S dp (wk 5000) [] from ⟨hD, hS, hB, fun A fs h => by cases h⟩)); clear hD hS hB)
    | (go_at_call 12; refine (hawserlaw12_only.calls _ A1 c1 l1 (onl l1) _ (Kd.F_now (HD.out.arg HA.out.1)) HA.out.2.2 (only_f l1)).mono ?_; rintro r w4 ⟨v, rfl, hx, hy⟩; obtain ⟨A3, c3, rfl⟩ := Kd.R_slice hx; (have HO := Aside0.mk (HD.out.own hx)); replace HD := Aside0.mk (HD.out.look hy); clear hx hy)
    | (go_at_call 11; refine (play_calls HD.out.dk (wk_bq 5000) A3 c3 (onl l1) HO.out (by have := wts_onl l1; omega) (onl_sz HA.out.2.1)).mono ?_; rintro r w3 ⟨rfl, S3, hx, hy⟩; rw [ed'.out] at hx; replace HD := Aside0.mk (HD.out.mut hx hy); clear hx hy HO)
    | (go_at_call 13; refine (pending_calls HD.out.dk B1.out).mono ?_; rintro r w3 ⟨rfl, hb⟩; replace HD := Aside0.mk (HD.out.look hb); clear hb)
    | fail)
  have H0 : Aside0 (∃ S, Sq W w3 S dp d []) := ⟨⟨_, HD.out⟩⟩
  clear HD
  go_loopw [5, 6] (fun x y wr => ∃ k : Nat, y = .int .i64 (k : Int) ∧ x = .int .i64 ((gsum d k : Nat) : Int) ∧ k ≤ pend d.steps ∧ Aside0 (∃ S, Sq W wr S dp d [])) (fun _ y _ => pend d.steps - (intOf y).toNat)
  case atStart => exact ⟨0, rfl, rfl, Nat.zero_le _, H0⟩
  case round =>
    clear H0
    obtain ⟨k, rfl, rfl, hk, HP⟩ := hrel
    obtain ⟨S3, hD⟩ := HP.out
    have HD := Aside0.mk hD
    have HG := Aside0.mk (show gsum d k ≤ 2524 by have := gsum_le hD.dk.ok k hk; have := BP.out; omega)
    by_cases hlt : k < pend d.steps
    · have hN : Near (d.left (k : Int)) (d.left ((k : Int) + 1)) := near_left hD.dk.ok hlt
      have HGS := Aside0.mk (show gsum d (k + 1) = gsum d k + us (d.left ((k : Int) + 1)) (d.left (k : Int)) from rfl)
      clear hD HP
      have hkn : (k : Int) < (pend d.steps : Int) := by omega
      have wk1 : IntKind.i64.wrap ((k : Int) + 1) = (k : Int) + 1 := IntWalk.i64_in _ (by have := BP.out; omega)
      have HNr := Aside0.mk hN
      clear hN
      go_wp2_with (first
        | (go_at_call 14; refine Calls.mono (leftp_calls HD.out.dk BL.out (k : Int) (by omega) (by have := BP.out; omega)) ?_; rintro r w3 ⟨v, rfl, hx, hy⟩; obtain ⟨A, c, rfl, hz⟩ := HD.out.row hx hy (HD.out.dk.ok.leftLen _); (have HD1 := Aside0.mk hz); clear hx hy hz HD)
        | (go_at_call 14; refine Calls.mono (leftp_calls HD1.out.dk BL.out ((k : Int) + 1) (by omega) (by have := BP.out; omega)) ?_; rintro r w3 ⟨v, rfl, hx, hy⟩; obtain ⟨B, cb, rfl, hz⟩ := HD1.out.row hx hy (HD1.out.dk.ok.leftLen _); (have HD := Aside0.mk hz); clear hx hy hz HD1)
        | fail)
      go_loopw [9, 10] (fun x y wr => ∃ i : Nat, y = .int .i64 (i : Int) ∧ x = .int .i64 ((us ((d.left (k : Int)).take i) (d.left ((k : Int) + 1)) : Nat) : Int) ∧ i ≤ (d.left (k : Int)).length ∧ Aside0 (Sq W wr S3 dp d [(B, d.left ((k : Int) + 1)), (A, d.left (k : Int))])) (fun _ y _ => (d.left (k : Int)).length - (intOf y).toNat)
      case atStart => exact ⟨0, rfl, by simp [us], Nat.zero_le _, HD⟩
      case round =>
        clear HD
        obtain ⟨i, rfl, rfl, hi, HD⟩ := hrel
        have HLn := Aside0.mk (HD.out.rows A (d.left (k : Int)) (by repeat (first | exact List.Mem.head _ | refine List.Mem.tail _ ?_))).2
        by_cases hil : i < (d.left (k : Int)).length
        · obtain ⟨ad, A1, ca, hA, a1, a2, a3, a4⟩ := sf_at (Lv.now (HD.out.rows A (d.left (k : Int)) (by repeat (first | exact List.Mem.head _ | refine List.Mem.tail _ ?_)))) hil
          subst hA
          have hii : (i : Int) < ((d.left (k : Int)).length : Int) := by omega
          have hi0 : (0 : Int) ≤ (i : Int) := by omega
          have hus := us_snoc (b := d.left ((k : Int) + 1)) hil
          have hul : us ((d.left (k : Int)).take i) (d.left ((k : Int) + 1)) ≤ i := Nat.le_trans (List.length_filter_le _ _) (by rw [List.length_take]; omega)
          have wi : IntKind.i64.wrap ((i : Int) + 1) = (i : Int) + 1 := IntWalk.i64_in _ (by have := HLn.out; omega)
          have wu : IntKind.i64.wrap (((us ((d.left (k : Int)).take i) (d.left ((k : Int) + 1)) : Nat) : Int) + 1) = ((us ((d.left (k : Int)).take i) (d.left ((k : Int) + 1)) : Nat) : Int) + 1 := IntWalk.i64_in _ (by have := HLn.out; have := BP.out; have := HG.out; omega)
          have HF := Aside0.mk a4
          clear a3 a4 hul
          rcases hin : isIn (d.left (k : Int))[i] (d.left ((k : Int) + 1)) with _ | _
          all_goals
            rw [hin] at hus
            have HU := Aside0.mk hus
            have HI := Aside0.mk hin
            clear hus hin
            go_wp2_with (first
              | (go_at_call 15; refine Calls.mono (hasf_calls _ _ _ _ _ (d.left (k : Int))[i] ?m1 ?m2 ?m3) ?_; (case m1 => exact Lv.now (HD.out.rows B _ (by repeat (first | exact List.Mem.head _ | refine List.Mem.tail _ ?_)))); (case m2 => exact HF.out); (case m3 => exact Nat.le_trans (HD.out.dk.ok.leftLen _) (by omega)); rintro r w3 ⟨rfl, hb⟩; rw [HI.out]; replace HD := Aside0.mk (HD.out.look hb); clear hb)
              | fail)
            go_roundw
            case rel => exact ⟨i + 1, by push_cast; rfl, by rw [HU.out]; first | rfl | exact congrArg (Value.int .i64) (by push_cast; first | rfl | omega), by omega, HD⟩
            case measure => simp [intOf]; omega
        · have h9 : i = (d.left (k : Int)).length := by omega
          subst h9
          clear hil hi HLn
          rw [List.take_length]
          go_wp2_with fail
          go_loopw [5, 11] (fun x y wr => ∃ i : Nat, y = .int .i64 (i : Int) ∧ x = .int .i64 ((gsum d k + us ((d.left ((k : Int) + 1)).take i) (d.left (k : Int)) : Nat) : Int) ∧ i ≤ (d.left ((k : Int) + 1)).length ∧ Aside0 (Sq W wr S3 dp d [(B, d.left ((k : Int) + 1)), (A, d.left (k : Int))])) (fun _ y _ => (d.left ((k : Int) + 1)).length - (intOf y).toNat)
          case atStart => exact ⟨0, rfl, by simp [us], Nat.zero_le _, HD⟩
          case round =>
            clear HD
            obtain ⟨i, rfl, rfl, hi, HD⟩ := hrel
            have HLn := Aside0.mk (HD.out.rows B (d.left ((k : Int) + 1)) (by repeat (first | exact List.Mem.head _ | refine List.Mem.tail _ ?_))).2
            by_cases hil : i < (d.left ((k : Int) + 1)).length
            · obtain ⟨ad, A1, ca, hA, a1, a2, a3, a4⟩ := sf_at (Lv.now (HD.out.rows B (d.left ((k : Int) + 1)) (by repeat (first | exact List.Mem.head _ | refine List.Mem.tail _ ?_)))) hil
              subst hA
              have hii : (i : Int) < ((d.left ((k : Int) + 1)).length : Int) := by omega
              have hi0 : (0 : Int) ≤ (i : Int) := by omega
              have hus := us_snoc (b := d.left (k : Int)) hil
              have hul : us ((d.left ((k : Int) + 1)).take i) (d.left (k : Int)) ≤ i := Nat.le_trans (List.length_filter_le _ _) (by rw [List.length_take]; omega)
              have wi : IntKind.i64.wrap ((i : Int) + 1) = (i : Int) + 1 := IntWalk.i64_in _ (by have := HLn.out; omega)
              have wu : IntKind.i64.wrap (((gsum d k + us ((d.left ((k : Int) + 1)).take i) (d.left (k : Int)) : Nat) : Int) + 1) = ((gsum d k + us ((d.left ((k : Int) + 1)).take i) (d.left (k : Int)) : Nat) : Int) + 1 := IntWalk.i64_in _ (by have := HLn.out; have := BP.out; have := HG.out; omega)
              have wu2 : wrap64 (((gsum d k : Nat) : Int) + ((us ((d.left ((k : Int) + 1)).take i) (d.left (k : Int)) : Nat) : Int) + 1) = ((gsum d k : Nat) : Int) + ((us ((d.left ((k : Int) + 1)).take i) (d.left (k : Int)) : Nat) : Int) + 1 := w64_of (by have := HLn.out; have := BP.out; have := HG.out; omega)
              have HF := Aside0.mk a4
              clear a3 a4 hul
              rcases hin : isIn (d.left ((k : Int) + 1))[i] (d.left (k : Int)) with _ | _
              all_goals
                rw [hin] at hus
                have HU := Aside0.mk hus
                have HI := Aside0.mk hin
                clear hus hin
                go_wp2_with (first
                  | (go_at_call 15; refine Calls.mono (hasf_calls _ _ _ _ _ (d.left ((k : Int) + 1))[i] ?m1 ?m2 ?m3) ?_; (case m1 => exact Lv.now (HD.out.rows A _ (by repeat (first | exact List.Mem.head _ | refine List.Mem.tail _ ?_)))); (case m2 => exact HF.out); (case m3 => exact Nat.le_trans (HD.out.dk.ok.leftLen _) (by omega)); rintro r w3 ⟨rfl, hb⟩; rw [HI.out]; replace HD := Aside0.mk (HD.out.look hb); clear hb)
                  | fail)
                go_roundw
                case rel => exact ⟨i + 1, by push_cast; rfl, by rw [HU.out]; first | rfl | exact congrArg (Value.int .i64) (by push_cast; first | rfl | omega), by omega, HD⟩
                case measure => simp [intOf]; omega
            · have h9 : i = (d.left ((k : Int) + 1)).length := by omega
              subst h9
              clear hil hi HLn
              rw [List.take_length]
              have hun := HNr.out.un
              have hup := HNr.out.up
              have hdn := HNr.out.dn
              have hlA := (HD.out.rows A (d.left (k : Int)) (by repeat (first | exact List.Mem.head _ | refine List.Mem.tail _ ?_))).2
              have hlB := (HD.out.rows B (d.left ((k : Int) + 1)) (by repeat (first | exact List.Mem.head _ | refine List.Mem.tail _ ?_))).2
              have wa : IntKind.i64.wrap (((d.left (k : Int)).length : Int) + 1) = ((d.left (k : Int)).length : Int) + 1 := IntWalk.i64_in _ (by omega)
              have wb : IntKind.i64.wrap (((d.left ((k : Int) + 1)).length : Int) + 1) = ((d.left ((k : Int) + 1)).length : Int) + 1 := IntWalk.i64_in _ (by omega)
              have g1 : decide ((2 : Int) < ((us (d.left (k : Int)) (d.left ((k : Int) + 1)) : Nat) : Int)) = false := decide_eq_false (by omega)
              have g1' : decide (2 < us (d.left (k : Int)) (d.left ((k : Int) + 1))) = false := decide_eq_false (by omega)
              have g2 : decide (((d.left (k : Int)).length : Int) + 1 < ((d.left ((k : Int) + 1)).length : Int)) = false := decide_eq_false (by omega)
              have g3 : decide (((d.left ((k : Int) + 1)).length : Int) + 1 < ((d.left (k : Int)).length : Int)) = false := decide_eq_false (by omega)
              clear hun hup hdn hlA hlB
              go_wp2_with fail
              go_roundw
              case rel => exact ⟨k + 1, by push_cast; rfl, by rw [HGS.out], by omega, ⟨S3, ⟨HD.out.dk, HD.out.ge, HD.out.bel, fun A fs h => by cases h⟩⟩⟩
              case measure => simp [intOf]; omega
    · have h8 : k = pend d.steps := by omega
      subst h8
      clear hlt hk HP
      have g4 : decide ((4 : Int) ≤ ((gsum d (pend d.steps) : Nat) : Int)) = true := decide_eq_true (by have := gsum_mono d (pend d.steps) E1.out.1.2; have := E1.out.1.1; omega)
      have g4' : decide (4 ≤ gsum d (pend d.steps)) = true := decide_eq_true (by have := gsum_mono d (pend d.steps) E1.out.1.2; have := E1.out.1.1; omega)
      have HE := Aside0.mk (left_all hD.dk.ok)
      clear hD
      go_wp2_with (first
        | (go_at_call 14; refine Calls.mono (leftp_calls HD.out.dk BL.out _ ?n2 ?n3) ?_; (case n2 => omega); (case n3 => (have := BP.out; omega)); rintro r w3 ⟨v, rfl, hx, hy⟩; obtain ⟨A, c, rfl, hz⟩ := HD.out.row hx hy (HD.out.dk.ok.leftLen _); (try rw [E1.out.2]); replace HD := Aside0.mk hz; clear hx hy hz)
        | (go_at_call 17; refine (files_calls HD.out.dk).mono ?_; rintro r w3 ⟨v, rfl, hx, hy⟩; obtain ⟨A, c, rfl, hz⟩ := HD.out.row hx hy HD.out.dk.ok.seenLen; replace HD := Aside0.mk hz; clear hx hy hz)
        | (go_at_call 16; refine Calls.mono (equal_calls _ _ _ _ _ _ ?m1 ?m2 ?m3 ?m4) ?_; (case m1 => exact Lv.now (HD.out.rows _ _ (by repeat (first | exact List.Mem.head _ | refine List.Mem.tail _ ?_)))); (case m2 => exact Lv.now (HD.out.rows _ _ (by repeat (first | exact List.Mem.head _ | refine List.Mem.tail _ ?_)))); (case m3 => exact (HD.out.rows _ _ (by repeat (first | exact List.Mem.head _ | refine List.Mem.tail _ ?_))).2); (case m4 => exact (HD.out.rows _ _ (by repeat (first | exact List.Mem.head _ | refine List.Mem.tail _ ?_))).2); rintro r w3 ⟨rfl, hb⟩; rw [decide_eq_true HE.out]; replace HD := Aside0.mk (HD.out.look hb); clear hb)
        | fail)
      go_ret
      exact ⟨rfl, HD.out.bel⟩
end Gd

end Go.Proofs.Ytidijiijciokpaa.G
