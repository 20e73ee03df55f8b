import Derived.Test.YtbfcejbjljalmaaF15
import Derived.Maps.OwnOps
import Derived.WideMake
import Derived.Laws.IdiomRangeMap
import Derived.Maps.AppendAt
import Derived.Deep.RegionLaw
import Derived.ArgAppend
import Derived.RangeFuncNested
import Derived.RangeFuncBound
import Derived.RangeFuncCalls
import Derived.RangeFuncLeaves
import Derived.RangeFuncBox
import Derived.RangeFuncFrom
import Derived.OwnWalkIn
import Derived.TacticsInMore
import Derived.LoopNIn
import Derived.LoopIn
import Derived.Deep.Upon
import Derived.Deep.QuietTactic
import Derived.BigQuiet
import Derived.Deep.RegionHeld3
import Derived.Deep.DeepCutAuto
import Derived.Deep.CutBlock
import Derived.Laws.EntriesVeiled
import Derived.StillTailTactics
import Derived.Laws.Tables
import Derived.Laws.CopyOwn
import Derived.IntWalk
import Derived.Test.YtbfcejbjljalmaaBlocks
import Derived.Laws.CopyOwn
import Derived.Laws.Tables
import Derived.Outline
namespace Go.Proofs.Ytbfcejbjljalmaa.P
open Go.RowKit Go.Proofs.YtbfcejbjljalmaaW.PrintWords Go.Proofs.YtbfcejbjljalmaaW.PrintLast Go.Proofs.YtbfcejbjljalmaaW.PrintMore
set_option linter.unusedVariables false
set_option linter.unusedSimpArgs false
namespace Wl
open Go.Proofs.Ytbfcejbjljalmaa.Blocks Frm
set_option maxRecDepth 100000
theorem row_low {W : World} {base base' n : Nat} {t : TypeId} {u : Value} {z : List Value} (h : W.ownsRow base t 1 u n z) (hb : base' ≤ base) : W.ownsRow base' t 1 u n z := Frm.own_lower h hb
theorem fenc_pos (ty : Int) (xs : List Int) : 0 < (fenc ty xs).length := by rw [fenc_len]; omega
theorem row_at {W : World} {base n : Nat} {e : TypeId} {u : Value} {z : List Value} (h : W.ownsRow base e 1 u n z) (hn : 0 < n) : ∃ g c, u = .slice (some ⟨g, 0, none⟩) n c ∧ base ≤ g ∧ ∃ cur : Array Value, W.heap[g]? = some (.cells cur e (0, 0)) ∧ ∀ (j : Nat) (v : Value), z[j]? = some v → cur[j]? = some v := by
  rcases h.2 with ⟨_, h0⟩ | ⟨g, c, cur, rfl, hb, hg, hc, _, _, ht⟩
  · omega
  · refine ⟨g, c, rfl, hb, cur, hg, fun j v hj => ?_⟩
    rw [← ht] at hj
    have hlt := (List.getElem?_eq_some_iff.1 hj).1
    rw [List.getElem?_take] at hj
    split at hj
    · simpa using hj
    · cases hj
theorem neZ {W : World} {a b : Nat} {cs cs2 : Array Value} {t t2 : TypeId} {z z2 : Nat × Nat} (ha : W.heap[a]? = some (.cells cs t z)) (hb : W.heap[b]? = some (.cells cs2 t2 z2)) (hne : t ≠ t2) : a ≠ b := by
  rintro rfl
  rw [ha] at hb
  injection hb with hb
  injection hb with _ hb
  exact hne hb
theorem own_neT {W : World} {base p m : Nat} {e t : TypeId} {cs : Array Value} {u : Value} {z : List Value} (hp : W.heap[p]? = some (.cells cs t (0, 0))) (h : W.ownsRow base e 1 u m z) (hne : e ≠ t) : some p ≠ u.ownBlock := by
  intro h1
  obtain ⟨c1, k1⟩ := own_typed h p h1.symm
  rw [hp] at k1
  injection k1 with k1
  injection k1 with _ k1
  exact hne k1.symm
theorem Ds.setl {W : World} {B dp mp lp : Nat} {room used acts : Int} {la sv : Value} {ss : List Value} {es : Array MapEntry} {n : Nat} (h : Ds W B dp mp room used acts la sv ss es n) {cs : Array Value} (hl : W.heap[lp]? = some (.cells cs 63 (0, 0))) (i : Nat) (v : Value) : Ds (W.setCell ⟨lp, i, none⟩ v) B dp mp room used acts la sv ss es n :=
  ⟨blk_far h.dsk (h.ne hl (by decide)).1.symm v, (Below.heap_setCell W ⟨lp, i, none⟩ v mp (h.ne hl (by decide)).2.symm).trans h.map, own_setCell h.stp (p := ⟨lp, i, none⟩) (own_neT hl h.stp (by decide)) v, h.gd, h.gm⟩
theorem Ap.set2 {W : World} {B R dp mp lp lb rb : Nat} {room used acts las : Int} {la sv rv : Value} {ss rs : List Value} {es : Array MapEntry} {n : Nat} {th : Bool} {xs : List Int} (h : Ap W B R dp mp lp lb rb room used acts las la sv rv ss rs es n th xs) : Ap (W.setCell ⟨lp, 2, none⟩ (.bool true)) B R dp mp lp lb rb room used acts las la sv rv ss rs es n true xs :=
  ⟨h.ds.setl h.lg 2 _, blk_put h.lg 2 _ rfl, blk_far h.bx (blk_ne h.bx h.lg (by decide)) _, own_setCell h.rw (p := ⟨lp, 2, none⟩) (own_neT h.lg h.rw (by decide)) _, h.rc.imp fun _ e => (Below.heap_setCell W ⟨lp, 2, none⟩ _ rb (neZ e h.lg (by decide))).trans e⟩
theorem grown_at {W w : World} {base m k : Nat} {e t : TypeId} {cs : Array Value} {u : Value} {z : List Value} (hg : W.grownBy w u.ownBlock) (ho : W.ownsRow base e 1 u m z) (hb : W.heap[k]? = some (.cells cs t (0, 0))) (hne : e ≠ t) : w.heap[k]? = some (.cells cs t (0, 0)) :=
  (hg.block k (blk_lt hb) (own_neT hb ho hne)).trans hb
theorem grown_own {W w : World} {base base2 m m2 : Nat} {e t : TypeId} {u u2 : Value} {z z2 : List Value} (hg : W.grownBy w u.ownBlock) (ho : W.ownsRow base e 1 u m z) (h2 : W.ownsRow base2 t 1 u2 m2 z2) (hne : e ≠ t) : w.ownsRow base2 t 1 u2 m2 z2 :=
  own_kept h2 hg (fun g hg2 hh => by
    obtain ⟨c1, k1⟩ := own_typed h2 g hg2
    obtain ⟨c2, k2⟩ := own_typed ho g hh
    rw [k1] at k2
    injection k2 with k2
    injection k2 with _ k2
    exact hne k2.symm)
theorem Ap.grow {W w : World} {B R dp mp lp lb rb : Nat} {room used acts las : Int} {la sv rv rv' : Value} {ss rs rs' : List Value} {es : Array MapEntry} {n : Nat} {th : Bool} {xs : List Int} (h : Ap W B R dp mp lp lb rb room used acts las la sv rv ss rs es n th xs) (hg : W.grownBy w rv.ownBlock) (hr : w.ownsRow R 29 1 rv' rs'.length rs') : Ap (w.setCell ⟨lp, 3, none⟩ rv') B R dp mp lp lb rb room used acts las la sv rv' ss rs' es n th xs := by
  have hlg := grown_at hg h.rw h.lg (by decide)
  have hds : Ds w B dp mp room used acts la sv ss es n := ⟨grown_at hg h.rw h.ds.dsk (by decide), (hg.block mp (Array.getElem?_eq_some_iff.1 h.ds.map).1 (fun e => (h.ds.apart h.rw (by decide) mp e.symm).2 rfl)).trans h.ds.map, grown_own hg h.rw h.ds.stp (by decide), h.ds.gd, h.ds.gm⟩
  have hbx := grown_at hg h.rw h.bx (by decide)
  exact ⟨hds.setl hlg 3 _, blk_put hlg 3 _ rfl, blk_far hbx (blk_ne hbx hlg (by decide)) _, own_setCell hr (p := ⟨lp, 3, none⟩) (own_neT hlg hr (by decide)) _, h.rc.imp fun _ e => (Below.heap_setCell w ⟨lp, 3, none⟩ _ rb (neZ e h.lg (by decide))).trans ((hg.block rb (Array.getElem?_eq_some_iff.1 e).1 (fun hh => by obtain ⟨c1, k1⟩ := own_typed h.rw rb hh.symm; rw [e] at k1; injection k1 with k1; injection k1 with _ k1; exact absurd k1 (by decide))).trans e)⟩
set_option maxHeartbeats 4000000 in
/-- The first record of a log without a file. -/
theorem app1_calls {W : World} {B R dp mp lp rb : Nat} {room used acts las : Int} {la sv rv : Value} {ss rs : List Value} {xs : List Int} (h : Ds W B dp mp room used acts la sv ss #[] 0) (hl : W.heap[lp]? = some (.cells (lcells dp ⟨#[97]⟩ false rv las) 63 (0, 0))) (hw : W.ownsRow R 29 1 rv rs.length rs) (hrc : ∃ z, W.heap[rb]? = some (.cells (nums .u8 xs).toArray 5 z)) (hx0 : 0 < xs.length) (hx : xs.length ≤ 1000) (h0 : 0 ≤ acts) (h1 : acts ≤ 1000000) (hB0 : B ≤ W.heap.size) (hR0 : R ≤ W.heap.size) (hBR : B ≤ R) (hBl : B ≤ lp) (hss : ss.length ≤ 1000) (hrs : rs.length ≤ 1000) (hu : 0 ≤ used) (hr : used + 100 + xs.length ≤ room) (hr2 : room ≤ 67108864) (hr3 : 100 + (xs.length : Int) ≤ room) :
    Calls Try.prog 7 #[.pointer (some ⟨lp, 0, none⟩), .slice (some ⟨rb, 0, none⟩) xs.length xs.length] W fun e w => e = .returned (.tuple #[.int .i64 rs.length, .int .i64 0]) ∧ ∃ v sv' ss' rv' rs', Ds w B dp mp room ((1 + (fenc 1 xs).length : Nat) : Int) (acts + 1 + 1) la sv' ss' #[fe v] 1 ∧ ss'.length = ss.length + 2 ∧ w.ownsRow W.heap.size 5 1 v (fenc 1 xs).length (nums .u8 (fenc 1 xs)) ∧ w.heap[lp]? = some (.cells (lcells dp ⟨#[97]⟩ true rv' las) 63 (0, 0)) ∧ w.ownsRow R 29 1 rv' rs'.length rs' ∧ rs'.length = rs.length + 1 ∧ Below B W w := by
  obtain ⟨Arv, crv, rfl, _⟩ := own_form hw
  have HB1 := Aside0.mk (below_alloc (Below.refl W.heap.size W) (.cells #[.pointer (some ⟨lp, 0, none⟩)] 26))
  have HA1 := Aside0.mk (show Ap (W.alloc (.cells #[.pointer (some ⟨lp, 0, none⟩)] 26)) B R dp mp lp W.heap.size rb room used acts las la sv (.slice Arv rs.length crv) ss rs #[] 0 false xs from ⟨h.below HB1.out, blk_below hl HB1.out, blk_new W _, own_below hw HB1.out, hrc.imp fun _ e => obj_below e HB1.out⟩)
  have HN := Aside0.mk (And.intro hx0 (And.intro hx (And.intro h0 (And.intro h1 (And.intro hB0 (And.intro hR0 (And.intro hBR (And.intro hBl (And.intro hss (And.intro hrs (And.intro hu (And.intro hr (And.intro hr2 hr3)))))))))))))
  clear h hl hw hrc hx0 hx h0 h1 hB0 hR0 hBR hBl hss hrs hu hr hr2 hr3
  go_enter Try.func7, Try.ntmps7
  go_upto_region 1 with fail
  generalize W.alloc (.cells #[.pointer (some ⟨lp, 0, none⟩)] 26) = w1 at HB1 HA1 ⊢
  have b0 : w1.cell? ⟨W.heap.size, 0, none⟩ = some (.pointer (some ⟨lp, 0, none⟩)) := blk_cell HA1.out.bx 0
  have HBS := Aside0.mk (blk_new w1 (.cells #[.slice (some ⟨rb, 0, none⟩) xs.length xs.length] 29))
  have HAS := Aside0.mk (HA1.out.below (below_alloc (Below.refl _ _) (.cells #[.slice (some ⟨rb, 0, none⟩) xs.length xs.length] 29)))
  have HCS := Aside0.mk (show Kd.C (Kd.int .u8) (w1.alloc (.cells #[.slice (some ⟨rb, 0, none⟩) xs.length xs.length] 29)) (some ⟨rb, 0, none⟩) xs.length xs from by
    obtain ⟨z, hz⟩ := HAS.out.rc
    exact C_z hz (by have := HN.out.2.1; omega))
  go_upto_region 7 with (first
    | (go_at_call 31; refine (state_calls HA1.out.lg).mono ?_; rintro e w2 ⟨rfl, hw⟩; (have hw_ := hw.symm); clear hw; subst hw_)
    | (go_at_call 32; refine (framed1_calls _ _ _ xs HBS.out HCS.out (by have := HN.out.2.1; omega)).mono ?_; rintro e w3 ⟨v3, rfl, ho, hb⟩; (have HA3 := Aside0.mk (HAS.out.below hb)); (have HO3 := Aside0.mk ho); (have HB3 := Aside0.mk ((HB1.out.alloc HB1.out.size (.cells #[.slice (some ⟨rb, 0, none⟩) xs.length xs.length] 29)).trans (below_w hb (by rw [World.size_alloc]; have := HB1.out.size; omega)))); (have HS3 := Aside0.mk (show w1.heap.size < w3.heap.size from Nat.lt_of_lt_of_le (by rw [World.size_alloc]; omega) hb.size)); obtain ⟨g3, c3, hv3, hg3, cur3, hc3, hj3⟩ := row_at ho (fenc_pos 1 xs); subst hv3; clear ho hb hg3 hc3 hj3)
    | fail)
  have HA4 := Aside0.mk (HA3.out.below (below_alloc (Below.refl _ _) (.cells #[.slice (some ⟨g3, 0, none⟩) (fenc 1 xs).length c3] 29)))
  have HO4 := Aside0.mk (Frm.own_alloc HO3.out (.cells #[.slice (some ⟨g3, 0, none⟩) (fenc 1 xs).length c3] 29))
  have HBB4 := Aside0.mk (blk_new w3 (.cells #[.slice (some ⟨g3, 0, none⟩) (fenc 1 xs).length c3] 29))
  have HB4 := Aside0.mk (HB3.out.alloc HB3.out.size (.cells #[.slice (some ⟨g3, 0, none⟩) (fenc 1 xs).length c3] 29))
  clear HA3 HO3 HB3 HBS HAS HCS HA1 HS3 b0
  generalize w3.alloc (.cells #[.slice (some ⟨g3, 0, none⟩) (fenc 1 xs).length c3] 29) = w4 at HA4 HO4 HBB4 HB4 ⊢
  generalize w3.heap.size = bb at HBB4 ⊢
  have b0 : w4.cell? ⟨W.heap.size, 0, none⟩ = some (.pointer (some ⟨lp, 0, none⟩)) := blk_cell HA4.out.bx 0
  have l2 : w4.cell? ⟨lp, 2, none⟩ = some (.bool false) := blk_cell HA4.out.lg 2
  obtain ⟨f1, hf1⟩ : ∃ f1 : Value, f1 = .func (.func 33) #[] #[.pointer (some ⟨W.heap.size, 0, none⟩)] := ⟨_, rfl⟩
  have HXF := Aside0.mk (blk_new w4 (.cells #[f1] 34))
  have HNF : Aside0 ((w4.alloc (.cells #[f1] 34)).ownsRow w4.heap.size 34 1 (.slice none 0 0) ([] : List Value).length []) := ⟨⟨by simp, .inl ⟨rfl, rfl⟩⟩⟩
  have HF1 := Aside0.mk hf1
  rw [hf1] at HXF HNF
  go_upto_region 10 with ((with_reducible refine gate_builtin (b := .append) (xs := #[.tmp 28, .tmp 30]) rfl ?_); at_builtin; refine wp_app1 (base := w4.heap.size) rfl (.tmp 28) (.tmp 30) 68 rfl info_func rfl (by decide) (by decide) Try.underlying68 (.slice none 0 0) [] w4.heap.size _ ?s_ ?x_ HNF.out HXF.out rfl (by decide) (by rw [World.size_alloc]; omega) ?_; (case s_ => go_simp); (case x_ => go_simp); intro v5 w5 h1_ h2_; obtain ⟨A5, c5, hv5, _⟩ := own_form h1_; subst hv5; (have HO5 := Aside0.mk h1_); (have HB5 := Aside0.mk (below_grown ((Below.refl _ w4).alloc (Nat.le_refl _) (.cells #[.func (.func 33) #[] #[.pointer (some ⟨W.heap.size, 0, none⟩)]] 34)) h2_ HNF.out (by rw [World.size_alloc]; omega))); clear h1_ h2_)
  clear HXF HNF HF1 hf1 b0 l2
  have HXG := Aside0.mk (blk_new w5 (.cells #[.func (.func 35) #[] #[.pointer (some ⟨W.heap.size, 0, none⟩), .pointer (some ⟨bb, 0, none⟩)]] 34))
  have HOG := Aside0.mk (Frm.own_alloc HO5.out (.cells #[.func (.func 35) #[] #[.pointer (some ⟨W.heap.size, 0, none⟩), .pointer (some ⟨bb, 0, none⟩)]] 34))
  go_upto_region 11 with ((with_reducible refine gate_builtin (b := .append) (xs := #[.tmp 32, .tmp 34]) rfl ?_); at_builtin; refine wp_app1 (base := w4.heap.size) rfl (.tmp 32) (.tmp 34) 68 rfl info_func rfl (by decide) (by decide) Try.underlying68 (.slice A5 1 c5) [.func (.func 33) #[] #[.pointer (some ⟨W.heap.size, 0, none⟩)]] w5.heap.size _ ?s_ ?x_ HOG.out HXG.out rfl (by show 1 ≤ _; decide) (by rw [World.size_alloc]; have := HB5.out.size; omega) ?_; (case s_ => go_simp); (case x_ => go_simp); intro v6 w6 h1_ h2_; obtain ⟨g6, c6, hv6, hg6, cur6, hc6, hj6⟩ := row_at h1_ (by show 0 < 2; decide); (have hv6_ : v6 = .slice (some ⟨g6, 0, none⟩) 2 c6 := hv6); clear hv6; subst hv6_; (have HC6 := Aside0.mk hc6); (have k60 : cur6[0]? = some (.func (.func 33) #[] #[.pointer (some ⟨W.heap.size, 0, none⟩)]) := hj6 0 _ rfl); (have k61 : cur6[1]? = some (.func (.func 35) #[] #[.pointer (some ⟨W.heap.size, 0, none⟩), .pointer (some ⟨bb, 0, none⟩)]) := hj6 1 _ rfl); (have HB6 := Aside0.mk (HB5.out.trans (below_grown ((Below.refl w4.heap.size w5).alloc HB5.out.size (.cells #[.func (.func 35) #[] #[.pointer (some ⟨W.heap.size, 0, none⟩), .pointer (some ⟨bb, 0, none⟩)]] 34)) h2_ HOG.out (by rw [World.size_alloc]; have := HB5.out.size; omega)))); clear h1_ h2_ hg6 hc6 hj6)
  have HA6 := Aside0.mk (HA4.out.below HB6.out)
  have HO6 := Aside0.mk (own_below HO4.out HB6.out)
  have HBB6 := Aside0.mk (blk_below HBB4.out HB6.out)
  have HBW := Aside0.mk (show Below W.heap.size W w6 from HB4.out.trans (below_w HB6.out HB4.out.size))
  clear HXG HOG HO5 HB5 HA4 HO4 HBB4 HB4 HB6
  have HK6 := Aside0.mk (And.intro k60 k61)
  clear k60 k61
  have b0 : w6.cell? ⟨W.heap.size, 0, none⟩ = some (.pointer (some ⟨lp, 0, none⟩)) := blk_cell HA6.out.bx 0
  have HFL : Aside0 ((fenc 1 xs).length ≤ 1014 ∧ (fenc 1 xs).length = 14 + xs.length) := ⟨by have := fenc_len 1 xs; have := HN.out.2.1; omega⟩
  have HDO := Aside0.mk (do2_calls (W := w6) (.pointer (some ⟨lp, 0, none⟩)) g6 c6 33 35 #[.pointer (some ⟨W.heap.size, 0, none⟩)] #[.pointer (some ⟨W.heap.size, 0, none⟩), .pointer (some ⟨bb, 0, none⟩)]
    ((blk_cell HC6.out 0).trans HK6.out.1) (fun args w => by kernel_rfl) (fun args w => by kernel_rfl)
    (Q1 := fun w => ∃ v sv' ss', Ds w B dp mp room 1 (acts + 1) la sv' ss' #[fe v] 1 ∧ ss'.length = ss.length + 1 ∧ w.ownsRow w6.heap.size 5 1 v 0 [] ∧ Below B w6 w ∧ Fr dp mp w6 w)
    (Q2 := fun w => ∃ v sv' ss', Ds w B dp mp room ((1 + (fenc 1 xs).length : Nat) : Int) (acts + 1 + 1) la sv' ss' #[fe v] 1 ∧ ss'.length = ss.length + 2 ∧ w.ownsRow w6.heap.size 5 1 v (fenc 1 xs).length (nums .u8 (fenc 1 xs)) ∧ Below B w6 w ∧ Fr dp mp w6 w)
    (clo1_calls HA6.out.ds HN.out.2.2.1 (by have := HN.out.2.2.2.1; omega) (Nat.le_trans HN.out.2.2.2.2.1 HBW.out.size) (by have := HN.out.2.2.2.2.2.2.2.2.1; omega) HN.out.2.2.2.2.2.2.2.2.2.2.1 (by have := HN.out.2.2.2.2.2.2.2.2.2.2.2.1; omega) HN.out.2.2.2.2.2.2.2.2.2.2.2.2.1 HA6.out.bx HA6.out.lg)
    (fun w ⟨v, sv', ss', hd, hn, ho, hb, hf⟩ => (blk_cell (hf.at HC6.out (HA6.out.ds.ne HC6.out (by decide)).1 (HA6.out.ds.ne HC6.out (by decide)).2 (by decide)) 1).trans HK6.out.2)
    (fun w ⟨v, sv', ss', hd, hn, ho, hb, hf⟩ => (clo2_calls (xs := []) (ys := fenc 1 xs) hd ho ⟨g3, 0, none⟩ c3 (Frm.C_own (hf.own HO6.out (HA6.out.ds.apart HO6.out (by decide)) (by decide))) (fenc_pos 1 xs) (by have := HN.out.2.2.1; omega) (by have := HN.out.2.2.2.1; omega) (by have := HN.out.2.2.2.2.1; have := HBW.out.size; have := hb.size; omega) (by have := HN.out.2.2.2.2.2.2.2.2.1; omega) (by decide) (by have := HFL.out.2; have := HN.out.2.2.2.2.2.2.2.2.2.2.2.2.2; omega) HN.out.2.2.2.2.2.2.2.2.2.2.2.2.1 (by decide) (hf.at HA6.out.bx (HA6.out.ds.ne HA6.out.bx (by decide)).1 (HA6.out.ds.ne HA6.out.bx (by decide)).2 (by decide)) (hf.at HA6.out.lg (HA6.out.ds.ne HA6.out.lg (by decide)).1 (HA6.out.ds.ne HA6.out.lg (by decide)).2 (by decide)) (hf.at HBB6.out (HA6.out.ds.ne HBB6.out (by decide)).1 (HA6.out.ds.ne HBB6.out (by decide)).2 (by decide))).mono
      (fun e w' ⟨he, v', sv2, ss2, hd2, hn2, ho2, hb2, hf2⟩ => ⟨he, v', sv2, ss2, hd2, by omega, own_lower ho2 hb.size, hb.trans hb2, hf.trans hf2⟩)))
  go_upto_region 12 with (first | (go_at_call 37; refine HDO.out.mono ?_; rintro e w7 ⟨rfl, v7, sv7, ss7, hd, hn, ho, hb, hf⟩; (have HA7 := Aside0.mk (HA6.out.fr hf hd)); (have HO7 := Aside0.mk (own_lower ho HBW.out.size)); (have HN7 := Aside0.mk hn); (have HB7 := Aside0.mk ((below_w HBW.out HN.out.2.2.2.2.1).trans hb)); (have HS7 := Aside0.mk (Nat.le_trans HBW.out.size hf.size)); clear hd hn ho hb hf) | fail)
  have b7 : w7.cell? ⟨W.heap.size, 0, none⟩ = some (.pointer (some ⟨lp, 0, none⟩)) := blk_cell HA7.out.bx 0
  have l2 : w7.cell? ⟨lp, 2, none⟩ = some (.bool false) := blk_cell HA7.out.lg 2
  have f2 : w7.frozen? ⟨lp, 2, none⟩ = false := blk_frozen HA7.out.lg 2
  go_upto_region 15 with fail
  have HA8 := Aside0.mk (HA7.out.set2)
  have HO8 := Aside0.mk (own_setCell HO7.out (p := ⟨lp, 2, none⟩) (own_neT HA7.out.lg HO7.out (by decide)) (.bool true))
  have HB8 := Aside0.mk (HB7.out.setCell (p := ⟨lp, 2, none⟩) HN.out.2.2.2.2.2.2.2.1 (.bool true))
  have HS8 : Aside0 (W.heap.size ≤ (w7.setCell ⟨lp, 2, none⟩ (.bool true)).heap.size) := ⟨by rw [World.size_setCell]; exact HS7.out⟩
  clear HA7 HO7 HB7 HS7 b7 l2 f2 b0
  generalize w7.setCell ⟨lp, 2, none⟩ (.bool true) = w8 at HA8 HO8 HB8 HS8 ⊢
  have hd8 : Below w8.heap.size w8 w8.drew := Drawn0.below ⟨1, rfl⟩
  have HA9 := Aside0.mk (HA8.out.below hd8)
  have HO9 := Aside0.mk (own_below HO8.out hd8)
  have HB9 := Aside0.mk (HB8.out.trans (below_w hd8 (Nat.le_trans HN.out.2.2.2.2.1 HS8.out)))
  have HSW := Aside0.mk (Nat.le_trans HS8.out hd8.size)
  have HS9 := Aside0.mk (Nat.le_trans HN.out.2.2.2.2.1 HSW.out)
  clear hd8
  refine wp_region_held_drew (S := fun w' => Aside0 (w'.heap[W.heap.size]? = some (.cells #[.pointer (some ⟨lp, 0, none⟩)] 26 (0, 0)))) (by kernel_rfl) ⟨HA9.out.bx⟩ (fun hHeld => ?_)
  refine wpAnyH_take (i := 0) (oi := Oper.mk _ _ _ _ _ _) (v := ?v0) rfl (by kernel_rfl) (by kernel_rfl) (by kernel_rfl) (fun _ _ _ h => h) (Or.inl ⟨by rfl, ?hy0⟩) (by assumption) ?r0
  case hy0 => (intro w hSw; (have g0 : w.cell? ⟨W.heap.size, 0, none⟩ = some (.pointer (some ⟨lp, 0, none⟩)) := blk_cell hSw.out 0); clear hSw; go_simp; (try with_reducible rfl))
  try simp only [Act.put, List.setIfInBounds_toArray, List.set_cons_zero, List.set_cons_succ]
  refine wpAnyH_take (i := 1) (oi := Oper.mk _ _ _ _ _ _) (v := ?v1) rfl (by kernel_rfl) (by kernel_rfl) (by kernel_rfl) (fun _ _ _ h => h) (Or.inl ⟨by rfl, ?hy1⟩) (by assumption) ?r1
  case hy1 => (intro w hSw; (have g0 : w.cell? ⟨W.heap.size, 0, none⟩ = some (.pointer (some ⟨lp, 0, none⟩)) := blk_cell hSw.out 0); clear hSw; go_simp; (try with_reducible rfl))
  try simp only [Act.put, List.setIfInBounds_toArray, List.set_cons_zero, List.set_cons_succ]
  refine wpAnyH_take (i := 2) (oi := Oper.mk _ _ _ _ _ _) (v := ?v2) rfl (by kernel_rfl) (by kernel_rfl) (by kernel_rfl) (fun _ _ _ h => h) (Or.inl ⟨by rfl, ?hy2⟩) (by assumption) ?r2
  case hy2 => (intro w hSw; clear hSw; go_simp; (try with_reducible rfl))
  try simp only [Act.put, List.setIfInBounds_toArray, List.set_cons_zero, List.set_cons_succ]
  refine wpAnyH_take (i := 3) (oi := Oper.mk _ _ _ _ _ _) (v := ?v3) rfl (by kernel_rfl) (by kernel_rfl) (by kernel_rfl) (fun _ _ _ h => h) (Or.inl ⟨by rfl, ?hy3⟩) (by assumption) ?r3
  case hy3 => (intro w hSw; clear hSw; go_simp; (try with_reducible rfl))
  try simp only [Act.put, List.setIfInBounds_toArray, List.set_cons_zero, List.set_cons_succ]
  refine wpAnyH_take (i := 5) (oi := Oper.mk _ _ _ _ _ _) (v := ?v5) rfl (by kernel_rfl) (by kernel_rfl) (by kernel_rfl) (fun _ _ _ h => h) (Or.inl ⟨by rfl, ?hy5⟩) (by assumption) ?r5
  case hy5 => (intro w hSw; clear hSw; go_simp; (try with_reducible rfl))
  try simp only [Act.put, List.setIfInBounds_toArray, List.set_cons_zero, List.set_cons_succ]
  clear HA8 HO8 HB8 HS8
  generalize w8.drew = w9 at HA9 HO9 HB9 HSW HS9 hHeld ⊢
  have l39 : w9.cell? ⟨lp, 3, none⟩ = some (.slice Arv rs.length crv) := blk_cell HA9.out.lg 3
  have HCX9 := Aside0.mk (show Kd.C (Kd.int .u8) w9 (some ⟨rb, 0, none⟩) xs.length xs from by
    obtain ⟨z, hz⟩ := HA9.out.rc
    exact C_z hz (by have := HN.out.2.1; omega))
  refine wpAnyH_ready (rs := [4, 6]) (by kernel_rfl) (by simp) ?_
  refine AllReadyH.cons (o := Oper.mk _ _ _ _ _ _) rfl (fun K hK => ?_) (AllReadyH.cons (o := Oper.mk _ _ _ _ _ _) rfl (fun K hK => ?_) AllReadyH.nil)
  · go_simp
    refine hK.out _ _ ⟨HA9.out.bx⟩ (fun hHeldA => ?_)
    clear hK K
    try simp only [Act.put, List.setIfInBounds_toArray, List.set_cons_zero, List.set_cons_succ]
    refine wpAnyH_ready (rs := [6]) (by kernel_rfl) (by simp) ?_
    refine AllReadyH.cons (o := Oper.mk _ _ _ _ _ _) rfl (fun K hK => ?_) AllReadyH.nil
    go_simp
    refine (copied_calls HCX9.out (by have := HN.out.2.1; omega) HN.out.1).mono ?_
    rintro r w10 ⟨v10, rfl, ho, hb⟩
    obtain ⟨A10, c10, hv10, _⟩ := Frm.own_slice ho
    subst hv10
    have HA10 := Aside0.mk (HA9.out.below hb)
    have HO10 := Aside0.mk (own_below HO9.out hb)
    have HB10 := Aside0.mk (HB9.out.trans (below_w hb HS9.out))
    have HS10 := Aside0.mk (Nat.le_trans HS9.out hb.size)
    have HSZ10 := Aside0.mk hb.size
    have l310 : w10.cell? ⟨lp, 3, none⟩ = some (.slice Arv rs.length crv) := blk_cell HA10.out.lg 3
    clear ho hb
    refine hK.out _ _ ⟨HA10.out.bx⟩ (fun hHeldB => ?_)
    clear hK K
    try simp only [Act.put, List.setIfInBounds_toArray, List.set_cons_zero, List.set_cons_succ]
    refine wpAnyH_ready (rs := [7]) (by kernel_rfl) (by simp) ?_
    refine AllReadyH.cons (o := Oper.mk _ _ _ _ _ _) rfl (fun K hK => ?_) AllReadyH.nil
    have HA11 := Aside0.mk (HA10.out.below (below_alloc (Below.refl _ _) (.cells #[.slice A10 xs.length c10] 29)))
    have HO11 := Aside0.mk (Frm.own_alloc HO10.out (.cells #[.slice A10 xs.length c10] 29))
    have HX11 := Aside0.mk (blk_new w10 (.cells #[.slice A10 xs.length c10] 29))
    have HB11 := Aside0.mk (HB10.out.alloc (Nat.le_trans HN.out.2.2.2.2.1 (Nat.le_trans HSW.out HSZ10.out)) (.cells #[.slice A10 xs.length c10] 29))
    have l311 : (w10.alloc (.cells #[.slice A10 xs.length c10] 29)).cell? ⟨lp, 3, none⟩ = some (.slice Arv rs.length crv) := blk_cell HA11.out.lg 3
    go_simp
    refine hK.out _ _ ⟨HA11.out.bx⟩ (fun hHeldC => ?_)
    clear hK K
    try simp only [Act.put, List.setIfInBounds_toArray, List.set_cons_zero, List.set_cons_succ]
    obtain ⟨v12, w12, hrun, ho12, hg12⟩ := run_app1 (ty := 40) info_bytes rfl (by decide) (by decide) Try.underlying40 HA11.out.rw w10.heap.size _ HX11.out rfl (by have := HN.out.2.2.2.2.2.2.2.2.2.1; omega) (by rw [World.size_alloc]; have := HN.out.2.2.2.2.2.1; have := HSW.out; have := HSZ10.out; omega)
    obtain ⟨A12, c12, hv12, _⟩ := own_form ho12
    subst hv12
    have HR12 := Aside0.mk (show w12.ownsRow R 29 1 (.slice A12 (rs.length + 1) c12) (rs ++ [Value.slice A10 xs.length c10]).length (rs ++ [Value.slice A10 xs.length c10]) from by rw [List.length_append]; exact ho12)
    have HL12 := Aside0.mk (grown_at hg12 HA11.out.rw HA11.out.lg (by decide))
    have HX12 := Aside0.mk (grown_at hg12 HA11.out.rw HA11.out.bx (by decide))
    have HA12 := Aside0.mk (HA11.out.grow hg12 HR12.out)
    have HO12 := Aside0.mk (own_setCell (grown_own hg12 HA11.out.rw HO11.out (by decide)) (p := ⟨lp, 3, none⟩) (own_neT HL12.out (grown_own hg12 HA11.out.rw HO11.out (by decide)) (by decide)) (.slice A12 (rs.length + 1) c12))
    have HB12 := Aside0.mk ((below_grown HB11.out hg12 (row_low HA11.out.rw HN.out.2.2.2.2.2.2.1) (by rw [World.size_alloc]; have := HN.out.2.2.2.2.1; have := HSW.out; have := HSZ10.out; omega)).setCell (p := ⟨lp, 3, none⟩) HN.out.2.2.2.2.2.2.2.1 (.slice A12 (rs.length + 1) c12))
    have k3 : w12.cell? ⟨lp, 3, none⟩ = some (.slice Arv rs.length crv) := blk_cell HL12.out 3
    have f3 : w12.frozen? ⟨lp, 3, none⟩ = false := blk_frozen HL12.out 3
    clear ho12 hg12
    refine wpAnyH_ready (rs := [8]) (by kernel_rfl) (by simp) ?_
    refine AllReadyH.cons (o := Oper.mk _ _ _ _ _ _) rfl (fun K hK => ?_) AllReadyH.nil
    rw [if_pos (by rfl)]
    refine wpo_app (.tmp 49) (.tmp 52) 40 rfl rfl rfl hrun ?_
    refine hK.out _ _ ⟨HX12.out⟩ (fun hHeldD => ?_)
    clear hK K hrun
    try simp only [Act.put, List.setIfInBounds_toArray, List.set_cons_zero, List.set_cons_succ]
    refine wpAnyH_take (i := 9) (oi := Oper.mk _ _ _ _ _ _) (v := ?v9a) rfl (by kernel_rfl) (by kernel_rfl) (by kernel_rfl) (fun _ _ _ h => h) (Or.inl ⟨by rfl, ?hy9a⟩) (by assumption) ?r9a
    case hy9a => (intro w hSw; clear hSw; go_simp; (try with_reducible rfl))
    try simp only [Act.put, List.setIfInBounds_toArray, List.set_cons_zero, List.set_cons_succ]
    refine wpAnyH_take (i := 10) (oi := Oper.mk _ _ _ _ _ _) (v := ?v10a) rfl (by kernel_rfl) (by kernel_rfl) (by kernel_rfl) (fun _ _ _ h => h) (Or.inl ⟨by rfl, ?hy10a⟩) (by assumption) ?r10a
    case hy10a => (intro w hSw; clear hSw; go_simp; (try with_reducible rfl))
    try simp only [Act.put, List.setIfInBounds_toArray, List.set_cons_zero, List.set_cons_succ]
    refine wpAnyH_ready (rs := [11]) (by kernel_rfl) (by simp) ?_
    refine AllReadyH.cons (o := Oper.mk _ _ _ _ _ _) rfl (fun K hK => ?_) AllReadyH.nil
    go_simp
    refine hK.out _ _ ⟨HA12.out.bx⟩ (fun hHeldE => ?_)
    clear hK K
    try simp only [Act.put, List.setIfInBounds_toArray, List.set_cons_zero, List.set_cons_succ]
    refine wpAnyH_done (by kernel_rfl) ?_ _
    clear k3 f3 hHeldD hHeldE
    generalize w12.setCell ⟨lp, 3, none⟩ (.slice A12 (rs.length + 1) c12) = w13 at HA12 HO12 HB12 ⊢
    have b13 : w13.cell? ⟨W.heap.size, 0, none⟩ = some (.pointer (some ⟨lp, 0, none⟩)) := blk_cell HA12.out.bx 0
    have l13 : w13.cell? ⟨lp, 3, none⟩ = some (.slice A12 (rs.length + 1) c12) := blk_cell HA12.out.lg 3
    have hw1 : wrap64 (((rs.length + 1 : Nat) : Int) - 1) = rs.length := by have := HN.out.2.2.2.2.2.2.2.2.2.1; unfold wrap64; omega
    have hw2 : wrap64 ((rs.length : Int) + 1 - 1) = rs.length := by have := HN.out.2.2.2.2.2.2.2.2.2.1; unfold wrap64; omega
    have hw3 : wrap64 (rs.length : Int) = rs.length := by have := HN.out.2.2.2.2.2.2.2.2.2.1; unfold wrap64; omega
    go_wp2
    go_ret2
    exact ⟨congrArg (fun x => Ending.returned (.tuple #[.int .i64 x, .int .i64 0])) hw3, v7, sv7, ss7, _, rs ++ [Value.slice A10 xs.length c10], HA12.out.ds, HN7.out, HO12.out, HA12.out.lg, HA12.out.rw, by simp, HB12.out⟩
  · go_simp
    refine (copied_calls HCX9.out (by have := HN.out.2.1; omega) HN.out.1).mono ?_
    rintro r w10 ⟨v10, rfl, ho, hb⟩
    obtain ⟨A10, c10, hv10, _⟩ := Frm.own_slice ho
    subst hv10
    have HA10 := Aside0.mk (HA9.out.below hb)
    have HO10 := Aside0.mk (own_below HO9.out hb)
    have HB10 := Aside0.mk (HB9.out.trans (below_w hb HS9.out))
    have HS10 := Aside0.mk (Nat.le_trans HS9.out hb.size)
    have HSZ10 := Aside0.mk hb.size
    have l310 : w10.cell? ⟨lp, 3, none⟩ = some (.slice Arv rs.length crv) := blk_cell HA10.out.lg 3
    clear ho hb
    refine hK.out _ _ ⟨HA10.out.bx⟩ (fun hHeldB => ?_)
    clear hK K
    try simp only [Act.put, List.setIfInBounds_toArray, List.set_cons_zero, List.set_cons_succ]
    refine wpAnyH_ready (rs := [4, 7]) (by kernel_rfl) (by simp) ?_
    refine AllReadyH.cons (o := Oper.mk _ _ _ _ _ _) rfl (fun K hK => ?_) (AllReadyH.cons (o := Oper.mk _ _ _ _ _ _) rfl (fun K hK => ?_) AllReadyH.nil)
    · go_simp
      refine hK.out _ _ ⟨HA10.out.bx⟩ (fun hHeldA => ?_)
      clear hK K
      try simp only [Act.put, List.setIfInBounds_toArray, List.set_cons_zero, List.set_cons_succ]
      refine wpAnyH_ready (rs := [7]) (by kernel_rfl) (by simp) ?_
      refine AllReadyH.cons (o := Oper.mk _ _ _ _ _ _) rfl (fun K hK => ?_) AllReadyH.nil
      have HA11 := Aside0.mk (HA10.out.below (below_alloc (Below.refl _ _) (.cells #[.slice A10 xs.length c10] 29)))
      have HO11 := Aside0.mk (Frm.own_alloc HO10.out (.cells #[.slice A10 xs.length c10] 29))
      have HX11 := Aside0.mk (blk_new w10 (.cells #[.slice A10 xs.length c10] 29))
      have HB11 := Aside0.mk (HB10.out.alloc (Nat.le_trans HN.out.2.2.2.2.1 (Nat.le_trans HSW.out HSZ10.out)) (.cells #[.slice A10 xs.length c10] 29))
      have l311 : (w10.alloc (.cells #[.slice A10 xs.length c10] 29)).cell? ⟨lp, 3, none⟩ = some (.slice Arv rs.length crv) := blk_cell HA11.out.lg 3
      go_simp
      refine hK.out _ _ ⟨HA11.out.bx⟩ (fun hHeldC => ?_)
      clear hK K
      try simp only [Act.put, List.setIfInBounds_toArray, List.set_cons_zero, List.set_cons_succ]
      obtain ⟨v12, w12, hrun, ho12, hg12⟩ := run_app1 (ty := 40) info_bytes rfl (by decide) (by decide) Try.underlying40 HA11.out.rw w10.heap.size _ HX11.out rfl (by have := HN.out.2.2.2.2.2.2.2.2.2.1; omega) (by rw [World.size_alloc]; have := HN.out.2.2.2.2.2.1; have := HSW.out; have := HSZ10.out; omega)
      obtain ⟨A12, c12, hv12, _⟩ := own_form ho12
      subst hv12
      have HR12 := Aside0.mk (show w12.ownsRow R 29 1 (.slice A12 (rs.length + 1) c12) (rs ++ [Value.slice A10 xs.length c10]).length (rs ++ [Value.slice A10 xs.length c10]) from by rw [List.length_append]; exact ho12)
      have HL12 := Aside0.mk (grown_at hg12 HA11.out.rw HA11.out.lg (by decide))
      have HX12 := Aside0.mk (grown_at hg12 HA11.out.rw HA11.out.bx (by decide))
      have HA12 := Aside0.mk (HA11.out.grow hg12 HR12.out)
      have HO12 := Aside0.mk (own_setCell (grown_own hg12 HA11.out.rw HO11.out (by decide)) (p := ⟨lp, 3, none⟩) (own_neT HL12.out (grown_own hg12 HA11.out.rw HO11.out (by decide)) (by decide)) (.slice A12 (rs.length + 1) c12))
      have HB12 := Aside0.mk ((below_grown HB11.out hg12 (row_low HA11.out.rw HN.out.2.2.2.2.2.2.1) (by rw [World.size_alloc]; have := HN.out.2.2.2.2.1; have := HSW.out; have := HSZ10.out; omega)).setCell (p := ⟨lp, 3, none⟩) HN.out.2.2.2.2.2.2.2.1 (.slice A12 (rs.length + 1) c12))
      have k3 : w12.cell? ⟨lp, 3, none⟩ = some (.slice Arv rs.length crv) := blk_cell HL12.out 3
      have f3 : w12.frozen? ⟨lp, 3, none⟩ = false := blk_frozen HL12.out 3
      clear ho12 hg12
      refine wpAnyH_ready (rs := [8]) (by kernel_rfl) (by simp) ?_
      refine AllReadyH.cons (o := Oper.mk _ _ _ _ _ _) rfl (fun K hK => ?_) AllReadyH.nil
      rw [if_pos (by rfl)]
      refine wpo_app (.tmp 49) (.tmp 52) 40 rfl rfl rfl hrun ?_
      refine hK.out _ _ ⟨HX12.out⟩ (fun hHeldD => ?_)
      clear hK K hrun
      try simp only [Act.put, List.setIfInBounds_toArray, List.set_cons_zero, List.set_cons_succ]
      refine wpAnyH_take (i := 9) (oi := Oper.mk _ _ _ _ _ _) (v := ?v9b) rfl (by kernel_rfl) (by kernel_rfl) (by kernel_rfl) (fun _ _ _ h => h) (Or.inl ⟨by rfl, ?hy9b⟩) (by assumption) ?r9b
      case hy9b => (intro w hSw; clear hSw; go_simp; (try with_reducible rfl))
      try simp only [Act.put, List.setIfInBounds_toArray, List.set_cons_zero, List.set_cons_succ]
      refine wpAnyH_take (i := 10) (oi := Oper.mk _ _ _ _ _ _) (v := ?v10b) rfl (by kernel_rfl) (by kernel_rfl) (by kernel_rfl) (fun _ _ _ h => h) (Or.inl ⟨by rfl, ?hy10b⟩) (by assumption) ?r10b
      case hy10b => (intro w hSw; clear hSw; go_simp; (try with_reducible rfl))
      try simp only [Act.put, List.setIfInBounds_toArray, List.set_cons_zero, List.set_cons_succ]
      refine wpAnyH_ready (rs := [11]) (by kernel_rfl) (by simp) ?_
      refine AllReadyH.cons (o := Oper.mk _ _ _ _ _ _) rfl (fun K hK => ?_) AllReadyH.nil
      go_simp
      refine hK.out _ _ ⟨HA12.out.bx⟩ (fun hHeldE => ?_)
      clear hK K
      try simp only [Act.put, List.setIfInBounds_toArray, List.set_cons_zero, List.set_cons_succ]
      refine wpAnyH_done (by kernel_rfl) ?_ _
      clear k3 f3 hHeldD hHeldE
      generalize w12.setCell ⟨lp, 3, none⟩ (.slice A12 (rs.length + 1) c12) = w13 at HA12 HO12 HB12 ⊢
      have b13 : w13.cell? ⟨W.heap.size, 0, none⟩ = some (.pointer (some ⟨lp, 0, none⟩)) := blk_cell HA12.out.bx 0
      have l13 : w13.cell? ⟨lp, 3, none⟩ = some (.slice A12 (rs.length + 1) c12) := blk_cell HA12.out.lg 3
      have hw1 : wrap64 (((rs.length + 1 : Nat) : Int) - 1) = rs.length := by have := HN.out.2.2.2.2.2.2.2.2.2.1; unfold wrap64; omega
      have hw2 : wrap64 ((rs.length : Int) + 1 - 1) = rs.length := by have := HN.out.2.2.2.2.2.2.2.2.2.1; unfold wrap64; omega
      have hw3 : wrap64 (rs.length : Int) = rs.length := by have := HN.out.2.2.2.2.2.2.2.2.2.1; unfold wrap64; omega
      go_wp2
      go_ret2
      exact ⟨congrArg (fun x => Ending.returned (.tuple #[.int .i64 x, .int .i64 0])) hw3, v7, sv7, ss7, _, rs ++ [Value.slice A10 xs.length c10], HA12.out.ds, HN7.out, HO12.out, HA12.out.lg, HA12.out.rw, by simp, HB12.out⟩
    · have HA11 := Aside0.mk (HA10.out.below (below_alloc (Below.refl _ _) (.cells #[.slice A10 xs.length c10] 29)))
      have HO11 := Aside0.mk (Frm.own_alloc HO10.out (.cells #[.slice A10 xs.length c10] 29))
      have HX11 := Aside0.mk (blk_new w10 (.cells #[.slice A10 xs.length c10] 29))
      have HB11 := Aside0.mk (HB10.out.alloc (Nat.le_trans HN.out.2.2.2.2.1 (Nat.le_trans HSW.out HSZ10.out)) (.cells #[.slice A10 xs.length c10] 29))
      have l311 : (w10.alloc (.cells #[.slice A10 xs.length c10] 29)).cell? ⟨lp, 3, none⟩ = some (.slice Arv rs.length crv) := blk_cell HA11.out.lg 3
      go_simp
      refine hK.out _ _ ⟨HA11.out.bx⟩ (fun hHeldC => ?_)
      clear hK K
      try simp only [Act.put, List.setIfInBounds_toArray, List.set_cons_zero, List.set_cons_succ]
      refine wpAnyH_ready (rs := [4]) (by kernel_rfl) (by simp) ?_
      refine AllReadyH.cons (o := Oper.mk _ _ _ _ _ _) rfl (fun K hK => ?_) AllReadyH.nil
      go_simp
      refine hK.out _ _ ⟨HA11.out.bx⟩ (fun hHeldA => ?_)
      clear hK K
      try simp only [Act.put, List.setIfInBounds_toArray, List.set_cons_zero, List.set_cons_succ]
      obtain ⟨v12, w12, hrun, ho12, hg12⟩ := run_app1 (ty := 40) info_bytes rfl (by decide) (by decide) Try.underlying40 HA11.out.rw w10.heap.size _ HX11.out rfl (by have := HN.out.2.2.2.2.2.2.2.2.2.1; omega) (by rw [World.size_alloc]; have := HN.out.2.2.2.2.2.1; have := HSW.out; have := HSZ10.out; omega)
      obtain ⟨A12, c12, hv12, _⟩ := own_form ho12
      subst hv12
      have HR12 := Aside0.mk (show w12.ownsRow R 29 1 (.slice A12 (rs.length + 1) c12) (rs ++ [Value.slice A10 xs.length c10]).length (rs ++ [Value.slice A10 xs.length c10]) from by rw [List.length_append]; exact ho12)
      have HL12 := Aside0.mk (grown_at hg12 HA11.out.rw HA11.out.lg (by decide))
      have HX12 := Aside0.mk (grown_at hg12 HA11.out.rw HA11.out.bx (by decide))
      have HA12 := Aside0.mk (HA11.out.grow hg12 HR12.out)
      have HO12 := Aside0.mk (own_setCell (grown_own hg12 HA11.out.rw HO11.out (by decide)) (p := ⟨lp, 3, none⟩) (own_neT HL12.out (grown_own hg12 HA11.out.rw HO11.out (by decide)) (by decide)) (.slice A12 (rs.length + 1) c12))
      have HB12 := Aside0.mk ((below_grown HB11.out hg12 (row_low HA11.out.rw HN.out.2.2.2.2.2.2.1) (by rw [World.size_alloc]; have := HN.out.2.2.2.2.1; have := HSW.out; have := HSZ10.out; omega)).setCell (p := ⟨lp, 3, none⟩) HN.out.2.2.2.2.2.2.2.1 (.slice A12 (rs.length + 1) c12))
      have k3 : w12.cell? ⟨lp, 3, none⟩ = some (.slice Arv rs.length crv) := blk_cell HL12.out 3
      have f3 : w12.frozen? ⟨lp, 3, none⟩ = false := blk_frozen HL12.out 3
      clear ho12 hg12
      refine wpAnyH_ready (rs := [8]) (by kernel_rfl) (by simp) ?_
      refine AllReadyH.cons (o := Oper.mk _ _ _ _ _ _) rfl (fun K hK => ?_) AllReadyH.nil
      rw [if_pos (by rfl)]
      refine wpo_app (.tmp 49) (.tmp 52) 40 rfl rfl rfl hrun ?_
      refine hK.out _ _ ⟨HX12.out⟩ (fun hHeldD => ?_)
      clear hK K hrun
      try simp only [Act.put, List.setIfInBounds_toArray, List.set_cons_zero, List.set_cons_succ]
      refine wpAnyH_take (i := 9) (oi := Oper.mk _ _ _ _ _ _) (v := ?v9c) rfl (by kernel_rfl) (by kernel_rfl) (by kernel_rfl) (fun _ _ _ h => h) (Or.inl ⟨by rfl, ?hy9c⟩) (by assumption) ?r9c
      case hy9c => (intro w hSw; clear hSw; go_simp; (try with_reducible rfl))
      try simp only [Act.put, List.setIfInBounds_toArray, List.set_cons_zero, List.set_cons_succ]
      refine wpAnyH_take (i := 10) (oi := Oper.mk _ _ _ _ _ _) (v := ?v10c) rfl (by kernel_rfl) (by kernel_rfl) (by kernel_rfl) (fun _ _ _ h => h) (Or.inl ⟨by rfl, ?hy10c⟩) (by assumption) ?r10c
      case hy10c => (intro w hSw; clear hSw; go_simp; (try with_reducible rfl))
      try simp only [Act.put, List.setIfInBounds_toArray, List.set_cons_zero, List.set_cons_succ]
      refine wpAnyH_ready (rs := [11]) (by kernel_rfl) (by simp) ?_
      refine AllReadyH.cons (o := Oper.mk _ _ _ _ _ _) rfl (fun K hK => ?_) AllReadyH.nil
      go_simp
      refine hK.out _ _ ⟨HA12.out.bx⟩ (fun hHeldE => ?_)
      clear hK K
      try simp only [Act.put, List.setIfInBounds_toArray, List.set_cons_zero, List.set_cons_succ]
      refine wpAnyH_done (by kernel_rfl) ?_ _
      clear k3 f3 hHeldD hHeldE
      generalize w12.setCell ⟨lp, 3, none⟩ (.slice A12 (rs.length + 1) c12) = w13 at HA12 HO12 HB12 ⊢
      have b13 : w13.cell? ⟨W.heap.size, 0, none⟩ = some (.pointer (some ⟨lp, 0, none⟩)) := blk_cell HA12.out.bx 0
      have l13 : w13.cell? ⟨lp, 3, none⟩ = some (.slice A12 (rs.length + 1) c12) := blk_cell HA12.out.lg 3
      have hw1 : wrap64 (((rs.length + 1 : Nat) : Int) - 1) = rs.length := by have := HN.out.2.2.2.2.2.2.2.2.2.1; unfold wrap64; omega
      have hw2 : wrap64 ((rs.length : Int) + 1 - 1) = rs.length := by have := HN.out.2.2.2.2.2.2.2.2.2.1; unfold wrap64; omega
      have hw3 : wrap64 (rs.length : Int) = rs.length := by have := HN.out.2.2.2.2.2.2.2.2.2.1; unfold wrap64; omega
      go_wp2
      go_ret2
      exact ⟨congrArg (fun x => Ending.returned (.tuple #[.int .i64 x, .int .i64 0])) hw3, v7, sv7, ss7, _, rs ++ [Value.slice A10 xs.length c10], HA12.out.ds, HN7.out, HO12.out, HA12.out.lg, HA12.out.rw, by simp, HB12.out⟩
end Wl

end Go.Proofs.Ytbfcejbjljalmaa.P
