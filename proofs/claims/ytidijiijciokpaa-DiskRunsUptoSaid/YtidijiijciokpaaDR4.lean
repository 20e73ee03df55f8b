import Derived.Test.YtidijiijciokpaaDR3
import Derived.Maps.OwnOps
import Derived.WideMake
import Derived.Laws.IdiomRangeMap
import Derived.Maps.AppendAt
import Derived.Deep.RegionLaw
import Derived.ArgAppend
import Derived.Maps.RangeRun
import Derived.Deep.Upon
import Derived.Deep.QuietTactic
import Derived.BigQuiet
import Derived.Deep.RegionHeld3
import Derived.Deep.DeepCutAuto
import Derived.Deep.CutBlock
import Derived.Laws.EntriesVeiled
import Derived.StillTailTactics
import Derived.Laws.Tables
import Derived.Laws.CopyOwn
import Derived.IntWalk
import Derived.Test.YtidijiijciokpaaBlocks
import Derived.Laws.CopyOwn
import Derived.Laws.Tables
import Derived.Outline
namespace Go.Proofs.Ytidijiijciokpaa.G
open Go.RowKit Go.Proofs.YtidijiijciokpaaW.PrintWords Go.Proofs.YtidijiijciokpaaW.PrintLast Go.Proofs.YtidijiijciokpaaW.PrintMore
set_option linter.unusedVariables false
set_option linter.unusedSimpArgs false
namespace Gd
open Go.Proofs.Ytidijiijciokpaa.Blocks Frm Go.Proofs.Ytidijiijciokpaa.U
set_option maxRecDepth 100000
section
variable {W : World} {rm ac fl : Int} {l : List S118} {s : List Sp} {A1 A2 : Option Addr} {c1 c2 : Nat} {off : Bool}
/-- The boxes of a document's disk and of an act, both only read. -/
structure Ba (W w : World) (b a : Nat) (cs ys : Array Value) : Prop where
  p : w.heap[b]? = some (.cells cs 61 (0, 0))
  q : w.heap[a]? = some (.cells ys 45 (0, 0))
  bel : Below W.heap.size W w
theorem Ba.new (W : World) (cs ys : Array Value) : Ba W ((W.alloc (.cells cs 61)).alloc (.cells ys 45)) W.heap.size (W.heap.size + 1) cs ys := by
  have h1 : (W.alloc (.cells cs 61)).heap.size = W.heap.size + 1 := World.size_alloc _ _
  refine ⟨blk_alloc (blk_new W _) _, ?_, below_alloc (below_alloc (Below.refl _ _) _) _⟩
  have := blk_new (W.alloc (.cells cs 61)) (.cells ys 45)
  rwa [h1] at this
theorem Ba.below {w w' : World} {b a : Nat} {cs ys : Array Value} (h : Ba W w b a cs ys) (hb : Below w.heap.size w w') : Ba W w' b a cs ys := ⟨blk_below h.p hb, blk_below h.q hb, h.bel.trans (below_w hb h.bel.size)⟩
theorem Ba.cells {w : World} {b a : Nat} {x0 x1 x2 x3 x4 x5 y0 y1 y2 y3 y4 : Value} (h : Ba W w b a #[x0, x1, x2, x3, x4, x5] #[y0, y1, y2, y3, y4]) : (w.cell? ⟨b, 0, none⟩ = some x0 ∧ w.cell? ⟨b, 1, none⟩ = some x1 ∧ w.cell? ⟨b, 2, none⟩ = some x2 ∧ w.cell? ⟨b, 3, none⟩ = some x3 ∧ w.cell? ⟨b, 4, none⟩ = some x4 ∧ w.cell? ⟨b, 5, none⟩ = some x5) ∧ w.cell? ⟨a, 0, none⟩ = some y0 ∧ w.cell? ⟨a, 1, none⟩ = some y1 ∧ w.cell? ⟨a, 2, none⟩ = some y2 ∧ w.cell? ⟨a, 3, none⟩ = some y3 ∧ w.cell? ⟨a, 4, none⟩ = some y4 :=
  ⟨⟨blk_cell h.p 0, blk_cell h.p 1, blk_cell h.p 2, blk_cell h.p 3, blk_cell h.p 4, blk_cell h.p 5⟩, blk_cell h.q 0, blk_cell h.q 1, blk_cell h.q 2, blk_cell h.q 3, blk_cell h.q 4⟩
theorem rdone {P : Nat → Prop} {A : Option Addr} {c : Nat} {fs : Fs} (x : Sp) (hs : Srt fs) (hl : fs.length ≤ 1099511627776) (hok : okS fs x) (hV : Kd.V k118 118 W 0 P (.slice A (fs.map sp).length c) (fs.map sp)) :
    Calls Try.prog 102 #[.slice A fs.length c, .agg #[.int .i64 x.f0, .string x.f1, .string x.f2, .int .u8 x.f3, .int .i64 x.f4]] W fun e w => ∃ A' c', e = .returned (.slice A' (one fs x).length c') ∧ (one fs x).length ≤ c' ∧ Kd.C k118 w A' ((one fs x).map sp).length ((one fs x).map sp) ∧ Below W.heap.size W w := by
  have h := hawserref12_done.calls (fs.length + 1) P A c (fs.map sp) x.f0 x.f1 x.f2 x.f3 x.f4 ((one fs x).map sp) W hV (done_f hs hl hok (by omega))
  rw [List.length_map] at h
  refine h.mono fun e w ⟨v, q1, q2, q3⟩ => ?_
  obtain ⟨A', c', rfl⟩ := Kd.V_slice q2
  have h2 := Kd.V_reads' q2
  exact ⟨A', c', by rw [q1, List.length_map], by have := h2.2.1; rwa [List.length_map] at this, h2.2.2, q3⟩
theorem quiet0 {f : FuncId} {args : Array Value} {w : World} {n : Nat} {v : Value} (h : Calls Try.prog f args (w.drewN n) fun e w' => e = .returned v ∧ Drawn0 (w.drewN n) w') : Calls Try.prog f args (w.drewN n) fun e w'' => e = .returned v ∧ ∃ m, w'' = w.drewN m := Calls.quiet_of (h.mono fun _ _ q => ⟨q.1, q.2.out⟩)
theorem one_renamed {fs : Fs} {a b : ByteArray} (hs : Srt fs) (h : get fs a ≠ none) : one fs ⟨4, a, b, 0, 0⟩ = doAll fs (.renamed a b) := by
  obtain ⟨d, hd⟩ := Option.ne_none_iff_exists'.1 h
  show _ = if a = b then fs else del (put fs b (dat fs a)) a
  unfold one
  dsimp only
  rw [if_neg (by decide), if_neg h, if_neg (by decide), if_neg (by decide), if_pos rfl, dat_some hd]
  exact rename_eq hs hd
theorem rdone4 {P : Nat → Prop} {A : Option Addr} {c : Nat} {fs : Fs} (a b : ByteArray) (hs : Srt fs) (hl : fs.length ≤ 1099511627776) (hg : get fs a ≠ none) (hV : Kd.V k118 118 W 0 P (.slice A (fs.map sp).length c) (fs.map sp)) :
    Calls Try.prog 102 #[.slice A fs.length c, .agg #[.int .i64 4, .string a, .string b, .int .u8 0, .int .i64 0]] W fun e w => ∃ A' c', e = .returned (.slice A' (doAll fs (.renamed a b)).length c') ∧ (doAll fs (.renamed a b)).length ≤ c' ∧ Kd.C k118 w A' ((doAll fs (.renamed a b)).map sp).length ((doAll fs (.renamed a b)).map sp) ∧ Below W.heap.size W w := by
  have h := rdone (⟨4, a, b, 0, 0⟩ : Sp) hs hl (fun d hd => ⟨fun h => absurd h (by show ¬ (4 : Int) = 2; decide), fun h => absurd h (by show ¬ (4 : Int) = 3; decide)⟩) hV
  rw [one_renamed hs hg] at h
  exact h
set_option maxHeartbeats 4000000 in
theorem rrefused_calls {d : Ab} {P : Nat → Prop} (hok : d.Ok) (k : Nat) (hF : hawserref12_Disk_Files.f k (d.room : Int) l s ac fl off = some (d.seen.map sp)) (hV : Kd.V k118 118 W 0 P (.slice A1 l.length c1) l) (hS : Kd.V k145 145 W 0 P (.slice A2 s.length c2) s)
    (kd : Int) (nm to_ dt : ByteArray) (sz : Int) (hk : 1 ≤ kd ∧ kd ≤ 6) (hn : nm.size ≤ 1099511627776) (hto : to_.size ≤ 549755813888) (hdt : dt.size ≤ 1099511627776) :
    Calls Try.prog 100 #[.agg #[.int .i64 (d.room : Int), .slice A1 l.length c1, .slice A2 s.length c2, .int .i64 ac, .int .i64 fl, .bool off], .agg #[.int .i64 kd, .string nm, .string to_, .string dt, .int .i64 sz]] W fun e w => e = .returned (.int .i64 (d.refuse kd nm to_ dt sz)) ∧ Below W.heap.size W w := by
  have HX := Aside0.mk (Ba.new W #[.int .i64 (d.room : Int), .slice A1 l.length c1, .slice A2 s.length c2, .int .i64 ac, .int .i64 fl, .bool off] #[.int .i64 kd, .string nm, .string to_, .string dt, .int .i64 sz])
  have HV := Aside0.mk (fun w (h : Below W.heap.size W w) => And.intro (Kd.V_below hV h) (Kd.V_below hS h))
  have HF := Aside0.mk hF
  have HN := Aside0.mk (fun w => rname (W := w) nm (by omega))
  have HT := Aside0.mk (fun w => rname (W := w) to_ (by omega))
  have HS := Aside0.mk hok.seenSrt
  have hsl := hok.seenLen
  have hsl2 := len_taken hok.seenSrt
  have hle := hok.seenLe
  have hrm := hok.room
  have HLn := Aside0.mk (show d.seen.length ≤ 1099511627776 by omega)
  have HTk := Aside0.mk (show taken d.seen ≤ 1099511627776 by omega)
  have wf : IntKind.i64.wrap ((d.room : Int) - (taken d.seen : Int)) = (d.room : Int) - (taken d.seen : Int) := i64_of (by omega)
  have wf2 : wrap64 ((d.room : Int) - (taken d.seen : Int)) = (d.room : Int) - (taken d.seen : Int) := w64_of (by omega)
  have HR0 := Aside0.mk (And.intro hle (And.intro hrm (And.intro hn (And.intro hto hdt))))
  clear hF hV hS hn hto hdt hsl hsl2 hle hrm
  by_cases h6 : kd = 6
  · subst h6
    have HE := Aside0.mk (show d.refuse 6 nm to_ dt sz = 0 by simp [Ab.refuse])
    go_enter Try.func100, Try.ntmps100
    go_upto_region 1 with fail
    generalize (W.alloc _).alloc _ = w1 at HX ⊢
    obtain ⟨⟨c0, c1', c2', c3, c4, c5⟩, a0, a1, a2, a3, a4⟩ := HX.out.cells
    go_wp2
    go_ret
    rw [HE.out]
    exact ⟨rfl, HX.out.bel⟩
  have n6 : (kd == 6) = false := beq_false_of_ne h6
  go_enter Try.func100, Try.ntmps100
  go_upto_region 1 with fail
  generalize (W.alloc _).alloc _ = w1 at HX ⊢
  obtain ⟨⟨c0, c1', c2', c3, c4, c5⟩, a0, a1, a2, a3, a4⟩ := HX.out.cells
  go_upto_region 4 with (first
    | (go_at_call 73; refine Calls.mono (rfiles k HF.out (HV.out _ HX.out.bel).1 (HV.out _ HX.out.bel).2) ?_; rintro e w2 ⟨Ax, cx, rfl, h1, h2, h5, h3⟩; (have HX2 := Aside0.mk (HX.out.below h3)); (have HR := Aside0.mk (And.intro h1 (And.intro h2 h5))); clear h1 h2 h3 h5)
    | fail)
  clear c0 c1' c2' c3 c4 c5 a0 a1 a2 a3 a4
  obtain ⟨⟨c0, c1', c2', c3, c4, c5⟩, a0, a1, a2, a3, a4⟩ := HX2.out.cells
  go_quiet (first | (go_at_call 74; exact quiet0 (rtaken (by have := HLn.out; omega) HTk.out (Kd.C_drewN HR.out.2.1 _) HR.out.1)))
  have HX3 := Aside0.mk (HX2.out.below (Drawn0.below (w := w2) (w' := w2.drewN nq) ⟨nq, rfl⟩))
  have HR3 := Aside0.mk (And.intro HR.out.1 (And.intro (Kd.C_drewN HR.out.2.1 nq) (Kd.V_below HR.out.2.2 (Drawn0.below (w := w2) (w' := w2.drewN nq) ⟨nq, rfl⟩))))
  clear c0 c1' c2' c3 c4 c5 a0 a1 a2 a3 a4
  generalize w2.drewN nq = w3 at HX3 HR3 ⊢
  obtain ⟨⟨c0, c1', c2', c3, c4, c5⟩, a0, a1, a2, a3, a4⟩ := HX3.out.cells
  go_upto_region 6 with (first
    | (go_at_call 97; refine Calls.mono (rplace nm HS.out (by have := HLn.out; omega) HR3.out.2.1 HR3.out.1) ?_; obtain ⟨th, hth⟩ : ∃ th, th = (get d.seen nm).isSome := ⟨_, rfl⟩; rw [← hth]; (have HTH := Aside0.mk hth); clear hth; rintro e w4 ⟨rfl, hd⟩; (have HX4 := Aside0.mk (HX3.out.below (drawn_below hd))); (have HR4 := Aside0.mk (And.intro HR3.out.1 (And.intro (Kd.C_below HR3.out.2.1 (drawn_below hd)) (Kd.V_below HR3.out.2.2 (drawn_below hd))))); clear hd)
    | fail)
  clear c0 c1' c2' c3 c4 c5 a0 a1 a2 a3 a4 HR3 HR HX2 HX HX3 HF HV wf wf2
  obtain ⟨⟨c0, c1', c2', c3, c4, c5⟩, a0, a1, a2, a3, a4⟩ := HX4.out.cells
  go_cut [40] (fun v40 wc => ∃ bb : Bool, v40 = .bool bb ∧ Aside0 (bb = decide (isNm nm = false ∨ (kd = 4 ∧ isNm to_ = false)) ∧ Ba W wc W.heap.size (W.heap.size + 1) #[.int .i64 (d.room : Int), .slice A1 l.length c1, .slice A2 s.length c2, .int .i64 ac, .int .i64 fl, .bool off] #[.int .i64 kd, .string nm, .string to_, .string dt, .int .i64 sz] ∧ d.seen.length ≤ cx ∧ Kd.C k118 wc Ax (d.seen.map sp).length (d.seen.map sp) ∧ Kd.V k118 118 wc 0 (fun j => P j ∨ w1.heap.size ≤ j) (.slice Ax (d.seen.map sp).length cx) (d.seen.map sp)))
  case first =>
    by_cases hnm : isNm nm = false
    · have HB := Aside0.mk (show decide (isNm nm = false ∨ (kd = 4 ∧ isNm to_ = false)) = true from decide_eq_true (.inl hnm))
      rw [hnm] at HN
      clear hnm
      go_wp2_with (first
        | (go_at_call 98; (with_reducible refine Calls.mono (HN.out w4) ?_); rintro e w5 ⟨rfl, hd⟩; (have HD := Aside0.mk (drawn_below hd)); clear hd)
        | fail)
      go_meet
      case rel => exact ⟨_, rfl, ⟨HB.out.symm, HX4.out.below HD.out, HR4.out.1, Kd.C_below HR4.out.2.1 HD.out, Kd.V_below HR4.out.2.2 HD.out⟩⟩
    · have hnm : isNm nm = true := by simpa using hnm
      rw [hnm] at HN
      by_cases h4 : kd = 4
      · have HB := Aside0.mk (show decide (isNm nm = false ∨ (kd = 4 ∧ isNm to_ = false)) = !isNm to_ by simp [hnm, h4])
        subst h4
        go_wp2_with (first
          | (go_at_call 98; (with_reducible refine Calls.mono (HN.out w4) ?_); rintro e w5 ⟨rfl, hd⟩; (have HD := Aside0.mk (drawn_below hd)); clear hd c0 c1' c2' c3 c4 c5 a0 a1 a2 a3 a4; (have HX5 := Aside0.mk (HX4.out.below HD.out)); obtain ⟨⟨c0, c1', c2', c3, c4, c5⟩, a0, a1, a2, a3, a4⟩ := HX5.out.cells)
          | (go_at_call 98; (with_reducible refine Calls.mono (HT.out w5) ?_); rintro e w6 ⟨rfl, hd⟩; (have HD6 := Aside0.mk (HD.out.trans (below_w (drawn_below hd) HD.out.size))); clear hd)
          | fail)
        go_meet
        case rel => exact ⟨_, rfl, ⟨HB.out.symm, HX4.out.below HD6.out, HR4.out.1, Kd.C_below HR4.out.2.1 HD6.out, Kd.V_below HR4.out.2.2 HD6.out⟩⟩
      · have HB := Aside0.mk (show decide (isNm nm = false ∨ (kd = 4 ∧ isNm to_ = false)) = false by simp [hnm, h4])
        have n4 : (kd == 4) = false := beq_false_of_ne h4
        clear h4 hnm
        go_wp2_with (first
          | (go_at_call 98; (with_reducible refine Calls.mono (HN.out w4) ?_); rintro e w5 ⟨rfl, hd⟩; (have HD := Aside0.mk (drawn_below hd)); clear hd c0 c1' c2' c3 c4 c5 a0 a1 a2 a3 a4; (have HX5 := Aside0.mk (HX4.out.below HD.out)); obtain ⟨⟨c0, c1', c2', c3, c4, c5⟩, a0, a1, a2, a3, a4⟩ := HX5.out.cells)
          | fail)
        go_meet
        case rel => exact ⟨_, rfl, ⟨HB.out.symm, HX4.out.below HD.out, HR4.out.1, Kd.C_below HR4.out.2.1 HD.out, Kd.V_below HR4.out.2.2 HD.out⟩⟩
  case rest =>
    obtain ⟨bb, rfl, HC⟩ := hcut
    have HC0 := HC
    have hbb := HC.out.1
    by_cases hnm : isNm nm = false ∨ (kd = 4 ∧ isNm to_ = false)
    · have HE := Aside0.mk (show d.refuse kd nm to_ dt sz = 120 by unfold Ab.refuse; rw [if_neg h6, if_pos hnm])
      rw [decide_eq_true hnm] at hbb
      subst hbb
      clear hnm
      go_wp2
      go_ret
      rw [HE.out]
      exact ⟨rfl, HC.out.2.1.bel⟩
    have HE0 := Aside0.mk (show ∀ e : Int, (if kd = 1 then (if get d.seen nm ≠ none then 122 else if d.room < taken d.seen + nm.size then 123 else 0) else if get d.seen nm = none then 121 else if kd = 2 ∧ d.room < taken d.seen + dt.size then 123 else if kd = 3 ∧ (sz < 0 ∨ ((dat d.seen nm).size : Int) < sz) then 1 else if kd = 4 ∧ d.room < taken (doAll d.seen (.renamed nm to_)) then 123 else 0) = e → d.refuse kd nm to_ dt sz = e from fun e he => by
      unfold Ab.refuse
      rw [if_neg h6, if_neg hnm]
      exact he)
    rw [decide_eq_false hnm] at hbb
    subst hbb
    clear c0 c1' c2' c3 c4 c5 a0 a1 a2 a3 a4 hnm HX4 HR4
    have HX5 := Aside0.mk HC.out.2.1
    obtain ⟨⟨c0, c1', c2', c3, c4, c5⟩, a0, a1, a2, a3, a4⟩ := HX5.out.cells
    have hth := HTH.out
    have hcs : kd = 1 ∨ kd = 2 ∨ kd = 3 ∨ kd = 4 ∨ kd = 5 := by omega
    have hlt := HLn.out
    clear n6 h6 hk HTH HC HN HT
    have HCC := Aside0.mk (And.intro HC0.out.2.2.1 (And.intro HC0.out.2.2.2.1 HC0.out.2.2.2.2))
    clear HC0 hlt
    rcases hcs with rfl | rfl | rfl | rfl | rfl
    · by_cases hg : get d.seen nm = none
      · obtain rfl : th = false := by rw [hth, hg]; rfl
        by_cases hr : d.room < taken d.seen + nm.size
        · have HE := Aside0.mk (HE0.out 123 (by simp [hg, hr]))
          have ht : decide ((d.room : Int) - (taken d.seen : Int) < (nm.size : Int)) = true := decide_eq_true (by omega)
          clear hg hr hth
          go_wp2
          go_ret
          rw [HE.out]
          exact ⟨rfl, HX5.out.bel⟩
        · have HE := Aside0.mk (HE0.out 0 (by simp [hg, hr]))
          have ht : decide ((d.room : Int) - (taken d.seen : Int) < (nm.size : Int)) = false := decide_eq_false (by omega)
          clear hg hr hth
          go_wp2
          go_ret
          rw [HE.out]
          exact ⟨rfl, HX5.out.bel⟩
      · obtain rfl : th = true := by rw [hth]; exact Option.isSome_iff_ne_none.2 hg
        have HE := Aside0.mk (HE0.out 122 (by simp [hg]))
        clear hg hth
        go_wp2
        go_ret
        rw [HE.out]
        exact ⟨rfl, HX5.out.bel⟩
    · by_cases hg : get d.seen nm = none
      · obtain rfl : th = false := by rw [hth, hg]; rfl
        have HE := Aside0.mk (HE0.out 121 (by simp [hg]))
        clear hg hth
        go_wp2
        go_ret
        rw [HE.out]
        exact ⟨rfl, HX5.out.bel⟩
      · obtain rfl : th = true := by rw [hth]; exact Option.isSome_iff_ne_none.2 hg
        by_cases hr : d.room < taken d.seen + dt.size
        · have HE := Aside0.mk (HE0.out 123 (by simp [hg, hr]))
          have ht : decide ((d.room : Int) - (taken d.seen : Int) < (dt.size : Int)) = true := decide_eq_true (by omega)
          clear hg hr hth
          go_wp2
          go_ret
          rw [HE.out]
          exact ⟨rfl, HX5.out.bel⟩
        · have HE := Aside0.mk (HE0.out 0 (by simp [hg, hr]))
          have ht : decide ((d.room : Int) - (taken d.seen : Int) < (dt.size : Int)) = false := decide_eq_false (by omega)
          clear hg hr hth
          go_upto_region 18 with fail
          go_quiet (fail)
          have HX6 := Aside0.mk (HX5.out.below (Drawn0.below (w := wc) (w' := wc.drewN nq) ⟨nq, rfl⟩))
          clear c0 c1' c2' c3 c4 c5 a0 a1 a2 a3 a4
          generalize wc.drewN nq = w6 at HX6 ⊢
          obtain ⟨⟨c0, c1', c2', c3, c4, c5⟩, a0, a1, a2, a3, a4⟩ := HX6.out.cells
          go_upto_region 20 with fail
          go_quiet (fail)
          have HX7 := Aside0.mk (HX6.out.below (Drawn0.below (w := w6) (w' := w6.drewN nq) ⟨nq, rfl⟩))
          clear c0 c1' c2' c3 c4 c5 a0 a1 a2 a3 a4
          generalize w6.drewN nq = w7 at HX7 ⊢
          obtain ⟨⟨c0, c1', c2', c3, c4, c5⟩, a0, a1, a2, a3, a4⟩ := HX7.out.cells
          go_wp2
          go_ret
          rw [HE.out]
          exact ⟨rfl, HX7.out.bel⟩
    · by_cases hg : get d.seen nm = none
      · obtain rfl : th = false := by rw [hth, hg]; rfl
        have HE := Aside0.mk (HE0.out 121 (by simp [hg]))
        clear hg hth
        go_wp2
        go_ret
        rw [HE.out]
        exact ⟨rfl, HX5.out.bel⟩
      · obtain rfl : th = true := by rw [hth]; exact Option.isSome_iff_ne_none.2 hg
        obtain ⟨b, hb⟩ := Option.ne_none_iff_exists'.1 hg
        have hps := pos_some HS.out hb
        have hpe : d.seen[pos d.seen nm]'hps = (nm, b) := by
          have h9 := pos_get HS.out hb
          rw [List.getElem?_eq_getElem hps] at h9
          exact Option.some.inj h9
        have hp1 : (0 : Int) ≤ (pos d.seen nm : Int) := by omega
        have hp2 : (pos d.seen nm : Int) < (d.seen.length : Int) := by omega
        obtain ⟨ad, hA, x0, x1⟩ := sp_cells HCC.out.2.1 hps
        rw [hpe] at x0 x1
        subst hA
        have hdb : dat d.seen nm = b := dat_some hb
        by_cases hz : sz < 0
        · have HE := Aside0.mk (HE0.out 1 (by simp [hg, hz]))
          have hz1 : decide (sz < 0) = true := decide_eq_true hz
          clear hg hb hps hpe hth hz hdb
          go_upto_region 18 with fail
          go_quiet (fail)
          have HX6 := Aside0.mk (HX5.out.below (Drawn0.below (w := wc) (w' := wc.drewN nq) ⟨nq, rfl⟩))
          clear c0 c1' c2' c3 c4 c5 a0 a1 a2 a3 a4
          generalize wc.drewN nq = w6 at HX6 ⊢
          obtain ⟨⟨c0, c1', c2', c3, c4, c5⟩, a0, a1, a2, a3, a4⟩ := HX6.out.cells
          go_wp2
          go_ret
          rw [HE.out]
          exact ⟨rfl, HX6.out.bel⟩
        · have hz1 : decide (sz < 0) = false := decide_eq_false hz
          by_cases hy : (b.size : Int) < sz
          · have HE := Aside0.mk (HE0.out 1 (by simp [hg, hdb, hy]))
            have hy1 : decide ((b.size : Int) < sz) = true := decide_eq_true hy
            clear hg hb hps hpe hth hz hdb hy
            go_upto_region 18 with fail
            go_quiet (fail)
            have HX6 := Aside0.mk (HX5.out.below (Drawn0.below (w := wc) (w' := wc.drewN nq) ⟨nq, rfl⟩))
            clear c0 c1' c2' c3 c4 c5 a0 a1 a2 a3 a4
            generalize wc.drewN nq = w6 at HX6 ⊢
            obtain ⟨⟨c0, c1', c2', c3, c4, c5⟩, a0, a1, a2, a3, a4⟩ := HX6.out.cells
            go_wp2
            go_ret
            rw [HE.out]
            exact ⟨rfl, HX6.out.bel⟩
          · have HE := Aside0.mk (HE0.out 0 (by simp [hg, hdb, hy, hz]))
            have hy1 : decide ((b.size : Int) < sz) = false := decide_eq_false hy
            clear hg hb hps hpe hth hz hdb hy
            go_upto_region 18 with fail
            go_quiet (fail)
            have HX6 := Aside0.mk (HX5.out.below (Drawn0.below (w := wc) (w' := wc.drewN nq) ⟨nq, rfl⟩))
            clear c0 c1' c2' c3 c4 c5 a0 a1 a2 a3 a4
            generalize wc.drewN nq = w6 at HX6 ⊢
            obtain ⟨⟨c0, c1', c2', c3, c4, c5⟩, a0, a1, a2, a3, a4⟩ := HX6.out.cells
            go_upto_region 20 with fail
            go_quiet (fail)
            have HX7 := Aside0.mk (HX6.out.below (Drawn0.below (w := w6) (w' := w6.drewN nq) ⟨nq, rfl⟩))
            clear c0 c1' c2' c3 c4 c5 a0 a1 a2 a3 a4
            generalize w6.drewN nq = w7 at HX7 ⊢
            obtain ⟨⟨c0, c1', c2', c3, c4, c5⟩, a0, a1, a2, a3, a4⟩ := HX7.out.cells
            go_wp2
            go_ret
            rw [HE.out]
            exact ⟨rfl, HX7.out.bel⟩
    · by_cases hg : get d.seen nm = none
      · obtain rfl : th = false := by rw [hth, hg]; rfl
        have HE := Aside0.mk (HE0.out 121 (by simp [hg]))
        clear hg hth
        go_wp2
        go_ret
        rw [HE.out]
        exact ⟨rfl, HX5.out.bel⟩
      · obtain rfl : th = true := by rw [hth]; exact Option.isSome_iff_ne_none.2 hg
        have hor := one_renamed (b := to_) HS.out hg
        have hrt := taken_renamed (b := to_) HS.out hg
        have hru : (taken (doAll d.seen (.renamed nm to_)) : Int) ≤ 1099511627000 := by
          rw [hrt]
          unfold ru
          have := HTk.out
          have := HR0.out
          split <;> omega
        have hsz : (doAll d.seen (.renamed nm to_)).length ≤ taken (doAll d.seen (.renamed nm to_)) + 1 := len_taken (srt_do HS.out (.renamed nm to_) (St.renamed nm to_).count)
        have HOR := Aside0.mk (And.intro hor (And.intro hru hsz))
        clear hru hrt hor hsz hth
        go_upto_region 18 with fail
        go_quiet (fail)
        have HV6 := Aside0.mk (Kd.V_below HCC.out.2.2 (Drawn0.below (w := wc) (w' := wc.drewN nq) ⟨nq, rfl⟩))
        have HX6 := Aside0.mk (HX5.out.below (Drawn0.below (w := wc) (w' := wc.drewN nq) ⟨nq, rfl⟩))
        clear c0 c1' c2' c3 c4 c5 a0 a1 a2 a3 a4
        generalize wc.drewN nq = w6 at HX6 HV6 ⊢
        obtain ⟨⟨c0, c1', c2', c3, c4, c5⟩, a0, a1, a2, a3, a4⟩ := HX6.out.cells
        have HG := Aside0.mk hg
        by_cases hr : d.room < taken (doAll d.seen (.renamed nm to_))
        · have ht : decide ((d.room : Int) < (taken (doAll d.seen (.renamed nm to_)) : Int)) = true := decide_eq_true (by omega)
          have HE := Aside0.mk (HE0.out 123 (by simp [hg, hr]))
          have ht2 : decide (d.room < taken (doAll d.seen (.renamed nm to_))) = true := decide_eq_true hr
          go_upto_region 20 with fail
          have HVD := Aside0.mk (Kd.V_below HV6.out (below_drew (Below.refl w6.heap.size w6)))
          have HXD := Aside0.mk (HX6.out.below (below_drew (Below.refl w6.heap.size w6)))
          go_region_law (first
            | (go_simp; go_at_call 102; refine Calls.mono (rdone4 nm to_ HS.out HLn.out HG.out HVD.out) ?_; rintro e w8 ⟨A8, c8, rfl, h1, h2, h3⟩; (have HX8 := Aside0.mk (HXD.out.below h3)); (have HR8 := Aside0.mk (And.intro h1 h2)); clear h1 h2 h3; (have c08 : w8.cell? ⟨W.heap.size, 0, none⟩ = some (.int .i64 (d.room : Int)) := HX8.out.cells.1.1))
            | (go_simp; go_at_call 74; refine Calls.mono (rtaken (by have := HOR.out; omega) (by have := HOR.out; omega) HR8.out.2 HR8.out.1) ?_; rintro e w9 ⟨rfl, hd⟩; (have HX9 := Aside0.mk (HX8.out.below (drawn_below hd))); clear hd; (have c09 : w9.cell? ⟨W.heap.size, 0, none⟩ = some (.int .i64 (d.room : Int)) := HX9.out.cells.1.1))
            | fail)
          all_goals
            go_wp2
            go_ret
            rw [HE.out]
            exact ⟨rfl, HX9.out.bel⟩
        · have ht : decide ((d.room : Int) < (taken (doAll d.seen (.renamed nm to_)) : Int)) = false := decide_eq_false (by omega)
          have HE := Aside0.mk (HE0.out 0 (by simp [hg, hr]))
          have ht2 : decide (d.room < taken (doAll d.seen (.renamed nm to_))) = false := decide_eq_false hr
          go_upto_region 20 with fail
          have HVD := Aside0.mk (Kd.V_below HV6.out (below_drew (Below.refl w6.heap.size w6)))
          have HXD := Aside0.mk (HX6.out.below (below_drew (Below.refl w6.heap.size w6)))
          go_region_law (first
            | (go_simp; go_at_call 102; refine Calls.mono (rdone4 nm to_ HS.out HLn.out HG.out HVD.out) ?_; rintro e w8 ⟨A8, c8, rfl, h1, h2, h3⟩; (have HX8 := Aside0.mk (HXD.out.below h3)); (have HR8 := Aside0.mk (And.intro h1 h2)); clear h1 h2 h3; (have c08 : w8.cell? ⟨W.heap.size, 0, none⟩ = some (.int .i64 (d.room : Int)) := HX8.out.cells.1.1))
            | (go_simp; go_at_call 74; refine Calls.mono (rtaken (by have := HOR.out; omega) (by have := HOR.out; omega) HR8.out.2 HR8.out.1) ?_; rintro e w9 ⟨rfl, hd⟩; (have HX9 := Aside0.mk (HX8.out.below (drawn_below hd))); clear hd; (have c09 : w9.cell? ⟨W.heap.size, 0, none⟩ = some (.int .i64 (d.room : Int)) := HX9.out.cells.1.1))
            | fail)
          all_goals
            go_wp2
            go_ret
            rw [HE.out]
            exact ⟨rfl, HX9.out.bel⟩
    · by_cases hg : get d.seen nm = none
      · obtain rfl : th = false := by rw [hth, hg]; rfl
        have HE := Aside0.mk (HE0.out 121 (by simp [hg]))
        clear hg hth
        go_wp2
        go_ret
        rw [HE.out]
        exact ⟨rfl, HX5.out.bel⟩
      · obtain rfl : th = true := by rw [hth]; exact Option.isSome_iff_ne_none.2 hg
        have HE := Aside0.mk (HE0.out 0 (by simp [hg]))
        clear hg hth
        go_upto_region 18 with fail
        go_quiet (fail)
        have HX6 := Aside0.mk (HX5.out.below (Drawn0.below (w := wc) (w' := wc.drewN nq) ⟨nq, rfl⟩))
        clear c0 c1' c2' c3 c4 c5 a0 a1 a2 a3 a4
        generalize wc.drewN nq = w6 at HX6 ⊢
        obtain ⟨⟨c0, c1', c2', c3, c4, c5⟩, a0, a1, a2, a3, a4⟩ := HX6.out.cells
        go_upto_region 20 with fail
        go_quiet (fail)
        have HX7 := Aside0.mk (HX6.out.below (Drawn0.below (w := w6) (w' := w6.drewN nq) ⟨nq, rfl⟩))
        clear c0 c1' c2' c3 c4 c5 a0 a1 a2 a3 a4
        generalize w6.drewN nq = w7 at HX7 ⊢
        obtain ⟨⟨c0, c1', c2', c3, c4, c5⟩, a0, a1, a2, a3, a4⟩ := HX7.out.cells
        go_wp2
        go_ret
        rw [HE.out]
        exact ⟨rfl, HX7.out.bel⟩
end
end Gd

end Go.Proofs.Ytidijiijciokpaa.G
