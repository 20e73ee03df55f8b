import Derived.Test.YtbfcejbjljalmaaF22
import Derived.Test.YtbfcejbjljalmaaPx11
import Derived.Maps.OwnOps
import Derived.WideMake
import Derived.Laws.IdiomRangeMap
import Derived.Maps.AppendAt
import Derived.Deep.RegionLaw
import Derived.ArgAppend
import Derived.RangeFuncNested
import Derived.RangeFuncBound
import Derived.RangeFuncCalls
import Derived.RangeFuncLeaves
import Derived.RangeFuncBox
import Derived.RangeFuncFrom
import Derived.OwnWalkIn
import Derived.TacticsInMore
import Derived.LoopNIn
import Derived.LoopIn
import Derived.Deep.Upon
import Derived.Deep.QuietTactic
import Derived.BigQuiet
import Derived.Deep.RegionHeld3
import Derived.Deep.DeepCutAuto
import Derived.Deep.CutBlock
import Derived.Laws.EntriesVeiled
import Derived.StillTailTactics
import Derived.Laws.Tables
import Derived.Laws.CopyOwn
import Derived.IntWalk
import Derived.Test.YtbfcejbjljalmaaBlocks
import Derived.Laws.CopyOwn
import Derived.Laws.Tables
import Derived.Outline
namespace Go.Proofs.Ytbfcejbjljalmaa.P
open Go.RowKit Go.Proofs.YtbfcejbjljalmaaW.PrintWords Go.Proofs.YtbfcejbjljalmaaW.PrintLast Go.Proofs.YtbfcejbjljalmaaW.PrintMore
set_option linter.unusedVariables false
set_option linter.unusedSimpArgs false
namespace Wl
open Go.Proofs.Ytbfcejbjljalmaa.Blocks Frm
set_option maxRecDepth 100000
theorem name_a : Go.Proofs.Ytbfcejbjljalmaa.P.wal_isName.f 10 ⟨#[97]⟩ = some true ∧ Go.Proofs.Ytbfcejbjljalmaa.P.wal_isName.f 10 (⟨#[97]⟩ ++ ⟨#[46, 110]⟩) = some true := by decide +kernel
/-- A row of one byte all along, so far. -/
structure Fill (W w : World) (rb n : Nat) (x : Int) (i : Nat) : Prop where
  row : ∃ cur : Array Value, w.heap[rb]? = some (.cells cur 5 (0, 0)) ∧ cur.size = n ∧ ∀ j, j < i → cur[j]? = some (.int .u8 x)
  bel : Below rb W w
  lt : rb ≤ W.heap.size
theorem fill_done {W w : World} {rb : Nat} {x : Int} {xs : List Int} (h : Fill W w rb xs.length x xs.length) (hx : ∀ y ∈ xs, y = x) : w.heap[rb]? = some (.cells (nums .u8 xs).toArray 5 (0, 0)) := by
  obtain ⟨cur, hc, hn, hj⟩ := h.row
  rw [hc]
  congr 2
  apply Array.ext_getElem?
  intro j
  by_cases hlt : j < xs.length
  · rw [hj j hlt]
    have : xs[j]? = some x := by
      rw [List.getElem?_eq_getElem hlt]
      exact congrArg some (hx _ (List.getElem_mem hlt))
    simp [nums, this]
  · rw [Array.getElem?_eq_none (by omega), Array.getElem?_eq_none (by simp [nums_length]; omega)]
theorem Fill.put {W w : World} {rb n : Nat} {x : Int} {i : Nat} (h : Fill W w rb n x i) (hi : i < n) : Fill W (w.setCell ⟨rb, i, none⟩ (.int .u8 x)) rb n x (i + 1) := by
  obtain ⟨cur, hc, hn, hj⟩ := h.row
  refine ⟨⟨cur.setIfInBounds i (.int .u8 x), blk_put hc i _ rfl, by simp [hn], fun j hjl => ?_⟩, h.bel.setCell (p := ⟨rb, i, none⟩) (Nat.le_refl _) _, h.lt⟩
  rw [Array.getElem?_setIfInBounds]
  by_cases e : i = j
  · subst e
    simp [hn, hi]
  · rw [if_neg e]
    exact hj j (by omega)
set_option maxHeartbeats 4000000 in
theorem wlong_calls (W : World) (more x : Int) : Calls Try.prog 3 #[.int .i64 more, .int .u8 x] W fun r w => r = .returned (.bool true) ∧ Below W.heap.size W w := by
  go_enter Try.func3, Try.ntmps3
  go_upto_region 4 with (first
    | (go_at_call 5; refine (new_calls _ 8388608 (by decide) (by decide)).mono ?_; rintro e w1 ⟨dp, mp, la, rfl, hd, hb⟩; (have HD1 := Aside0.mk hd); (have HB1 := Aside0.mk hb); clear hd hb)
    | fail)
  go_upto_region 7 with (first
    | (go_at_call 6; refine (open0_calls HD1.out ⟨#[97]⟩ 10 (by decide) name_a.1 name_a.2).mono ?_; rintro e w2 ⟨lp, rfl, hl, hlp, hb⟩; (have HD2 := Aside0.mk (HD1.out.below hb)); (have HL2 := Aside0.mk hl); (have HLP := Aside0.mk (Nat.le_trans HB1.out.size hlp)); (have HB2 := Aside0.mk (HB1.out.trans (below_w hb HB1.out.size))); clear hl hlp hb)
    | fail)
  clear HD1 HB1
  go_upto_region 8 with fail
  have hm1 := Int.tmod_lt_of_pos more (show (0 : Int) < 4 by decide)
  have hm2 := Int.lt_tmod_of_pos more (show (0 : Int) < 4 by decide)
  generalize more.tmod 4 = m at hm1 hm2 ⊢
  obtain ⟨xs, hxl, hxv⟩ : ∃ xs : List Int, (xs.length : Int) = 1048576 + m ∧ ∀ y ∈ xs, y = x := ⟨List.replicate (1048576 + m).toNat x, by rw [List.length_replicate]; omega, fun y hy => (List.mem_replicate.1 hy).2⟩
  have hw : wrap64 (1048576 + m) = (xs.length : Int) := by unfold wrap64; omega
  have HW := Aside0.mk hw
  clear hw
  have HXV := Aside0.mk hxv
  have HXL := Aside0.mk (And.intro hxl (And.intro hm1 hm2))
  have HXN : Aside0 (xs.length ≤ 1099511627776) := ⟨by omega⟩
  clear hxv hxl hm1 hm2
  go_upto_region 9 with ((with_reducible refine wp_make_full rfl (.tmp 33) (.tmp 33) rfl xs.length ?hx_ ?hy_ HXN.out ?_); (case hx_ => exact congrArg (Value.int .i64) HW.out); (case hy_ => exact congrArg (Value.int .i64) HW.out); intro cur hcur; (have HCU := Aside0.mk hcur); clear hcur)
  have HB3 := Aside0.mk (HB2.out.alloc HB2.out.size (.cells cur 5))
  have HF3 := Aside0.mk (show Fill w2 (w2.alloc (.cells cur 5)) w2.heap.size xs.length x 0 from ⟨⟨cur, blk_new w2 _, HCU.out, fun j h => by omega⟩, below_alloc (Below.refl _ _) _, Nat.le_refl _⟩)
  clear HCU
  generalize w2.alloc (.cells cur 5) = w3 at HB3 HF3 ⊢
  obtain ⟨rb, hrb⟩ : ∃ rb, rb = w2.heap.size := ⟨_, rfl⟩
  rw [← hrb] at HF3 ⊢
  have HRB := Aside0.mk hrb
  clear hrb
  go_upto_region 10 with fail
  go_loopw [37] (fun v wr => ∃ k : Nat, v = .int .i64 k ∧ k ≤ xs.length ∧ Aside0 (Fill w2 wr rb xs.length x k)) (fun v _ => xs.length - (intOf v).toNat)
  case atStart => exact ⟨0, rfl, by omega, HF3⟩
  case round =>
    obtain ⟨k, rfl, hk, HP⟩ := hrel
    by_cases hlt : k < xs.length
    · have hki : (k : Int) < (xs.length : Int) := by omega
      have hk0 : (0 : Int) ≤ (k : Int) := by omega
      obtain ⟨u, hu⟩ : ∃ u, wr.cell? ⟨rb, k, none⟩ = some u := by
        obtain ⟨cur, hc, hn, _⟩ := HP.out.row
        exact ⟨cur[k], by rw [blk_cell hc k]; exact Array.getElem?_eq_getElem (by omega)⟩
      have hfz : wr.frozen? ⟨rb, k, none⟩ = false := by
        obtain ⟨cur, hc, hn, _⟩ := HP.out.row
        exact blk_frozen hc k
      have HP2 := Aside0.mk (HP.out.put hlt)
      have hwk : wrap64 ((k : Int) + 1) = ((k + 1 : Nat) : Int) := by have := HXN.out; unfold wrap64; omega
      have HLT := Aside0.mk hlt
      clear HP hlt
      go_wp2
      go_roundw
      case rel => exact ⟨k + 1, congrArg (Value.int .i64) hwk, HLT.out, HP2⟩
      case measure =>
        have hlt := HLT.out
        clear hki hk0
        rw [hwk]
        clear hwk
        show xs.length - (k + 1) < xs.length - k
        omega
    · have h2 : k = xs.length := by omega
      subst h2
      have hirr : ¬ ((xs.length : Int) < (xs.length : Int)) := by omega
      have hbr : Below w2.heap.size w2 wr := HRB.out ▸ HP.out.bel
      have HXB := Aside0.mk (fill_done HP.out HXV.out)
      have HD4 := Aside0.mk (HD2.out.below hbr)
      have HL4 := Aside0.mk (blk_below HL2.out hbr)
      have HB4 := Aside0.mk (HB2.out.trans (below_w hbr HB2.out.size))
      clear HP hbr HB3 HF3 HD2 HL2 HB2 HRB HXV HW hlt hk
      by_cases hmp : 0 < m
      · have HLN : Aside0 (1048576 < xs.length) := ⟨by have := HXL.out.1; omega⟩
        have HAL := Aside0.mk (append_long HL4.out (some ⟨rb, 0, none⟩) xs.length xs.length HLN.out)
        go_upto_region 15 with (first
          | (go_at_call 7; refine HAL.out.mono ?_; rintro e w5 ⟨rfl, hb⟩; (have HL5 := Aside0.mk (blk_below HL4.out hb)); (have HB5 := Aside0.mk (HB4.out.trans (below_w hb HB4.out.size))); clear hb)
          | fail)
        clear HAL HL4 HB4
        go_upto_region 16 with fail
        go_wp2_with (first
          | (go_at_call 8; refine (len_calls HL5.out).mono ?_; rintro e w6 ⟨rfl, hw⟩; (have hw_ := hw.symm); clear hw; subst hw_)
          | (go_at_call 9; refine (start_long (blk_alloc HL5.out _) _ _ _ _ (blk_new w5 _) HLN.out).mono ?_; rintro e w7 ⟨rfl, hb⟩; (have HB7 := Aside0.mk ((HB5.out.alloc HB5.out.size _).trans (below_w hb (by rw [World.size_alloc]; have := HB5.out.size; omega)))); (have HL7 := Aside0.mk (blk_below (blk_alloc HL5.out _) hb)); clear hb)
          | (go_at_call 10; refine (sync_none (n := 0) HL7.out).mono ?_; rintro e w8 ⟨rfl, hb⟩)
          | fail)
        go_ret
        exact ⟨rfl, HB7.out.trans (below_w hb HB7.out.size)⟩
      · have hx0 : 0 < xs.length := by have := HXL.out; omega
        have hx1 : xs.length ≤ 1048576 := by have := HXL.out; omega
        have HAP := Aside0.mk (app1l_calls (rs := []) (R := W.heap.size) HD4.out HL4.out ⟨by simp, .inl ⟨rfl, rfl⟩⟩ ⟨_, HXB.out⟩ hx0 hx1 (by decide) (by decide) HB4.out.size HB4.out.size (Nat.le_refl _) HLP.out (by decide) (by decide) (by decide) (by have := HXL.out; omega) (by decide) (by have := HXL.out; omega))
        have HN := Aside0.mk (And.intro hx0 hx1)
        clear hx0 hx1
        go_upto_region 15 with (first
          | (go_at_call 7; refine HAP.out.mono ?_; rintro e w5 ⟨rfl, v5, sv5, ss5, rv5, rs5, -, -, -, hl, hr, -, hb, ⟨vc, hrs, ho⟩, ⟨z, hz⟩⟩; subst hrs; (have HL5 := Aside0.mk hl); (have HR5 := Aside0.mk hr); (have HO5 := Aside0.mk ho); (have HZ5 := Aside0.mk hz); (have HB5 := Aside0.mk (HB4.out.trans hb)); clear hl hr ho hz hb)
          | fail)
        clear HAP HL4 HB4 HD4 HXB
        have HRE := Aside0.mk (record0_calls HL5.out HR5.out HO5.out HN.out.1 HN.out.2)
        go_upto_region 18 with (first
          | (go_at_call 11; refine HRE.out.mono ?_; rintro e w6 ⟨u6, rfl, ho, hb⟩; obtain ⟨A6, c6, hu6, hc6⟩ := Frm.own_slice ho; subst hu6; (have HL6 := Aside0.mk (blk_below HL5.out hb)); (have HR6 := Aside0.mk (own_below HR5.out hb)); (have HO6 := Aside0.mk ho); (have HC6 := Aside0.mk hc6); (have HB6 := Aside0.mk (HB5.out.trans (below_w hb HB5.out.size))); (have HZ6 := Aside0.mk (obj_below HZ5.out hb)); clear ho hb hc6)
          | fail)
        obtain ⟨g5, c5, rfl, -⟩ := row_at HR6.out (by simp)
        have HSA := Aside0.mk (fun (w : World) (hd : Drawn0 w6 w) => Go.Proofs.Ytbfcejbjljalmaa.P.hawserref01_Same.calls (some ⟨rb, 0, none⟩) xs.length xs A6 c6 xs true w (C_z (obj_below HZ6.out (Drawn0.below hd)) (by have := HN.out.2; omega)) (Nat.le_refl _) (Frm.C_own (own_below HO6.out (Drawn0.below hd))) HC6.out (by simp [Go.Proofs.Ytbfcejbjljalmaa.P.hawserref01_Same.f]))
        clear HL5 HR5 HO5 HZ5 HB5 HRE
        go_wp2_with (first
          | (go_at_call 8; refine (len_calls HL6.out).mono ?_; rintro e w7 ⟨rfl, hw⟩; (have hw_ := hw.symm); clear hw; subst hw_)
          | (go_at_call 12; refine (HSA.out _ (Drawn0.refl _)).mono ?_; rintro e w8 ⟨rfl, hd⟩; (have HB8 := Aside0.mk (HB6.out.trans (below_w (Drawn0.below hd) HB6.out.size))); clear hd)
          | fail)
        go_ret
        exact ⟨rfl, HB8.out⟩
end Wl

end Go.Proofs.Ytbfcejbjljalmaa.P
