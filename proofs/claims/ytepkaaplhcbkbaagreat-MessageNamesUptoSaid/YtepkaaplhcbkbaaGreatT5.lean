import Derived.Test.YtepkaaplhcbkbaaGreatT4
import Derived.Deep.Upon
import Derived.Deep.QuietTactic
import Derived.BigQuiet
import Derived.Deep.RegionHeld3
import Derived.Deep.DeepCutAuto
import Derived.Deep.CutBlock
import Derived.Laws.EntriesVeiled
import Derived.StillTailTactics
import Derived.Laws.Tables
import Derived.Laws.CopyOwn
import Derived.Test.YtepkaaplhcbkbaaGreatBlocks
import Derived.Laws.CopyOwn
import Derived.Laws.Tables
import Derived.Outline
namespace Go.Proofs.YtepkaaplhcbkbaaGreat.G
open Go.RowKit Go.Proofs.YtepkaaplhcbkbaaGreatW.PrintWords Go.Proofs.YtepkaaplhcbkbaaGreatW.PrintLast Go.Proofs.YtepkaaplhcbkbaaGreatW.PrintMore
set_option linter.unusedVariables false
set_option linter.unusedSimpArgs false
namespace Msg
theorem Put.start {W : World} {to_ : Nat} {cs : Array Value} (h : W.heap[to_]? = some (.cells cs 49 (0, 0))) (o : Obj) : Put W (W.alloc o) to_ cs :=
  ⟨rfl, rfl, rfl, by rw [World.size_alloc]; omega, blk_alloc h o, fun k hk _ => heap_alloc_old _ _ hk⟩
theorem Put.set {W w : World} {to_ : Nat} {cs : Array Value} (h : Put W w to_ cs) (i : Nat) (v : Value) : Put W (w.setCell ⟨to_, i, none⟩ v) to_ (cs.setIfInBounds i v) :=
  ⟨h.os, h.tape, h.output, by rw [World.setCell]; simp; exact h.size, blk_set h.here i v, fun k hk hn => (Below.heap_setCell w ⟨to_, i, none⟩ v k hn).trans (h.block k hk hn)⟩
def res3 (m : Mg) : Bool := decide (1 ≤ m.rc) && decide (m.rc ≤ 5) && decide (0 ≤ m.rv) && decide (m.rv ≤ 1152921504606846976)
set_option maxRecDepth 100000 in
theorem res3_calls (W : World) (m : Mg) : Calls Tryz.prog 172 #[.agg m.cells] W fun e w => e = .returned (.bool (res3 m)) ∧ Below W.heap.size W w := by
  have HB := Aside0.mk (below_alloc (below_alloc (Below.refl W.heap.size W) (.cells m.cells 49)) (.cells #[.int .i64 m.rc, .int .i64 m.rv] 37))
  have hc20 : (W.alloc (.cells m.cells 49)).cell? ⟨W.heap.size, 20, none⟩ = some (.int .i64 m.rc) := blk_cell (blk_new _ _) 20
  have hc21 : (W.alloc (.cells m.cells 49)).cell? ⟨W.heap.size, 21, none⟩ = some (.int .i64 m.rv) := blk_cell (blk_new _ _) 21
  go_enter Tryz.func172, Tryz.ntmps172
  go_wp2
  all_goals (go_ret; exact ⟨by simp_all [res3] <;> (intros; omega), HB.out⟩)
set_option maxRecDepth 100000 in
theorem res4_calls (W : World) (m b : Mg) (to_ : Nat) (ht : W.heap[to_]? = some (.cells b.cells 49 (0, 0))) : Calls Tryz.prog 173 #[.agg m.cells, .pointer (some ⟨to_, 0, none⟩)] W fun e w => e = .returned (.tuple #[]) ∧ Put W w to_ ({ b with rc := m.rc, rv := m.rv } : Mg).cells := by
  have hc20 : (W.alloc (.cells m.cells 49)).cell? ⟨W.heap.size, 20, none⟩ = some (.int .i64 m.rc) := blk_cell (blk_new _ _) 20
  have hc21 : (W.alloc (.cells m.cells 49)).cell? ⟨W.heap.size, 21, none⟩ = some (.int .i64 m.rv) := blk_cell (blk_new _ _) 21
  have ht20 : (W.alloc (.cells m.cells 49)).cell? ⟨to_, 20, none⟩ = some (.int .i64 b.rc) := blk_cell (blk_alloc ht _) 20
  have ht21 : (W.alloc (.cells m.cells 49)).cell? ⟨to_, 21, none⟩ = some (.int .i64 b.rv) := blk_cell (blk_alloc ht _) 21
  have hf20 := blk_frozen (blk_alloc ht (.cells m.cells 49)) 20
  have hf21 := blk_frozen (blk_alloc ht (.cells m.cells 49)) 21
  have HT := Aside0.mk (((Put.start ht (.cells m.cells 49)).set 20 (.int .i64 m.rc)).set 21 (.int .i64 m.rv))
  clear ht
  go_enter Tryz.func173, Tryz.ntmps173
  go_wp2
  go_end0
  exact ⟨rfl, HT.out⟩
set_option maxRecDepth 100000 in
theorem fs_results : FieldSem 88 (fun m _ => res3 m) (fun m b => { b with rc := m.rc, rv := m.rv }) := by
  refine ⟨fun args w => by kernel_rfl, fun W => ?_⟩
  go_enter Tryz.func88, Tryz.ntmps88
  go_wp2
  refine bodyPost_ret (v := .agg #[.func (.func 169) #[] #[], .func (.func 171) #[] #[], .func (.func 172) #[] #[], .func (.func 173) #[] #[]]) (by simp [results, Tryz.results88, go_sem]) rfl ?_
  exact ⟨_, _, _, _, _, _, _, _, rfl, ⟨fun args w => by kernel_rfl, fun args w => by kernel_rfl, below_alloc (below_alloc (Below.refl _ _) _) _, fun W3 _ m l _ => res3_calls W3 m, fun W3 _ m b to_ ht => res4_calls W3 m b to_ ht⟩⟩
/-- May these nodes come, those seen are marked? -/
def okn : List Int → List Bool → Bool
  | [], _ => true
  | n :: l, a => if n < 1 ∨ 8 < n ∨ a.getD n.toNat false = true then false else okn l (a.set n.toNat true)
def no9 : List Bool := [false, false, false, false, false, false, false, false, false]
def rcfg (e : Int) (l : List Int) : Bool := decide (1 ≤ e ∧ e ≤ 1099511627776) && decide (1 ≤ l.length ∧ l.length ≤ 8) && okn l no9
theorem bools_at (a : List Bool) (i : Nat) (h : i < a.length) : (a.map Value.bool).toArray[i]? = some (.bool (a.getD i false)) := by
  simp [List.getElem?_eq_getElem h, List.getD_eq_getElem?_getD]
set_option maxRecDepth 100000 in
set_option maxHeartbeats 1600000 in
theorem rcfg_calls (e : Int) (A : Option Addr) (n c : Nat) (l : List Int) (W : World) (hr : Kd.C (Kd.int .i64) W A l.length l) (hn : n = l.length) (hc : n ≤ c) :
    Calls Tryz.prog 194 #[.agg #[.int .i64 e, .slice A n c]] W fun r w => r = .returned (.bool (rcfg e l)) ∧ Below W.heap.size W w := by
  subst hn
  have HR := Aside0.mk hr
  have HC := Aside0.mk hc
  have HB0 := Aside0.mk (below_alloc (Below.refl W.heap.size W) (.cells #[.int .i64 e, .slice A l.length c] 41))
  clear hr hc
  by_cases h1 : 1 ≤ e ∧ e ≤ 1099511627776
  · by_cases h2 : 1 ≤ l.length ∧ l.length ≤ 8
    · have b1 : decide (e < 1) = false := decide_eq_false (by omega)
      have b2 : decide (1099511627776 < e) = false := decide_eq_false (by omega)
      have b3 : decide ((l.length : Int) < 1) = false := decide_eq_false (by omega)
      have b4 : decide (8 < (l.length : Int)) = false := decide_eq_false (by omega)
      have b3' : decide (l.length < 1) = false := decide_eq_false (by omega)
      have b4' : decide (8 < l.length) = false := decide_eq_false (by omega)
      have HF : Hid (rcfg e l = okn l no9) := by show rcfg e l = okn l no9; simp [rcfg, h1, h2]
      clear h1
      go_enter Tryz.func194, Tryz.ntmps194
      go_wp2
      go_loopw [29] (fun v wr => ∃ (k : Nat) (a : List Bool), k ≤ l.length ∧ v = .int .i64 k ∧ a.length = 9 ∧ Hid (okn l no9 = okn (l.drop k) a) ∧ Hid (wr.heap[W.heap.size + 1]? = some (.cells (a.map Value.bool).toArray 280 (0, 0))) ∧ Below W.heap.size W wr) (fun v _ => l.length - (intOf v).toNat)
      case atStart =>
        refine ⟨0, no9, by omega, rfl, rfl, rfl, ?_, HB0.out.alloc HB0.out.size _⟩
        have := heap_alloc_new (W.alloc (.cells #[.int .i64 e, .slice A l.length c] 41)) (.cells (no9.map Value.bool).toArray 280)
        rw [World.size_alloc] at this
        exact this
      case round =>
        obtain ⟨k, a, hk, rfl, ha, hp, hh, hb⟩ := hrel
        by_cases hlt : k < l.length
        · obtain ⟨n, hn'⟩ : ∃ n, n = rd l k := ⟨_, rfl⟩
          obtain ⟨ad, ee, hcell⟩ := Kd.at_int (Kd.C_below HR.out hb) (k : Int) (by omega) (by omega)
          rw [← hn', Int.toNat_natCast] at hcell
          cases ee
          have HD : Hid (l.drop k = n :: l.drop (k + 1)) := by
            show l.drop k = n :: l.drop (k + 1)
            have hq_ : l[k] = n := by
              rw [hn']
              simp [rd, List.getD_eq_getElem?_getD, List.getElem?_eq_getElem hlt]
            rw [List.drop_eq_getElem_cons hlt, hq_]
          clear hn'
          have hkl : (k : Int) < (l.length : Int) := by omega
          by_cases h1 : n < 1
          · have HN : Hid (rcfg e l = false) := by show rcfg e l = false; rw [HF.out, hp.out, HD.out, okn, if_pos (.inl h1)]
            clear HF hp HD
            go_wp2
            go_ret
            exact ⟨by rw [HN.out]; rfl, hb⟩
          · have c1 : decide (n < 1) = false := decide_eq_false h1
            by_cases h8 : 8 < n
            · have HN : Hid (rcfg e l = false) := by show rcfg e l = false; rw [HF.out, hp.out, HD.out, okn, if_pos (.inr (.inl h8))]
              clear HF hp HD
              have c2 : decide (8 < n) = true := decide_eq_true h8
              go_wp2
              go_ret
              exact ⟨by rw [HN.out]; rfl, hb⟩
            · have c2 : decide (8 < n) = false := decide_eq_false h8
              have p0 : 0 ≤ n := by omega
              have p9 : n < 9 := by omega
              obtain ⟨x, hx⟩ : ∃ x, x = a.getD n.toNat false := ⟨_, rfl⟩
              have hac : wr.cell? ⟨W.heap.size + 1, n.toNat, none⟩ = some (.bool x) := by
                rw [blk_cell hh.out, bools_at _ _ (by omega), hx]
              have haf := blk_frozen hh.out n.toNat
              cases x with
              | true =>
                have HN : Hid (rcfg e l = false) := by show rcfg e l = false; rw [HF.out, hp.out, HD.out, okn, if_pos (.inr (.inr hx.symm))]
                clear HF hp HD hx
                go_wp2
                go_ret
                exact ⟨by rw [HN.out]; rfl, hb⟩
              | false =>
                have HO : Hid (okn l no9 = okn (l.drop (k + 1)) (a.set n.toNat true)) := by show okn l no9 = _; rw [hp.out, HD.out, okn, if_neg (by rw [← hx]; simp; omega)]
                clear hp HD hx
                go_wp2
                go_roundw
                case rel =>
                  refine ⟨k + 1, a.set n.toNat true, by omega, by go_num, by rw [List.length_set]; exact ha, HO, ?_, hb.setCell (by simp) _⟩
                  have := blk_set hh.out n.toNat (.bool true)
                  have hm : ((a.map Value.bool).toArray.setIfInBounds n.toNat (.bool true)) = ((a.set n.toNat true).map Value.bool).toArray := by simp [List.map_set]
                  rw [hm] at this
                  exact this
                case measure => simp [intOf]; omega
        · have hkk : k = l.length := by omega
          subst hkk
          have HN : Hid (rcfg e l = true) := by show rcfg e l = true; rw [HF.out, hp.out, List.drop_length, okn]
          clear HF hp
          go_wp2
          go_ret
          exact ⟨by rw [HN.out]; rfl, hb⟩
    · have HN : Hid (rcfg e l = false) := by show rcfg e l = false; simp only [rcfg, decide_eq_false h2]; simp
      have b1 : decide (e < 1) = false := decide_eq_false (by omega)
      have b2 : decide (1099511627776 < e) = false := decide_eq_false (by omega)
      clear h1
      by_cases h3 : l.length < 1
      · have b3 : decide ((l.length : Int) < 1) = true := decide_eq_true (by omega)
        have b3' : decide (l.length < 1) = true := decide_eq_true (by omega)
        clear h2
        go_enter Tryz.func194, Tryz.ntmps194
        go_wp2
        go_ret
        exact ⟨by rw [HN.out]; rfl, HB0.out⟩
      · have b3 : decide ((l.length : Int) < 1) = false := decide_eq_false (by omega)
        have b3' : decide (l.length < 1) = false := decide_eq_false (by omega)
        have b4 : decide (8 < (l.length : Int)) = true := decide_eq_true (by omega)
        have b4' : decide (8 < l.length) = true := decide_eq_true (by omega)
        clear h2
        go_enter Tryz.func194, Tryz.ntmps194
        go_wp2
        go_ret
        exact ⟨by rw [HN.out]; rfl, HB0.out⟩
  · have HN : Hid (rcfg e l = false) := by show rcfg e l = false; simp only [rcfg, decide_eq_false h1]; simp
    by_cases h3 : e < 1
    · have b1 : decide (e < 1) = true := decide_eq_true h3
      clear h1
      go_enter Tryz.func194, Tryz.ntmps194
      go_wp2
      go_ret
      exact ⟨by rw [HN.out]; rfl, HB0.out⟩
    · have b1 : decide (e < 1) = false := decide_eq_false h3
      have b2 : decide (1099511627776 < e) = true := decide_eq_true (by omega)
      clear h1
      go_enter Tryz.func194, Tryz.ntmps194
      go_wp2
      go_ret
      exact ⟨by rw [HN.out]; rfl, HB0.out⟩
set_option maxRecDepth 100000 in
theorem cfg3_calls (W : World) (m : Mg) (l : Ls) (hr : Rd W m l) : Calls Tryz.prog 193 #[.agg m.cells] W fun e w => e = .returned (.bool (rcfg m.ce l.ch)) ∧ Below W.heap.size W w := by
  have HB := Aside0.mk (below_alloc (Below.refl W.heap.size W) (.cells m.cells 49))
  have HR := Aside0.mk (hr.below HB.out)
  have hc26 : (W.alloc (.cells m.cells 49)).cell? ⟨W.heap.size, 26, none⟩ = some (.int .i64 m.ce) := blk_cell (blk_new _ _) 26
  have hc27 : (W.alloc (.cells m.cells 49)).cell? ⟨W.heap.size, 27, none⟩ = some (.slice m.chA m.chN m.chC) := blk_cell (blk_new _ _) 27
  have HS : Aside0 (W.heap.size ≤ (W.alloc (.cells m.cells 49)).heap.size) := ⟨HB.out.size⟩
  clear hr
  go_enter Tryz.func193, Tryz.ntmps193
  go_wp2_with (first | (go_at_call 194; refine (rcfg_calls _ _ _ _ l.ch _ HR.out.ch HR.out.chn HR.out.chc).mono ?_; rintro e w1 ⟨rfl, hb⟩; (have HB1 := Aside0.mk (HB.out.trans (below_weaken' hb HS.out))); clear hb) | go_in)
  go_ret
  exact ⟨rfl, HB1.out⟩
set_option maxRecDepth 100000 in
theorem cfg4_calls (W : World) (m b : Mg) (to_ : Nat) (ht : W.heap[to_]? = some (.cells b.cells 49 (0, 0))) : Calls Tryz.prog 195 #[.agg m.cells, .pointer (some ⟨to_, 0, none⟩)] W fun e w => e = .returned (.tuple #[]) ∧ Put W w to_ ({ b with ce := m.ce, chA := m.chA, chN := m.chN, chC := m.chC } : Mg).cells := by
  have hc26 : (W.alloc (.cells m.cells 49)).cell? ⟨W.heap.size, 26, none⟩ = some (.int .i64 m.ce) := blk_cell (blk_new _ _) 26
  have hc27 : (W.alloc (.cells m.cells 49)).cell? ⟨W.heap.size, 27, none⟩ = some (.slice m.chA m.chN m.chC) := blk_cell (blk_new _ _) 27
  have ht26 : (W.alloc (.cells m.cells 49)).cell? ⟨to_, 26, none⟩ = some (.int .i64 b.ce) := blk_cell (blk_alloc ht _) 26
  have ht27 : (W.alloc (.cells m.cells 49)).cell? ⟨to_, 27, none⟩ = some (.slice b.chA b.chN b.chC) := blk_cell (blk_alloc ht _) 27
  have hf26 := blk_frozen (blk_alloc ht (.cells m.cells 49)) 26
  have hf27 := blk_frozen (blk_alloc ht (.cells m.cells 49)) 27
  have HT := Aside0.mk (((Put.start ht (.cells m.cells 49)).set 26 (.int .i64 m.ce)).set 27 (.slice m.chA m.chN m.chC))
  clear ht
  go_enter Tryz.func195, Tryz.ntmps195
  go_wp2
  go_end0
  exact ⟨rfl, HT.out⟩
set_option maxRecDepth 100000 in
theorem fs_configs : FieldSem 91 (fun m l => rcfg m.ce l.ch) (fun m b => { b with ce := m.ce, chA := m.chA, chN := m.chN, chC := m.chC }) := by
  refine ⟨fun args w => by kernel_rfl, fun W => ?_⟩
  go_enter Tryz.func91, Tryz.ntmps91
  go_wp2
  refine bodyPost_ret (v := .agg #[.func (.func 190) #[] #[], .func (.func 191) #[] #[], .func (.func 193) #[] #[], .func (.func 195) #[] #[]]) (by simp [results, Tryz.results91, go_sem]) rfl ?_
  exact ⟨_, _, _, _, _, _, _, _, rfl, ⟨fun args w => by kernel_rfl, fun args w => by kernel_rfl, below_alloc (below_alloc (Below.refl _ _) _) _, fun W3 _ m l hr => cfg3_calls W3 m l hr, fun W3 _ m b to_ ht => cfg4_calls W3 m b to_ ht⟩⟩
end Msg

end Go.Proofs.YtepkaaplhcbkbaaGreat.G
