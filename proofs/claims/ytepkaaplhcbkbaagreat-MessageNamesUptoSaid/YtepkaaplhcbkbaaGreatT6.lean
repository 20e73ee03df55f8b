import Derived.Test.YtepkaaplhcbkbaaGreatT5
import Derived.Test.YtepkaaplhcbkbaaGreatWEqStruct
import Derived.Deep.Upon
import Derived.Deep.QuietTactic
import Derived.BigQuiet
import Derived.Deep.RegionHeld3
import Derived.Deep.DeepCutAuto
import Derived.Deep.CutBlock
import Derived.Laws.EntriesVeiled
import Derived.StillTailTactics
import Derived.Laws.Tables
import Derived.Laws.CopyOwn
import Derived.Test.YtepkaaplhcbkbaaGreatBlocks
import Derived.Laws.CopyOwn
import Derived.Laws.Tables
import Derived.Outline
namespace Go.Proofs.YtepkaaplhcbkbaaGreat.G
open Go.RowKit Go.Proofs.YtepkaaplhcbkbaaGreatW.PrintWords Go.Proofs.YtepkaaplhcbkbaaGreatW.PrintLast Go.Proofs.YtepkaaplhcbkbaaGreatW.PrintMore
set_option linter.unusedVariables false
set_option linter.unusedSimpArgs false
namespace Msg
theorem eqWay (d : Nat) (w : World) (x0 y0 : Int) (x1 y1 : Int) :
    (Op.equalIn (d + 2) 173 (.agg #[.int .i64 x0, .int .i64 x1]) (.agg #[.int .i64 y0, .int .i64 y1])).run Tryz.prog w = .ok (x0 == y0 && (x1 == y1)) w := by
  refine eqA_of Tryz.underlying173 (by kernel_rfl) ?_
  refine eqf_cons (by rfl) (by go_simp; rfl) (by go_simp; rfl) (by go_simp) ?_
  exact eqf_last (by rfl) (by go_simp; rfl) (by go_simp; rfl) (by go_simp)
set_option maxRecDepth 100000 in
theorem idx1_calls (W : World) (g : Nat) (p : Int × Int) (a b : Int) (hw : Way W g [p]) : Calls Tryz.prog 229 #[.slice (some ⟨g, 0, none⟩) 1 1, .agg #[.int .i64 a, .int .i64 b]] W fun e w => e = .returned (.int .i64 (if (a, b) = p then 0 else -1)) ∧ Below W.heap.size W w := by
  have hone : ((1 : Nat) : Int) = 1 := rfl
  have heq : ∀ (w : World) (x0 y0 x1 y1 : Int), (Op.equalIn 10000 173 (.agg #[.int .i64 x0, .int .i64 x1]) (.agg #[.int .i64 y0, .int .i64 y1])).run Tryz.prog w = .ok (x0 == y0 && (x1 == y1)) w := fun w x0 y0 x1 y1 => eqWay 9998 w x0 y0 x1 y1
  have HB := Aside0.mk (below_alloc (Below.refl W.heap.size W) (.cells #[.int .i64 a, .int .i64 b] 173))
  have hc0 : (W.alloc (.cells #[.int .i64 a, .int .i64 b] 173)).cell? ⟨g, 0, none⟩ = some (.int .i64 p.1) := blk_cell (blk_alloc hw _) 0
  have hc1 : (W.alloc (.cells #[.int .i64 a, .int .i64 b] 173)).cell? ⟨g, 1, none⟩ = some (.int .i64 p.2) := blk_cell (blk_alloc hw _) 1
  have hs : W.heap.size ≤ (W.alloc (.cells #[.int .i64 a, .int .i64 b] 173)).heap.size := HB.out.size
  have HS := Aside0.mk hs
  clear hw hs
  by_cases h1 : a = p.1 ∧ b = p.2
  · have e1 : (a == p.1 && b == p.2) = true := by simp [h1]
    rw [if_pos (Prod.ext h1.1 h1.2)]
    clear h1
    go_enter Tryz.func229, Tryz.ntmps229
    go_wp2
    refine wp_loop_rounds 2 ?_
    rw [rounds_succ]
    go_wp2
    go_quiet (fail)
    go_wp2
    go_ret
    exact ⟨rfl, HB.out.trans (below_weaken' (by first | exact Drawn0.below ⟨_, rfl⟩ | exact Drawn0.below ⟨_, World.drewN_drewN ..⟩) HS.out)⟩
  · have e1 : (a == p.1 && b == p.2) = false := by simp; omega
    rw [if_neg (fun e => h1 ⟨congrArg Prod.fst e, congrArg Prod.snd e⟩)]
    clear h1
    go_enter Tryz.func229, Tryz.ntmps229
    go_wp2
    refine wp_loop_rounds 2 ?_
    rw [rounds_succ]
    go_wp2
    go_quiet (fail)
    go_wp2
    rw [rounds_succ]
    go_wp2
    go_ret
    exact ⟨rfl, HB.out.trans (below_weaken' (by first | exact Drawn0.below ⟨_, rfl⟩ | exact Drawn0.below ⟨_, World.drewN_drewN ..⟩) HS.out)⟩
set_option maxRecDepth 100000 in
theorem idx2_calls (W : World) (g : Nat) (p q : Int × Int) (a b : Int) (hw : Way W g [p, q]) : Calls Tryz.prog 229 #[.slice (some ⟨g, 0, none⟩) 2 2, .agg #[.int .i64 a, .int .i64 b]] W fun e w => e = .returned (.int .i64 (if (a, b) = p then 0 else if (a, b) = q then 1 else -1)) ∧ Below W.heap.size W w := by
  have hone : ((2 : Nat) : Int) = 2 := rfl
  have heq : ∀ (w : World) (x0 y0 x1 y1 : Int), (Op.equalIn 10000 173 (.agg #[.int .i64 x0, .int .i64 x1]) (.agg #[.int .i64 y0, .int .i64 y1])).run Tryz.prog w = .ok (x0 == y0 && (x1 == y1)) w := fun w x0 y0 x1 y1 => eqWay 9998 w x0 y0 x1 y1
  have HB := Aside0.mk (below_alloc (Below.refl W.heap.size W) (.cells #[.int .i64 a, .int .i64 b] 173))
  have hc0 : (W.alloc (.cells #[.int .i64 a, .int .i64 b] 173)).cell? ⟨g, 0, none⟩ = some (.int .i64 p.1) := blk_cell (blk_alloc hw _) 0
  have hc1 : (W.alloc (.cells #[.int .i64 a, .int .i64 b] 173)).cell? ⟨g, 1, none⟩ = some (.int .i64 p.2) := blk_cell (blk_alloc hw _) 1
  have hc2 : (W.alloc (.cells #[.int .i64 a, .int .i64 b] 173)).cell? ⟨g, 2, none⟩ = some (.int .i64 q.1) := blk_cell (blk_alloc hw _) 2
  have hc3 : (W.alloc (.cells #[.int .i64 a, .int .i64 b] 173)).cell? ⟨g, 3, none⟩ = some (.int .i64 q.2) := blk_cell (blk_alloc hw _) 3
  have hs : W.heap.size ≤ (W.alloc (.cells #[.int .i64 a, .int .i64 b] 173)).heap.size := HB.out.size
  have HS := Aside0.mk hs
  clear hw hs
  by_cases h1 : a = p.1 ∧ b = p.2
  · have e1 : (a == p.1 && b == p.2) = true := by simp [h1]
    rw [if_pos (Prod.ext h1.1 h1.2)]
    clear h1
    go_enter Tryz.func229, Tryz.ntmps229
    go_wp2
    refine wp_loop_rounds 2 ?_
    rw [rounds_succ]
    go_wp2
    go_quiet (fail)
    go_wp2
    go_ret
    exact ⟨rfl, HB.out.trans (below_weaken' (by first | exact Drawn0.below ⟨_, rfl⟩ | exact Drawn0.below ⟨_, World.drewN_drewN ..⟩) HS.out)⟩
  · have e1 : (a == p.1 && b == p.2) = false := by simp; omega
    rw [if_neg (fun e => h1 ⟨congrArg Prod.fst e, congrArg Prod.snd e⟩)]
    clear h1
    have hc2' : ∀ n, ((W.alloc (.cells #[.int .i64 a, .int .i64 b] 173)).drewN n).cell? ⟨g, 2, none⟩ = some (.int .i64 q.1) := fun n => hc2
    have hc3' : ∀ n, ((W.alloc (.cells #[.int .i64 a, .int .i64 b] 173)).drewN n).cell? ⟨g, 3, none⟩ = some (.int .i64 q.2) := fun n => hc3
    have hb0 : ∀ n, ((W.alloc (.cells #[.int .i64 a, .int .i64 b] 173)).drewN n).cell? ⟨W.heap.size, 0, none⟩ = some (.int .i64 a) := fun n => blk_cell (w := (W.alloc (.cells #[.int .i64 a, .int .i64 b] 173)).drewN n) (blk_drewN (blk_new _ _) _) 0
    have hb1 : ∀ n, ((W.alloc (.cells #[.int .i64 a, .int .i64 b] 173)).drewN n).cell? ⟨W.heap.size, 1, none⟩ = some (.int .i64 b) := fun n => blk_cell (w := (W.alloc (.cells #[.int .i64 a, .int .i64 b] 173)).drewN n) (blk_drewN (blk_new _ _) _) 1
    by_cases h2 : a = q.1 ∧ b = q.2
    · have e2 : (a == q.1 && b == q.2) = true := by simp [h2]
      rw [if_pos (Prod.ext h2.1 h2.2)]
      clear h2
      go_enter Tryz.func229, Tryz.ntmps229
      go_wp2
      refine wp_loop_rounds 3 ?_
      rw [rounds_succ]
      go_wp2
      go_quiet (fail)
      go_wp2
      rw [rounds_succ]
      go_wp2
      go_quiet (fail)
      go_wp2
      go_ret
      exact ⟨rfl, HB.out.trans (below_weaken' (by first | exact Drawn0.below ⟨_, rfl⟩ | exact Drawn0.below ⟨_, World.drewN_drewN ..⟩) HS.out)⟩
    · have e2 : (a == q.1 && b == q.2) = false := by simp; omega
      rw [if_neg (fun e => h2 ⟨congrArg Prod.fst e, congrArg Prod.snd e⟩)]
      clear h2
      go_enter Tryz.func229, Tryz.ntmps229
      go_wp2
      refine wp_loop_rounds 3 ?_
      rw [rounds_succ]
      go_wp2
      go_quiet (fail)
      go_wp2
      rw [rounds_succ]
      go_wp2
      go_quiet (fail)
      go_wp2
      rw [rounds_succ]
      go_wp2
      go_ret
      exact ⟨rfl, HB.out.trans (below_weaken' (by first | exact Drawn0.below ⟨_, rfl⟩ | exact Drawn0.below ⟨_, World.drewN_drewN ..⟩) HS.out)⟩
set_option maxRecDepth 100000 in
theorem cont_calls (W : World) (g : Nat) (ws : List (Int × Int)) (a b : Int) (hw : Way W g ws) (hfew : (∃ p, ws = [p]) ∨ ∃ p q, ws = [p, q]) : Calls Tryz.prog 108 #[.slice (some ⟨g, 0, none⟩) ws.length ws.length, .agg #[.int .i64 a, .int .i64 b]] W fun e w => e = .returned (.bool (decide ((a, b) ∈ ws))) ∧ Below W.heap.size W w := by
  have HB := Aside0.mk (below_alloc (Below.refl W.heap.size W) (.cells #[.int .i64 a, .int .i64 b] 173))
  have HW := Aside0.mk (show Way (W.alloc (.cells #[.int .i64 a, .int .i64 b] 173)) g ws from blk_alloc hw _)
  clear hw
  rcases hfew with ⟨p, rfl⟩ | ⟨p, q, rfl⟩
  · have hd : decide ((a, b) ∈ [p]) = decide ((0 : Int) ≤ if (a, b) = p then 0 else -1) := by by_cases h : (a, b) = p <;> simp [h]
    rw [hd]
    clear hd
    go_enter Tryz.func108, Tryz.ntmps108
    go_wp2_with (first | (go_at_call 229; refine (idx1_calls _ _ _ _ _ HW.out).mono ?_; rintro e w1 ⟨rfl, hb⟩; (have HB1 := Aside0.mk (HB.out.trans (below_weaken' hb HB.out.size))); clear hb) | go_in)
    all_goals (go_ret; exact ⟨rfl, HB1.out⟩)
  · have hd : decide ((a, b) ∈ [p, q]) = decide ((0 : Int) ≤ if (a, b) = p then 0 else if (a, b) = q then 1 else -1) := by
      by_cases h : (a, b) = p
      · rw [if_pos h]; simp [h]
      · by_cases h2 : (a, b) = q
        · rw [if_neg h, if_pos h2]; simp [h2]
        · rw [if_neg h, if_neg h2]; simp [h, h2]
    rw [hd]
    clear hd
    go_enter Tryz.func108, Tryz.ntmps108
    go_wp2_with (first | (go_at_call 229; refine (idx2_calls _ _ _ _ _ _ HW.out).mono ?_; rintro e w1 ⟨rfl, hb⟩; (have HB1 := Aside0.mk (HB.out.trans (below_weaken' hb HB.out.size))); clear hb) | go_in)
    all_goals (go_ret; exact ⟨rfl, HB1.out⟩)
theorem three (W : World) (o1 o2 o3 : Obj) : (((W.alloc o1).alloc o2).alloc o3).drew.heap[W.heap.size]? = some o1 ∧ (((W.alloc o1).alloc o2).alloc o3).drew.heap[W.heap.size + 1]? = some o2 ∧ (((W.alloc o1).alloc o2).alloc o3).drew.heap[W.heap.size + 1 + 1]? = some o3 ∧ Below W.heap.size W (((W.alloc o1).alloc o2).alloc o3).drew := by
  refine ⟨blk_drew (blk_alloc (blk_alloc (blk_new _ _) _) _), blk_drew (blk_alloc (new2 _ _ _) _), blk_drew ?_, (below_alloc (below_alloc (below_alloc (Below.refl _ _) _) _) _).trans (below_weaken' (Drawn0.below ⟨1, rfl⟩) ?_)⟩
  · have := new2 (W.alloc o1) o2 o3
    rwa [World.size_alloc] at this
  · rw [World.size_alloc, World.size_alloc, World.size_alloc]; omega
/-- May it go so? -/
def goes (ws : List (Int × Int)) (m : Mg) : Bool := decide ((plc m.fr, plc m.tt) ∈ ws) && ((plc m.fr != 2 || plc m.tt != 2) || m.fr != m.tt)
set_option maxRecDepth 100000 in
set_option maxHeartbeats 1000000 in
theorem goes_calls (W : World) (nm : ByteArray) (g : Nat) (ws : List (Int × Int)) (A2 : Option Addr) (n2 c2 : Nat) (m : Mg) (hw : Way W g ws) (hfew : (∃ p, ws = [p]) ∨ ∃ p q, ws = [p, q]) : Calls Tryz.prog 48 #[.agg #[.string nm, .slice (some ⟨g, 0, none⟩) ws.length ws.length, .slice A2 n2 c2], .agg m.cells] W fun e w => e = .returned (.bool (goes ws m)) ∧ Below W.heap.size W w := by
  unfold goes
  have hms := fun o => new2 W o (.cells m.cells 49)
  have hm1 : ∀ o, ((W.alloc o).alloc (.cells m.cells 49)).cell? ⟨W.heap.size + 1, 1, none⟩ = some (.int .i64 m.fr) := fun o => blk_cell (hms o) 1
  have hm2 : ∀ o, ((W.alloc o).alloc (.cells m.cells 49)).cell? ⟨W.heap.size + 1, 2, none⟩ = some (.int .i64 m.tt) := fun o => blk_cell (hms o) 2
  have HW := Aside0.mk hw
  have HF := Aside0.mk hfew
  clear hms hw hfew
  go_enter Tryz.func48, Tryz.ntmps48
  go_wp2
  have e1 := World.new_ne ((W.alloc (.cells #[.string nm, .slice (some ⟨g, 0, none⟩) ws.length ws.length, .slice A2 n2 c2] 106)).alloc (.cells m.cells 49)) ⟨W.heap.size + 1, 1, none⟩ (hm1 _)
  have e2 := World.new_ne ((W.alloc (.cells #[.string nm, .slice (some ⟨g, 0, none⟩) ws.length ws.length, .slice A2 n2 c2] 106)).alloc (.cells m.cells 49)) ⟨W.heap.size + 1, 2, none⟩ (hm2 _)
  go_region_held3 (fun w' => w'.cell? ⟨W.heap.size + 1, 1, none⟩ = some (.int .i64 m.fr) ∧ w'.cell? ⟨W.heap.size + 1, 2, none⟩ = some (.int .i64 m.tt)) (go_keep) ((go_at_call 107; refine (placeOf_calls _ _).mono ?_; rintro e w1 ⟨rfl, rfl⟩))
  all_goals
    have H3 := three W (.cells #[.string nm, .slice (some ⟨g, 0, none⟩) ws.length ws.length, .slice A2 n2 c2] 106) (.cells m.cells 49) (.cells #[.int .i64 (plc m.fr), .int .i64 (plc m.tt)] 173)
    clear hm1 hm2 e1 e2
    generalize (((W.alloc (.cells #[.string nm, .slice (some ⟨g, 0, none⟩) ws.length ws.length, .slice A2 n2 c2] 106)).alloc (.cells m.cells 49)).alloc (.cells #[.int .i64 (plc m.fr), .int .i64 (plc m.tt)] 173)).drew = w2 at H3 ⊢
    obtain ⟨q1, q2, q3, q4⟩ := H3
    have HB2 := Aside0.mk q4
    have HW2 := Aside0.mk (show Way w2 g ws from blk_below HW.out q4)
    have l1 : w2.cell? ⟨W.heap.size, 1, none⟩ = some (.slice (some ⟨g, 0, none⟩) ws.length ws.length) := blk_cell q1 1
    have v0 : w2.cell? ⟨W.heap.size + 1 + 1, 0, none⟩ = some (.int .i64 (plc m.fr)) := blk_cell q3 0
    have v1 : w2.cell? ⟨W.heap.size + 1 + 1, 1, none⟩ = some (.int .i64 (plc m.tt)) := blk_cell q3 1
    have Q2 := Aside0.mk q2
    have Q3 := Aside0.mk q3
    clear q1 q2 q3 q4 HW
    go_wp2_with (first | (go_at_call 108; refine (cont_calls _ _ _ _ _ HW2.out HF.out).mono ?_; rintro e w4 ⟨rfl, hb⟩; (have HB4 := Aside0.mk (HB2.out.trans (below_weaken' hb HB2.out.size))); (have m1 : w4.cell? ⟨W.heap.size + 1, 1, none⟩ = some (.int .i64 m.fr) := blk_cell (blk_below Q2.out hb) 1); (have m2 : w4.cell? ⟨W.heap.size + 1, 2, none⟩ = some (.int .i64 m.tt) := blk_cell (blk_below Q2.out hb) 2); (have x0 : w4.cell? ⟨W.heap.size + 1 + 1, 0, none⟩ = some (.int .i64 (plc m.fr)) := blk_cell (blk_below Q3.out hb) 0); (have x1 : w4.cell? ⟨W.heap.size + 1 + 1, 1, none⟩ = some (.int .i64 (plc m.tt)) := blk_cell (blk_below Q3.out hb) 1); clear hb) | go_in)
    all_goals (go_ret; exact ⟨by simp_all, HB4.out⟩)
end Msg

end Go.Proofs.YtepkaaplhcbkbaaGreat.G
