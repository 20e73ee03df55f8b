-- Written for this claim by a program of this session (wip/xprint.py), by means of the kit's print. Not trusted: Lean checks it.
import Derived.Test.YtpcnppdkifepcaaGx0
namespace Go.Proofs.Ytpcnppdkifepcaa.G
open Go.RowKit Go.Proofs.YtpcnppdkifepcaaW.PrintWords Go.Proofs.YtpcnppdkifepcaaW.PrintLast Go.Proofs.YtpcnppdkifepcaaW.PrintMore
attribute [local go_sem] max2_int min2_int max_two min_two max_three min_three max_four min_four   -- for this text's walks alone
set_option linter.unusedVariables false
set_option linter.unusedSimpArgs false

/-! ### hawserlaw12_num: function 4 -/
def hawserlaw12_num.f (a0 : Int) : Option (Int) := some a0
set_option maxHeartbeats 8000000 in
set_option maxRecDepth 100000 in
theorem hawserlaw12_num.calls (a0 : Int) (r : Int) (w : World) (h : hawserlaw12_num.f a0 = some r) :
    Calls Try.prog 4 #[.int .i64 a0] w fun e w' => e = .returned (.int .i64 r) ∧ Drawn0 w w' := by
  have H : (some a0) = some r := h
  clear h
  obtain rfl := Option.some.inj H
  go_enter Try.func4, Try.ntmps4
  go_wp2
  go_ret
  exact ⟨by first | rfl | (simp; done) | (simp [*]; done), by repeat (first | exact Drawn0.refl _ | apply Drawn0.step)⟩

-- NOT PRINTED: function 21 (bytealg_IndexByteString)

-- NOT PRINTED: function 19 (stringslite_IndexByte)

-- NOT PRINTED: function 15 (strings_IndexByte)

-- NOT PRINTED: function 8 (disk_isName)

-- NOT PRINTED: function 9 (slices_Clone_byte_byte)

-- NOT PRINTED: function 10 (disk_files_copied)

-- NOT PRINTED: function 5 (disk_New)

-- NOT PRINTED: function 14 (disk_Disk_made)

-- NOT PRINTED: function 11 (disk_Disk_ready)

-- NOT PRINTED: function 12 (disk_Disk_has)

-- NOT PRINTED: function 16 (disk_Disk_act)

-- NOT PRINTED: function 20 (slices_Clip_byte_byte)

-- NOT PRINTED: function 17 (disk_files_do)

-- NOT PRINTED: function 18 (disk_files_takes)

-- NOT PRINTED: function 13 (disk_Disk_step)

-- NOT PRINTED: function 6 (disk_Disk_Create)

-- NOT PRINTED: function 7 (disk_Disk_Free)

/-! ### hawserlaw12_DiskNames: function 3 -/
open Go.Proofs.Ytpcnppdkifepcaa.Blocks
def hawserlaw12_DiskNames.f : Option (Bool) := some true
theorem lookup_empty (W : World) (mp n : Nat) (s : ByteArray) (hb : W.heap[mp]? = some (.map #[] n)) : (Instr.lookup 32 (.map (some mp)) (.string s) true).run Try.prog W = .ok (.tuple #[.slice none 0 0, .bool false]) W := by
  have hf : Instr.findNow .string (.string s) ([] : List MapEntry) 0 = some none := rfl
  have hc : (Instr.checkKey true 10000 9 (.string s)).run Try.prog W = .ok () W := MapKept.run_checkKey (k := .string s) Try.underlying9 (by simp [MapKept.IsKey]) true 9999
  have hz : (zeroValue 36).run Try.prog W = .ok (.slice none 0 0) W := by kernel_rfl
  simp [Instr.lookup, run_underlying Try.underlying32, MapKept.run_getObj_map hb, hc, MapKept.run_findKey Try.underlying9 hf, Result.andThen, hz]
theorem next_empty (W : World) (mp n c : Nat) (ty : TypeId) (hb : W.heap[mp]? = some (.map #[] n)) : (Instr.next (.pointer (some ⟨W.heap.size, 0, none⟩)) false ty).run Try.prog (W.alloc (.mapIter (some mp) c #[] c)) = .ok (.tuple #[.bool false]) (W.alloc (.mapIter (some mp) c #[] c)) := by
  rcases run_next_map (P := Try.prog) W ty mp c c #[] #[] n hb (by simp) (Nat.le_refl _) with ⟨_, h⟩ | ⟨e, he, _⟩
  · exact h
  · simp [leftOf] at he
set_option maxRecDepth 100000 in
theorem copied_calls (W : World) (mp n : Nat) (hb : W.heap[mp]? = some (.map #[] n)) : Calls Try.prog 10 #[.map (some mp)] W fun e w' => e = .returned (.map (some W.heap.size)) ∧ w'.heap[W.heap.size]? = some (.map #[] 0) ∧ Below W.heap.size W w' := by
  have hmm := fun t w => run_makeMap (P := Try.prog) t w
  have hlt : mp < W.heap.size := (Array.getElem?_eq_some_iff.1 hb).1
  have hb1 : (W.alloc (.map #[] 0)).heap[mp]? = some (.map #[] n) := (Below.heap_alloc _ _ _ hlt).trans hb
  have hr := run_range_map (P := Try.prog) (W.alloc (.map #[] 0)) 32 9 36 mp #[] n Try.underlying32 hb1
  have hn : ∀ ty, (Instr.next (.pointer (some ⟨W.heap.size + 1, 0, none⟩)) false ty).run Try.prog ((W.alloc (.map #[] 0)).alloc (.mapIter (some mp) n #[] n)) = .ok (.tuple #[.bool false]) ((W.alloc (.map #[] 0)).alloc (.mapIter (some mp) n #[] n)) := fun ty => by
    have := next_empty (W.alloc (.map #[] 0)) mp n n ty hb1
    rwa [World.size_alloc] at this
  go_enter Try.func10, Try.ntmps10
  go_wp2
  refine wp_loop_rounds 1 ?_
  rw [rounds_succ]
  go_wp2
  go_ret
  refine ⟨rfl, ?_, ?_⟩
  · exact (Below.heap_alloc _ _ _ (by rw [World.size_alloc]; omega)).trans (heap_alloc_new _ _)
  · exact ((Below.refl _ _).alloc (Nat.le_refl _) _).alloc (by rw [World.size_alloc]; omega) _
/-- A disk with room for three bytes, without a file. -/
def disk0 (mp m2 : Nat) : Array Value := #[.int .i64 3, .map (some mp), .map (some m2), .slice none 0 0, .int .i64 0, .int .i64 0, .int .i64 0, .bool false]
set_option maxRecDepth 100000 in
theorem new_calls (W : World) : Calls Try.prog 5 #[.int .i64 3, .slice none 0 0] W fun e w' => e = .returned (.tuple #[.pointer (some ⟨W.heap.size + 1, 0, none⟩), .int .i64 0]) ∧ w'.heap[W.heap.size]? = some (.map #[] 0) ∧ w'.heap[W.heap.size + 1]? = some (.cells (disk0 W.heap.size (W.heap.size + 2)) 35 (0, 0)) ∧ Below W.heap.size W w' := by
  have hmm := fun t w => run_makeMap (P := Try.prog) t w
  go_enter Try.func5, Try.ntmps5
  go_wp2
  refine wp_loop_rounds 1 ?_
  rw [rounds_succ]
  have hm1 : ((W.alloc (Obj.map #[] 0)).alloc (Obj.cells #[Value.int IntKind.i64 3, Value.map (some W.heap.size), Value.map none, Value.slice none 0 0, Value.int IntKind.i64 0, Value.int IntKind.i64 0, Value.int IntKind.i64 0, Value.bool false] 35)).heap[W.heap.size]? = some (.map #[] 0) := (Below.heap_alloc _ _ _ (by rw [World.size_alloc]; omega)).trans (heap_alloc_new _ _)
  have hd1 : ((W.alloc (Obj.map #[] 0)).alloc (Obj.cells #[Value.int IntKind.i64 3, Value.map (some W.heap.size), Value.map none, Value.slice none 0 0, Value.int IntKind.i64 0, Value.int IntKind.i64 0, Value.int IntKind.i64 0, Value.bool false] 35)).heap[W.heap.size + 1]? = some (.cells #[Value.int IntKind.i64 3, Value.map (some W.heap.size), Value.map none, Value.slice none 0 0, Value.int IntKind.i64 0, Value.int IntKind.i64 0, Value.int IntKind.i64 0, Value.bool false] 35 (0, 0)) := by
    have := heap_alloc_new (W.alloc (Obj.map #[] 0)) (Obj.cells #[Value.int IntKind.i64 3, Value.map (some W.heap.size), Value.map none, Value.slice none 0 0, Value.int IntKind.i64 0, Value.int IntKind.i64 0, Value.int IntKind.i64 0, Value.bool false] 35)
    rwa [World.size_alloc] at this
  have hB1 : Below W.heap.size W ((W.alloc (Obj.map #[] 0)).alloc (Obj.cells #[Value.int IntKind.i64 3, Value.map (some W.heap.size), Value.map none, Value.slice none 0 0, Value.int IntKind.i64 0, Value.int IntKind.i64 0, Value.int IntKind.i64 0, Value.bool false] 35)) := ((Below.refl _ _).alloc (Nat.le_refl _) _).alloc (by rw [World.size_alloc]; omega) _
  have hs1 : ((W.alloc (Obj.map #[] 0)).alloc (Obj.cells #[Value.int IntKind.i64 3, Value.map (some W.heap.size), Value.map none, Value.slice none 0 0, Value.int IntKind.i64 0, Value.int IntKind.i64 0, Value.int IntKind.i64 0, Value.bool false] 35)).heap.size = W.heap.size + 2 := by rw [World.size_alloc, World.size_alloc]
  have hld : ((W.alloc (Obj.map #[] 0)).alloc (Obj.cells #[Value.int IntKind.i64 3, Value.map (some W.heap.size), Value.map none, Value.slice none 0 0, Value.int IntKind.i64 0, Value.int IntKind.i64 0, Value.int IntKind.i64 0, Value.bool false] 35)).cell? ⟨W.heap.size + 1, 1, none⟩ = some (.map (some W.heap.size)) := blk_cell hd1 1
  generalize (W.alloc (Obj.map #[] 0)).alloc (Obj.cells #[Value.int IntKind.i64 3, Value.map (some W.heap.size), Value.map none, Value.slice none 0 0, Value.int IntKind.i64 0, Value.int IntKind.i64 0, Value.int IntKind.i64 0, Value.bool false] 35) = w1 at hm1 hd1 hB1 hs1 hld ⊢
  go_wp2_with (first | (go_at_call 10; refine (copied_calls _ _ _ hm1).mono ?_; rintro e w2 ⟨rfl, hm2, hB2⟩; have hd2 := blk_below hd1 hB2; have hc2 := blk_cell hd2 2; have hf2 := blk_frozen hd2 2) | go_in)
  go_ret2
  rw [hs1] at hB2
  have hbw : ∀ k, k ≤ W.heap.size + 2 → Below k w1 w2 := fun k hk => ⟨hB2.os, hB2.tape, hB2.output, hB2.size, fun q hq => hB2.block q (by omega)⟩
  refine ⟨rfl, ?_, ?_, ?_⟩
  · exact (Below.heap_setCell w2 ⟨W.heap.size + 1, 2, none⟩ _ W.heap.size (by show W.heap.size ≠ W.heap.size + 1; omega)).trans (blk_below hm1 (by rw [hs1]; exact hB2))
  · rw [blk_set hd2]
    rfl
  · exact (hB1.trans (hbw _ (by omega))).setCell (by show W.heap.size ≤ W.heap.size + 1; omega) _
/-- The state of a disk: block dp holds cs, its files seen lie in block mp. -/
def strA : ByteArray := ⟨#[97]⟩
set_option maxRecDepth 100000 in
theorem isName_calls (W : World) : Calls Try.prog 8 #[.string ⟨#[97]⟩] W fun e w' => e = .returned (.bool true) ∧ w' = W := by
  go_enter Try.func8, Try.ntmps8
  go_wp2
  refine wp_loop_rounds 2 ?_
  rw [rounds_succ]
  go_wp2
  rw [rounds_succ]
  go_wp2
  go_ret
  exact ⟨rfl, rfl⟩
theorem neqmap_ (w : World) (a : Nat) : (binOp .neq 32 (.map (some a)) (.map none)).run Try.prog w = .ok (.bool true) w := by
  have h1 : ∀ d : Nat, (Op.equalIn (d + 1) 32 (.map (some a)) (.map none)).run Try.prog w = .ok false w := fun d => by
    simp [Op.equalIn, run_underlying Try.underlying32]
  simp only [binOp]
  simp [Op.equal, Op.maxDepth, h1 9999]
set_option maxRecDepth 100000 in
theorem ready_calls (W : World) (dp mp m2 g : Nat) (hd : W.heap[dp]? = some (.cells (disk0 mp m2) 35 (0, 0))) (hs : W.cell? ⟨g, 0, none⟩ = some (.string ⟨#[97]⟩)) : Calls Try.prog 11 #[.pointer (some ⟨dp, 0, none⟩), .slice (some ⟨g, 0, none⟩) 1 1] W fun e w' => e = .returned (.int .i64 0) ∧ w' = W := by
  have hc1 : W.cell? ⟨dp, 1, none⟩ = some (.map (some mp)) := blk_cell hd 1
  have hc7 : W.cell? ⟨dp, 7, none⟩ = some (.bool false) := blk_cell hd 7
  have hne := neqmap_ W mp
  go_enter Try.func11, Try.ntmps11
  go_wp2
  refine wp_loop_rounds 2 ?_
  rw [rounds_succ]
  go_wp2_with (first | (go_at_call 8; refine (isName_calls _).mono ?_; rintro e w2 ⟨rfl, rfl⟩) | go_in)
  rw [rounds_succ]
  go_wp2
  go_ret
  exact ⟨rfl, rfl⟩
set_option maxRecDepth 100000 in
theorem has_calls (W : World) (dp mp m2 : Nat) (hd : W.heap[dp]? = some (.cells (disk0 mp m2) 35 (0, 0))) (hm : W.heap[mp]? = some (.map #[] 0)) : Calls Try.prog 12 #[.pointer (some ⟨dp, 0, none⟩), .string ⟨#[97]⟩] W fun e w' => e = .returned (.bool false) ∧ w' = W := by
  have hc1 : W.cell? ⟨dp, 1, none⟩ = some (.map (some mp)) := blk_cell hd 1
  have hl := lookup_empty W mp 0 ⟨#[97]⟩ hm
  go_enter Try.func12, Try.ntmps12
  go_wp2
  go_ret
  exact ⟨rfl, rfl⟩
/-- The disk behind an act that was counted. -/
def disk1 (mp m2 : Nat) : Array Value := #[.int .i64 3, .map (some mp), .map (some m2), .slice none 0 0, .int .i64 0, .int .i64 1, .int .i64 0, .bool false]
set_option maxRecDepth 100000 in
theorem act_calls (W : World) (dp mp m2 : Nat) (hd : W.heap[dp]? = some (.cells (disk0 mp m2) 35 (0, 0))) : Calls Try.prog 16 #[.pointer (some ⟨dp, 0, none⟩)] W fun e w' => e = .returned (.int .i64 0) ∧ w' = W.setCell ⟨dp, 5, none⟩ (.int .i64 1) := by
  have hc5 : W.cell? ⟨dp, 5, none⟩ = some (.int .i64 0) := blk_cell hd 5
  have hf5 : W.frozen? ⟨dp, 5, none⟩ = false := blk_frozen hd 5
  have hc6 : (W.setCell ⟨dp, 5, none⟩ (.int .i64 1)).cell? ⟨dp, 6, none⟩ = some (.int .i64 0) := by
    rw [blk_cell (blk_set hd 5 _)]
    rfl
  go_enter Try.func16, Try.ntmps16
  go_wp2
  go_ret
  exact ⟨rfl, rfl⟩
theorem entry_one (w : World) (bm c : Nat) (seen : Array Nat) (s : ByteArray) (v : Value) (hb : w.heap[bm]? = some (.map #[{ key := .string s, val := v, born := 0 }] 1)) : ((leftOf #[({ key := .string s, val := v, born := 0 } : MapEntry)] #[0]).size = 0) := by simp [leftOf]
/-- A step of the range over a map of one entry. -/
theorem next_first (W : World) (mp : Nat) (s : ByteArray) (v : Value) (ty : TypeId) (hb : W.heap[mp]? = some (.map #[{ key := .string s, val := v, born := 0 }] 1)) :
    (Instr.next (.pointer (some ⟨W.heap.size, 0, none⟩)) false ty).run Try.prog (W.alloc (.mapIter (some mp) 1 #[] 1)) = .ok (.tuple #[.bool true, .string s, v]) (W.alloc (.mapIter (some mp) 1 #[0] 1)) := by
  have hlt : mp < W.heap.size := (Array.getElem?_eq_some_iff.1 hb).1
  have hb' : (W.alloc (.mapIter (some mp) 1 #[] 1)).heap[mp]? = some (.map #[{ key := .string s, val := v, born := 0 }] 1) := by rw [heap_alloc_old W _ hlt, hb]
  have hset : ∀ o', (setObj W.heap.size o').run Try.prog (W.alloc (.mapIter (some mp) 1 #[] 1)) = .ok () (W.alloc o') := fun o' => by
    simp only [setObj, Sem.run, heap_alloc_new]
    congr 1
    show ({ W.alloc (.mapIter (some mp) 1 #[] 1) with heap := (W.heap.push (.mapIter (some mp) 1 #[] 1)).setIfInBounds W.heap.size o' } : World) = _
    have : (W.heap.push (.mapIter (some mp) 1 #[] 1)).setIfInBounds W.heap.size o' = W.heap.push o' := by
      apply Array.toList_inj.1
      simp
    rw [this]
    rfl
  simp only [Instr.next, getObj, Sem.run_bind, Sem.run, heap_alloc_new, hb', Result.andThen]
  simp [choose, Question.forced, Sem.run, Sem.run_bind, hset, Result.andThen]
/-- All blocks but b lie as they lay. -/
structure But (b : Nat) (W w' : World) : Prop where
  os : w'.os = W.os
  tape : w'.tape = W.tape
  output : w'.output = W.output
  size : W.heap.size ≤ w'.heap.size
  block : ∀ k, k < W.heap.size → k ≠ b → w'.heap[k]? = W.heap[k]?
theorem But.below {b B : Nat} {W w' a : World} (h : But b W w') (hb : B ≤ b) (hs : B ≤ W.heap.size) (hB : Below B a W) : Below B a w' :=
  hB.trans ⟨h.os, h.tape, h.output, h.size, fun k hk => h.block k (by omega) (by omega)⟩
set_option maxRecDepth 100000 in
theorem do_calls (W : World) (mp : Nat) (hm : W.heap[mp]? = some (.map #[] 0)) : Calls Try.prog 17 #[.map (some mp), .iface 46 (.agg #[.string ⟨#[97]⟩]), .int .i64 1] W fun e w' => e = .returned (.tuple #[]) ∧ w'.heap[mp]? = some (.map #[{ key := .string ⟨#[97]⟩, val := .slice none 0 0, born := 0 }] 1) ∧ But mp W w' := by
  have hta : ∀ w, (Instr.typeAssert (.iface 46 (.agg #[.string ⟨#[97]⟩])) 50 46 true).run Try.prog w = .ok (.tuple #[.agg #[.string ⟨#[97]⟩], .bool true]) w := fun _ => by kernel_rfl
  have hlt : mp < W.heap.size := (Array.getElem?_eq_some_iff.1 hm).1
  have hm2 : (W.alloc (Obj.cells #[Value.string { data := #[97] }] 46)).heap[mp]? = some (.map #[] 0) := (heap_alloc_old W _ hlt).trans hm
  have hmu := run_mapUpdate_first (P := Try.prog) (W.alloc (Obj.cells #[Value.string { data := #[97] }] 46)) 32 9 36 mp 0 ⟨#[97]⟩ (.slice none 0 0) Try.underlying32 Try.underlying9 hm2
  obtain ⟨w2, hw2⟩ : ∃ w2, w2 = ({ W.alloc (Obj.cells #[Value.string { data := #[97] }] 46) with heap := (W.alloc (Obj.cells #[Value.string { data := #[97] }] 46)).heap.setIfInBounds mp (.map #[{ key := .string ⟨#[97]⟩, val := .slice none 0 0, born := 0 }] (0 + 1)) } : World) := ⟨_, rfl⟩
  rw [← hw2] at hmu
  have hsz : w2.heap.size = W.heap.size + 1 := by
    rw [hw2]
    show ((W.alloc (Obj.cells #[Value.string { data := #[97] }] 46)).heap.setIfInBounds mp _).size = _
    rw [Array.size_setIfInBounds, World.size_alloc]
  have hnew : w2.heap[mp]? = some (.map #[{ key := .string ⟨#[97]⟩, val := .slice none 0 0, born := 0 }] 1) := by
    rw [hw2]
    show ((W.alloc (Obj.cells #[Value.string { data := #[97] }] 46)).heap.setIfInBounds mp _)[mp]? = _
    rw [Array.getElem?_setIfInBounds_self_of_lt (by rw [World.size_alloc]; omega)]
  have hbut : But mp W w2 := by
    refine ⟨by rw [hw2]; rfl, by rw [hw2]; rfl, by rw [hw2]; rfl, by omega, fun k hk hne => ?_⟩
    rw [hw2]
    show ((W.alloc (Obj.cells #[Value.string { data := #[97] }] 46)).heap.setIfInBounds mp _)[k]? = _
    rw [Array.getElem?_setIfInBounds_ne (Ne.symm hne)]
    exact heap_alloc_old W _ hk
  clear hw2
  go_enter Try.func17, Try.ntmps17
  go_wp2
  go_end0
  exact ⟨rfl, hnew, hbut⟩
theorem next_second (W : World) (mp : Nat) (s : ByteArray) (v : Value) (ty : TypeId) (hb : W.heap[mp]? = some (.map #[{ key := .string s, val := v, born := 0 }] 1)) :
    (Instr.next (.pointer (some ⟨W.heap.size, 0, none⟩)) false ty).run Try.prog (W.alloc (.mapIter (some mp) 1 #[0] 1)) = .ok (.tuple #[.bool false]) (W.alloc (.mapIter (some mp) 1 #[0] 1)) := by
  rcases run_next_map (P := Try.prog) W ty mp 1 1 #[0] _ 1 hb (by simp) (Nat.le_refl _) with ⟨_, h⟩ | ⟨e, he, _⟩
  · exact h
  · simp [leftOf] at he
set_option maxRecDepth 100000 in
theorem takes_calls (W : World) (mp : Nat) (hm : W.heap[mp]? = some (.map #[{ key := .string ⟨#[97]⟩, val := .slice none 0 0, born := 0 }] 1)) : Calls Try.prog 18 #[.map (some mp)] W fun e w' => e = .returned (.int .i64 1) ∧ Below W.heap.size W w' := by
  have hr := run_range_map (P := Try.prog) W 32 9 36 mp _ 1 Try.underlying32 hm
  have hn := fun ty => next_first W mp ⟨#[97]⟩ (.slice none 0 0) ty hm
  have he : (Instr.entry (.pointer (some ⟨W.heap.size, 0, none⟩))).run Try.prog (W.alloc (.mapIter (some mp) 1 #[0] 1)) = .ok (.tuple #[.string ⟨#[97]⟩, .slice none 0 0]) (W.alloc (.mapIter (some mp) 1 #[0] 1)) := run_entry_map (P := Try.prog) W mp 1 #[] _ 1 { key := .string ⟨#[97]⟩, val := .slice none 0 0, born := 0 } hm (by simp) (by simp)
  have hn2 := fun ty => next_second W mp ⟨#[97]⟩ (.slice none 0 0) ty hm
  go_enter Try.func18, Try.ntmps18
  go_wp2
  refine wp_loop_rounds 2 ?_
  rw [rounds_succ]
  go_wp2
  rw [rounds_succ]
  go_wp2
  go_ret
  exact ⟨rfl, (Below.refl _ _).alloc (Nat.le_refl _) _⟩
set_option maxRecDepth 100000 in
theorem count_calls (W : World) : Calls Try.prog 39 #[.agg #[.string ⟨#[97]⟩]] W fun e w' => e = .returned (.int .i64 1) ∧ w' = W.alloc (.cells #[.string ⟨#[97]⟩] 46) := by
  go_enter Try.func39, Try.ntmps39
  go_wp2
  go_ret
  exact ⟨rfl, rfl⟩
theorem own_slice {W : World} {b e sz n : Nat} {v : Value} {xs : List Value} (h : W.ownsRow b e sz v n xs) : ∃ A k c, v = .slice A k c := by
  obtain ⟨_, ⟨rfl, _⟩ | ⟨g, cap, cur, rfl, _⟩⟩ := h
  · exact ⟨_, _, _, rfl⟩
  · exact ⟨_, _, _, rfl⟩
theorem But.of_below {b : Nat} {W w' : World} (h : Below W.heap.size W w') : But b W w' := ⟨h.os, h.tape, h.output, h.size, fun k hk _ => h.block k hk⟩
set_option maxRecDepth 100000 in
theorem step_calls (W : World) (dp mp m2 : Nat) (hd : W.heap[dp]? = some (.cells (disk0 mp m2) 35 (0, 0))) (hm : W.heap[mp]? = some (.map #[] 0)) : Calls Try.prog 13 #[.pointer (some ⟨dp, 0, none⟩), .iface 46 (.agg #[.string ⟨#[97]⟩])] W fun e w' => e = .returned (.int .i64 0) ∧ w'.cell? ⟨dp, 0, none⟩ = some (.int .i64 3) ∧ w'.cell? ⟨dp, 4, none⟩ = some (.int .i64 1) ∧ w'.cell? ⟨dp, 1, none⟩ = some (.map (some mp)) ∧ ∀ B, B ≤ dp → B ≤ mp → B ≤ W.heap.size → Below B W w' := by
  have hmeth : ∀ w, (method 176 46 (.agg #[.string ⟨#[97]⟩]) "hawser/disk.count").run Try.prog w = .ok (39, .agg #[.string ⟨#[97]⟩]) w := fun _ => by kernel_rfl
  have hinfo : (Try.prog.info? 50).map (fun i => (i.zero, i.size, i.bytes)) = some (some .nilIface, 1, 16) := by kernel_rfl
  obtain ⟨i0, hi, hzz⟩ := Option.map_eq_some_iff.1 hinfo
  simp only [Prod.mk.injEq] at hzz
  obtain ⟨hz0, hz1, hz2⟩ := hzz
  go_enter Try.func13, Try.ntmps13
  go_wp2_with (first | (go_at_call 16; refine (act_calls _ _ _ _ hd).mono ?_; rintro e w2 ⟨rfl, hw2_⟩; have hw2 := Aside0.mk hw2_; clear hw2_) | go_in)
  replace hw2 := hw2.out
  have hd2 : w2.heap[dp]? = some (.cells (disk1 mp m2) 35 (0, 0)) := by rw [hw2, blk_set hd]; rfl
  have hne : mp ≠ dp := by
    rintro rfl
    rw [hd] at hm
    cases hm
  have hm2 : w2.heap[mp]? = some (.map #[] 0) := by rw [hw2]; exact (Below.heap_setCell W ⟨dp, 5, none⟩ _ mp hne).trans hm
  have hs2 : w2.heap.size = W.heap.size := by rw [hw2]; simp [World.setCell]
  have hB2 : ∀ B, B ≤ dp → Below B W w2 := fun B hB => by rw [hw2]; exact (Below.refl _ _).setCell hB _
  clear hw2
  have hc1 : w2.cell? ⟨dp, 1, none⟩ = some (.map (some mp)) := blk_cell hd2 1
  have hU : Below w2.heap.size w2 (w2.alloc (.cells #[.string ⟨#[97]⟩] 46)).drew := below_drew1 (below_alloc (Below.refl _ _) _)
  have hdk := blk_below hd2 hU
  have hmk := hm2
  have hlm : mp < w2.heap.size := (Array.getElem?_eq_some_iff.1 hm2).1
  have hm3 : (w2.alloc (.cells #[.string ⟨#[97]⟩] 46)).drew.heap[mp]? = some (.map #[] 0) := (hU.block mp hlm).trans hm2
  have hc2 : (w2.alloc (.cells #[.string ⟨#[97]⟩] 46)).cell? ⟨dp, 1, none⟩ = some (.map (some mp)) := blk_cell (w := w2.alloc (.cells #[.string ⟨#[97]⟩] 46)) hdk 1
  go_region_law (first | (go_simp; go_at_call 39; (with_reducible refine (count_calls _).mono ?_); rintro e w' ⟨rfl, rfl⟩) | (go_simp; go_at_call 17; refine (do_calls _ _ hm3).mono ?_; rintro e w3 ⟨rfl, ho1, ho2_⟩; have ho2 := Aside0.mk ho2_; clear ho2_) | fail)
  all_goals (
    have hsk : w2.heap.size < (w2.alloc (.cells #[.string ⟨#[97]⟩] 46)).drew.heap.size := by
      have : (w2.alloc (.cells #[.string ⟨#[97]⟩] 46)).drew.heap.size = w2.heap.size + 1 := World.size_alloc _ _
      omega
    have hld : dp < w2.heap.size := (Array.getElem?_eq_some_iff.1 hd2).1
    have hd3 : w3.heap[dp]? = some (.cells (disk1 mp m2) 35 (0, 0)) := (ho2.out.block dp (by omega) (Ne.symm hne)).trans hdk
    have hB3 : Aside0 (∀ B, B ≤ dp → B ≤ mp → B ≤ W.heap.size → Below B W w3) := ⟨fun B h1 h2 h3 => ho2.out.below h2 (by omega) ((hB2 B h1).trans ⟨hU.os, hU.tape, hU.output, hU.size, fun k hk => hU.block k (by omega)⟩)⟩
    have hs3 : W.heap.size ≤ w3.heap.size := by have := ho2.out.size; omega
    clear ho2 hc1 hc2 hdk hm3 hU hm2 hd2
    go_wp2_with (first | (go_at_call 39; (with_reducible refine (count_calls _).mono ?_); rintro e w4 ⟨rfl, hw4_⟩; have hB4 : Below w3.heap.size w3 w4 := (by rw [hw4_]; exact below_alloc (Below.refl _ _) _); clear hw4_; have hd4 := blk_below hd3 hB4; have hm4 := (hB4.block mp (Array.getElem?_eq_some_iff.1 ho1).1).trans ho1; have hc43 : w4.cell? ⟨dp, 3, none⟩ = some (.slice none 0 0) := blk_cell hd4 3; have hm5 := heap_alloc_new w4 (.cells #[.iface 46 (.agg #[.string ⟨#[97]⟩])] 50); have hns := World.news_of_block (cs := #[.iface 46 (.agg #[.string ⟨#[97]⟩])]) (t := 50) (fr := (0, 0)) hm5) | ((with_reducible refine gate_builtin (b := .append) (xs := #[.tmp 26, .tmp 28]) rfl ?_); at_builtin; refine wpList_append_own_at _ rfl (.tmp 26) (.tmp 28) 33 rfl w4.heap.size 50 i0 .nilIface 1 16 Try.underlying33 hi hz0 hz1 hz2 rfl (by decide) (.slice none 0 0) 0 [] ?s_ ⟨rfl, .inl ⟨rfl, rfl⟩⟩ ⟨w4.heap.size, 0, none⟩ 1 1 [.iface 46 (.agg #[.string ⟨#[97]⟩])] ?x_ rfl hns ?o_ (by decide) (by decide) (by rw [World.size_alloc]; omega) ?_; (case s_ => go_simp); (case x_ => go_simp); (case o_ => intro u hu; obtain rfl := List.mem_singleton.1 hu; rfl); intro v5 w5 g1 g2 _ _; obtain ⟨A5, n5, c5, hv5⟩ := own_slice g1; subst hv5; have hB5 : Below w4.heap.size w4 w5 := Below.grown (below_alloc (Below.refl _ _) _) g2 (by rw [World.size_alloc]; omega) (fun k hk => by cases hk); have hd5 := blk_below hd4 hB5; have hm6 := (hB5.block mp (Array.getElem?_eq_some_iff.1 hm4).1).trans hm4; have hf53 := blk_frozen hd5 3; have hc53 := blk_cell hd5 3; clear g1 g2; have hd6 : (w5.setCell ⟨dp, 3, none⟩ (.slice A5 n5 c5)).heap[dp]? = some (.cells ((disk1 mp m2).setIfInBounds 3 (.slice A5 n5 c5)) 35 (0, 0)) := blk_set hd5 3 (.slice A5 n5 c5); have hm7 := (Below.heap_setCell w5 ⟨dp, 3, none⟩ (.slice A5 n5 c5) mp hne).trans hm6; have hc61 : (w5.setCell ⟨dp, 3, none⟩ (.slice A5 n5 c5)).cell? ⟨dp, 1, none⟩ = some (.map (some mp)) := blk_cell hd6 1) | (go_at_call 18; refine (takes_calls _ _ hm7).mono ?_; rintro e w7 ⟨rfl, hB7⟩; have hd7 := blk_below hd6 hB7; have hf74 := blk_frozen hd7 4; have hc74 := blk_cell hd7 4) | go_in)
    go_ret
    have hd8 := blk_set hd7 4 (.int .i64 1)
    refine ⟨rfl, (blk_cell hd8 0).trans rfl, (blk_cell hd8 4).trans rfl, (blk_cell hd8 1).trans rfl, fun B h1 h2 h3 => ?_⟩
    have hs5 : w4.heap.size ≤ w5.heap.size := hB5.size
    have hs4 : w3.heap.size ≤ w4.heap.size := hB4.size
    have hs6 : (w5.setCell ⟨dp, 3, none⟩ (.slice A5 n5 c5)).heap.size = w5.heap.size := by simp [World.setCell]
    have wk : ∀ {a b : World} {N : Nat}, Below N a b → B ≤ N → Below B a b := fun h hb => ⟨h.os, h.tape, h.output, h.size, fun k hk => h.block k (by omega)⟩
    exact ((((((hB3.out B h1 h2 h3).trans (wk hB4 (by omega))).trans (wk hB5 (by omega))).setCell h1 _).trans (wk hB7 (by omega))).setCell h1 _))
set_option maxRecDepth 100000 in
theorem create_calls (W : World) (dp mp m2 : Nat) (hd : W.heap[dp]? = some (.cells (disk0 mp m2) 35 (0, 0))) (hm : W.heap[mp]? = some (.map #[] 0)) : Calls Try.prog 6 #[.pointer (some ⟨dp, 0, none⟩), .string ⟨#[97]⟩] W fun e w' => e = .returned (.int .i64 0) ∧ w'.cell? ⟨dp, 0, none⟩ = some (.int .i64 3) ∧ w'.cell? ⟨dp, 4, none⟩ = some (.int .i64 1) ∧ w'.cell? ⟨dp, 1, none⟩ = some (.map (some mp)) ∧ ∀ B, B ≤ dp → B ≤ mp → B ≤ W.heap.size → Below B W w' := by
  have hU : Below W.heap.size W (W.alloc (.cells #[.string ⟨#[97]⟩] 9)) := below_alloc (Below.refl _ _) _
  have hld : dp < W.heap.size := (Array.getElem?_eq_some_iff.1 hd).1
  have hlm : mp < W.heap.size := (Array.getElem?_eq_some_iff.1 hm).1
  have hd1 := blk_below hd hU
  have hm1 := (hU.block mp hlm).trans hm
  have hs1 : (W.alloc (.cells #[.string ⟨#[97]⟩] 9)).cell? ⟨W.heap.size, 0, none⟩ = some (.string ⟨#[97]⟩) := blk_cell (heap_alloc_new W (.cells #[.string ⟨#[97]⟩] 9)) 0
  have hc0 : (W.alloc (.cells #[.string ⟨#[97]⟩] 9)).cell? ⟨dp, 0, none⟩ = some (.int .i64 3) := blk_cell hd1 0
  have hc4 : (W.alloc (.cells #[.string ⟨#[97]⟩] 9)).cell? ⟨dp, 4, none⟩ = some (.int .i64 0) := blk_cell hd1 4
  go_enter Try.func6, Try.ntmps6
  go_wp2_with (first | (go_at_call 11; refine (ready_calls _ _ _ _ _ hd1 hs1).mono ?_; rintro e w2 ⟨rfl, rfl⟩) | (go_at_call 12; refine (has_calls _ _ _ _ hd1 hm1).mono ?_; rintro e w2 ⟨rfl, rfl⟩) | go_in)
  have hU2 : Below W.heap.size W (W.alloc (.cells #[.string ⟨#[97]⟩] 9)).drew := below_drew1 hU
  have hd2 := blk_below hd hU2
  have hm2 := (hU2.block mp hlm).trans hm
  have hs2 : (W.alloc (.cells #[.string ⟨#[97]⟩] 9)).drew.heap.size = W.heap.size + 1 := World.size_alloc _ _
  generalize (W.alloc (.cells #[.string ⟨#[97]⟩] 9)) = w1 at hc0 hc4 hd2 hm2 hU2 hs2 ⊢
  go_still (by kernel_rfl)
  go_wp2_with (first | (go_at_call 13; refine (step_calls _ _ _ _ hd2 hm2).mono ?_; rintro e w2 ⟨rfl, h1, h2, h3, h4⟩) | go_in)
  go_ret
  exact ⟨rfl, h1, h2, h3, fun B b1 b2 b3 => Below.trans (⟨hU2.os, hU2.tape, hU2.output, hU2.size, fun k hk => hU2.block k (by omega)⟩) (h4 B b1 b2 (by omega))⟩
set_option maxRecDepth 100000 in
theorem free_calls (W : World) (dp mp : Nat) (h0 : W.cell? ⟨dp, 0, none⟩ = some (.int .i64 3)) (h4 : W.cell? ⟨dp, 4, none⟩ = some (.int .i64 1)) (h1 : W.cell? ⟨dp, 1, none⟩ = some (.map (some mp))) : Calls Try.prog 7 #[.pointer (some ⟨dp, 0, none⟩)] W fun e w' => e = .returned (.int .i64 2) ∧ Below W.heap.size W w' := by
  have hne := neqmap_ W mp
  go_enter Try.func7, Try.ntmps7
  go_wp2
  go_still (by kernel_rfl)
  go_wp2
  go_ret
  exact ⟨rfl, below_drew1 (Below.refl _ _)⟩
set_option maxRecDepth 100000 in
theorem names_calls (W : World) : Calls Try.prog 3 #[] W fun e w' => e = .returned (.bool true) ∧ Below W.heap.size W w' := by
  have hnp : ∀ (w : World) (a : Addr), (binOp .neq 24 (.pointer (some a)) (.pointer none)).run Try.prog w = .ok (.bool true) w := fun w a => neqptr_ w 24 35 a Try.underlying24
  go_enter Try.func3, Try.ntmps3
  go_wp2_with (first | (go_at_call 5; refine (new_calls _).mono ?_; rintro e w2 ⟨rfl, hm, hd, hB⟩) | (go_at_call 6; refine (create_calls _ _ _ _ hd hm).mono ?_; rintro e w3 ⟨rfl, h1, h2, h3, h4⟩) | (go_at_call 7; refine (free_calls _ _ _ h1 h2 h3).mono ?_; rintro e w4 ⟨rfl, hB4⟩) | go_in)
  go_ret
  have hs2 := hB.size
  have h5 := h4 W.heap.size (by omega) (Nat.le_refl _) hs2
  have hs3 := h5.size
  exact ⟨rfl, (hB.trans h5).trans ⟨hB4.os, hB4.tape, hB4.output, hB4.size, fun k hk => hB4.block k (by omega)⟩⟩
theorem hawserlaw12_DiskNames.calls (r : Bool) (w : World) (h : hawserlaw12_DiskNames.f = some r) : Calls Try.prog 3 #[] w fun e w' => e = .returned (.bool r) ∧ Below w.heap.size w w' := by
  obtain rfl := Option.some.inj h
  exact names_calls w

end Go.Proofs.Ytpcnppdkifepcaa.G
