-- Written for this claim by a program of this session (wip/xprint.py), by means of the kit's print. Not trusted: Lean checks it.
import Derived.Test.YtgdliellepoccaaQx0
namespace Go.Proofs.Ytgdliellepoccaa.Q
open Go.RowKit Go.Proofs.YtgdliellepoccaaW.PrintWords Go.Proofs.YtgdliellepoccaaW.PrintLast Go.Proofs.YtgdliellepoccaaW.PrintMore
attribute [local go_sem] max2_int min2_int max_two min_two max_three min_three max_four min_four   -- for this text's walks alone
set_option linter.unusedVariables false
set_option linter.unusedSimpArgs false

-- NOT PRINTED: function 19 (wal_Log_state)

-- NOT PRINTED: function 55 (frame_laid)

-- NOT PRINTED: function 75 (crc_halves)

-- NOT PRINTED: function 68 (crc_run)

-- NOT PRINTED: function 56 (crc_Sum)

-- NOT PRINTED: function 43 (frame_Encode)

-- NOT PRINTED: function 20 (wal_framed)

-- NOT PRINTED: function 25 (wal_Log_do)

-- NOT PRINTED: function 26 (wal_copied)

-- NOT PRINTED: function 6 (wal_Log_Append)

-- NOT PRINTED: function 39 (slices_Clone_byte_byte)

-- NOT PRINTED: function 40 (disk_files_copied)

-- NOT PRINTED: function 74 (bytealg_IndexByteString)

-- NOT PRINTED: function 67 (stringslite_IndexByte)

-- NOT PRINTED: function 54 (strings_IndexByte)

-- NOT PRINTED: function 38 (disk_isName)

-- NOT PRINTED: function 41 (disk_Disk_made)

-- NOT PRINTED: function 44 (disk_Disk_ready)

-- NOT PRINTED: function 47 (disk_Disk_act)

-- NOT PRINTED: function 27 (disk_Disk_Sync)

-- NOT PRINTED: function 8 (wal_Log_Sync)

-- NOT PRINTED: function 12 (wal_Log_Lasting)

-- NOT PRINTED: function 45 (disk_Disk_has)

-- NOT PRINTED: function 42 (disk_Disk_there)

-- NOT PRINTED: function 18 (disk_Disk_Size)

-- NOT PRINTED: function 32 (wal_isName)

-- NOT PRINTED: function 70 (slices_AppendSeq_string_string)

-- NOT PRINTED: function 59 (slices_Collect_string)

-- NOT PRINTED: function 92 (cmp_isNaN_string)

-- NOT PRINTED: function 82 (cmp_Less_string)

-- NOT PRINTED: function 76 (slices_insertionSortOrdered_string)

-- NOT PRINTED: function 87 (slices_siftDownOrdered_string)

-- NOT PRINTED: function 77 (slices_heapSortOrdered_string)

-- NOT PRINTED: function 85 (bits_Len32)

-- NOT PRINTED: function 86 (bits_Len64)

-- NOT PRINTED: function 72 (bits_Len)

-- NOT PRINTED: function 88 (slices_nextPowerOfTwo)

-- NOT PRINTED: function 89 (slices_xorshift_Next)

-- NOT PRINTED: function 78 (slices_breakPatternsOrdered_string)

-- NOT PRINTED: function 93 (slices_order2Ordered_string)

-- NOT PRINTED: function 91 (slices_medianOrdered_string)

-- NOT PRINTED: function 90 (slices_medianAdjacentOrdered_string)

-- NOT PRINTED: function 79 (slices_choosePivotOrdered_string)

-- NOT PRINTED: function 80 (slices_reverseRangeOrdered_string)

-- NOT PRINTED: function 81 (slices_partialInsertionSortOrdered_string)

-- NOT PRINTED: function 83 (slices_partitionEqualOrdered_string)

-- NOT PRINTED: function 84 (slices_partitionOrdered_string)

-- NOT PRINTED: function 71 (slices_pdqsortOrdered_string)

-- NOT PRINTED: function 60 (slices_Sort_string_string)

-- NOT PRINTED: function 48 (slices_Sorted_string)

-- NOT PRINTED: function 49 (disk_files_string_byte)

-- NOT PRINTED: function 33 (disk_Disk_Names)

-- NOT PRINTED: function 50 (slices_Index_string_string)

-- NOT PRINTED: function 34 (slices_Contains_string_string)

-- NOT PRINTED: function 69 (slices_Clip_byte_byte)

-- NOT PRINTED: function 57 (disk_files_do)

-- NOT PRINTED: function 58 (disk_files_takes)

-- NOT PRINTED: function 46 (disk_Disk_step)

-- NOT PRINTED: function 35 (disk_Disk_Remove)

-- NOT PRINTED: function 51 (disk_Disk_Read)

-- NOT PRINTED: function 62 (frame_begins)

-- NOT PRINTED: function 73 (frame_word)

-- NOT PRINTED: function 63 (frame_headed)

-- NOT PRINTED: function 64 (frame_length)

-- NOT PRINTED: function 65 (frame_whole)

-- NOT PRINTED: function 66 (frame_cut)

-- NOT PRINTED: function 52 (frame_Decode)

-- NOT PRINTED: function 53 (disk_Disk_Cut)

-- NOT PRINTED: function 36 (wal_Log_load)

-- NOT PRINTED: function 37 (disk_Disk_Pending)

-- NOT PRINTED: function 14 (wal_Open)

-- NOT PRINTED: function 15 (disk_New)

-- NOT PRINTED: function 17 (disk_Disk_Acts)

/-! ### hawserlaw13_lives: function 5 -/
def hawserlaw13_lives.f : Option Bool := some true
theorem hawserlaw13_lives.calls (r : Bool) (w : World) (h : hawserlaw13_lives.f = some r) :
    Calls Try.prog 5 #[] w fun e w' => e = .returned (.bool r) ∧ Below w.heap.size w w' := by
  obtain rfl := Option.some.inj h
  exact Go.Proofs.Ytgdliellepoccaa.G.Wl.lives_calls w

/-! ### hawserlaw13_WalNames: function 3 -/
def hawserlaw13_WalNames.f  : Option (Bool) := (hawserlaw13_lives.f).bind fun t101 => (some t101)
set_option maxHeartbeats 8000000 in
set_option maxRecDepth 100000 in
theorem hawserlaw13_WalNames.calls  (r : Bool) (w : World) (h : hawserlaw13_WalNames.f  = some r) :
    Calls Try.prog 3 #[] w fun e w' => e = .returned (.bool r) ∧ Below w.heap.size w w' := by
  have HB := Aside0.mk (Below.refl w.heap.size w)
  have H : ((hawserlaw13_lives.f).bind fun t101 => (some t101)) = some r := h
  clear h
  replace H := Option.bind_eq_some_iff.mp H
  obtain ⟨t101, A10, H⟩ := H
  replace H : (some t101) = some r := H
  have A1 := Aside0.mk A10
  clear A10
  obtain rfl := Option.some.inj H
  go_enter Try.func3, Try.ntmps3
  go_wp2_with (first | (go_at_call 5; (with_reducible refine (hawserlaw13_lives.calls  t101 _ A1.out).mono ?_); rintro e w2 ⟨rfl, hb⟩; have n0_ := Aside0.mk (below_step (by repeat (first | (with_reducible first | exact HB.out | apply below_alloc | apply pw_below_drewN | apply below_drew1) | exact HB.out)) hb); clear HB; have HB := n0_; clear n0_; (try clear hb); (try clear hb2); (try clear hk); (try clear hi)))
  go_ret
  exact ⟨by first | rfl | (simp [errW_none, errW_some] <;> rfl) | (simp [*, errW_none, errW_some] <;> rfl), by repeat (first | (with_reducible first | exact HB.out | apply below_alloc | apply pw_below_drewN | apply below_drew1) | exact HB.out)⟩

end Go.Proofs.Ytgdliellepoccaa.Q
