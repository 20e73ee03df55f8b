-- Written for this claim by a program of this session (wip/xprint.py), by means of the kit's print. Not trusted: Lean checks it.
import Derived.Test.YtbfcejbjljalmaaQx0
namespace Go.Proofs.Ytbfcejbjljalmaa.Q
open Go.RowKit Go.Proofs.YtbfcejbjljalmaaW.PrintWords Go.Proofs.YtbfcejbjljalmaaW.PrintLast Go.Proofs.YtbfcejbjljalmaaW.PrintMore
attribute [local go_sem] max2_int min2_int max_two min_two max_three min_three max_four min_four   -- for this text's walks alone
set_option linter.unusedVariables false
set_option linter.unusedSimpArgs false

-- NOT PRINTED: function 71 (bytealg_IndexByteString)

-- NOT PRINTED: function 58 (stringslite_IndexByte)

-- NOT PRINTED: function 45 (strings_IndexByte)

-- NOT PRINTED: function 20 (disk_isName)

-- NOT PRINTED: function 21 (slices_Clone_byte_byte)

-- NOT PRINTED: function 22 (disk_files_copied)

-- NOT PRINTED: function 5 (disk_New)

-- NOT PRINTED: function 43 (disk_Disk_made)

-- NOT PRINTED: function 54 (disk_Disk_ready)

-- NOT PRINTED: function 57 (disk_Disk_has)

-- NOT PRINTED: function 46 (disk_Disk_there)

-- NOT PRINTED: function 23 (disk_Disk_Size)

-- NOT PRINTED: function 24 (wal_isName)

-- NOT PRINTED: function 72 (slices_AppendSeq_string_string)

-- NOT PRINTED: function 59 (slices_Collect_string)

-- NOT PRINTED: function 95 (cmp_isNaN_string)

-- NOT PRINTED: function 84 (cmp_Less_string)

-- NOT PRINTED: function 78 (slices_insertionSortOrdered_string)

-- NOT PRINTED: function 90 (slices_siftDownOrdered_string)

-- NOT PRINTED: function 79 (slices_heapSortOrdered_string)

-- NOT PRINTED: function 87 (bits_Len32)

-- NOT PRINTED: function 88 (bits_Len64)

-- NOT PRINTED: function 74 (bits_Len)

-- NOT PRINTED: function 91 (slices_nextPowerOfTwo)

-- NOT PRINTED: function 92 (slices_xorshift_Next)

-- NOT PRINTED: function 80 (slices_breakPatternsOrdered_string)

-- NOT PRINTED: function 96 (slices_order2Ordered_string)

-- NOT PRINTED: function 94 (slices_medianOrdered_string)

-- NOT PRINTED: function 93 (slices_medianAdjacentOrdered_string)

-- NOT PRINTED: function 81 (slices_choosePivotOrdered_string)

-- NOT PRINTED: function 82 (slices_reverseRangeOrdered_string)

-- NOT PRINTED: function 83 (slices_partialInsertionSortOrdered_string)

-- NOT PRINTED: function 85 (slices_partitionEqualOrdered_string)

-- NOT PRINTED: function 86 (slices_partitionOrdered_string)

-- NOT PRINTED: function 73 (slices_pdqsortOrdered_string)

-- NOT PRINTED: function 60 (slices_Sort_string_string)

-- NOT PRINTED: function 47 (slices_Sorted_string)

-- NOT PRINTED: function 48 (disk_files_string_byte)

-- NOT PRINTED: function 25 (disk_Disk_Names)

-- NOT PRINTED: function 49 (slices_Index_string_string)

-- NOT PRINTED: function 26 (slices_Contains_string_string)

-- NOT PRINTED: function 55 (disk_Disk_act)

-- NOT PRINTED: function 75 (slices_Clip_byte_byte)

-- NOT PRINTED: function 62 (disk_files_do)

-- NOT PRINTED: function 63 (disk_files_takes)

-- NOT PRINTED: function 50 (disk_Disk_step)

-- NOT PRINTED: function 27 (disk_Disk_Remove)

-- NOT PRINTED: function 51 (disk_Disk_Read)

-- NOT PRINTED: function 64 (frame_begins)

-- NOT PRINTED: function 89 (crc_halves)

-- NOT PRINTED: function 77 (crc_run)

-- NOT PRINTED: function 70 (crc_Sum)

-- NOT PRINTED: function 76 (frame_word)

-- NOT PRINTED: function 65 (frame_headed)

-- NOT PRINTED: function 66 (frame_length)

-- NOT PRINTED: function 67 (frame_whole)

-- NOT PRINTED: function 68 (frame_cut)

-- NOT PRINTED: function 52 (frame_Decode)

-- NOT PRINTED: function 53 (disk_Disk_Cut)

-- NOT PRINTED: function 28 (wal_Log_load)

-- NOT PRINTED: function 29 (disk_Disk_Pending)

-- NOT PRINTED: function 30 (disk_Disk_Sync)

-- NOT PRINTED: function 6 (wal_Open)

-- NOT PRINTED: function 31 (wal_Log_state)

-- NOT PRINTED: function 69 (frame_laid)

-- NOT PRINTED: function 56 (frame_Encode)

-- NOT PRINTED: function 32 (wal_framed)

-- NOT PRINTED: function 37 (wal_Log_do)

-- NOT PRINTED: function 38 (wal_copied)

-- NOT PRINTED: function 7 (wal_Log_Append)

-- NOT PRINTED: function 8 (wal_Log_Len)

-- NOT PRINTED: function 9 (wal_Log_Start)

-- NOT PRINTED: function 10 (wal_Log_Sync)

-- NOT PRINTED: function 11 (wal_Log_Record)

-- NOT PRINTED: function 12 (hawserref01_Same)

/-! ### hawserlaw13_WalLong: function 3 -/
def hawserlaw13_WalLong.f (more x : Int) : Option Bool := some true
theorem hawserlaw13_WalLong.calls (more x : Int) (r : Bool) (w : World) (h : hawserlaw13_WalLong.f more x = some r) :
    Calls Try.prog 3 #[.int .i64 more, .int .u8 x] w fun e w' => e = .returned (.bool r) ∧ Below w.heap.size w w' := by
  obtain rfl := Option.some.inj h
  exact Go.Proofs.Ytbfcejbjljalmaa.P.Wl.wlong_calls w more x

end Go.Proofs.Ytbfcejbjljalmaa.Q
