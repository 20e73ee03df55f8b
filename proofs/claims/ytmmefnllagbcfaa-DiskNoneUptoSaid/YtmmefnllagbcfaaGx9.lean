-- Written for this claim by a program of this session (wip/xprint.py), by means of the kit's print. Not trusted: Lean checks it.
import Derived.Test.YtmmefnllagbcfaaGx0
namespace Go.Proofs.Ytmmefnllagbcfaa.G
open Go.RowKit Go.Proofs.YtmmefnllagbcfaaW.PrintWords Go.Proofs.YtmmefnllagbcfaaW.PrintLast Go.Proofs.YtmmefnllagbcfaaW.PrintMore
attribute [local go_sem] max2_int min2_int max_two min_two max_three min_three max_four min_four   -- for this text's walks alone
set_option linter.unusedVariables false
set_option linter.unusedSimpArgs false

-- NOT PRINTED: function 94 (slices_partitionOrdered_string)

-- NOT PRINTED: function 82 (slices_pdqsortOrdered_string)

-- NOT PRINTED: function 71 (slices_Sort_string_string)

-- NOT PRINTED: function 50 (slices_Sorted_string)

-- NOT PRINTED: function 51 (disk_files_string_byte)

-- NOT PRINTED: function 19 (disk_Disk_Names)

-- NOT PRINTED: function 52 (disk_files_listed)

-- NOT PRINTED: function 20 (disk_Disk_Files)

-- NOT PRINTED: function 21 (disk_Disk_Left)

-- NOT PRINTED: function 22 (disk_Disk_Free)

-- NOT PRINTED: function 23 (disk_Disk_Acts)

-- NOT PRINTED: function 24 (disk_Disk_Pending)

/-! ### hawserlaw12_DiskNone: function 3 -/
def hawserlaw12_DiskNone.f (kd : Int) (nm to_ dt : ByteArray) (sz k2 n : Int) : Option Bool := if dt.size ≤ 1099511627776 then some true else none
theorem hawserlaw12_DiskNone.calls (kd : Int) (nm to_ dt : ByteArray) (sz k2 n : Int) (r : Bool) (w : World) (h : hawserlaw12_DiskNone.f kd nm to_ dt sz k2 n = some r) : Calls Try.prog 3 #[.agg #[.int .i64 kd, .string nm, .string to_, .string dt, .int .i64 sz, .int .i64 k2, .int .i64 n]] w fun e w' => e = .returned (.bool r) ∧ Below w.heap.size w w' := by
  unfold hawserlaw12_DiskNone.f at h
  split at h
  · rename_i hn
    obtain rfl := Option.some.inj h
    exact Dsk.none_calls w kd nm to_ dt sz k2 n hn
  · cases h

end Go.Proofs.Ytmmefnllagbcfaa.G
