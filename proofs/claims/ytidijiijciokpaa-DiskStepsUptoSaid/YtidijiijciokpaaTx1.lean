-- Written for this claim by a program of this session (wip/xprint.py), by means of the kit's print. Not trusted: Lean checks it.
import Derived.Test.YtidijiijciokpaaTx0
namespace Go.Proofs.Ytidijiijciokpaa.T
open Go.RowKit Go.Proofs.YtidijiijciokpaaW.PrintWords Go.Proofs.YtidijiijciokpaaW.PrintLast Go.Proofs.YtidijiijciokpaaW.PrintMore
attribute [local go_sem] max2_int min2_int max_two min_two max_three min_three max_four min_four   -- for this text's walks alone
set_option linter.unusedVariables false
set_option linter.unusedSimpArgs false

-- NOT PRINTED: function 57 (slices_Clone_byte_byte)

-- NOT PRINTED: function 54 (disk_files_copied)

-- NOT PRINTED: function 119 (bytealg_IndexByteString)

-- NOT PRINTED: function 107 (stringslite_IndexByte)

-- NOT PRINTED: function 93 (strings_IndexByte)

-- NOT PRINTED: function 56 (disk_isName)

-- NOT PRINTED: function 23 (disk_New)

-- NOT PRINTED: function 47 (disk_Disk_made)

-- NOT PRINTED: function 52 (disk_Disk_ready)

-- NOT PRINTED: function 90 (disk_Disk_has)

-- NOT PRINTED: function 53 (disk_Disk_act)

-- NOT PRINTED: function 55 (disk_files_takes)

-- NOT PRINTED: function 106 (slices_Clip_byte_byte)

-- NOT PRINTED: function 92 (disk_files_do)

-- NOT PRINTED: function 91 (disk_Disk_step)

-- NOT PRINTED: function 45 (disk_Disk_Create)

-- NOT PRINTED: function 65 (disk_Disk_there)

-- NOT PRINTED: function 46 (disk_Disk_Append)

-- NOT PRINTED: function 10 (hawserlaw12_works)

-- NOT PRINTED: function 18 (disk_Disk_Start)

-- NOT PRINTED: function 19 (disk_Disk_Fail)

-- NOT PRINTED: function 48 (disk_Disk_left)

-- NOT PRINTED: function 21 (disk_Disk_Crash)

-- NOT PRINTED: function 20 (disk_Disk_Sync)

-- NOT PRINTED: function 31 (hawserlaw12_num)

-- NOT PRINTED: function 58 (hawserlaw12_roomy)

-- NOT PRINTED: function 59 (hawserlaw12_kept)

-- NOT PRINTED: function 60 (disk_Disk_Cut)

-- NOT PRINTED: function 61 (disk_Disk_Rename)

-- NOT PRINTED: function 62 (disk_Disk_Remove)

-- NOT PRINTED: function 25 (hawserlaw12_act)

-- NOT PRINTED: function 11 (hawserlaw12_play)

-- NOT PRINTED: function 12 (hawserlaw12_only)

-- NOT PRINTED: function 13 (disk_Disk_Pending)

-- NOT PRINTED: function 108 (slices_AppendSeq_string_string)

-- NOT PRINTED: function 94 (slices_Collect_string)

-- NOT PRINTED: function 138 (cmp_isNaN_string)

-- NOT PRINTED: function 126 (cmp_Less_string)

-- NOT PRINTED: function 120 (slices_insertionSortOrdered_string)

-- NOT PRINTED: function 133 (slices_siftDownOrdered_string)

-- NOT PRINTED: function 121 (slices_heapSortOrdered_string)

-- NOT PRINTED: function 129 (bits_Len32)

-- NOT PRINTED: function 130 (bits_Len64)

-- NOT PRINTED: function 110 (bits_Len)

-- NOT PRINTED: function 134 (slices_nextPowerOfTwo)

-- NOT PRINTED: function 135 (slices_xorshift_Next)

-- NOT PRINTED: function 122 (slices_breakPatternsOrdered_string)

-- NOT PRINTED: function 140 (slices_order2Ordered_string)

-- NOT PRINTED: function 137 (slices_medianOrdered_string)

-- NOT PRINTED: function 136 (slices_medianAdjacentOrdered_string)

-- NOT PRINTED: function 123 (slices_choosePivotOrdered_string)

-- NOT PRINTED: function 124 (slices_reverseRangeOrdered_string)

-- NOT PRINTED: function 125 (slices_partialInsertionSortOrdered_string)

-- NOT PRINTED: function 127 (slices_partitionEqualOrdered_string)

-- NOT PRINTED: function 128 (slices_partitionOrdered_string)

-- NOT PRINTED: function 109 (slices_pdqsortOrdered_string)

-- NOT PRINTED: function 95 (slices_Sort_string_string)

-- NOT PRINTED: function 63 (slices_Sorted_string)

-- NOT PRINTED: function 64 (disk_files_string_byte)

-- NOT PRINTED: function 49 (disk_files_listed)

-- NOT PRINTED: function 14 (disk_Disk_Left)

-- NOT PRINTED: function 15 (hawserlaw12_has)

-- NOT PRINTED: function 50 (hawserlaw12_same)

-- NOT PRINTED: function 51 (hawserlaw12_plain)

-- NOT PRINTED: function 16 (hawserlaw12_equal)

-- NOT PRINTED: function 17 (disk_Disk_Files)

/-! ### hawserlaw12_DiskSteps: function 3 -/
def hawserlaw12_DiskSteps.cv (o : S47) : Go.Proofs.Ytidijiijciokpaa.E.S47 := ⟨⟨o.f0.f0, o.f0.f1, o.f0.f2, o.f0.f3, o.f0.f4⟩, o.f1, o.f2⟩
theorem hawserlaw12_DiskSteps.cvC {W : World} {A : Option Addr} {l : List S47} (h : Kd.C k47 W A l.length l) : Kd.C Go.Proofs.Ytidijiijciokpaa.E.k47 W A (l.map hawserlaw12_DiskSteps.cv).length (l.map hawserlaw12_DiskSteps.cv) := by
  refine ⟨rfl, by rw [List.length_map]; exact h.2.1, fun hp => ?_⟩
  obtain ⟨ad, rfl, hc⟩ := h.2.2 (by rwa [List.length_map] at hp)
  refine ⟨ad, rfl, fun j p hj => ?_⟩
  rw [List.getElem?_map, Option.map_eq_some_iff] at hj
  obtain ⟨o, ho, rfl⟩ := hj
  obtain ⟨cs, h1, h2, h3⟩ := hc j o ho
  refine ⟨cs, h1, ?_, h3⟩
  obtain rfl := k47_open h2
  exact Go.Proofs.Ytidijiijciokpaa.E.k47_mk W (hawserlaw12_DiskSteps.cv o)
def hawserlaw12_DiskSteps.ok (l : List S47) : Prop := (∀ o ∈ l.map hawserlaw12_DiskSteps.cv, Go.Proofs.Ytidijiijciokpaa.G.Gd.OpSz o) ∧ Go.Proofs.Ytidijiijciokpaa.G.Gd.wts (l.map hawserlaw12_DiskSteps.cv) ≤ 1099511627776
instance (l : List S47) : Decidable (hawserlaw12_DiskSteps.ok l) := inferInstanceAs (Decidable (_ ∧ _))
def hawserlaw12_DiskSteps.f (l0 : List S47) : Option Bool := if hawserlaw12_DiskSteps.ok l0 then some true else none
theorem hawserlaw12_DiskSteps.calls (A0 : Option Addr) (c0 : Nat) (l0 : List S47) (r : Bool) (w : World) (hr0 : Kd.C k47 w A0 l0.length l0) (hc0 : l0.length ≤ c0) (h : hawserlaw12_DiskSteps.f l0 = some r) :
    Calls Try.prog 3 #[.slice A0 l0.length c0] w fun e w' => e = .returned (.bool r) ∧ Below w.heap.size w w' := by
  unfold hawserlaw12_DiskSteps.f at h
  split at h
  · rename_i q
    obtain rfl := Option.some.inj h
    have := Go.Proofs.Ytidijiijciokpaa.G.Gd.steps_calls A0 c0 (l0.map hawserlaw12_DiskSteps.cv) (hawserlaw12_DiskSteps.cvC hr0) (by rw [List.length_map]; exact hc0) q.1 q.2
    rwa [List.length_map] at this
  · cases h

end Go.Proofs.Ytidijiijciokpaa.T
