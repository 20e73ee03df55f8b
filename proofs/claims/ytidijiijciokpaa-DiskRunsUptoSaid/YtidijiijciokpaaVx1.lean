-- Written for this claim by a program of this session (wip/xprint.py), by means of the kit's print. Not trusted: Lean checks it.
import Derived.Test.YtidijiijciokpaaVx0
namespace Go.Proofs.Ytidijiijciokpaa.V
open Go.RowKit Go.Proofs.YtidijiijciokpaaW.PrintWords Go.Proofs.YtidijiijciokpaaW.PrintLast Go.Proofs.YtidijiijciokpaaW.PrintMore
attribute [local go_sem] max2_int min2_int max_two min_two max_three min_three max_four min_four   -- for this text's walks alone
set_option linter.unusedVariables false
set_option linter.unusedSimpArgs false

-- NOT PRINTED: function 57 (slices_Clone_byte_byte)

-- NOT PRINTED: function 54 (disk_files_copied)

-- NOT PRINTED: function 119 (bytealg_IndexByteString)

-- NOT PRINTED: function 107 (stringslite_IndexByte)

-- NOT PRINTED: function 93 (strings_IndexByte)

-- NOT PRINTED: function 56 (disk_isName)

-- NOT PRINTED: function 23 (disk_New)

-- NOT PRINTED: function 58 (hawserlaw12_roomy)

-- NOT PRINTED: function 28 (hawserlaw12_twin)

-- NOT PRINTED: function 31 (hawserlaw12_num)

-- NOT PRINTED: function 51 (hawserlaw12_plain)

-- NOT PRINTED: function 59 (hawserlaw12_kept)

-- NOT PRINTED: function 74 (hawserref12_Taken)

-- NOT PRINTED: function 97 (hawserref12_place)

-- NOT PRINTED: function 98 (hawserref12_IsName)

-- NOT PRINTED: function 99 (hawserref12_with)

-- NOT PRINTED: function 66 (hawserref12_New)

-- NOT PRINTED: function 30 (hawserlaw12_opened)

-- NOT PRINTED: function 47 (disk_Disk_made)

-- NOT PRINTED: function 106 (slices_Clip_byte_byte)

-- NOT PRINTED: function 92 (disk_files_do)

-- NOT PRINTED: function 48 (disk_Disk_left)

-- NOT PRINTED: function 108 (slices_AppendSeq_string_string)

-- NOT PRINTED: function 94 (slices_Collect_string)

-- NOT PRINTED: function 138 (cmp_isNaN_string)

-- NOT PRINTED: function 126 (cmp_Less_string)

-- NOT PRINTED: function 120 (slices_insertionSortOrdered_string)

-- NOT PRINTED: function 133 (slices_siftDownOrdered_string)

-- NOT PRINTED: function 121 (slices_heapSortOrdered_string)

-- NOT PRINTED: function 129 (bits_Len32)

-- NOT PRINTED: function 130 (bits_Len64)

-- NOT PRINTED: function 110 (bits_Len)

-- NOT PRINTED: function 134 (slices_nextPowerOfTwo)

-- NOT PRINTED: function 135 (slices_xorshift_Next)

-- NOT PRINTED: function 122 (slices_breakPatternsOrdered_string)

-- NOT PRINTED: function 140 (slices_order2Ordered_string)

-- NOT PRINTED: function 137 (slices_medianOrdered_string)

-- NOT PRINTED: function 136 (slices_medianAdjacentOrdered_string)

-- NOT PRINTED: function 123 (slices_choosePivotOrdered_string)

-- NOT PRINTED: function 124 (slices_reverseRangeOrdered_string)

-- NOT PRINTED: function 125 (slices_partialInsertionSortOrdered_string)

-- NOT PRINTED: function 127 (slices_partitionEqualOrdered_string)

-- NOT PRINTED: function 128 (slices_partitionOrdered_string)

-- NOT PRINTED: function 109 (slices_pdqsortOrdered_string)

-- NOT PRINTED: function 95 (slices_Sort_string_string)

-- NOT PRINTED: function 63 (slices_Sorted_string)

-- NOT PRINTED: function 64 (disk_files_string_byte)

-- NOT PRINTED: function 49 (disk_files_listed)

-- NOT PRINTED: function 14 (disk_Disk_Left)

-- NOT PRINTED: function 18 (disk_Disk_Start)

-- NOT PRINTED: function 19 (disk_Disk_Fail)

-- NOT PRINTED: function 55 (disk_files_takes)

-- NOT PRINTED: function 21 (disk_Disk_Crash)

-- NOT PRINTED: function 52 (disk_Disk_ready)

-- NOT PRINTED: function 53 (disk_Disk_act)

-- NOT PRINTED: function 20 (disk_Disk_Sync)

-- NOT PRINTED: function 90 (disk_Disk_has)

-- NOT PRINTED: function 91 (disk_Disk_step)

-- NOT PRINTED: function 45 (disk_Disk_Create)

-- NOT PRINTED: function 65 (disk_Disk_there)

-- NOT PRINTED: function 46 (disk_Disk_Append)

-- NOT PRINTED: function 60 (disk_Disk_Cut)

-- NOT PRINTED: function 61 (disk_Disk_Rename)

-- NOT PRINTED: function 62 (disk_Disk_Remove)

-- NOT PRINTED: function 25 (hawserlaw12_act)

-- NOT PRINTED: function 13 (disk_Disk_Pending)

-- NOT PRINTED: function 17 (disk_Disk_Files)

-- NOT PRINTED: function 22 (disk_Disk_Down)

-- NOT PRINTED: function 24 (disk_Disk_Free)

-- NOT PRINTED: function 26 (disk_Disk_Names)

-- NOT PRINTED: function 50 (hawserlaw12_same)

-- NOT PRINTED: function 111 (hawserref12_without)

-- NOT PRINTED: function 102 (hawserref12_done)

-- NOT PRINTED: function 72 (hawserref12_Disk_Left)

-- NOT PRINTED: function 73 (hawserref12_Disk_Files)

-- NOT PRINTED: function 75 (disk_Disk_Acts)

-- NOT PRINTED: function 33 (hawserlaw12_looks)

-- NOT PRINTED: function 100 (hawserref12_Disk_refused)

-- NOT PRINTED: function 67 (hawserref12_Disk_Do)

-- NOT PRINTED: function 68 (hawserref12_Disk_Fail)

-- NOT PRINTED: function 69 (hawserref12_Disk_Crash)

-- NOT PRINTED: function 70 (hawserref12_Disk_Start)

-- NOT PRINTED: function 27 (disk_Disk_Read)

-- NOT PRINTED: function 76 (disk_Disk_Size)

-- NOT PRINTED: function 101 (hawserref12_Disk_Read)

-- NOT PRINTED: function 71 (hawserlaw12_asked)

-- NOT PRINTED: function 32 (hawserlaw12_step)

/-! ### hawserlaw12_DiskRuns: function 7 -/
def hawserlaw12_DiskRuns.cv (o : S47) : Go.Proofs.Ytidijiijciokpaa.U.S47 := ⟨⟨o.f0.f0, o.f0.f1, o.f0.f2, o.f0.f3, o.f0.f4⟩, o.f1, o.f2⟩
theorem hawserlaw12_DiskRuns.cvC {W : World} {A : Option Addr} {l : List S47} (h : Kd.C k47 W A l.length l) : Kd.C Go.Proofs.Ytidijiijciokpaa.U.k47 W A (l.map hawserlaw12_DiskRuns.cv).length (l.map hawserlaw12_DiskRuns.cv) := by
  refine ⟨rfl, by rw [List.length_map]; exact h.2.1, fun hp => ?_⟩
  obtain ⟨ad, rfl, hc⟩ := h.2.2 (by rwa [List.length_map] at hp)
  refine ⟨ad, rfl, fun j p hj => ?_⟩
  rw [List.getElem?_map, Option.map_eq_some_iff] at hj
  obtain ⟨o, ho, rfl⟩ := hj
  obtain ⟨cs, h1, h2, h3⟩ := hc j o ho
  refine ⟨cs, h1, ?_, h3⟩
  obtain rfl := k47_open h2
  exact Go.Proofs.Ytidijiijciokpaa.U.k47_mk W (hawserlaw12_DiskRuns.cv o)
def hawserlaw12_DiskRuns.fl (x : S33) : ByteArray × ByteArray := (x.f0, strOfNums x.f1)
def hawserlaw12_DiskRuns.okF (x : S33) : Prop := ∀ n ∈ x.f1, 0 ≤ n ∧ n < 256
instance (x : S33) : Decidable (hawserlaw12_DiskRuns.okF x) := inferInstanceAs (Decidable (∀ n ∈ x.f1, _ ∧ _))
theorem hawserlaw12_DiskRuns.bs {l : List Int} (h : ∀ n ∈ l, 0 ≤ n ∧ n < 256) : bytesOf (strOfNums l) = l := by
  unfold bytesOf strOfNums
  simp only [List.toList_toArray, List.map_map]
  refine (List.map_congr_left (g := id) fun n hn => ?_).trans (List.map_id l)
  have := h n hn
  simp only [Function.comp, id]
  rw [UInt8.toNat_ofNat']
  omega
theorem hawserlaw12_DiskRuns.cvF {W : World} {A : Option Addr} {l : List S33} (hok : ∀ x ∈ l, hawserlaw12_DiskRuns.okF x) (h : Kd.C k33 W A l.length l) : Kd.C Go.Proofs.Ytidijiijciokpaa.U.k33 W A ((l.map hawserlaw12_DiskRuns.fl).map Go.Proofs.Ytidijiijciokpaa.G.Gd.sf).length ((l.map hawserlaw12_DiskRuns.fl).map Go.Proofs.Ytidijiijciokpaa.G.Gd.sf) := by
  refine ⟨rfl, by rw [List.length_map, List.length_map]; exact h.2.1, fun hp => ?_⟩
  obtain ⟨ad, rfl, hc⟩ := h.2.2 (by rwa [List.length_map, List.length_map] at hp)
  refine ⟨ad, rfl, fun j p hj => ?_⟩
  rw [List.getElem?_map, List.getElem?_map, Option.map_map, Option.map_eq_some_iff] at hj
  obtain ⟨o, ho, rfl⟩ := hj
  obtain ⟨cs, h1, h2, h3⟩ := hc j o ho
  refine ⟨cs, h1, ?_, h3⟩
  obtain ⟨A1, c1, rfl, h4, h5⟩ := k33_open h2
  have hb := hawserlaw12_DiskRuns.bs (hok o (List.mem_of_getElem? ho))
  have e : Go.Proofs.Ytidijiijciokpaa.G.Gd.sf (hawserlaw12_DiskRuns.fl o) = ⟨o.f0, o.f1⟩ := by
    show (⟨o.f0, bytesOf (strOfNums o.f1)⟩ : Go.Proofs.Ytidijiijciokpaa.U.S33) = _
    rw [hb]
  show Go.Proofs.Ytidijiijciokpaa.U.k33.K W (Go.Proofs.Ytidijiijciokpaa.G.Gd.sf (hawserlaw12_DiskRuns.fl o)) _
  rw [e]
  exact Go.Proofs.Ytidijiijciokpaa.U.k33_mk W (⟨o.f0, o.f1⟩ : Go.Proofs.Ytidijiijciokpaa.U.S33) h4 h5
def hawserlaw12_DiskRuns.okL (l : List S33) : Prop := (∀ x ∈ l, hawserlaw12_DiskRuns.okF x) ∧ (∀ x ∈ l, x.f0.size ≤ 4294967296 ∧ x.f1.length ≤ 4294967296) ∧ l.length ≤ 1099511627776
instance (l : List S33) : Decidable (hawserlaw12_DiskRuns.okL l) := inferInstanceAs (Decidable (_ ∧ _ ∧ _))
def hawserlaw12_DiskRuns.ok (l : List S47) : Prop := (∀ o ∈ l.map hawserlaw12_DiskRuns.cv, Go.Proofs.Ytidijiijciokpaa.G.Gd.OpSz2 o) ∧ Go.Proofs.Ytidijiijciokpaa.G.Gd.wts (l.map hawserlaw12_DiskRuns.cv) ≤ 1099511627776
instance (l : List S47) : Decidable (hawserlaw12_DiskRuns.ok l) := inferInstanceAs (Decidable (_ ∧ _))
def hawserlaw12_DiskRuns.f (room : Int) (l1 : List S33) (l2 : List S47) : Option Bool := if hawserlaw12_DiskRuns.okL l1 ∧ hawserlaw12_DiskRuns.ok l2 then some true else none
theorem hawserlaw12_DiskRuns.calls (room : Int) (A1 : Option Addr) (c1 : Nat) (l1 : List S33) (A2 : Option Addr) (c2 : Nat) (l2 : List S47) (r : Bool) (w : World) (hr1 : Kd.C k33 w A1 l1.length l1) (hc1 : l1.length ≤ c1) (hr2 : Kd.C k47 w A2 l2.length l2) (hc2 : l2.length ≤ c2) (h : hawserlaw12_DiskRuns.f room l1 l2 = some r) :
    Calls Try.prog 7 #[.int .i64 room, .slice A1 l1.length c1, .slice A2 l2.length c2] w fun e w' => e = .returned (.bool r) ∧ Below w.heap.size w w' := by
  unfold hawserlaw12_DiskRuns.f at h
  split at h
  · rename_i q
    obtain rfl := Option.some.inj h
    have := Go.Proofs.Ytidijiijciokpaa.G.Gd.runs_calls room A1 A2 c1 c2 (l1.map hawserlaw12_DiskRuns.fl) (l2.map hawserlaw12_DiskRuns.cv) (hawserlaw12_DiskRuns.cvF q.1.1 hr1) (hawserlaw12_DiskRuns.cvC hr2) (by rw [List.length_map]; exact q.1.2.2) (fun p hp => by
      obtain ⟨x, hx, rfl⟩ := List.mem_map.1 hp
      have h9 := q.1.2.1 x hx
      refine ⟨h9.1, ?_⟩
      show (strOfNums x.f1).size ≤ _
      rw [show (strOfNums x.f1).size = x.f1.length by simp [strOfNums, ByteArray.size]]
      exact h9.2) q.2.1 q.2.2
    rwa [List.length_map, List.length_map] at this
  · cases h

end Go.Proofs.Ytidijiijciokpaa.V
