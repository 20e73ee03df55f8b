/- Blocks: a block that is known whole, read as a slice; the builtin copy's side facts. -/
import Derived.Laws.CopyOwn
import Derived.Test.YtidijiijciokpaaWMore
namespace Go.Proofs.Ytidijiijciokpaa.Blocks
open Go.RowKit Go.Proofs.YtidijiijciokpaaW.PrintWords Go.Proofs.YtidijiijciokpaaW.PrintLast Go.Proofs.YtidijiijciokpaaW.PrintMore
set_option linter.unusedVariables false
set_option linter.unusedSimpArgs false

theorem nums_set (k : IntKind) (l : List Int) (i : Nat) (x : Int) : ((nums k l).toArray.setIfInBounds i (.int k x)) = (nums k (l.set i x)).toArray := by
  simp [nums, List.map_set]
theorem min_self_add (n k : Nat) : n = Nat.min n (n + k) := by show n = min n (n + k); omega
theorem nums_one (k : IntKind) (l : List Int) : ∀ v ∈ nums k l, v.oneCell' = true := by
  intro v hv
  simp only [nums, List.mem_map] at hv
  obtain ⟨x, _, rfl⟩ := hv
  rfl
theorem madeCells_nums (k : IntKind) (m : Nat) : madeCells #[.int k 0] m = (nums k (List.replicate m 0)).toArray := by
  apply Array.ext
  · simp [nums, madeCells]
  · intro i h1 h2
    simp [nums, madeCells, Nat.mod_one]
/-- What a slice that came in holds, cell by cell. -/
theorem cells_of_C {k : IntKind} {w : World} {A : Option Addr} {l : List Int} (h : Kd.C (Kd.int k) w A l.length l) (hp : 0 < l.length) :
    ∃ ad, A = some ad ∧ ∀ j v, (nums k l)[j]? = some v → w.cell? (ad.add j) = some v := by
  obtain ⟨ad, e, hcell⟩ := h.2.2 hp
  refine ⟨ad, e, fun j v hv => ?_⟩
  simp only [nums, List.getElem?_map, Option.map_eq_some_iff] at hv
  obtain ⟨x, hx, rfl⟩ := hv
  obtain ⟨c, hcl, hK, hcc⟩ := hcell j x hx
  have hK : c = [.int k x] := hK
  subst hK
  have := hcc 0 _ rfl
  simpa [show (Kd.int k).sz = 1 from rfl] using this
/-- A part of a block that is known whole, read as a slice. -/
theorem C_of_blk {k : IntKind} {W : World} {g o n : Nat} {e : TypeId} {L : List Int} (h : W.heap[g]? = some (.cells (nums k L).toArray e (0, 0))) (hn : o + n ≤ L.length) (hm : L.length ≤ 9223372036854775807) :
    Kd.C (Kd.int k) W (some ⟨g, o, none⟩) n ((L.drop o).take n) := by
  refine ⟨by rw [List.length_take, List.length_drop]; omega, by omega, fun _ => ⟨_, rfl, fun j p hj => ⟨[.int k p], rfl, rfl, fun i u hu => ?_⟩⟩⟩
  have hi : i = 0 := by
    rcases i with _ | i
    · rfl
    · simp at hu
  subst hi
  have hu : Value.int k p = u := by simpa using hu
  subst hu
  have hjn : j < n := by
    have := (List.getElem?_eq_some_iff.1 hj).1
    rw [List.length_take] at this; omega
  have hL : L[o + j]? = some p := by
    rw [List.getElem?_take, if_pos hjn, List.getElem?_drop] at hj
    exact hj
  rw [show j * (Kd.int k).sz + 0 = j from Nat.mul_one j]
  have : (⟨g, o, none⟩ : Addr).add j = ⟨g, o + j, none⟩ := by unfold Addr.add; split <;> simp_all
  rw [this, blk_cell h]
  simp [nums, hL]
theorem V_of_blk {k : IntKind} {W : World} {g o n c : Nat} {e : TypeId} {L : List Int} {base : Nat} {ok : Nat → Prop} (h : W.heap[g]? = some (.cells (nums k L).toArray e (0, 0))) (hn : o + n ≤ L.length) (hm : L.length ≤ 9223372036854775807) (hc : n ≤ c) (hok : ok g) :
    Kd.V (Kd.int k) e W base ok (.slice (some ⟨g, o, none⟩) n c) ((L.drop o).take n) := by
  have hl : ((L.drop o).take n).length = n := by rw [List.length_take, List.length_drop]; omega
  refine ⟨some ⟨g, o, none⟩, c, by rw [hl], by omega, ?_⟩
  intro W' hW'
  rw [hl]
  exact C_of_blk ((hW' g hok (blk_lt h)).trans h) hn hm
theorem eqlptr_ {P : Program} (w : World) (t te : TypeId) (a : Addr) (h : P.underlying t = some (.pointer te)) :
    (binOp .eql t (.pointer (some a)) (.pointer none)).run P w = .ok (.bool false) w := by
  have h1 : ∀ d : Nat, (Op.equalIn (d + 1) t (.pointer (some a)) (.pointer none)).run P w = .ok false w := fun d => by
    simp [Op.equalIn, run_underlying h]
  simp only [binOp]
  simp [Op.equal, Op.maxDepth, h1 9999]
theorem neqptr_ {P : Program} (w : World) (t te : TypeId) (a : Addr) (h : P.underlying t = some (.pointer te)) :
    (binOp .neq t (.pointer (some a)) (.pointer none)).run P w = .ok (.bool true) w := by
  have h1 : ∀ d : Nat, (Op.equalIn (d + 1) t (.pointer (some a)) (.pointer none)).run P w = .ok false w := fun d => by
    simp [Op.equalIn, run_underlying h]
  simp only [binOp]
  simp [Op.equal, Op.maxDepth, h1 9999]
end Go.Proofs.Ytidijiijciokpaa.Blocks
