/- Opens: an argument that can be read as data, of whatever type made of numbers, bools, strings, slices and structs, is the value that its kind tells; of no more values and letters than the row's bulk says. -/
import Derived.ChangeSlices
import Derived.ChangeSame
import Derived.Below
import Derived.Carry
import Derived.ChangeArms
import Derived.Test.YtidijiijciokpaaRows
import Derived.Test.YtidijiijciokpaaWWords
namespace Go.Proofs.Ytidijiijciokpaa.Open
open Go.ChangeShapes Go.WideShapes Go.RowKit
open Go.Proofs.YtidijiijciokpaaW.PrintWords
set_option linter.unusedVariables false
set_option linter.unusedSimpArgs false

def Opens {α : Type} (P : Program) (t : TypeId) (d : Kd α) (m : α → Nat) (ok : α → Prop) : Prop :=
  ∀ {H : Type} {enc : TypeId × Value → H} {W : World} {base : Nat} {spare : Nat → Bool} {held : Bool} {fuel : Nat} {cs : List Value} {x : DataW H × List MemPlace},
    DataW.trod enc P W base spare held fuel t cs = some x → Rows.uptoBulk x.1 ≤ 1048576 → ∃ a, d.K W a cs ∧ ok a ∧ m a ≤ Rows.uptoBulk x.1

theorem all_append {H : Type} (l r : List (DataW H)) : Rows.uptoBulkAll (l ++ r) = Rows.uptoBulkAll l + Rows.uptoBulkAll r := by
  induction l with
  | nil => simp [Rows.uptoBulkAll]
  | cons x l ih => simp only [List.cons_append, Rows.uptoBulkAll, ih]; omega
theorem part_le {H : Type} {l : List (DataW H)} {i : Nat} {d : DataW H} (h : l[i]? = some d) : Rows.uptoBulk d ≤ Rows.uptoBulkAll l := by
  induction l generalizing i with
  | nil => simp at h
  | cons x r ih =>
    simp only [Rows.uptoBulkAll]
    cases i with
    | zero => simp at h; subst h; omega
    | succ i => have := ih (i := i) (by simpa using h); omega
theorem one_le {H : Type} (d : DataW H) : 1 ≤ Rows.uptoBulk d := by
  cases d with
  | lit l => cases l <;> simp [Rows.uptoBulk]
  | nil => simp [Rows.uptoBulk]
  | ptr d => simp [Rows.uptoBulk]
  | slice elems spare => simp [Rows.uptoBulk]
  | agg parts => simp [Rows.uptoBulk]
  | iface t d => simp [Rows.uptoBulk]
  | map entries => simp [Rows.uptoBulk]
  | held h => simp [Rows.uptoBulk]
theorem length_le {H : Type} (l : List (DataW H)) : l.length ≤ Rows.uptoBulkAll l := by
  induction l with
  | nil => simp [Rows.uptoBulkAll]
  | cons x r ih => have := one_le x; simp only [Rows.uptoBulkAll, List.length_cons]; omega

section
variable {P : Program} {t : TypeId}
theorem opens_int {k : IntKind} (ht : P.underlying t = some (.int k)) : Opens P t (Kd.int k) (fun _ => 1) (fun n => (Lit.int k n).wf = true) := by
  intro H enc W base spare held fuel cs x h _
  obtain ⟨n, rfl, _, hw⟩ := DataW.trod_int ht h
  exact ⟨n, rfl, hw, one_le _⟩
theorem opens_bool (ht : P.underlying t = some .bool) : Opens P t Kd.bool (fun _ => 1) (fun _ => True) := by
  intro H enc W base spare held fuel cs x h _
  obtain ⟨b, rfl, _⟩ := DataW.trod_bool ht h
  exact ⟨b, rfl, trivial, one_le _⟩
theorem opens_string (ht : P.underlying t = some .string) : Opens P t Kd.string (fun s => s.size + 1) (fun _ => True) := by
  intro H enc W base spare held fuel cs x h hw
  obtain ⟨s, rfl, rfl, _⟩ := DataW.trod_string ht h
  refine ⟨s, rfl, trivial, ?_⟩
  simp only [Rows.uptoBulk, Array.length_toList]
  exact Nat.le_refl _

/-- What lies in a row, one by one: a list of what each is. -/
theorem choose_list {α : Type} (n : Nat) (Q : Nat → α → Prop) (h : ∀ i, i < n → ∃ a, Q i a) : ∃ l : List α, l.length = n ∧ ∀ i a, l[i]? = some a → Q i a := by
  induction n with
  | zero => exact ⟨[], rfl, fun i a h => by simp at h⟩
  | succ n ih =>
    obtain ⟨l, hl, hq⟩ := ih (fun i hi => h i (by omega))
    obtain ⟨a, ha⟩ := h n (by omega)
    refine ⟨l ++ [a], by simp [hl], fun i b hb => ?_⟩
    rcases Nat.lt_or_ge i l.length with hi | hi
    · rw [List.getElem?_append_left hi] at hb
      exact hq i b hb
    · rw [List.getElem?_append_right hi] at hb
      have : i - l.length = 0 := by
        rcases Nat.eq_zero_or_pos (i - l.length) with h0 | h0
        · exact h0
        · rw [List.getElem?_eq_none (by simp; omega)] at hb; cases hb
      rw [this] at hb
      simp at hb
      subst hb
      have : i = n := by omega
      subst this
      exact ha

theorem sum_le {α H : Type} (m : α → Nat) : ∀ (l : List α) (es : List (DataW H)), l.length = es.length → (∀ (i : Nat) (a : α) (e : DataW H), l[i]? = some a → es[i]? = some e → m a ≤ Rows.uptoBulk e) → (l.map m).sum ≤ Rows.uptoBulkAll es
  | [], [], _, _ => by simp [Rows.uptoBulkAll]
  | a :: l, e :: es, hl, h => by
    have := sum_le m l es (by simpa using hl) (fun i a e ha he => h (i + 1) a e (by simpa using ha) (by simpa using he))
    have h0 := h 0 a e rfl rfl
    simp only [List.map_cons, List.sum_cons, Rows.uptoBulkAll]
    omega
  | [], _ :: _, hl, _ => by simp at hl
  | _ :: _, [], hl, _ => by simp at hl

theorem opens_slice {α : Type} {e : TypeId} {d : Kd α} {m : α → Nat} {ok : α → Prop} (ht : P.underlying t = some (.slice e)) (E : Opens P e d m ok) (hs : P.cellsOf e = d.sz) :
    Opens P t (Kd.slice e d) (fun xs => (xs.map m).sum + 1) (fun xs => ∀ a ∈ xs, ok a) := by
  intro H enc W base spare held fuel cs x h hw
  rcases DataW.trod_slice ht h with ⟨rfl, rfl⟩ | ⟨a, len, cap, elems, rest, n, _, rfl, rfl, hb, hl, hm, hlen, hel, _, _⟩
  · exact ⟨[], ⟨none, 0, rfl, Nat.le_refl _, rfl, by simp, fun hp => absurd hp (by simp)⟩, by simp, by simp [Rows.uptoBulk]⟩
  · simp only [Rows.uptoBulk] at hw
    have key : ∀ i, i < len → ∃ y : α, ((∃ c, c.length = d.sz ∧ d.K W y c ∧ ∀ j u, c[j]? = some u → W.cell? (a.add (i * d.sz + j)) = some u) ∧ ok y) ∧ ∀ e', (elems.map (·.1))[i]? = some e' → m y ≤ Rows.uptoBulk e' := by
      intro i hi
      have h1 := hel i hi
      have hi' : i < elems.length := by omega
      rw [List.getElem?_eq_getElem hi'] at h1
      obtain ⟨c, hc, htr⟩ := Option.bind_eq_some_iff.mp h1
      obtain ⟨_, hcl, hcell⟩ := World.cells?_some hc
      have hat : (elems.map (·.1))[i]? = some elems[i].1 := by rw [List.getElem?_map, List.getElem?_eq_getElem hi']; rfl
      obtain ⟨y, hK, hok, hmy⟩ := E htr (by have := part_le hat; omega)
      refine ⟨y, ⟨⟨c, by rw [hcl, hs], hK, fun j u hu => ?_⟩, hok⟩, fun e' he' => by rw [hat] at he'; cases he'; exact hmy⟩
      have hj : j < P.cellsOf e := by
        have := (List.getElem?_eq_some_iff.1 hu).1
        omega
      have := hcell j hj
      rw [hu, hs] at this
      rw [← this]
      congr 1
      unfold Addr.add
      by_cases h1 : i * d.sz = 0 <;> by_cases h2 : j = 0 <;> simp [h1, h2, Nat.add_assoc]
    obtain ⟨l, hll, hq⟩ := choose_list len _ key
    have hle := length_le (elems.map (·.1))
    rw [List.length_map] at hle
    refine ⟨l, ⟨some a, cap, by rw [hll], by omega, hll ▸ rfl, by omega, fun _ => ⟨a, rfl, fun j p hj => (hq j p hj).1.1⟩⟩, fun y hy => ?_, ?_⟩
    · obtain ⟨i, hi, rfl⟩ := List.getElem_of_mem hy
      exact (hq i _ (List.getElem?_eq_getElem hi)).1.2
    · have := sum_le m l (elems.map (·.1)) (by simp; omega) (fun i a e ha he => (hq i a ha).2 e he)
      simp only [Rows.uptoBulk]
      omega

def OpensF {α : Type} (P : Program) (fs : List Field) (o : Nat) (d : Kd α) (m : α → Nat) (ok : α → Prop) : Prop :=
  ∀ {H : Type} {enc : TypeId × Value → H} {W : World} {base : Nat} {spare : Nat → Bool} {held : Bool} {n : Nat} {cs : List Value} {xs : List (DataW H × List MemPlace)},
    xs.length = fs.length → (∀ (i : Nat) (f : Field), fs[i]? = some f → DataW.trod enc P W base spare held n f.type ((cs.drop f.offset).take (P.cellsOf f.type)) = xs[i]?) →
    Rows.uptoBulkAll (xs.map (·.1)) ≤ 1048576 → ∃ a, d.K W a ((cs.drop o).take d.sz) ∧ ok a ∧ m a ≤ Rows.uptoBulkAll (xs.map (·.1))

theorem opensF_one {α : Type} {f : Field} {o : Nat} {d : Kd α} {m : α → Nat} {ok : α → Prop} (ho : f.offset = o) (hs : P.cellsOf f.type = d.sz) (E : Opens P f.type d m ok) : OpensF P [f] o d m ok := by
  intro H enc W base spare held n cs xs hl ht hw
  match xs, hl with
  | [x], _ =>
    have h0 := ht 0 f rfl
    rw [ho, hs] at h0
    simp only [List.map_cons, List.map_nil, Rows.uptoBulkAll] at hw ⊢
    exact E h0 (by omega)

theorem opensF_cons {α β : Type} {f : Field} {fs : List Field} {o : Nat} {d : Kd α} {d2 : Kd β} {m : α → Nat} {m2 : β → Nat} {ok : α → Prop} {ok2 : β → Prop} (ho : f.offset = o) (hs : P.cellsOf f.type = d.sz) (E : Opens P f.type d m ok)
    (F : OpensF P fs (o + d.sz) d2 m2 ok2) : OpensF P (f :: fs) o (Kd.pair d d2) (fun p => m p.1 + m2 p.2) (fun p => ok p.1 ∧ ok2 p.2) := by
  intro H enc W base spare held n cs xs hl ht hw
  match xs, hl with
  | x :: xs, hl =>
    have h0 := ht 0 f rfl
    rw [ho, hs] at h0
    simp only [List.map_cons, Rows.uptoBulkAll] at hw ⊢
    obtain ⟨a, ha, oka, ma⟩ := E h0 (by omega)
    obtain ⟨b, hb, okb, mb⟩ := F (xs := xs) (by simpa using hl) (fun i g hg => by simpa using ht (i + 1) g (by simpa using hg)) (by omega)
    refine ⟨(a, b), ⟨_, _, ?_, ha, hb⟩, ⟨oka, okb⟩, by show m a + m2 b ≤ _; omega⟩
    show (cs.drop o).take (d.sz + d2.sz) = _
    rw [List.take_add, List.drop_drop]

theorem opens_struct {α β : Type} {fs : Array Field} {d : Kd α} {m : α → Nat} {ok : α → Prop} (ht : P.underlying t = some (.struct fs)) (F : OpensF P fs.toList 0 d m ok) (hs : P.cellsOf t = d.sz) (f : β → α) (g : α → β) (hg : ∀ a, f (g a) = a) :
    Opens P t (Kd.iso d f) (fun b => m (f b) + 1) (fun b => ok (f b)) := by
  intro H enc W base spare held fuel cs x h hw
  obtain ⟨xs, n, _, rfl, hl, hlen, hf⟩ := DataW.trod_struct ht h
  simp only [Rows.uptoBulk] at hw ⊢
  obtain ⟨a, ha, hok, hma⟩ := F (xs := xs) (by simpa using hlen) (fun i fl hfl => hf i fl (by simpa using hfl)) (by omega)
  rw [List.drop_zero, List.take_of_length_le (by omega)] at ha
  refine ⟨g a, ?_, ?_, ?_⟩
  · show d.K W (f (g a)) cs
    rw [hg]; exact ha
  · show ok (f (g a))
    rw [hg]; exact hok
  · show m (f (g a)) + 1 ≤ _
    rw [hg]; omega

/-- An argument, out of the row's premises. -/
theorem Opens.arg {α : Type} {d : Kd α} {m : α → Nat} {ok : α → Prop} (E : Opens P t d m ok) {H : Type} {enc : TypeId × Value → H} {W : World} {base : Nat} {spare : Nat → Bool} {held : Bool} {v : Value} {x : DataW H} {ps : List MemPlace}
    (hk : Rows.uptoBulk x ≤ 1048576) (h : DataW.Trod enc P W base spare held t v x ps) : ∃ a, d.K W a v.cells.toList ∧ ok a ∧ m a ≤ Rows.uptoBulk x := by
  obtain ⟨fuel, hf⟩ := h
  exact E hf hk
end
end Go.Proofs.Ytidijiijciokpaa.Open
