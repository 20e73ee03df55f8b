-- Written for this claim by a program of this session (wip/xprint.py), by means of the kit's print. Not trusted: Lean checks it.
import Derived.Test.YtcpdnoaebbbgcaaGx0
namespace Go.Proofs.Ytcpdnoaebbbgcaa.G
open Go.RowKit Go.Proofs.YtcpdnoaebbbgcaaW.PrintWords Go.Proofs.YtcpdnoaebbbgcaaW.PrintLast Go.Proofs.YtcpdnoaebbbgcaaW.PrintMore
attribute [local go_sem] max2_int min2_int max_two min_two max_three min_three max_four min_four   -- for this text's walks alone
set_option linter.unusedVariables false
set_option linter.unusedSimpArgs false

/-! ### hawserref01_Copy: function 27 -/
open Go.Proofs.Ytcpdnoaebbbgcaa.Blocks
def hawserref01_Copy.f (l0 : List Int) : Option (List Int) := if l0.length ≤ 1099511627776 ∧ ∀ x ∈ l0, 0 ≤ x ∧ x ≤ 255 then some l0 else none
/-- What a conversion of a string makes: a row whose cells behind the bytes may be written; a mark lies behind its end. -/
def lebCp (w w' : World) (v : Value) (l : List Int) : Prop := ∃ (cap z : Nat) (cur : Array Value), v = .slice (some ⟨w.heap.size, 0, none⟩) l.length cap ∧ w'.heap[w.heap.size]? = some (.cells cur 5 (cap, z)) ∧ cur.size = cap ∧ cur.toList.take l.length = nums .u8 l ∧ l.length ≤ cap
theorem lebC_cells {W : World} {A : Option Addr} {g : Nat} {l : List Int} (hl : l.length ≤ 9223372036854775807) (h : ∀ j x, l[j]? = some x → W.cell? ⟨g, j, none⟩ = some (.int .u8 x)) : Kd.C (Kd.int .u8) W (some ⟨g, 0, none⟩) l.length l := by
  refine ⟨rfl, hl, fun _ => ⟨_, rfl, fun j p hj => ⟨[.int .u8 p], rfl, rfl, fun i u hu => ?_⟩⟩⟩
  have hi : i = 0 := by
    rcases i with _ | i
    · rfl
    · simp at hu
  subst hi
  have hu : Value.int .u8 p = u := by simpa using hu
  subst hu
  have : (⟨g, 0, none⟩ : Addr).add (j * (Kd.int .u8).sz + 0) = ⟨g, j, none⟩ := by
    rw [show j * (Kd.int .u8).sz + 0 = j from Nat.mul_one j]
    unfold Addr.add; split <;> simp_all
  rw [this]
  exact h j p hj
theorem lebC_row {W : World} {g : Nat} {cur : Array Value} {e : TypeId} {fz : Nat × Nat} {l : List Int} (hb : W.heap[g]? = some (.cells cur e fz)) (ht : cur.toList.take l.length = nums .u8 l) : ∀ j x, l[j]? = some x → W.cell? ⟨g, j, none⟩ = some (.int .u8 x) := by
  intro j x hj
  have hjl := (List.getElem?_eq_some_iff.1 hj).1
  have h2 : cur.toList[j]? = some (.int .u8 x) := by
    have h3 := congrArg (fun q => q[j]?) ht
    simp only [List.getElem?_take, if_pos hjl, nums, List.getElem?_map, hj] at h3
    simpa using h3
  simp only [World.cell?, hb]
  simpa using h2
theorem lebV_cells {W : World} {g c base : Nat} {ok : Nat → Prop} {l : List Int} (hl : l.length ≤ 9223372036854775807) (hc : l.length ≤ c) (hok : ok g) (hg : g < W.heap.size) (h : ∀ j x, l[j]? = some x → W.cell? ⟨g, j, none⟩ = some (.int .u8 x)) :
    Kd.V (Kd.int .u8) 5 W base ok (.slice (some ⟨g, 0, none⟩) l.length c) l :=
  ⟨_, c, rfl, hc, fun W' hW' => lebC_cells (A := none) hl (fun j x hj => (World.cell?_of_block (hW' g hok hg)).trans (h j x hj))⟩
theorem lebB_below {g N : Nat} (hg : N ≤ g) : ∀ (vs : List Value) (o : Nat) (W : World), Below N W (W.setCells g o vs)
  | [], _, W => Below.refl _ _
  | v :: r, o, W => ((Below.refl N W).setCell (p := ⟨g, o, none⟩) hg v).trans (lebB_below hg r (o + 1) _)
theorem lebB_run {P : Program} {W0 W : World} (t ty : TypeId) (ht : P.underlying t = some (.slice 5)) (hinfo : (P.info? 5).map (fun i => (i.zero, i.size, i.bytes)) = some (some (.int .u8 0), 1, 1))
    (v : Value) (l ys : List Int) (A : Option Addr) (c : Nat) (hcp : lebCp W0 W v l) (hy : Kd.C (Kd.int .u8) W A ys.length ys) (hlen : l.length + ys.length ≤ 140737488355328) :
    ∃ v1 w1, (Builtin.append_ #[t, t] ty #[v, .slice A ys.length c]).run P W = .ok v1 w1 ∧ Kd.V (Kd.int .u8) 5 w1 0 (fun k => W0.heap.size ≤ k) v1 (l ++ ys) ∧ Below W0.heap.size W w1 := by
  obtain ⟨i0, hi, hzz⟩ := Option.map_eq_some_iff.1 hinfo
  simp only [Prod.mk.injEq] at hzz
  obtain ⟨hz0, hz1, hz2⟩ := hzz
  obtain ⟨cap, z, cur, rfl, hb, hs, htk, hcap⟩ := hcp
  have hlt : W0.heap.size < W.heap.size := (Array.getElem?_eq_some_iff.1 hb).1
  have hrow := lebC_row hb htk
  have hcell : ∀ j, W.cell? ⟨W0.heap.size, j, none⟩ = cur[j]? := fun j => by simp [World.cell?, hb]
  have hfz : ∀ j, j < cap → W.frozen? ⟨W0.heap.size, j, none⟩ = false := fun j hj => by
    simp only [World.frozen?, hb]
    simp; omega
  by_cases hm : ys = []
  · subst hm
    have hsrc : Src P i0.size t (.slice A 0 c) 0 [] W := by
      cases A with
      | none => exact Src.ofNil W ht c
      | some a => exact Src.ofSlice W ht a 0 c [] (by simp) (by simp) (by simp)
    refine ⟨_, _, run_append_nothing W t t ty 5 i0 ht hi _ _ _ hcap _ hsrc, ?_, Below.refl _ _⟩
    rw [List.append_nil]
    exact lebV_cells (by omega) hcap (Nat.le_refl _) hlt hrow
  · have hp : 0 < ys.length := List.length_pos_iff.2 hm
    obtain ⟨ad, rfl, hnews⟩ := cells_of_C hy hp
    have hnl : (nums .u8 ys).length = ys.length * i0.size := by rw [nums_length, hz1, Nat.mul_one]
    by_cases hroom : l.length + ys.length ≤ cap
    · have hr := run_append_room_cells (P := P) W t ty 5 i0 ht hi W0.heap.size 0 l.length cap ad ys.length c (nums .u8 ys) hnl hnews (nums_one _ _) hroom
        (fun j hj => by rw [hz1, Nat.mul_one, Nat.zero_add, hcell]; rw [nums_length] at hj; rw [Array.getElem?_eq_getElem (by omega)]; rfl)
        (fun j hj => by rw [hz1, Nat.mul_one, Nat.zero_add]; rw [nums_length] at hj; exact hfz _ (by omega))
      refine ⟨_, _, hr, ?_, lebB_below (Nat.le_refl _) _ _ _⟩
      rw [hz1, Nat.mul_one, Nat.zero_add]
      rw [← List.length_append]
      refine lebV_cells (by rw [List.length_append]; omega) (by rw [List.length_append]; omega) (Nat.le_refl _) (Nat.lt_of_lt_of_le hlt (lebB_below (N := 0) (Nat.zero_le _) _ _ _).size) ?_
      intro j x hj
      by_cases hjl : j < l.length
      · rw [List.getElem?_append_left hjl] at hj
        rw [World.cell?_setCells_out _ _ _ _ _ (fun _ _ => Or.inl hjl)]
        exact hrow j x hj
      · rw [List.getElem?_append_right (by omega)] at hj
        have hj2 := (List.getElem?_eq_some_iff.1 hj).1
        obtain ⟨q, rfl⟩ : ∃ q, j = l.length + q := ⟨j - l.length, by omega⟩
        rw [Nat.add_sub_cancel_left] at hj hj2
        rw [World.cell?_setCells_in _ _ _ _ (fun i hi => by rw [hcell]; rw [nums_length] at hi; rw [Array.getElem?_eq_getElem (by omega)]; rfl) q (by rw [nums_length]; exact hj2)]
        simp [nums, (List.getElem?_eq_some_iff.1 hj).2]
    · obtain ⟨v1, w1, hr, hown, hg⟩ := run_append_arg_grows (P := P) W t ty 5 i0 (.int .u8 0) 1 1 ht hi hz0 hz1 hz2 rfl (by decide) ⟨W0.heap.size, 0, none⟩ l.length cap (nums .u8 l) (by rw [nums_length, Nat.mul_one])
        (fun j u hj => by
          simp only [nums, List.getElem?_map, Option.map_eq_some_iff] at hj
          obtain ⟨x, hx, rfl⟩ := hj
          rw [Addr.add_lit, Nat.zero_add]
          exact hrow j x hx) ad ys.length c (nums .u8 ys) (by rw [nums_length, Nat.mul_one]) hnews (by omega) (by unfold maxLen; omega) (by omega)
      refine ⟨v1, w1, hr, ?_, ⟨hg.os, hg.tape, hg.output, hg.size, fun k hk => hg.block k (by omega) (by simp)⟩⟩
      rcases hown.2 with ⟨_, h0⟩ | ⟨g, cap1, cur1, rfl, hbg, hgg, hn1, _, _, htk1⟩
      · omega
      · rw [← nums_append, Nat.mul_one, ← List.length_append] at htk1
        rw [← List.length_append]
        exact lebV_cells (by rw [List.length_append]; omega) (by rw [List.length_append]; exact hn1) (Nat.le_trans (Nat.le_of_lt hlt) hbg) (Array.getElem?_eq_some_iff.1 hgg).1 (lebC_row hgg htk1)
theorem lebB_append {P : Program} {ops : Array Oper} {rest : List Oper} {o : Oper} {a : Act} {Q : Exit → Act → World → Prop} {w0 W0 W : World} (hgd : o.guard = none) (s x : Operand) (t : TypeId)
    (ho : o.op = .call { callee := .builtin .append, args := #[s, x], argTypes := #[t, t] }) (ht : P.underlying t = some (.slice 5)) (hinfo : (P.info? 5).map (fun i => (i.zero, i.size, i.bytes)) = some (some (.int .u8 0), 1, 1))
    (v : Value) (l ys : List Int) (A : Option Addr) (m c : Nat) (hs : a.eval s = v) (hx : a.eval x = .slice A m c) (hcp : lebCp W0 W v l) (hy : Kd.C (Kd.int .u8) W A m ys) (hlen : l.length + ys.length < 140737488355328)
    (HB : Below w0.heap.size w0 W) (hbase : w0.heap.size ≤ W0.heap.size)
    (h : ∀ v1 w1, Kd.V (Kd.int .u8) 5 w1 0 (fun _ => True) v1 (l ++ ys) → Below w0.heap.size w0 w1 → wpList P ops Q rest (a.put o.dst v1) w1) : wpList P ops Q (o :: rest) a W := by
  refine wpList_plain hgd fun K hK => ?_
  obtain rfl : ys.length = m := hy.1
  obtain ⟨v1, w1, hr, h1, h2⟩ := lebB_run t o.type ht hinfo v l ys A c hcp hy (by omega)
  unfold Oper.wp execOp
  simp only [ho, resolve, invoke, builtin, Sem.run_bind, Sem.run_pure, Result.andThen_ok, List.map_toArray, List.map_cons, List.map_nil, hs, hx, hr]
  exact hK _ _ (h v1 w1 (Kd.V_mono h1 (fun _ _ => trivial)) (HB.trans (h2.mono hbase)))
set_option maxHeartbeats 1600000 in
theorem hawserref01_Copy.calls (A0 : Option Addr) (c0 : Nat) (l0 : List Int) (r : List Int) (w : World) (hr0 : Kd.C (Kd.int .u8) w A0 l0.length l0) (hc0 : l0.length ≤ c0) (h : hawserref01_Copy.f l0 = some r) :
    Calls Try.prog 27 #[.slice A0 l0.length c0] w fun e w' => ∃ v0_ : Value, e = .returned (v0_) ∧ lebCp w w' v0_ r ∧ Below w.heap.size w w' := by
  unfold hawserref01_Copy.f at h
  split at h
  · rename_i hn
    obtain rfl := Option.some.inj h
    clear h
    have HN := Aside0.mk hn
    have HC0 := Aside0.mk hc0
    have hcv := Kd.C_string (P := Try.prog) (A := A0) (c := c0) Try.underlying32 Try.underlying5 Try.underlying9 hr0
    have hcs := fun (W : World) (s : ByteArray) => Lib.run_convert_string_bytes (P := Try.prog) W 9 32 5 s Try.underlying9 Try.underlying32 Try.underlying5
    clear hr0 hc0 hn
    go_enter Try.func27, Try.ntmps27
    go_wp2
    go_ret
    have hsz : (strOfNums l0).size = l0.length := by rw [show (strOfNums l0).size = (strOfNums l0).data.toList.length from rfl, strOfNums_data]; simp
    have hge : l0.length ≤ grownCap w l0.length 0 5 := grownCap_ge _ _ _ _
    have hbs : (Lib.bytesCells w 5 (strOfNums l0)).size = grownCap w l0.length 0 5 := by
      simp only [Lib.bytesCells, Array.size_append, Array.size_map, Array.size_replicate, hsz]
      rw [show (strOfNums l0).data.size = l0.length from hsz]
      omega
    refine ⟨_, rfl, ⟨_, _, _, by rw [hsz]; rfl, by rw [Lib.bytesWorld_at_new, hbs], hbs, ?_, hge⟩, ?_⟩
    · simp only [Lib.bytesCells, Array.toList_append, Array.toList_map, strOfNums_data]
      rw [List.take_append_of_le_length (by simp), List.take_of_length_le (by simp)]
      simp only [nums, List.map_map]
      refine List.map_congr_left fun x hx => ?_
      have := HN.out.2 x hx
      simp
      omega
    · exact ⟨rfl, rfl, rfl, by rw [Lib.bytesWorld_size]; omega, fun k hk => Lib.bytesWorld_at_old w _ _ k hk⟩
  · cases h

end Go.Proofs.Ytcpdnoaebbbgcaa.G
