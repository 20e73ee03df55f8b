-- Written for this claim by a program of this session (wip/xprint.py), by means of the kit's print. Not trusted: Lean checks it.
import Derived.Test.YtjhijklgpgdlaaaGx0
namespace Go.Proofs.Ytjhijklgpgdlaaa.G
open Go.RowKit Go.Proofs.YtjhijklgpgdlaaaW.PrintWords Go.Proofs.YtjhijklgpgdlaaaW.PrintLast Go.Proofs.YtjhijklgpgdlaaaW.PrintMore
attribute [local go_sem] max2_int min2_int max_two min_two max_three min_three max_four min_four   -- for this text's walks alone
set_option linter.unusedVariables false
set_option linter.unusedSimpArgs false

/-! ### slices_Concat_int_int: function 55 -/
def slices_Concat_int_int.f (l0 : List (List Int)) : Option (List Int) := if l0.flatten.length ≤ 1099511627776 then some l0.flatten else none
theorem infoIc : (Try.prog.info? 3).map (fun i => (i.zero, i.size, i.bytes)) = some (some (.int .i64 0), 1, 8) := by kernel_rfl
/-- A row of zeros, told from its beginning on. -/
theorem own_cut {w : World} {base e : Nat} {xs : List Int} {ok : Nat → Prop} {g n c : Nat} (h : Kd.R (Kd.int .i64) e w base ok (.slice (some ⟨g, 0, none⟩) n c) xs) : Kd.R (Kd.int .i64) e w base ok (.slice (some ⟨g, 0, none⟩) 0 c) [] := by
  obtain ⟨h0, inner, ⟨hl, ho⟩, hr⟩ := h
  refine ⟨h0, [], ⟨by simp, ?_⟩, Reps.none _ _⟩
  rcases ho with ⟨hv, _⟩ | ⟨g', cap, cur, hv, hb, hh, hn, hm, hs, ht⟩
  · cases hv
  · cases hv
    exact .inr ⟨g, c, cur, rfl, hb, hh, Nat.zero_le _, hm, hs, by simp⟩
theorem zeros_cut {w : World} {base e : Nat} {v : Value} {n : Int} {ok : Nat → Prop} (h : Kd.R (Kd.int .i64) e w base ok v ([] ++ List.replicate n.toNat (0 : Int))) (hz : 0 < n) :
    ∃ g c, v = .slice (some ⟨g, 0, none⟩) n.toNat c ∧ Kd.R (Kd.int .i64) e w base ok (.slice (some ⟨g, 0, none⟩) 0 c) [] := by
  obtain ⟨g, c, ev, _⟩ := Kd.R_form (v := v) (xs := [] ++ List.replicate n.toNat (0 : Int)) h (by rw [List.nil_append, List.length_replicate]; omega)
  subst ev
  refine ⟨g, c, ?_, own_cut h⟩
  rw [List.nil_append, List.length_replicate]
set_option maxHeartbeats 1600000 in
theorem grow_walk (n : Int) (w : World) (h0 : 0 ≤ n) (h1 : n ≤ 1099511627776) :
    Calls Try.prog 62 #[.slice none 0 0, .int .i64 n] w fun e w' => ∃ v0_ : Value, e = .returned (v0_) ∧ Kd.R (Kd.int .i64) 3 w' w.heap.size (fun _ => True) v0_ [] ∧ Below w.heap.size w w' := by
  have b0 : decide (n < 0) = false := decide_eq_false (by omega)
  by_cases hz : 0 < n
  · have b1 : decide (0 < n) = true := decide_eq_true hz
    go_enter Try.func62, Try.ntmps62
    go_wp2_with ((with_reducible refine gate_dst (N := 22) rfl ?_); refine Kd.R_append_zeros (Kd.int .i64) (w0 := w) w.heap.size rfl (.tmp 20) (.tmp 21) 30 3 3 (.int .i64 0) 8 rfl Try.underlying30 Try.underlying3 infoIc rfl (by decide) (by omega) (.slice none 0 0) ([] : List Int) 0 n (fun _ => True) rfl rfl ?aZ (fun _ _ => trivial) ?aO h0 ?aB ?aS ?aL ?_)
    case aZ => exact rfl
    case aO => exact Kd.R_nil _ _ _ _ _
    case aB => exact Below.refl _ _
    case aS => exact Nat.le_refl _
    case aL => show (0 + n.toNat) * 8 ≤ 140737488355328; omega
    intro v1 w1 ho1 hb1 hg1 hat1
    obtain ⟨g, c, ev, hR⟩ := zeros_cut ho1 hz
    subst ev
    have n0 := Aside0.mk hR
    have n1 := Aside0.mk hb1
    clear ho1 hb1 hg1 hat1 hR
    go_wp2
    go_ret
    exact ⟨_, rfl, n0.out, n1.out⟩
  · have hn : n = 0 := by omega
    subst hn
    go_enter Try.func62, Try.ntmps62
    go_wp2
    go_ret
    exact ⟨_, rfl, Kd.R_nil _ _ _ _ _, Below.refl _ _⟩
theorem slice_at {w : World} {A : Option Addr} {l : List (List Int)} (h : Kd.C (Kd.slice 3 (Kd.int .i64)) w A l.length l) (k : Nat) (hk : k < l.length) :
    ∃ ad B c, A = some ad ∧ w.cell? (ad.add k) = some (.slice B l[k].length c) ∧ l[k].length ≤ c ∧ Kd.C (Kd.int .i64) w B l[k].length l[k] := by
  obtain ⟨ad, e, hcell⟩ := h.2.2 (by omega)
  obtain ⟨cs, hcl, ⟨B, c, hcs, hle, hC⟩, hcc⟩ := hcell k l[k] (List.getElem?_eq_getElem hk)
  subst hcs
  have := hcc 0 _ rfl
  refine ⟨ad, B, c, e, ?_, hle, hC⟩
  simpa [show (Kd.slice 3 (Kd.int .i64)).sz = 1 from rfl] using this
theorem take_sum (l : List (List Int)) (k : Nat) (hk : k < l.length) : (l.take (k + 1)).flatten.length = (l.take k).flatten.length + l[k].length := by
  rw [List.take_succ_eq_append_getElem hk, List.flatten_append, List.length_append]; simp
theorem take_flat_le (l : List (List Int)) (k : Nat) : (l.take k).flatten.length ≤ l.flatten.length := by
  have := congrArg (fun x => x.flatten.length) (List.take_append_drop k l)
  simp only [List.flatten_append, List.length_append] at this
  omega
set_option maxHeartbeats 3200000 in
theorem slices_Concat_int_int.calls (A0 : Option Addr) (c0 : Nat) (l0 : List (List Int)) (r : List Int) (w : World) (hr0 : Kd.C (Kd.slice 3 (Kd.int .i64)) w A0 l0.length l0) (hc0 : l0.length ≤ c0) (h : slices_Concat_int_int.f l0 = some r) :
    Calls Try.prog 55 #[.slice A0 l0.length c0] w fun e w' => ∃ v0_ : Value, e = .returned (v0_) ∧ Kd.R (Kd.int .i64) 3 w' w.heap.size (fun _ => True) v0_ r ∧ Below w.heap.size w w' := by
  unfold slices_Concat_int_int.f at h
  split at h
  · rename_i hn
    obtain rfl := Option.some.inj h
    clear h
    have HR0 := Aside0.mk hr0
    have HC0 := Aside0.mk hc0
    have hmx := Kd.C_max hr0
    clear hr0 hc0
    obtain ⟨S, hS⟩ : ∃ S : Nat → Nat, ∀ k, S k = (l0.take k).flatten.length := ⟨_, fun _ => rfl⟩
    have HT := Aside0.mk (show ∀ k, S k ≤ 1099511627776 from fun k => by rw [hS]; exact Nat.le_trans (take_flat_le l0 k) hn)
    have HS := Aside0.mk (show ∀ k (hk : k < l0.length), S (k + 1) = S k + l0[k].length from fun k hk => by rw [hS, hS]; exact take_sum l0 k hk)
    have S0 : S 0 = 0 := by rw [hS]; rfl
    have HL := Aside0.mk (show S l0.length = l0.flatten.length from by rw [hS, List.take_length])
    have HN := Aside0.mk hn
    clear hn hS
    go_enter Try.func55, Try.ntmps55
    go_wp2
    go_loopw [11, 3] (fun v u wr => ∃ k : Nat, k ≤ l0.length ∧ v = .int .i64 k ∧ u = .int .i64 (S k : Int) ∧ wr = w) (fun v _ _ => l0.length - (intOf v).toNat)
    case atStart => exact ⟨0, by omega, rfl, by rw [S0]; rfl, rfl⟩
    case round =>
      obtain ⟨k, hk, rfl, rfl, hwr⟩ := hrel
      have hwr' := hwr.symm
      clear hwr
      subst hwr'
      clear S0
      by_cases hlt : k < l0.length
      · have b1 : decide (k < l0.length) = true := decide_eq_true hlt
        have b1' : decide ((k : Int) < (l0.length : Int)) = true := decide_eq_true (by omega)
        obtain ⟨ad, B, c, eA, hcell, hle, hC⟩ := slice_at HR0.out k hlt
        subst eA
        have ht1 := HT.out k
        have ht2 := HT.out (k + 1)
        have hs := HS.out k hlt
        have hfin := Aside0.mk hs
        obtain ⟨n, hnn⟩ : ∃ n, n = l0[k].length := ⟨_, rfl⟩
        rw [← hnn] at hcell hs hfin
        obtain ⟨s, hss⟩ : ∃ s, s = S k := ⟨_, rfl⟩
        rw [← hss] at ht1 hs hfin ⊢
        have b2 : decide ((s : Int) + (n : Int) < 0) = false := decide_eq_false (by omega)
        have hw1 : (s : Int) + n ≤ 9223372036854775807 := by omega
        clear hle hC hnn hss hs ht2 HT HS HL
        go_wp2
        go_roundw
        case rel => exact ⟨k + 1, by omega, by go_num, by rw [hfin.out]; go_num, by first | rfl | trivial⟩
        case measure => simp [intOf]; omega
      · have hkk : k = l0.length := by omega
        subst hkk
        have b1 : decide (l0.length < l0.length) = false := decide_eq_false (by omega)
        have b1' : decide ((l0.length : Int) < (l0.length : Int)) = false := decide_eq_false (by omega)
        have hq1 := HT.out l0.length
        obtain ⟨q, hq⟩ : ∃ q, q = S l0.length := ⟨_, rfl⟩
        rw [← hq] at hq1 ⊢
        clear hq
        go_wp2_with (go_at_call 62; refine (grow_walk (q : Int) _ (by omega) (by omega)).mono ?_; rintro e w1 ⟨v1, rfl, ho1, hb1⟩; have n0 := Aside0.mk ho1; have n1 := Aside0.mk hb1; clear ho1 hb1)
        go_loopw [27, 6] (fun v u wr => ∃ k : Nat, k ≤ l0.length ∧ v = .int .i64 k ∧ Aside0 (Kd.R (Kd.int .i64) 3 wr w.heap.size (fun _ => True) u ((l0.take k).flatten)) ∧ Aside0 (Below w.heap.size w wr)) (fun v _ _ => l0.length - (intOf v).toNat)
        case atStart => exact ⟨0, by omega, rfl, n0, n1⟩
        case round =>
          obtain ⟨k, hk, rfl, HO, HB⟩ := hrel
          clear n0 n1 b1 b1' hlt
          by_cases hlt : k < l0.length
          · have b1 : decide (k < l0.length) = true := decide_eq_true hlt
            have b1' : decide ((k : Int) < (l0.length : Int)) = true := decide_eq_true (by omega)
            obtain ⟨ad, B, c, eA, hcell, hle, hC⟩ := slice_at HR0.out k hlt
            subst eA
            replace hcell := (HB.out.cell (World.block_lt_of_cell? w _ hcell)).trans hcell
            have hC' := Aside0.mk (Kd.C_below hC HB.out)
            have HLE := Aside0.mk (show (l0.take k).flatten.length + l0[k].length ≤ 1099511627776 from by rw [← take_sum l0 k hlt]; exact Nat.le_trans (take_flat_le l0 _) HN.out)
            have HF := Aside0.mk (show (l0.take (k + 1)).flatten = (l0.take k).flatten ++ l0[k] from by rw [List.take_succ_eq_append_getElem hlt, List.flatten_append]; simp)
            obtain ⟨xs, hxs⟩ : ∃ xs, xs = l0[k] := ⟨_, rfl⟩
            obtain ⟨os, hos⟩ : ∃ os, os = (l0.take k).flatten := ⟨_, rfl⟩
            rw [← hxs] at hcell HF hC' HLE
            rw [← hos] at HF HO HLE
            clear hle hC hxs hos HT HS HL HN
            obtain ⟨Ao, co, eo⟩ := Kd.R_slice HO.out
            subst eo
            go_wp2_with ((with_reducible refine gate_dst (N := 33) rfl ?_); refine Kd.R_append_rows (Kd.int .i64) (w0 := w) w.heap.size rfl (.tmp 31) (.tmp 32) 30 3 (.int .i64 0) 8 rfl Try.underlying30 infoIc rfl (by decide) (by omega) (.slice Ao os.length co) os xs _ _ _ (fun _ => True) (fun _ => False) rfl rfl ?aO ?aR (fun _ _ h => h) (fun _ hk => hk.elim) (fun _ _ => trivial) ?aB ?aS ?aL ?_; (case aO => exact HO.out); (case aR => exact hC'.out); (case aB => exact HB.out); (case aS => exact below_size HB.out); (case aL => show (os.length + xs.length) * 8 ≤ 140737488355328; have := HLE.out; omega); intro v2 w2 ho2 hb2 hg2 hat2; have m0 := Aside0.mk (show Kd.R (Kd.int .i64) 3 w2 w.heap.size (fun _ => True) v2 ((l0.take (k + 1)).flatten) from by rw [HF.out]; exact ho2); have m1 := Aside0.mk hb2; clear ho2 hb2 hg2 hat2)
            go_roundw
            case rel => exact ⟨k + 1, by omega, by go_num, m0, m1⟩
            case measure => simp [intOf]; omega
          · have hkk : k = l0.length := by omega
            subst hkk
            have b1 : decide (l0.length < l0.length) = false := decide_eq_false (by omega)
            have b1' : decide ((l0.length : Int) < (l0.length : Int)) = false := decide_eq_false (by omega)
            have HO' := Aside0.mk (show Kd.R (Kd.int .i64) 3 wr w.heap.size (fun _ => True) _ l0.flatten from by have := HO.out; rw [List.take_length] at this; exact this)
            clear HO
            go_wp2
            go_ret
            exact ⟨_, rfl, HO'.out, HB.out⟩
  · cases h

end Go.Proofs.Ytjhijklgpgdlaaa.G
