import Derived.Test.YtidijiijciokpaaK3
import Derived.Test.YtidijiijciokpaaHS
import Derived.Test.YtidijiijciokpaaUx0
import Derived.Maps.OwnOps
import Derived.WideMake
import Derived.Laws.IdiomRangeMap
import Derived.Maps.AppendAt
import Derived.Deep.RegionLaw
import Derived.ArgAppend
import Derived.Maps.RangeRun
import Derived.Deep.Upon
import Derived.Deep.QuietTactic
import Derived.BigQuiet
import Derived.Deep.RegionHeld3
import Derived.Deep.DeepCutAuto
import Derived.Deep.CutBlock
import Derived.Laws.EntriesVeiled
import Derived.StillTailTactics
import Derived.Laws.Tables
import Derived.Laws.CopyOwn
import Derived.IntWalk
import Derived.Test.YtidijiijciokpaaBlocks
import Derived.Laws.CopyOwn
import Derived.Laws.Tables
import Derived.Outline
namespace Go.Proofs.Ytidijiijciokpaa.G
open Go.RowKit Go.Proofs.YtidijiijciokpaaW.PrintWords Go.Proofs.YtidijiijciokpaaW.PrintLast Go.Proofs.YtidijiijciokpaaW.PrintMore
set_option linter.unusedVariables false
set_option linter.unusedSimpArgs false
namespace Gd
open Go.Proofs.Ytidijiijciokpaa.Blocks Frm
set_option maxRecDepth 100000
theorem lt_pos {a b : ByteArray} (h : lt a b) : 0 < b.size := by
  rcases Nat.eq_zero_or_pos b.size with q | q
  · exfalso
    have : key b = [] := List.eq_nil_of_length_eq_zero (by rw [key, size_list]; exact q)
    unfold lt at h
    rw [this] at h
    exact absurd h (List.not_lt_nil _)
  · exact q
theorem len_taken1 : ∀ {f : Fs}, (∀ q ∈ f, 0 < q.1.size) → f.length ≤ taken f
  | [], _ => Nat.zero_le _
  | p :: f, h => by
    have h1 := len_taken1 (f := f) fun q hq => h q (.tail _ hq)
    have h2 := h p (.head _)
    rw [taken_cons, List.length_cons]
    omega
theorem len_taken {f : Fs} (h : Srt f) : f.length ≤ taken f + 1 := by
  cases f with
  | nil => exact Nat.zero_le _
  | cons p f =>
    have h1 := len_taken1 (f := f) fun q hq => lt_pos (h.head q hq)
    rw [taken_cons, List.length_cons]
    omega
abbrev anyV : Value → Option (DataW Unit × List MemPlace) := fun _ => some (.nil, [])
theorem keyOf_str (s : ByteArray) (h : s.size ≤ maxLen) : keyOf Try.prog 9 (.string s) = some (.string s.data.toList) := by
  simp [keyOf, mapKey, Try.underlying9, h]
theorem rg_ent (r : Rn) (h : r.n.size ≤ maxLen) : WideElems.rg Try.prog 9 anyV (ent r) = (.string (key r.n), .nil) := WideElems.rg_of (WideElems.rd_mk (R := anyV) (val := r.v) (yv := (.nil, [])) (born := r.b) (keyOf_str r.n h) rfl)
theorem Fr0.owns {W : World} {R : Nat → Prop} {mp clock : Nat} {rows : List Rn} {fs : Fs} (h : Fr0 W R mp rows clock fs) (hl : taken fs ≤ 1099511627776) : ∃ D0 : DataW Unit, W.ownsMap Try.prog 9 anyV mp fs.length D0 ∧ (Go.strKeys D0).Perm (fs.map fun p => key p.1) ∧ Maps.size D0 = fs.length := by
  have hlen : rows.length = fs.length := by rw [← h.perm.length_eq, List.length_map]
  have hfl := len_taken h.srt
  have hn : ∀ r ∈ rows, r.n.size ≤ maxLen := fun r hr => by
    have h1 := taken_mem (h.perm.subset (List.mem_map_of_mem hr))
    have h2 : (nd r).1.size = r.n.size := rfl
    simp only [maxLen]
    omega
  have hst : MapKept.Stamped (rows.map ent).toArray clock := by
    refine (MapKept.stamped_iff _ _).2 ⟨?_, ?_, ?_⟩
    · intro x hx
      obtain ⟨r, hr, rfl⟩ := List.mem_map.1 (by simpa using hx)
      exact h.old r hr
    · have : (rows.map ent).toArray.toList.map (·.born) = rows.map (·.b) := by simp [ent, Function.comp_def]
      rw [this]
      exact h.born
    · have h1 := (h.perm.pairwise_iff fun h => Ne.symm h).2 h.srt.nodup
      rw [List.pairwise_map] at h1
      show ((rows.map ent).toArray.toList).Pairwise _
      rw [List.toList_toArray, List.pairwise_map]
      exact h1.imp fun hq e => hq (by injection e)
  refine ⟨_, ⟨(rows.map ent).toArray, clock, h.blk, ⟨by simp [maxLen]; omega, hst, ?_⟩, by simp [hlen], rfl⟩, ?_, ?_⟩
  · intro x hx
    obtain ⟨r, hr, rfl⟩ := List.mem_map.1 (by simpa using hx)
    exact ⟨_, WideElems.rd_mk (R := anyV) (val := r.v) (yv := (.nil, [])) (born := r.b) (keyOf_str r.n (hn r hr)) rfl⟩
  · show List.Perm ((List.foldr DataW.insert [] _).map fun p => Go.strOf p.1) _
    refine ((Go.WideShapes.sorted_perm _).map _).trans ?_
    rw [List.toList_toArray, List.map_map, List.map_map]
    have : rows.map ((fun p : Lit × DataW Unit => Go.strOf p.1) ∘ WideElems.rg Try.prog 9 anyV ∘ ent) = (rows.map nd).map fun p => key p.1 := by
      rw [List.map_map]
      refine List.map_congr_left fun r hr => ?_
      show Go.strOf (WideElems.rg _ _ _ (ent r)).1 = _
      rw [rg_ent r (hn r hr)]
      rfl
    exact (List.Perm.of_eq this).trans (h.perm.map _)
  · show (List.foldr DataW.insert [] _).length = _
    rw [length_sorted]
    simp [hlen]
theorem sort_keys {fs : Fs} {ss : List (List UInt8)} (h : Srt fs) (hp : ss.Perm (fs.map fun p => key p.1)) : (ss.mergeSort (fun x y => decide (x ≤ y))).map Go.Proofs.encStr = fs.map fun p => Value.string p.1 := by
  have h1 : ss.mergeSort (fun x y => decide (x ≤ y)) = (fs.map fun p => key p.1).mergeSort (fun x y => decide (x ≤ y)) := Go.mergeSort_of_perm hp
  have h2 : (fs.map fun p => key p.1).mergeSort (fun x y => decide (x ≤ y)) = fs.map fun p => key p.1 := by
    refine List.mergeSort_of_pairwise ?_
    rw [List.pairwise_map]
    exact h.imp fun hq => decide_eq_true (List.le_of_lt hq)
  rw [h1, h2, List.map_map]
  exact List.map_congr_left fun p _ => rfl
theorem keys_c (mb : Option Nat) (W : World) : Calls Try.prog 64 #[.map mb] W fun e w' => e = .returned (.func (.func 96) #[] #[.pointer (some ⟨W.heap.size, 0, none⟩)]) ∧ w' = W.alloc (.cells #[.map mb] 87) := (callsIn_wide (n := 5)).1 (Srt.srt_maps_Keys mb W)
/-- Names, rising, in new memory. -/
theorem sorted_c {W : World} {R : Nat → Prop} {mp : Nat} {fs : Fs} (h : Fm W R mp fs) (hl : taken fs ≤ 1099511627776) : Calls Try.prog 63 #[.func (.func 96) #[] #[.pointer (some ⟨W.heap.size, 0, none⟩)]] (W.alloc (.cells #[.map (some mp)] 87)) fun e w' => ∃ v, e = .returned v ∧ w'.ownsRow (W.alloc (.cells #[.map (some mp)] 87)).heap.size 9 1 v fs.length (fs.map fun p => Value.string p.1) ∧ (v = .slice none 0 0 ↔ fs = []) ∧ Below (W.alloc (.cells #[.map (some mp)] 87)).heap.size (W.alloc (.cells #[.map (some mp)] 87)) w' := by
  obtain ⟨rows, clock, h⟩ := h
  obtain ⟨D0, hown, hk, hsz⟩ := h.owns hl
  have hfl := len_taken h.srt
  refine ((callsIn_wide (n := 5)).1 (Srt.srt_sorted_keys mp fs.length D0 anyV W hown (by rw [hsz]; simp only [maxLen]; omega) (by rw [hsz]; omega))).mono ?_
  rintro e w' ⟨v, ss, rfl, hp, hrow, hnil, hb⟩
  have hlen : ss.length = fs.length := by rw [hp.length_eq, hk.length_eq, List.length_map]
  rw [sort_keys h.srt (hp.trans hk), hlen] at hrow
  refine ⟨v, rfl, hrow, hnil.trans ?_, hb⟩
  constructor
  · intro e
    rw [e] at hlen
    exact List.eq_nil_of_length_eq_zero hlen.symm
  · intro e
    rw [e] at hlen
    exact List.eq_nil_of_length_eq_zero hlen
section
variable {W : World} {S : Nat → Prop} {dp : Nat} {d : Ab}
theorem names_calls (h : Dk W S dp d) : Calls Try.prog 26 #[.pointer (some ⟨dp, 0, none⟩)] W fun e w => ∃ v, e = .returned v ∧ w.ownsRow W.heap.size 9 1 v d.seen.length (d.seen.map fun p => Value.string p.1) ∧ (v = .slice none 0 0 ↔ d.seen = []) ∧ Below W.heap.size W w := by
  obtain ⟨R, mp, lp, sv, ss, hD, hok, hS, hl⟩ := h
  have c1 : W.cell? ⟨dp, 1, none⟩ = some (.map (some mp)) := blk_cell hD.dsk 1
  have hle := hok.seenLe
  have hrm := hok.room
  have HS := Aside0.mk (sorted_c hD.seen (by omega))
  have HB := Aside0.mk (below_alloc (Below.refl W.heap.size W) (.cells #[.map (some mp)] 87))
  have HD := Aside0.mk hD
  clear hD hok hS hl hle hrm
  go_enter Try.func26, Try.ntmps26
  go_wp2_with (first
    | (go_at_call 47; refine (made_calls HD.out).mono ?_; rintro e w2 ⟨rfl, hw⟩; obtain rfl := hw.symm)
    | (go_at_call 64; refine (keys_c _ _).mono ?_; rintro e w2 ⟨rfl, hw⟩; subst hw)
    | (go_at_call 63; refine HS.out.mono ?_; rintro e w3 ⟨v, rfl, h1, h2, h3⟩; (have HR := Aside0.mk (And.intro h1 (And.intro h2 h3))); clear h1 h2 h3)
    | fail)
  go_ret
  exact ⟨_, rfl, own_lower HR.out.1 HB.out.size, HR.out.2.1, HB.out.trans (below_w HR.out.2.2 HB.out.size)⟩
end
end Gd

namespace Gd
open Go.Proofs.Ytidijiijciokpaa.Blocks Frm Go.Proofs.Ytidijiijciokpaa.U
set_option maxRecDepth 100000
/-- A file, as the program's own. -/
def sf (p : ByteArray × ByteArray) : S33 := ⟨p.1, bytesOf p.2⟩
theorem info_fl : (Try.prog.info? 33).map (fun i => (i.zero, i.size, i.bytes)) = some (some (.agg #[.string ⟨#[]⟩, .slice none 0 0]), 2, 40) := by kernel_rfl
theorem R_of_rw {w : World} {B : Nat} {v : Value} {d : ByteArray} {ok : Nat → Prop} (h : w.ownsRow B 5 1 v d.size (nums .u8 (bytesOf d))) (hok : ∀ k, B ≤ k → ok k) {base : Nat} (hb : base ≤ B) : (Kd.int .u8).R 5 w base ok v (bytesOf d) := by
  have h2 := own_lower h hb
  rw [← bytesOf_length] at h2
  exact Kd.R_of_own (enc := Value.int .u8) h2 fun k hk => hok k (own_base h k hk)
theorem fs_at {fs : Fs} {k : Nat} (h : k < fs.length) : (fs.take (k + 1)).map sf = (fs.take k).map sf ++ [sf fs[k]] := by
  rw [List.take_succ_eq_append_getElem h, List.map_append]
  rfl
set_option maxHeartbeats 2000000 in
theorem listed_calls {W : World} {R : Nat → Prop} {mp : Nat} {fs : Fs} (h : Fm W R mp fs) (hl : taken fs ≤ 1099511627776) : Calls Try.prog 49 #[.map (some mp)] W fun e w => ∃ v, e = .returned v ∧ Kd.R k33 33 w W.heap.size (fun k => W.heap.size ≤ k) v (fs.map sf) ∧ Below W.heap.size W w := by
  have HS := Aside0.mk (sorted_c h hl)
  have HB := Aside0.mk (below_alloc (Below.refl W.heap.size W) (.cells #[.map (some mp)] 87))
  have HF := Aside0.mk h
  have hfl := len_taken h.srt
  have HL := Aside0.mk (And.intro hl (show fs.length ≤ 1099511627777 by omega))
  clear h hl hfl
  go_enter Try.func49, Try.ntmps49
  go_wp2_with (first
    | (go_at_call 64; refine (keys_c _ _).mono ?_; rintro e w2 ⟨rfl, hw⟩; subst hw)
    | (go_at_call 63; refine HS.out.mono ?_; rintro e w3 ⟨v, rfl, h1, h2, h3⟩; obtain ⟨An, cn, rfl, _⟩ := own_form h1; (have HR := Aside0.mk (And.intro h1 (below_w h3 HB.out.size))); clear h1 h2 h3)
    | fail)
  have HB3 := Aside0.mk (HB.out.trans HR.out.2)
  go_loopw [3, 10] (fun v i wr => ∃ k : Nat, i = .int .i64 (k : Int) ∧ Aside0 (k ≤ fs.length ∧ Kd.R k33 33 wr W.heap.size (fun j => w3.heap.size ≤ j) v ((fs.take k).map sf) ∧ Below w3.heap.size w3 wr)) (fun _ i _ => fs.length - (intOf i).toNat)
  case atStart => exact ⟨0, rfl, ⟨Nat.zero_le _, Kd.R_nil _ _ _ _ _, Below.refl _ _⟩⟩
  case round =>
    obtain ⟨k, rfl, HK⟩ := hrel
    by_cases hlt : k < fs.length
    · have hki : (k : Int) < (fs.length : Int) := by omega
      have hb1 := HR.out.1
      have hnm : (fs.map fun p => Value.string p.1)[k]? = some (.string fs[k].1) := by simp [hlt]
      have hob := own_lower (own_below hb1 HK.out.2.2) (Nat.zero_le _)
      obtain ⟨ad, hA, hcell⟩ := own_at (ss := fs.map fun p => Value.string p.1) (by rw [List.length_map]; exact hob) hnm
      subst hA
      have hm := HF.out.below (HB3.out.trans (below_w HK.out.2.2 HB3.out.size))
      have hg : get fs fs[k].1 = some fs[k].2 := get_of_mem HF.out.srt.nodup (List.getElem_mem hlt)
      obtain ⟨v, hv, _, hlk⟩ := hm.look hg
      have HV := Aside0.mk hv
      have hts := taken_mem (List.getElem_mem hlt)
      have HSZ := Aside0.mk (show fs[k].2.size ≤ 1099511627776 by have := HL.out.1; omega)
      have HT := Aside0.mk (fs_at hlt)
      have w9 := i64_of (show -9223372036854775808 ≤ (k : Int) + 1 ∧ (k : Int) + 1 ≤ 9223372036854775807 by have := HL.out.2; omega)
      obtain ⟨Al, cl, hvl⟩ := Kd.R_slice HK.out.2.1
      subst hvl
      clear hb1 hnm hob hm hg hv hts
      go_wp2_with (first
        | (go_at_call 57; refine (clone_any HV.out HSZ.out).mono ?_; rintro e w4 ⟨v4, rfl, hv4, hb4⟩; obtain ⟨A4, c4, rfl, _⟩ := Frm.own_slice hv4; (have H4 := Aside0.mk (And.intro hv4 hb4)); clear hv4 hb4)
        | ((with_reducible refine gate_builtin (b := .append) (xs := #[.tmp 14, .tmp 21]) rfl ?_); refine Kd.R_append k33 (w0 := W) W.heap.size rfl (.tmp 14) (.tmp 21) 28 33 (.agg #[.string ⟨#[]⟩, .slice none 0 0]) 40 rfl Try.underlying28 info_fl rfl (by decide) (by omega) (.slice Al ((fs.take k).map sf).length cl) ((fs.take k).map sf) (sf fs[k]) [.string fs[k].1, .slice A4 fs[k].2.size c4] (fun j => w3.heap.size ≤ j) (fun j => wr.heap.size ≤ j) ?s_ ?x_ ?p_ ?o_ ?f_ (Kd.R_below HK.out.2.1 H4.out.2) ((HB3.out.trans (below_w HK.out.2.2 HB3.out.size)).trans (below_w H4.out.2 (Nat.le_trans HB3.out.size HK.out.2.2.size))) ?b_ ?l_ ?_; (case s_ => go_simp); (case x_ => go_simp); (case p_ => exact k33_mkM _ _ _ (sf fs[k]) (R_of_rw H4.out.1 (fun _ hk => hk) (Nat.le_trans HB3.out.size HK.out.2.2.size))); (case o_ => intro j hj; refine ⟨Nat.le_trans HK.out.2.2.size hj, fun e_ => ?_⟩; have hh := Kd.R_own HK.out.2.1; obtain ⟨inner, hh⟩ := hh; have := own_lt hh j e_.symm; omega); (case f_ => intro j hj; exact Nat.le_trans HK.out.2.2.size (Nat.le_trans H4.out.2.size hj)); (case b_ => exact Nat.le_trans HB3.out.size (Nat.le_trans HK.out.2.2.size H4.out.2.size)); (case l_ => rw [List.length_map, List.length_take]; have := HL.out.2; omega); intro v5 w5 ho5 hb5 hg5 _; (have H5 := Aside0.mk (And.intro ho5 (And.intro hb5 hg5))); clear ho5 hb5 hg5)
        | fail)
      go_roundw
      case rel =>
        refine ⟨k + 1, by push_cast; rfl, ⟨by omega, ?_, ?_⟩⟩
        · rw [HT.out]
          exact H5.out.1
        · have hb := HK.out.2.2.trans (below_w H4.out.2 HK.out.2.2.size)
          have hg := H5.out.2.2
          obtain ⟨inner, hh⟩ := Kd.R_own HK.out.2.1
          refine ⟨hg.os.trans hb.os, hg.tape.trans hb.tape, hg.output.trans hb.output, Nat.le_trans hb.size hg.size, fun j hj => (hg.block j (Nat.lt_of_lt_of_le hj hb.size) fun e => ?_).trans (hb.block j hj)⟩
          have := HK.out.2.1.1 j e.symm
          omega
      case measure => simp [intOf]; omega
    · have hk : k = fs.length := by have := HK.out.1; omega
      subst hk
      have h9 := HK.out.2.1
      rw [List.take_length] at h9
      have H9 := Aside0.mk h9
      clear h9
      go_wp2
      go_ret
      exact ⟨_, rfl, Kd.R_mono H9.out (fun j hj => Nat.le_trans HB3.out.size hj), HB3.out.trans (below_w HK.out.2.2 HB3.out.size)⟩
end Gd

namespace Gd
open Go.Proofs.Ytidijiijciokpaa.Blocks Frm Go.Proofs.Ytidijiijciokpaa.U
set_option maxRecDepth 100000
section
variable {W : World} {S : Nat → Prop} {dp : Nat} {d : Ab}
theorem files_calls (h : Dk W S dp d) : Calls Try.prog 17 #[.pointer (some ⟨dp, 0, none⟩)] W fun e w => ∃ v, e = .returned v ∧ Kd.R k33 33 w W.heap.size (fun k => W.heap.size ≤ k) v (d.seen.map sf) ∧ Below W.heap.size W w := by
  obtain ⟨R, mp, lp, sv, ss, hD, hok, hS, hl⟩ := h
  have c1 : W.cell? ⟨dp, 1, none⟩ = some (.map (some mp)) := blk_cell hD.dsk 1
  have hle := hok.seenLe
  have hrm := hok.room
  have HL := Aside0.mk (listed_calls hD.seen (by omega))
  have HD := Aside0.mk hD
  clear hD hok hS hl hle hrm
  go_enter Try.func17, Try.ntmps17
  go_wp2_with (first
    | (go_at_call 47; refine (made_calls HD.out).mono ?_; rintro e w2 ⟨rfl, hw⟩; obtain rfl := hw.symm)
    | (go_at_call 49; refine HL.out.mono ?_; rintro e w3 ⟨v, rfl, h1, h2⟩; (have HR := Aside0.mk (And.intro h1 h2)); clear h1 h2)
    | fail)
  go_ret
  exact ⟨_, rfl, HR.out⟩
theorem leftp_calls (h : Dk W S dp d) (hlen : d.steps.length ≤ 4398046511104) (k : Int) (h0 : -9223372036854775808 ≤ k) (h1 : k ≤ 9223372036854775807) : Calls Try.prog 14 #[.pointer (some ⟨dp, 0, none⟩), .int .i64 k] W fun e w => ∃ v, e = .returned v ∧ Kd.R k33 33 w W.heap.size (fun k => W.heap.size ≤ k) v ((d.left k).map sf) ∧ Below W.heap.size W w := by
  obtain ⟨R, mp, lp, sv, ss, hD, hok, hS, hl⟩ := h
  have htk := taken_remn k.toNat hok.srt hok.good
  have hrm := hok.room
  have HT := Aside0.mk (show taken (remn d.lasts d.steps k.toNat) ≤ 1099511627776 by omega)
  have HL := Aside0.mk (left_calls hD hok hlen k h0 h1)
  have HD := Aside0.mk hD
  clear hD hok hS hl htk hrm
  go_enter Try.func14, Try.ntmps14
  go_wp2_with (first
    | (go_at_call 47; refine (made_calls HD.out).mono ?_; rintro e w2 ⟨rfl, hw⟩; obtain rfl := hw.symm)
    | (go_at_call 48; refine HL.out.mono ?_; rintro e w3 ⟨out, R2, rfl, hf, _, _, hb⟩; (have H3 := Aside0.mk (And.intro hf hb)); clear hf hb)
    | (go_at_call 49; refine (listed_calls H3.out.1 HT.out).mono ?_; rintro e w4 ⟨v, rfl, h1, h2⟩; (have HR := Aside0.mk (And.intro h1 h2)); clear h1 h2)
    | fail)
  go_ret
  exact ⟨_, rfl, Kd.R_mono (Kd.R_lower HR.out.1 H3.out.2.size) (fun j hj => Nat.le_trans H3.out.2.size hj), H3.out.2.trans (below_w HR.out.2 H3.out.2.size)⟩
end
theorem str_bytes (d : ByteArray) : strOfNums (bytesOf d) = d := by
  apply key_inj
  unfold strOfNums bytesOf key
  simp only [List.toList_toArray, List.map_map]
  have : ((fun n : Int => UInt8.ofNat n.toNat) ∘ fun b : UInt8 => (b.toNat : Int)) = id := by
    funext b
    simp
  rw [this, List.map_id]
/-- A file, as the document's. -/
def sp (p : ByteArray × ByteArray) : S118 := ⟨p.1, p.2⟩
theorem info_rf : (Try.prog.info? 118).map (fun i => (i.zero, i.size, i.bytes)) = some (some (.agg #[.string ⟨#[]⟩, .string ⟨#[]⟩]), 2, 32) := by kernel_rfl
theorem sf_at {W : World} {A : Option Addr} {fs : Fs} (h : Kd.C k33 W A (fs.map sf).length (fs.map sf)) {k : Nat} (hk : k < fs.length) : ∃ ad A1 c1, A = some ad ∧ W.cell? (ad.add (k * 2)) = some (.string fs[k].1) ∧ W.cell? ⟨(ad.add (k * 2)).block, (ad.add (k * 2)).off + 1, none⟩ = some (.slice A1 fs[k].2.size c1) ∧ fs[k].2.size ≤ c1 ∧ (Kd.int .u8).C W A1 fs[k].2.size (bytesOf fs[k].2) := by
  obtain ⟨ad, A1, c1, e, h1, h2, h3, h4⟩ := at_T33 h (k : Int) (by omega) (by rw [List.length_map]; omega)
  have hr : rd_T33 (fs.map sf) (k : Int) = sf fs[k] := by simp [rd_T33, List.getD, hk]
  rw [hr] at h1 h2 h3 h4
  have hl : (sf fs[k]).f1.length = fs[k].2.size := bytesOf_length _
  rw [hl] at h2 h3 h4
  exact ⟨ad, A1, c1, e, h1, h2, h3, h4⟩
theorem sp_at {fs : Fs} {k : Nat} (h : k < fs.length) : (fs.take (k + 1)).map sp = (fs.take k).map sp ++ [sp fs[k]] := by
  rw [List.take_succ_eq_append_getElem h, List.map_append]
  rfl
set_option maxHeartbeats 2000000 in
theorem plain_calls {W : World} (A : Option Addr) (c : Nat) (fs : Fs) (hC : Kd.C k33 W A (fs.map sf).length (fs.map sf)) (hl : fs.length ≤ 1099511627777) : Calls Try.prog 51 #[.slice A (fs.map sf).length c] W fun e w => ∃ v, e = .returned v ∧ Kd.R k118 118 w W.heap.size (fun j => W.heap.size ≤ j) v (fs.map sp) ∧ Below W.heap.size W w := by
  have HC := Aside0.mk hC
  have HL := Aside0.mk hl
  have hlen : (fs.map sf).length = fs.length := List.length_map _
  rw [hlen]
  clear hC hl hlen
  go_enter Try.func51, Try.ntmps51
  go_wp2
  go_loopw [3, 4] (fun v i wr => ∃ k : Nat, i = .int .i64 (k : Int) ∧ Aside0 (k ≤ fs.length ∧ Kd.R k118 118 wr W.heap.size (fun j => W.heap.size ≤ j) v ((fs.take k).map sp) ∧ Below W.heap.size W wr)) (fun _ i _ => fs.length - (intOf i).toNat)
  case atStart => exact ⟨0, rfl, ⟨Nat.zero_le _, Kd.R_nil _ _ _ _ _, Below.refl _ _⟩⟩
  case round =>
    obtain ⟨k, rfl, HK⟩ := hrel
    by_cases hlt : k < fs.length
    · have hki : (k : Int) < (fs.length : Int) := by omega
      obtain ⟨ad, A1, c1, hA, h1, h2, h3, h4⟩ := sf_at HC.out hlt
      subst hA
      obtain ⟨Al, cl, hvl⟩ := Kd.R_slice HK.out.2.1
      have hlk : ((fs.take k).map sp).length = k := by rw [List.length_map, List.length_take]; omega
      rw [hlk] at hvl
      subst hvl
      clear hlk
      have HXW := Aside0.mk (And.intro h1 (And.intro h2 h4))
      have HX := Aside0.mk (And.intro (pw_cell_below HK.out.2.2 h1) (And.intro (pw_cell_below HK.out.2.2 h2) (Kd.C_below h4 HK.out.2.2)))
      have w9 := i64_of (show -9223372036854775808 ≤ (k : Int) + 1 ∧ (k : Int) + 1 ≤ 9223372036854775807 by have := HL.out; omega)
      have HT := Aside0.mk (sp_at hlt)
      clear h1 h2 h3 h4
      go_upto_region 5 with fail
      have hdr : Below wr.heap.size wr wr.drew := Drawn0.below ⟨1, rfl⟩
      have HXD := Aside0.mk (show wr.drew.cell? (ad.add (k * 2)) = some (.string fs[k].1) ∧ wr.drew.cell? ⟨(ad.add (k * 2)).block, (ad.add (k * 2)).off + 1, none⟩ = some (.slice A1 fs[k].2.size c1) ∧ (Kd.int .u8).C wr.drew A1 fs[k].2.size (bytesOf fs[k].2) from ⟨HX.out.1, HX.out.2.1, Kd.C_below HX.out.2.2 hdr⟩)
      have HRD := Aside0.mk (Kd.R_below HK.out.2.1 hdr)
      have HBD := Aside0.mk (HK.out.2.2.trans (below_w hdr HK.out.2.2.size))
      clear hdr
      refine wp_region_held_drew (S := fun w' => Aside0 (w'.cell? (ad.add (k * 2)) = some (.string fs[k].1) ∧ w'.cell? ⟨(ad.add (k * 2)).block, (ad.add (k * 2)).off + 1, none⟩ = some (.slice A1 fs[k].2.size c1) ∧ (Kd.int .u8).C w' A1 fs[k].2.size (bytesOf fs[k].2))) (by kernel_rfl) HXD (fun hHeld => ?_)
      refine wpAnyH_take (i := 0) (oi := Oper.mk _ _ _ _ _ _) (v := ?v0) rfl (by kernel_rfl) (by kernel_rfl) (by kernel_rfl) (fun _ _ _ h => h) (Or.inl ⟨by rfl, ?hy0⟩) (by assumption) ?r0
      case hy0 => (intro w hSw; clear hSw; go_simp; (try with_reducible rfl))
      try simp only [Act.put, List.setIfInBounds_toArray, List.set_cons_zero, List.set_cons_succ]
      refine wpAnyH_take (i := 1) (oi := Oper.mk _ _ _ _ _ _) (v := ?v1) rfl (by kernel_rfl) (by kernel_rfl) (by kernel_rfl) (fun _ _ _ h => h) (Or.inl ⟨by rfl, ?hy1⟩) (by assumption) ?r1
      case hy1 => (intro w hSw; clear hSw; go_simp; (try with_reducible rfl))
      try simp only [Act.put, List.setIfInBounds_toArray, List.set_cons_zero, List.set_cons_succ]
      refine wpAnyH_take (i := 2) (oi := Oper.mk _ _ _ _ _ _) (v := ?v2) rfl (by kernel_rfl) (by kernel_rfl) (by kernel_rfl) (fun _ _ _ h => h) (Or.inl ⟨by rfl, ?hy2⟩) (by assumption) ?r2
      case hy2 => (intro w hSw; clear hSw; go_simp; (try with_reducible rfl))
      try simp only [Act.put, List.setIfInBounds_toArray, List.set_cons_zero, List.set_cons_succ]
      refine wpAnyH_take (i := 3) (oi := Oper.mk _ _ _ _ _ _) (v := ?v3) rfl (by kernel_rfl) (by kernel_rfl) (by kernel_rfl) (fun _ _ _ h => h) (Or.inl ⟨by rfl, ?hy3⟩) (by assumption) ?r3
      case hy3 => (intro w hSw; clear hSw; go_simp; (try with_reducible rfl))
      try simp only [Act.put, List.setIfInBounds_toArray, List.set_cons_zero, List.set_cons_succ]
      refine wpAnyH_take (i := 4) (oi := Oper.mk _ _ _ _ _ _) (v := ?v4) rfl (by kernel_rfl) (by kernel_rfl) (by kernel_rfl) (fun _ _ _ h => h) (Or.inl ⟨by rfl, ?hy4⟩) (by assumption) ?r4
      case hy4 => (intro w hSw; clear hSw; go_simp; (try with_reducible rfl))
      try simp only [Act.put, List.setIfInBounds_toArray, List.set_cons_zero, List.set_cons_succ]
      refine wpAnyH_take (i := 5) (oi := Oper.mk _ _ _ _ _ _) (v := ?v5) rfl (by kernel_rfl) (by kernel_rfl) (by kernel_rfl) (fun _ _ _ h => h) (Or.inl ⟨by rfl, ?hy5⟩) (by assumption) ?r5
      case hy5 => (intro w hSw; (have g0 : w.cell? (ad.add (k * 2)) = some (.string fs[k].1) := hSw.out.1); clear hSw; go_simp; (try with_reducible rfl))
      try simp only [Act.put, List.setIfInBounds_toArray, List.set_cons_zero, List.set_cons_succ]
      refine wpAnyH_take (i := 6) (oi := Oper.mk _ _ _ _ _ _) (v := ?v6) rfl (by kernel_rfl) (by kernel_rfl) (by kernel_rfl) (fun _ _ _ h => h) (Or.inl ⟨by rfl, ?hy6⟩) (by assumption) ?r6
      case hy6 => (intro w hSw; clear hSw; go_simp; (try with_reducible rfl))
      try simp only [Act.put, List.setIfInBounds_toArray, List.set_cons_zero, List.set_cons_succ]
      refine wpAnyH_take (i := 7) (oi := Oper.mk _ _ _ _ _ _) (v := ?v7) rfl (by kernel_rfl) (by kernel_rfl) (by kernel_rfl) (fun _ _ _ h => h) (Or.inl ⟨by rfl, ?hy7⟩) (by assumption) ?r7
      case hy7 => (intro w hSw; clear hSw; go_simp; (try with_reducible rfl))
      try simp only [Act.put, List.setIfInBounds_toArray, List.set_cons_zero, List.set_cons_succ]
      refine wpAnyH_take (i := 8) (oi := Oper.mk _ _ _ _ _ _) (v := ?v8) rfl (by kernel_rfl) (by kernel_rfl) (by kernel_rfl) (fun _ _ _ h => h) (Or.inl ⟨by rfl, ?hy8⟩) (by assumption) ?r8
      case hy8 => (intro w hSw; clear hSw; go_simp; (try with_reducible rfl))
      try simp only [Act.put, List.setIfInBounds_toArray, List.set_cons_zero, List.set_cons_succ]
      refine wpAnyH_take (i := 9) (oi := Oper.mk _ _ _ _ _ _) (v := ?v9) rfl (by kernel_rfl) (by kernel_rfl) (by kernel_rfl) (fun _ _ _ h => h) (Or.inl ⟨by rfl, ?hy9⟩) (by assumption) ?r9
      case hy9 => (intro w hSw; clear hSw; go_simp; (try with_reducible rfl))
      try simp only [Act.put, List.setIfInBounds_toArray, List.set_cons_zero, List.set_cons_succ]
      refine wpAnyH_take (i := 10) (oi := Oper.mk _ _ _ _ _ _) (v := ?v10) rfl (by kernel_rfl) (by kernel_rfl) (by kernel_rfl) (fun _ _ _ h => h) (Or.inl ⟨by rfl, ?hy10⟩) (by assumption) ?r10
      case hy10 => (intro w hSw; (have g1 : w.cell? ⟨(ad.add (k * 2)).block, (ad.add (k * 2)).off + 1, none⟩ = some (.slice A1 fs[k].2.size c1) := hSw.out.2.1); clear hSw; go_simp; (try with_reducible rfl))
      try simp only [Act.put, List.setIfInBounds_toArray, List.set_cons_zero, List.set_cons_succ]
      refine wpAnyH_take (i := 11) (oi := Oper.mk _ _ _ _ _ _) (v := ?v11) rfl (by kernel_rfl) (by kernel_rfl) (by kernel_rfl) (fun _ _ _ h => h) (Or.inl ⟨by rfl, ?hy11⟩) (by assumption) ?r11
      case hy11 => (intro w hSw; (have g2 := Kd.C_string (P := Try.prog) (c := c1) Try.underlying31 Try.underlying5 Try.underlying9 hSw.out.2.2); (rw [str_bytes] at g2); clear hSw; go_simp; (try with_reducible rfl))
      try simp only [Act.put, List.setIfInBounds_toArray, List.set_cons_zero, List.set_cons_succ]
      refine wpAnyH_take (i := 12) (oi := Oper.mk _ _ _ _ _ _) (v := ?v12) rfl (by kernel_rfl) (by kernel_rfl) (by kernel_rfl) (fun _ _ _ h => h) (Or.inl ⟨by rfl, ?hy12⟩) (by assumption) ?r12
      case hy12 => (intro w hSw; clear hSw; go_simp; (try with_reducible rfl))
      try simp only [Act.put, List.setIfInBounds_toArray, List.set_cons_zero, List.set_cons_succ]
      generalize wr.drew = w1 at HXD HRD HBD hHeld ⊢
      have HX1 := Aside0.mk (show (w1.alloc (.cells #[.string fs[k].1, .string fs[k].2] 118)).cell? (ad.add (k * 2)) = some (.string fs[k].1) ∧ (w1.alloc (.cells #[.string fs[k].1, .string fs[k].2] 118)).cell? ⟨(ad.add (k * 2)).block, (ad.add (k * 2)).off + 1, none⟩ = some (.slice A1 fs[k].2.size c1) ∧ (Kd.int .u8).C (w1.alloc (.cells #[.string fs[k].1, .string fs[k].2] 118)) A1 fs[k].2.size (bytesOf fs[k].2) from ⟨pw_cell_below (below_alloc (Below.refl _ _) _) HXD.out.1, pw_cell_below (below_alloc (Below.refl _ _) _) HXD.out.2.1, Kd.C_alloc HXD.out.2.2 _⟩)
      refine wpAnyH_ready (rs := [13]) (by kernel_rfl) (by simp) ?_
      refine AllReadyH.cons (o := Oper.mk _ _ _ _ _ _) rfl (fun K hK => ?_) AllReadyH.nil
      go_simp
      refine hK.out _ _ HX1 (fun hHeld1 => ?_)
      clear hK K
      try simp only [Act.put, List.setIfInBounds_toArray, List.set_cons_zero, List.set_cons_succ]
      refine wpAnyH_ready (rs := [14]) (by kernel_rfl) (by simp) ?_
      refine AllReadyH.cons (o := Oper.mk _ _ _ _ _ _) rfl (fun K hK => ?_) AllReadyH.nil
      refine Kd.R_append_step k118 (w0 := W) W.heap.size (by rfl) (.tmp 11) (.tmp 24) 58 118 (.agg #[.string ⟨#[]⟩, .string ⟨#[]⟩]) 32 rfl Try.underlying58 info_rf rfl (by decide) (by omega) (.slice Al k cl) ((fs.take k).map sp) (sp fs[k]) [.string fs[k].1, .string fs[k].2] (fun j => W.heap.size ≤ j) (fun _ => False) ?s_ ?x_ ?p_ (fun _ h => h.elim) (fun j hj => Nat.le_trans HBD.out.size hj) HRD.out HBD.out HBD.out.size ?l_ ?_
      case s_ => go_simp
      case x_ => go_simp
      case p_ => exact k118_mkM _ _ _ (sp fs[k])
      case l_ => rw [List.length_map, List.length_take]; have := HL.out; omega
      intro v5 w5 ho5 hb5 hg5 _
      have H5 := Aside0.mk (And.intro ho5 hb5)
      have HX5 := Aside0.mk (And.intro (pw_cell_below hb5 HXW.out.1) (And.intro (pw_cell_below hb5 HXW.out.2.1) (Kd.C_below HXW.out.2.2 hb5)))
      clear ho5 hb5 hg5
      refine hK.out _ _ HX5 (fun hHeld2 => ?_)
      clear hK K
      try simp only [Act.put, List.setIfInBounds_toArray, List.set_cons_zero, List.set_cons_succ]
      refine wpAnyH_ready (rs := [15]) (by kernel_rfl) (by simp) ?_
      refine AllReadyH.cons (o := Oper.mk _ _ _ _ _ _) rfl (fun K hK => ?_) AllReadyH.nil
      go_simp
      refine hK.out _ _ HX5 (fun hHeld3 => ?_)
      clear hK K
      try simp only [Act.put, List.setIfInBounds_toArray, List.set_cons_zero, List.set_cons_succ]
      refine wpAnyH_done (by kernel_rfl) ?_ _
      go_wp2
      go_roundw
      case rel =>
        refine ⟨k + 1, by push_cast; rfl, ⟨by omega, ?_, H5.out.2⟩⟩
        rw [HT.out]
        exact H5.out.1
      case measure => simp [intOf]; omega
    · have hk : k = fs.length := by have := HK.out.1; omega
      subst hk
      have h9 := HK.out.2.1
      rw [List.take_length] at h9
      have H9 := Aside0.mk h9
      clear h9
      go_wp2
      go_ret
      exact ⟨_, rfl, H9.out, HK.out.2.2⟩
end Gd

namespace Gd
open Go.Proofs.Ytidijiijciokpaa.Blocks Frm Go.Proofs.Ytidijiijciokpaa.U
set_option maxRecDepth 100000
theorem sp_cells {W : World} {A : Option Addr} {gs : Fs} (h : Kd.C k118 W A (gs.map sp).length (gs.map sp)) {k : Nat} (hk : k < gs.length) : ∃ ad, A = some ad ∧ W.cell? (ad.add (k * 2)) = some (.string gs[k].1) ∧ W.cell? ⟨(ad.add (k * 2)).block, (ad.add (k * 2)).off + 1, none⟩ = some (.string gs[k].2) := by
  obtain ⟨ad, e, h1, h2⟩ := at_T118 h (k : Int) (by omega) (by rw [List.length_map]; omega)
  have hr : rd_T118 (gs.map sp) (k : Int) = sp gs[k] := by simp [rd_T118, List.getD, hk]
  rw [hr] at h1 h2
  exact ⟨ad, e, h1, h2⟩
theorem take_eq {fs gs : Fs} {k : Nat} (h : fs.take k = gs.take k) (h1 : k < fs.length) (h2 : k < gs.length) : fs.take (k + 1) = gs.take (k + 1) ↔ fs[k].1 = gs[k].1 ∧ fs[k].2 = gs[k].2 := by
  rw [List.take_succ_eq_append_getElem h1, List.take_succ_eq_append_getElem h2, h]
  constructor
  · intro e
    have := List.append_cancel_left e
    injection this with e
    rw [e]
    exact ⟨rfl, rfl⟩
  · intro e
    have : fs[k] = gs[k] := Prod.ext e.1 e.2
    rw [this]
set_option maxHeartbeats 2000000 in
theorem same_calls {W : World} (A B : Option Addr) (c c2 : Nat) (fs gs : Fs) (hC : Kd.C k33 W A (fs.map sf).length (fs.map sf)) (hD : Kd.C k118 W B (gs.map sp).length (gs.map sp)) (hl : fs.length ≤ 1099511627777) : Calls Try.prog 50 #[.slice A (fs.map sf).length c, .slice B (gs.map sp).length c2] W fun e w => e = .returned (.bool (decide (fs = gs))) ∧ Below W.heap.size W w := by
  have HC := Aside0.mk (And.intro hC hD)
  have HL := Aside0.mk hl
  have hlen : (fs.map sf).length = fs.length := List.length_map _
  have hlen2 : (gs.map sp).length = gs.length := List.length_map _
  rw [hlen, hlen2]
  clear hC hD hl hlen hlen2
  go_enter Try.func50, Try.ntmps50
  go_wp2
  go_loopw [5] (fun i wr => ∃ k : Nat, i = .int .i64 (k : Int) ∧ Aside0 (k ≤ fs.length ∧ k ≤ gs.length ∧ fs.take k = gs.take k ∧ Below W.heap.size W wr)) (fun i _ => fs.length - (intOf i).toNat)
  case atStart => exact ⟨0, rfl, ⟨Nat.zero_le _, Nat.zero_le _, rfl, Below.refl _ _⟩⟩
  case round =>
    obtain ⟨k, rfl, HK⟩ := hrel
    by_cases hlt : k < fs.length ∧ k < gs.length
    · obtain ⟨h1, h2⟩ := hlt
      have hki : (k : Int) < (fs.length : Int) := by omega
      have hkj : (k : Int) < (gs.length : Int) := by omega
      have w9 := i64_of (show -9223372036854775808 ≤ (k : Int) + 1 ∧ (k : Int) + 1 ≤ 9223372036854775807 by have := HL.out; omega)
      obtain ⟨ad, A1, c1, hA, a1, a2, a3, a4⟩ := sf_at (Kd.C_below HC.out.1 HK.out.2.2.2) h1
      obtain ⟨bd, hB, b1, b2⟩ := sp_cells (Kd.C_below HC.out.2 HK.out.2.2.2) h2
      subst hA
      subst hB
      have hte := take_eq HK.out.2.2.1 h1 h2
      have hcv : ∀ q, (convert 31 9 (.slice A1 fs[k].2.size c1)).run Try.prog (wr.drewN q) = .ok (.string fs[k].2) (wr.drewN q) := fun q => by
        have g2 := Kd.C_string (P := Try.prog) (c := c1) Try.underlying31 Try.underlying5 Try.underlying9 (Kd.C_drewN a4 q)
        rwa [str_bytes] at g2
      clear a3 a4
      by_cases e1 : fs[k].1 = gs[k].1
      · by_cases e2 : fs[k].2 = gs[k].2
        · have HT := Aside0.mk (hte.2 ⟨e1, e2⟩)
          have hs1 : (fs[k].1.toList == gs[k].1.toList) = true := by rw [toList_beq, decide_eq_true e1]
          have hs2 : (fs[k].2.toList == gs[k].2.toList) = true := by rw [toList_beq, decide_eq_true e2]
          have hs3 : (fs[k].1 == gs[k].1) = true := by rw [bytes_beq, decide_eq_true e1]
          have hs4 : (fs[k].2 == gs[k].2) = true := by rw [bytes_beq, decide_eq_true e2]
          clear hte e1 e2
          go_upto_region 4 with fail
          go_quiet (fail)
          have HB := Aside0.mk (HK.out.2.2.2.trans (below_w (Drawn0.below (w := wr) (w' := wr.drewN nq) ⟨nq, rfl⟩) HK.out.2.2.2.size))
          clear a1 a2 b1 b2 hcv
          generalize wr.drewN nq = w5 at HB ⊢
          go_wp2
          go_roundw
          case rel => exact ⟨k + 1, by push_cast; rfl, ⟨by omega, by omega, HT.out, HB.out⟩⟩
          case measure => simp [intOf]; omega
        · have HN := Aside0.mk (show decide (fs = gs) = false from decide_eq_false fun e => by subst e; exact e2 rfl)
          have hs1 : (fs[k].1.toList == gs[k].1.toList) = true := by rw [toList_beq, decide_eq_true e1]
          have hs2 : (fs[k].2.toList == gs[k].2.toList) = false := by rw [toList_beq, decide_eq_false e2]
          have hs3 : (fs[k].1 == gs[k].1) = true := by rw [bytes_beq, decide_eq_true e1]
          have hs4 : (fs[k].2 == gs[k].2) = false := by rw [bytes_beq, decide_eq_false e2]
          clear hte e1 e2
          go_upto_region 4 with fail
          go_quiet (fail)
          have HB := Aside0.mk (HK.out.2.2.2.trans (below_w (Drawn0.below (w := wr) (w' := wr.drewN nq) ⟨nq, rfl⟩) HK.out.2.2.2.size))
          clear a1 a2 b1 b2 hcv
          generalize wr.drewN nq = w5 at HB ⊢
          go_wp2
          go_ret
          exact ⟨ret_bool HN.out.symm, HB.out⟩
      · have HN := Aside0.mk (show decide (fs = gs) = false from decide_eq_false fun e => by subst e; exact e1 rfl)
        have hs1 : (fs[k].1.toList == gs[k].1.toList) = false := by rw [toList_beq, decide_eq_false e1]
        have hs3 : (fs[k].1 == gs[k].1) = false := by rw [bytes_beq, decide_eq_false e1]
        clear hte e1
        go_upto_region 4 with fail
        go_quiet (fail)
        have HB := Aside0.mk (HK.out.2.2.2.trans (below_w (Drawn0.below (w := wr) (w' := wr.drewN nq) ⟨nq, rfl⟩) HK.out.2.2.2.size))
        clear a1 a2 b1 b2 hcv
        generalize wr.drewN nq = w5 at HB ⊢
        go_wp2
        go_ret
        exact ⟨ret_bool HN.out.symm, HB.out⟩
    · by_cases hk : k = fs.length
      · by_cases hg : fs.length = gs.length
        · have HN := Aside0.mk (show decide (fs = gs) = true from decide_eq_true (by
            have h9 := HK.out.2.2.1
            rw [hk, List.take_length, hg, List.take_length] at h9
            exact h9))
          subst hk
          have n1 : ((fs.length : Int) == (gs.length : Int)) = true := by rw [hg]; simp
          have n2 : decide (fs.length < gs.length) = false := decide_eq_false (by omega)
          clear hlt
          go_wp2
          go_ret
          exact ⟨ret_bool HN.out.symm, HK.out.2.2.2⟩
        · have HN := Aside0.mk (show decide (fs = gs) = false from decide_eq_false fun e => hg (by rw [e]))
          subst hk
          have n1 : ((fs.length : Int) == (gs.length : Int)) = false := by
            rw [beq_eq_false_iff_ne]
            omega
          clear hlt
          go_wp2
          go_ret
          exact ⟨ret_bool HN.out.symm, HK.out.2.2.2⟩
      · have hk2 : k = gs.length := by have := HK.out.1; have := HK.out.2.1; omega
        have hkl : k < fs.length := by have := HK.out.1; omega
        have HN := Aside0.mk (show decide (fs = gs) = false from decide_eq_false fun e => by rw [e] at hkl; omega)
        subst hk2
        have n0 : (gs.length : Int) < (fs.length : Int) := by omega
        have n1 : ((fs.length : Int) == (gs.length : Int)) = false := by
          rw [beq_eq_false_iff_ne]
          omega
        clear hlt
        go_wp2
        go_ret
        exact ⟨ret_bool HN.out.symm, HK.out.2.2.2⟩
theorem equal_calls {W : World} (A B : Option Addr) (c c2 : Nat) (fs gs : Fs) (hC : Kd.C k33 W A (fs.map sf).length (fs.map sf)) (hD : Kd.C k33 W B (gs.map sf).length (gs.map sf)) (hl : fs.length ≤ 1099511627777) (hl2 : gs.length ≤ 1099511627777) : Calls Try.prog 16 #[.slice A fs.length c, .slice B gs.length c2] W fun e w => e = .returned (.bool (decide (fs = gs))) ∧ Below W.heap.size W w := by
  have hp := plain_calls B c2 gs hD hl2
  rw [List.length_map] at hp
  have HP := Aside0.mk hp
  have hs : ∀ w2 Av cv, Below W.heap.size W w2 → Kd.C k118 w2 Av (gs.map sp).length (gs.map sp) → Calls Try.prog 50 #[.slice A fs.length c, .slice Av gs.length cv] w2 fun e w => e = .returned (.bool (decide (fs = gs))) ∧ Below w2.heap.size w2 w := fun w2 Av cv hb h => by
    have := same_calls A Av c cv fs gs (Kd.C_below hC hb) h hl
    rwa [List.length_map, List.length_map] at this
  have HS := Aside0.mk hs
  clear hC hD hl hl2 hp hs
  go_enter Try.func16, Try.ntmps16
  go_wp2_with (first
    | (go_at_call 51; refine HP.out.mono ?_; rintro e w2 ⟨v, rfl, h1, h2⟩; obtain ⟨Av, cv, ev⟩ := Kd.R_slice h1; rw [List.length_map] at ev; subst ev; (have H2 := Aside0.mk (And.intro h1 h2)); clear h1 h2)
    | (go_at_call 50; refine (HS.out w2 Av cv H2.out.2 (by have h9 := (Kd.R_reads' H2.out.1).2.2; exact h9)).mono ?_; rintro e w3 ⟨rfl, h3⟩; (have H3 := Aside0.mk h3); clear h3)
    | fail)
  go_ret
  exact ⟨rfl, H2.out.2.trans (below_w H3.out H2.out.2.size)⟩
end Gd

end Go.Proofs.Ytidijiijciokpaa.G
