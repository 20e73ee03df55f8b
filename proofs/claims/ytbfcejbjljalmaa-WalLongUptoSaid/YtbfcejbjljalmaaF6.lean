import Derived.Test.YtbfcejbjljalmaaF5
import Derived.Maps.OwnOps
import Derived.WideMake
import Derived.Laws.IdiomRangeMap
import Derived.Maps.AppendAt
import Derived.Deep.RegionLaw
import Derived.ArgAppend
import Derived.Deep.Upon
import Derived.Deep.QuietTactic
import Derived.BigQuiet
import Derived.Deep.RegionHeld3
import Derived.Deep.DeepCutAuto
import Derived.Deep.CutBlock
import Derived.Laws.EntriesVeiled
import Derived.StillTailTactics
import Derived.Laws.Tables
import Derived.Laws.CopyOwn
import Derived.IntWalk
import Derived.Test.YtbfcejbjljalmaaBlocks
import Derived.Laws.CopyOwn
import Derived.Laws.Tables
import Derived.Outline
namespace Go.Proofs.Ytbfcejbjljalmaa.P
open Go.RowKit Go.Proofs.YtbfcejbjljalmaaW.PrintWords Go.Proofs.YtbfcejbjljalmaaW.PrintLast Go.Proofs.YtbfcejbjljalmaaW.PrintMore
set_option linter.unusedVariables false
set_option linter.unusedSimpArgs false
namespace Wl
open Go.Proofs.Ytbfcejbjljalmaa.Blocks Frm
set_option maxRecDepth 100000
theorem next_first (W : World) (mp : Nat) (s : ByteArray) (v : Value) (ty : TypeId) (hb : W.heap[mp]? = some (.map #[{ key := .string s, val := v, born := 0 }] 1)) :
    (Instr.next (.pointer (some ⟨W.heap.size, 0, none⟩)) false ty).run Try.prog (W.alloc (.mapIter (some mp) 1 #[] 1)) = .ok (.tuple #[.bool true, .string s, v]) (W.alloc (.mapIter (some mp) 1 #[0] 1)) := by
  have hlt : mp < W.heap.size := (Array.getElem?_eq_some_iff.1 hb).1
  have hb' : (W.alloc (.mapIter (some mp) 1 #[] 1)).heap[mp]? = some (.map #[{ key := .string s, val := v, born := 0 }] 1) := by rw [heap_alloc_old W _ hlt, hb]
  have hset : ∀ o', (setObj W.heap.size o').run Try.prog (W.alloc (.mapIter (some mp) 1 #[] 1)) = .ok () (W.alloc o') := fun o' => by
    simp only [setObj, Sem.run, heap_alloc_new]
    congr 1
    show ({ W.alloc (.mapIter (some mp) 1 #[] 1) with heap := (W.heap.push (.mapIter (some mp) 1 #[] 1)).setIfInBounds W.heap.size o' } : World) = _
    have : (W.heap.push (.mapIter (some mp) 1 #[] 1)).setIfInBounds W.heap.size o' = W.heap.push o' := by
      apply Array.toList_inj.1
      simp
    rw [this]
    rfl
  simp only [Instr.next, getObj, Sem.run_bind, Sem.run, heap_alloc_new, hb', Result.andThen]
  simp [choose, Question.forced, Sem.run, Sem.run_bind, hset, Result.andThen]
theorem next_second (W : World) (mp : Nat) (s : ByteArray) (v : Value) (ty : TypeId) (hb : W.heap[mp]? = some (.map #[{ key := .string s, val := v, born := 0 }] 1)) :
    (Instr.next (.pointer (some ⟨W.heap.size, 0, none⟩)) false ty).run Try.prog (W.alloc (.mapIter (some mp) 1 #[0] 1)) = .ok (.tuple #[.bool false]) (W.alloc (.mapIter (some mp) 1 #[0] 1)) := by
  rcases run_next_map (P := Try.prog) W ty mp 1 1 #[0] _ 1 hb (by simp) (Nat.le_refl _) with ⟨_, h⟩ | ⟨e, he, _⟩
  · exact h
  · simp [leftOf] at he
theorem takes1_calls (W : World) (mp : Nat) (A : Option Addr) (l c : Nat) (hl : l ≤ 1099511627776) (hm : W.heap[mp]? = some (.map #[fe (.slice A l c)] 1)) : Calls Try.prog 63 #[.map (some mp)] W fun e w' => e = .returned (.int .i64 ((1 + l : Nat) : Int)) ∧ Below W.heap.size W w' := by
  unfold fe at hm
  have hr := run_range_map (P := Try.prog) W 51 9 29 mp _ 1 Try.underlying51 hm
  have hn := fun ty => next_first W mp ⟨#[97]⟩ (.slice A l c) ty hm
  have he : (Instr.entry (.pointer (some ⟨W.heap.size, 0, none⟩))).run Try.prog (W.alloc (.mapIter (some mp) 1 #[0] 1)) = .ok (.tuple #[.string ⟨#[97]⟩, .slice A l c]) (W.alloc (.mapIter (some mp) 1 #[0] 1)) := run_entry_map (P := Try.prog) W mp 1 #[] _ 1 { key := .string ⟨#[97]⟩, val := .slice A l c, born := 0 } hm (by simp) (by simp)
  have hn2 := fun ty => next_second W mp ⟨#[97]⟩ (.slice A l c) ty hm
  have hw : wrap64 (1 + (l : Int)) = ((1 + l : Nat) : Int) := by unfold wrap64; omega
  have hw2 : wrap64 ((1 + l : Nat) : Int) = ((1 + l : Nat) : Int) := by unfold wrap64; omega
  go_enter Try.func63, Try.ntmps63
  go_wp2
  refine wp_loop_rounds 2 ?_
  rw [rounds_succ]
  go_wp2
  rw [rounds_succ]
  go_wp2
  go_ret
  exact ⟨by simp, (Below.refl _ _).alloc (Nat.le_refl _) _⟩
theorem own_form {W : World} {base n : Nat} {e : TypeId} {u : Value} {z : List Value} (h : W.ownsRow base e 1 u n z) : ∃ A c, u = .slice A n c ∧ n ≤ c := by
  rcases h.2 with ⟨rfl, h0⟩ | ⟨g, cap, cur, rfl, _, _, hc, _⟩
  · exact ⟨none, 0, by rw [h0], by omega⟩
  · exact ⟨_, cap, rfl, hc⟩
theorem info_step : (Try.prog.info? 89).map (fun i => (i.zero, i.size, i.bytes)) = some (some .nilIface, 1, 16) := by kernel_rfl
theorem count_created (W : World) : Calls Try.prog 115 #[.agg #[.string ⟨#[97]⟩]] W fun e w' => e = .returned (.int .i64 1) ∧ Below W.heap.size W w' := by
  have HB := Aside0.mk (below_alloc (Below.refl W.heap.size W) (.cells #[.string ⟨#[97]⟩] 92))
  go_enter Try.func115, Try.ntmps115
  go_wp2
  go_ret
  exact ⟨rfl, HB.out⟩
theorem count_laid (W : World) (A : Option Addr) (n c : Nat) : Calls Try.prog 116 #[.agg #[.string ⟨#[97]⟩, .slice A n c]] W fun e w' => e = .returned (.int .i64 n) ∧ Below W.heap.size W w' := by
  have HB := Aside0.mk (below_alloc (Below.refl W.heap.size W) (.cells #[.string ⟨#[97]⟩, .slice A n c] 94))
  go_enter Try.func116, Try.ntmps116
  go_wp2
  go_ret
  exact ⟨rfl, HB.out⟩
set_option maxHeartbeats 2000000 in
theorem step_gen {W : World} {B dp mp : Nat} {room used acts : Int} {la sv : Value} {ss : List Value} {es : Array MapEntry} {n : Nat} (h : Ds W B dp mp room used acts la sv ss es n) (h0 : 0 ≤ acts) (h1 : acts ≤ 1099511627776) (hB0 : B ≤ W.heap.size) (hss : ss.length ≤ 1000000) (T : TypeId) (x : Value) (fid : FuncId) (cnt : Nat) (hcnt : 0 < cnt) (zs : List Int) (hz : zs.length ≤ 1099511627776)
    (hme : ∀ w, (method 251 T x "hawser/disk.count").run Try.prog w = .ok (fid, x) w) (hen : ∀ (args : Array Value) (w : World), Sem.run Try.prog (callFunc fid args) w = .ok (.enter fid args) w)
    (hC : ∀ w, Calls Try.prog fid #[x] w fun e w' => e = .returned (.int .i64 cnt) ∧ Below w.heap.size w w')
    (hD : ∀ w, w.heap[mp]? = some (.map es n) → Fr dp mp W w → Calls Try.prog 62 #[.map (some mp), .iface T x, .int .i64 cnt] w fun e w' => e = .returned (.tuple #[]) ∧ ∃ v, w'.heap[mp]? = some (.map #[fe v] 1) ∧ w'.ownsRow w.heap.size 5 1 v zs.length (nums .u8 zs) ∧ But mp w w') :
    Calls Try.prog 50 #[.pointer (some ⟨dp, 0, none⟩), .iface T x] W fun e w => e = .returned (.int .i64 0) ∧ ∃ v sv', Ds w B dp mp room ((1 + zs.length : Nat) : Int) (acts + 1) la sv' (ss ++ [.iface T x]) #[fe v] 1 ∧ w.ownsRow W.heap.size 5 1 v zs.length (nums .u8 zs) ∧ Below B W w ∧ Fr dp mp W w := by
  obtain ⟨As, cs, rfl, _⟩ := own_form h.stp
  have HD := Aside0.mk h
  have HC := Aside0.mk hC
  have hc0 : decide ((0 : Int) < (cnt : Int)) = true := decide_eq_true (by omega)
  have HI := Aside0.mk info_step
  have HB0 := Aside0.mk hB0
  have HDo := Aside0.mk hD
  have HZ := Aside0.mk hz
  have HSS := Aside0.mk hss
  clear h hC hD hz hss
  go_enter Try.func50, Try.ntmps50
  go_upto_region 4 with (first | (go_at_call 55; refine (act_calls HD.out h0 h1).mono ?_; rintro e w2 ⟨rfl, hd, hb, hf⟩; (have HD2 := Aside0.mk hd); (have HB2 := Aside0.mk hb); (have HF2 := Aside0.mk hf); clear hd hb hf) | fail)
  refine wp_region_held_drew (S := fun w' => Aside0 (w'.heap[dp]? = some (.cells (dcells room used (acts + 1) mp la (.slice As ss.length cs)) 54 (0, 0)))) (by kernel_rfl) ⟨blk_drew HD2.out.dsk⟩ (fun hHeld => ?_)
  refine wpAnyH_take (i := 0) (oi := Oper.mk _ _ _ _ _ _) (v := ?v0) rfl (by kernel_rfl) (by kernel_rfl) (by kernel_rfl) (fun _ _ _ h => h) (Or.inl ⟨by rfl, ?hy0⟩) (by assumption) ?r0
  case hy0 => (intro w hSw; clear hSw; go_simp; (try with_reducible rfl))
  try simp only [Act.put, List.setIfInBounds_toArray, List.set_cons_zero, List.set_cons_succ]
  refine wpAnyH_take (i := 1) (oi := Oper.mk _ _ _ _ _ _) (v := ?v1) rfl (by kernel_rfl) (by kernel_rfl) (by kernel_rfl) (fun _ _ _ h => h) (Or.inl ⟨by rfl, ?hy1⟩) (by assumption) ?r1
  case hy1 => (intro w hSw; clear hSw; go_simp; (try with_reducible rfl))
  try simp only [Act.put, List.setIfInBounds_toArray, List.set_cons_zero, List.set_cons_succ]
  refine wpAnyH_take (i := 2) (oi := Oper.mk _ _ _ _ _ _) (v := ?v2) rfl (by kernel_rfl) (by kernel_rfl) (by kernel_rfl) (fun _ _ _ h => h) (Or.inl ⟨by rfl, ?hy2⟩) (by assumption) ?r2
  case hy2 => (intro w hSw; clear hSw; go_simp; (try with_reducible rfl))
  try simp only [Act.put, List.setIfInBounds_toArray, List.set_cons_zero, List.set_cons_succ]
  refine wpAnyH_take (i := 3) (oi := Oper.mk _ _ _ _ _ _) (v := ?v3) rfl (by kernel_rfl) (by kernel_rfl) (by kernel_rfl) (fun _ _ _ h => h) (Or.inl ⟨by rfl, ?hy3⟩) (by assumption) ?r3
  case hy3 => (intro w hSw; (have g1 : w.cell? ⟨dp, 1, none⟩ = some (.map (some mp)) := blk_cell hSw.out 1); clear hSw; go_simp; (try with_reducible rfl))
  try simp only [Act.put, List.setIfInBounds_toArray, List.set_cons_zero, List.set_cons_succ]
  refine wpAnyH_take (i := 4) (oi := Oper.mk _ _ _ _ _ _) (v := ?v4) rfl (by kernel_rfl) (by kernel_rfl) (by kernel_rfl) (fun _ _ _ h => h) (Or.inl ⟨by rfl, ?hy4⟩) (by assumption) ?r4
  case hy4 => (intro w hSw; clear hSw; go_simp; (try with_reducible rfl))
  try simp only [Act.put, List.setIfInBounds_toArray, List.set_cons_zero, List.set_cons_succ]
  refine wpAnyH_take (i := 5) (oi := Oper.mk _ _ _ _ _ _) (v := ?v5) rfl (by kernel_rfl) (by kernel_rfl) (by kernel_rfl) (fun _ _ _ h => h) (Or.inl ⟨by rfl, ?hy5⟩) (by assumption) ?r5
  case hy5 => (intro w hSw; clear hSw; go_simp; (try with_reducible rfl))
  try simp only [Act.put, List.setIfInBounds_toArray, List.set_cons_zero, List.set_cons_succ]
  refine wpAnyH_ready (rs := [6]) (by kernel_rfl) (by simp) ?_
  refine AllReadyH.cons (o := Oper.mk _ _ _ _ _ _) rfl (fun K hK => ?_) AllReadyH.nil
  go_simp
  refine (HC.out _).mono ?_
  rintro e w3 ⟨rfl, hb3⟩
  have hdr : Below w2.heap.size w2 w2.drew := Drawn0.below ⟨1, rfl⟩
  have HB3 := Aside0.mk (show Below w2.heap.size w2 w3 from hdr.trans (below_w hb3 hdr.size))
  have HD3 := Aside0.mk (HD2.out.below HB3.out)
  clear hb3 hdr
  refine hK.out _ _ ⟨HD3.out.dsk⟩ (fun hHeld3 => ?_)
  clear hK K
  try simp only [Act.put, List.setIfInBounds_toArray, List.set_cons_zero, List.set_cons_succ]
  have HDo3 := Aside0.mk (HDo.out w3 HD3.out.map (HF2.out.trans (Fr.of HB3.out)))
  refine wpAnyH_ready (rs := [7]) (by kernel_rfl) (by simp) ?_
  refine AllReadyH.cons (o := Oper.mk _ _ _ _ _ _) rfl (fun K hK => ?_) AllReadyH.nil
  go_simp
  refine HDo3.out.mono ?_
  rintro e w4 ⟨rfl, v, hm4, ho4, hbut⟩
  have hne : mp ≠ dp := by
    rintro rfl
    have h1 := HD3.out.dsk
    rw [HD3.out.map] at h1
    cases h1
  have hd4 := (hbut.block dp (blk_lt HD3.out.dsk) (Ne.symm hne)).trans HD3.out.dsk
  have hs4 : w4.ownsRow B 89 1 (.slice As ss.length cs) ss.length ss := own_kept HD3.out.stp (row := some mp) ⟨hbut.os, hbut.tape, hbut.output, hbut.size, fun k hk hn => hbut.block k hk (fun h => hn (by rw [h]))⟩ (fun g hg hh => by
    cases hh
    obtain ⟨c1, k1⟩ := own_typed HD3.out.stp mp hg
    rw [HD3.out.map] at k1
    cases k1)
  have HD4 := Aside0.mk (show Ds w4 B dp mp room used (acts + 1) la (.slice As ss.length cs) ss #[fe v] 1 from ⟨hd4, hm4, hs4, HD3.out.gd, HD3.out.gm⟩)
  have HO4 := Aside0.mk (own_lower ho4 (show W.heap.size ≤ w3.heap.size by have := HB2.out.size; have := HB3.out.size; omega))
  have HB4 := Aside0.mk (show Below B W w4 from hbut.below HD3.out.gm (by have := HB2.out.size; have := HB3.out.size; omega) (HB2.out.trans (below_w HB3.out (by have := HB2.out.size; omega))))
  have HF4 := Aside0.mk ((HF2.out.trans (Fr.of HB3.out)).trans (hbut.fr (dp := dp)))
  have HNE := Aside0.mk hne
  clear hm4 ho4 hbut hd4 hs4 hne
  refine hK.out _ _ ⟨HD4.out.dsk⟩ (fun hHeld4 => ?_)
  clear hK K HD2 HB2 HF2 HD3 HB3 HDo3
  try simp only [Act.put, List.setIfInBounds_toArray, List.set_cons_zero, List.set_cons_succ]
  refine wpAnyH_done (by kernel_rfl) ?_ _
  go_upto_region 6 with (first | ((with_reducible refine (HC.out _).mono ?_); rintro e w5 ⟨rfl, hb5⟩; (have HD5 := Aside0.mk (HD4.out.below hb5)); (have HO5 := Aside0.mk (own_below HO4.out hb5)); (have HB5 := Aside0.mk (HB4.out.trans (below_w hb5 (Nat.le_trans HB0.out HB4.out.size)))); (have HF5 := Aside0.mk (HF4.out.trans (Fr.of hb5))); clear hb5) | fail)
  clear HD4 HO4 HB4 HF4 hHeld4
  have c3 : w5.cell? ⟨dp, 3, none⟩ = some (.slice As ss.length cs) := blk_cell HD5.out.dsk 3
  obtain ⟨i0, hi, hzz⟩ := Option.map_eq_some_iff.1 HI.out
  simp only [Prod.mk.injEq] at hzz
  obtain ⟨hz0, hz1, hz2⟩ := hzz
  have HIx := Aside0.mk (And.intro hi (And.intro hz0 (And.intro hz1 hz2)))
  clear hi hz0 hz1 hz2
  have HA := Aside0.mk (HD5.out.below (below_alloc (Below.refl w5.heap.size w5) (.cells #[.iface T x] 89)))
  have HNS := Aside0.mk (World.news_of_block (cs := #[.iface T x]) (t := 89) (fr := (0, 0)) (blk_new w5 (.cells #[.iface T x] 89)))
  have HLE : Aside0 (B ≤ w5.heap.size) := ⟨Nat.le_trans HB0.out HB5.out.size⟩
  go_upto_region 7 with (first
    | ((with_reducible refine gate_builtin (b := .append) (xs := #[.tmp 26, .tmp 28]) rfl ?_); at_builtin; refine wpList_append_own_at _ rfl (.tmp 26) (.tmp 28) 52 rfl B 89 i0 .nilIface 1 16 Try.underlying52 HIx.out.1 HIx.out.2.1 HIx.out.2.2.1 HIx.out.2.2.2 rfl (by decide) (.slice As ss.length cs) ss.length ss ?s_ HA.out.stp ⟨w5.heap.size, 0, none⟩ 1 1 [.iface T x] ?x_ rfl HNS.out ?o_ (by have := HSS.out; simp only [maxLen]; omega) (by have := HSS.out; omega) (by rw [World.size_alloc]; have := HLE.out; omega) ?_; (case s_ => go_simp); (case x_ => go_simp); (case o_ => intro u hu; obtain rfl := List.mem_singleton.1 hu; rfl); intro v6 w6 g1 g2 _ _; obtain ⟨A6, c6, hv6, _⟩ := own_form g1; (have hv6_ : v6 = .slice A6 (ss.length + 1) c6 := hv6); clear hv6; subst hv6_; (have HG1 := Aside0.mk g1); (have HG2 := Aside0.mk g2); clear g1 g2; (have HK6 := Aside0.mk (show w6.heap[dp]? = some (.cells (dcells room used (acts + 1) mp la (.slice As ss.length cs)) 54 (0, 0)) from (HG2.out.block dp (blk_lt HA.out.dsk) (fun h => by obtain ⟨c1, k1⟩ := own_typed HA.out.stp dp h.symm; rw [HA.out.dsk] at k1; injection k1 with k1; injection k1 with _ k1; exact absurd k1 (by decide))).trans HA.out.dsk)); (have k3 : w6.cell? ⟨dp, 3, none⟩ = some (.slice As ss.length cs) := blk_cell HK6.out 3); (have f3 : w6.frozen? ⟨dp, 3, none⟩ = false := blk_frozen HK6.out 3))
    | fail)
  obtain ⟨Av, cv, rfl, _⟩ := Frm.own_slice HO5.out
  have hne : mp ≠ dp := HNE.out
  have HM6 := Aside0.mk (show w6.heap[mp]? = some (.map #[fe (.slice Av zs.length cv)] 1) from (HG2.out.block mp (Array.getElem?_eq_some_iff.1 HA.out.map).1 (fun h => by obtain ⟨c1, k1⟩ := own_typed HA.out.stp mp h.symm; rw [HA.out.map] at k1; cases k1)).trans HA.out.map)
  have HB6 := Aside0.mk (show Below B W w6 from (HB5.out.trans (below_w (below_alloc (Below.refl w5.heap.size w5) _) HLE.out)).trans (below_grown (Below.refl B _) HG2.out HA.out.stp (by rw [World.size_alloc]; have := HLE.out; omega)))
  have HO6 := Aside0.mk (own_kept (Frm.own_alloc HO5.out (.cells #[.iface T x] 89)) HG2.out (fun g hg hh => by
    obtain ⟨c1, k1⟩ := own_typed (Frm.own_alloc HO5.out (.cells #[.iface T x] 89)) g hg
    obtain ⟨c2, k2⟩ := own_typed HA.out.stp g hh
    rw [k1] at k2
    injection k2 with k2
    injection k2 with _ k2
    exact absurd k2 (by decide)))
  have HF6 := Aside0.mk (show Fr dp mp W w6 from (HF5.out.trans (Fr.of (below_alloc (Below.refl w5.heap.size w5) _))).trans ⟨HG2.out.os, HG2.out.tape, HG2.out.output, HG2.out.size, fun k hk _ _ h3 => HG2.out.block k hk (fun h => by obtain ⟨c1, k1⟩ := own_typed HA.out.stp k h.symm; exact h3 c1 k1)⟩)
  have HD7 := Aside0.mk (show Ds (w6.setCell ⟨dp, 3, none⟩ (.slice A6 (ss.length + 1) c6)) B dp mp room used (acts + 1) la (.slice A6 (ss.length + 1) c6) (ss ++ [.iface T x]) #[fe (.slice Av zs.length cv)] 1 from ⟨blk_put HK6.out 3 _ rfl, (Below.heap_setCell w6 ⟨dp, 3, none⟩ _ mp hne).trans HM6.out, by
    have h9 := own_setCell HG1.out (p := ⟨dp, 3, none⟩) (fun e => by
      obtain ⟨c1, k1⟩ := own_typed HG1.out dp e.symm
      rw [HK6.out] at k1
      injection k1 with k1
      injection k1 with _ k1
      exact absurd k1 (by decide)) (.slice A6 (ss.length + 1) c6)
    rw [List.length_append]
    exact h9, HD5.out.gd, HD5.out.gm⟩)
  have HO7 := Aside0.mk (own_setCell HO6.out (p := ⟨dp, 3, none⟩) (fun e => by
      obtain ⟨c1, k1⟩ := own_typed HO6.out dp e.symm
      rw [HK6.out] at k1
      injection k1 with k1
      injection k1 with _ k1
      exact absurd k1 (by decide)) (.slice A6 (ss.length + 1) c6))
  have HB7 := Aside0.mk (HB6.out.setCell (p := ⟨dp, 3, none⟩) HD5.out.gd (.slice A6 (ss.length + 1) c6))
  have HF7 := Aside0.mk (HF6.out.trans (Fr.set (mp := mp) (dp := dp) 3 (.slice A6 (ss.length + 1) c6)))
  clear HG1 HG2 HK6 HM6 HB6 HO6 HF6 HA HNS HD5 HO5 HB5 HF5 k3 f3 c3 hne
  generalize w6.setCell ⟨dp, 3, none⟩ (.slice A6 (ss.length + 1) c6) = w7 at HD7 HO7 HB7 HF7 ⊢
  have c1 : w7.cell? ⟨dp, 1, none⟩ = some (.map (some mp)) := blk_cell HD7.out.dsk 1
  go_wp2_with (first | (go_at_call 63; refine (takes1_calls _ _ _ _ _ HZ.out HD7.out.map).mono ?_; rintro e w8 ⟨rfl, hb8⟩; (have HD8 := Aside0.mk (HD7.out.below hb8)); (have HO8 := Aside0.mk (own_below HO7.out hb8)); (have HB8 := Aside0.mk (HB7.out.trans (below_w hb8 (Nat.le_trans HB0.out HB7.out.size)))); (have HF8 := Aside0.mk (HF7.out.trans (Fr.of hb8))); (have k4 : w8.cell? ⟨dp, 4, none⟩ = some (.int .i64 used) := blk_cell HD8.out.dsk 4); (have f4 : w8.frozen? ⟨dp, 4, none⟩ = false := blk_frozen HD8.out.dsk 4); clear hb8) | fail)
  go_ret
  refine ⟨rfl, .slice Av zs.length cv, .slice A6 (ss.length + 1) c6, ⟨blk_put HD8.out.dsk 4 _ rfl, (Below.heap_setCell w8 ⟨dp, 4, none⟩ _ mp HNE.out).trans HD8.out.map, ?_, HD8.out.gd, HD8.out.gm⟩, ?_, HB8.out.setCell (p := ⟨dp, 4, none⟩) HD8.out.gd _, HF8.out.trans (Fr.set (mp := mp) (dp := dp) 4 _)⟩
  · exact own_setCell HD8.out.stp (p := ⟨dp, 4, none⟩) (fun e => by
      obtain ⟨c1, k1⟩ := own_typed HD8.out.stp dp e.symm
      rw [HD8.out.dsk] at k1
      injection k1 with k1
      injection k1 with _ k1
      exact absurd k1 (by decide)) _
  · exact own_setCell HO8.out (p := ⟨dp, 4, none⟩) (fun e => by
      obtain ⟨c1, k1⟩ := own_typed HO8.out dp e.symm
      rw [HD8.out.dsk] at k1
      injection k1 with k1
      injection k1 with _ k1
      exact absurd k1 (by decide)) _
end Wl

end Go.Proofs.Ytbfcejbjljalmaa.P
