import Derived.Test.YtepkaaplhcbkbaaGreatT32
import Derived.Deep.Upon
import Derived.Deep.QuietTactic
import Derived.BigQuiet
import Derived.Deep.RegionHeld3
import Derived.Deep.DeepCutAuto
import Derived.Deep.CutBlock
import Derived.Laws.EntriesVeiled
import Derived.StillTailTactics
import Derived.Laws.Tables
import Derived.Laws.CopyOwn
import Derived.Great.Walk
import Derived.Great.BuildSlice
import Derived.IntWalk
import Derived.Test.YtepkaaplhcbkbaaGreatBlocks
import Derived.Laws.CopyOwn
import Derived.Laws.Tables
import Derived.Outline
namespace Go.Proofs.YtepkaaplhcbkbaaGreat.G
open Go.RowKit Go.Proofs.YtepkaaplhcbkbaaGreatW.PrintWords Go.Proofs.YtepkaaplhcbkbaaGreatW.PrintLast Go.Proofs.YtepkaaplhcbkbaaGreatW.PrintMore
set_option linter.unusedVariables false
set_option linter.unusedSimpArgs false
namespace Msg
open Pk Frm
set_option maxRecDepth 100000
/-- 'lines()[k]', in whatever world the map lies so. -/
theorem look_one {W : World} {b : Nat} {es : Array MapEntry} (he : Ents W b 28 es) (j : Nat) (hj28 : j < 28) : ∃ g gf, Way W g (wsT j) ∧ Fld W gf (fsT j) ∧ ∀ w, w.heap[b]? = some (.map es 28) → (Instr.lookup 107 (.map (some b)) (.int .i64 ((j : Int) + 1)) false).run Tryz.prog w = .ok (.agg #[.string (nmT j), .slice (some ⟨g, 0, none⟩) (wsT j).length (wsT j).length, .slice (some ⟨gf, 0, none⟩) (fsT j).length (fsT j).length]) w := by
  have hkeys : ∀ x ∈ es.toList, MapKept.IsKey (.int .i64) x.key := fun x hx => by
    obtain ⟨i, hi, rfl⟩ := List.getElem_of_mem hx
    rw [(he.ent i _ (by rw [Array.getElem?_eq_getElem (by simpa using hi)]; simp)).1]
    rfl
  have hc : ∀ w e, (Instr.checkKey e 10000 25 (.int .i64 ((j : Int) + 1))).run Tryz.prog w = .ok () w := fun w e => MapKept.run_checkKey (k := .int .i64 ((j : Int) + 1)) Tryz.underlying25 rfl e 9999
  rcases MapKept.findNow_spec (d := .int .i64) (k := .int .i64 ((j : Int) + 1)) rfl es.toList 0 hkeys with h | ⟨i, e, hf, hi, hk⟩
  · exact absurd (show 1 ≤ (j : Int) + 1 ∧ (j : Int) + 1 ≤ 28 by omega) (not_in he ((j : Int) + 1) h.2)
  · rw [Array.getElem?_toList] at hi
    obtain ⟨h1, g, gf, hv, hg, hgf, hw, hfl⟩ := he.ent i e hi
    rw [h1] at hk
    have hk := (Value.int.inj hk).2
    obtain rfl : i = j := by omega
    refine ⟨g, gf, hw, hfl, fun w hb => ?_⟩
    simp [Instr.lookup, run_underlying Tryz.underlying107, MapKept.run_getObj_map hb, hc, MapKept.run_findKey Tryz.underlying25 hf, Result.andThen, hv]
theorem field2 (W : World) (s : ByteArray) (A : Option Addr) (n c : Nat) (A2 : Option Addr) (n2 c2 : Nat) : (Instr.field 106 (.agg #[.string s, .slice A n c, .slice A2 n2 c2]) 2).run Tryz.prog W = .ok (.slice A2 n2 c2) W := by kernel_rfl
theorem ffield0 (W : World) (f0 f1 f2 f3 : FuncId) (c0 c1 c2 c3 : Array Value) : (Instr.field 116 (.agg #[.func (.func f0) #[] c0, .func (.func f1) #[] c1, .func (.func f2) #[] c2, .func (.func f3) #[] c3]) 0).run Tryz.prog W = .ok (.func (.func f0) #[] c0) W := by kernel_rfl
theorem exec_load_row {P : Program} {o : Oper} {a : Act} {w : World} (ty : TypeId) (x : Operand) (ho : o.op = .load ty x) (g : Nat) (hx : a.eval x = .pointer (some ⟨g, 0, none⟩)) (t : TypeId) (cs : Array Value) (fr : Nat × Nat) (d : TypeDesc) (hg : w.heap[g]? = some (.cells cs t fr))
    (hu : P.underlying ty = some d) (hd : (match d with | .struct _ | .array _ _ => true | _ => false) = true) (hi : (P.info? ty).map (·.size) = some cs.size) : Sem.run P (execOp a.eval o) w = .ok (.value (.agg cs)) w := by
  unfold execOp
  simp only [ho, hx, Instr.loadAt, Instr.sureAddr, Sem.run_bind, Sem.run_pure, Result.andThen_ok, run_loadVar_row w g t ty cs fr d hg hu hd hi]
/-- A field that is laid down: its function, whether it may be so, and its bytes. -/
structure FL where
  f : FuncId
  may : Mg → Ls → Bool
  lay : Mg → Ls → List Int
def layK (Fs : List FL) (m : Mg) (l : Ls) : List Int := Fs.flatMap (fun x => x.lay m l)
/-- A message's body. -/
def bodyOf (Fs : List FL) (m : Mg) (l : Ls) : List Int := ubs m.fr ++ ubs m.tt ++ layK Fs m l
/-- What a round of the fields finds. -/
structure Le (W w : World) (m : Mg) (l : Ls) (j gf p : Nat) (xs : List Int) : Prop where
  fld : Fld w gf (fsT j)
  msg : w.heap[W.heap.size]? = some (.cells m.cells 49 (0, 0))
  pw : PW w p p xs
  rd : Rd w m l
  bel : Below W.heap.size W w
  lt : W.heap.size < p
theorem Le.below {W w w' : World} {m : Mg} {l : Ls} {j gf p : Nat} {xs : List Int} (h : Le W w m l j gf p xs) (hB : Below w.heap.size w w') : Le W w' m l j gf p xs :=
  ⟨blk_below h.fld hB, blk_below h.msg hB, h.pw.below hB, h.rd.below hB, h.bel.trans (below_weaken' hB h.bel.size), h.lt⟩
theorem Le.lay {W w w' : World} {m : Mg} {l : Ls} {j gf p : Nat} {xs ys : List Int} (h : Le W w m l j gf p xs) (hr : Rd W m l) (hp : PW w' p p ys) (hB : Below p w w') (hk : Kp p w w') : Le W w' m l j gf p ys := by
  have hb : Below W.heap.size W w' := h.bel.trans ⟨hB.os, hB.tape, hB.output, hB.size, fun k hk => hB.block k (by have := h.lt; omega)⟩
  obtain ⟨bv, hpb, _⟩ := h.pw.out
  have hne : gf ≠ p := blk_ne h.fld hpb (by decide)
  exact ⟨hk.at h.fld hne (by decide), (hB.block _ h.lt).trans h.msg, hp, hr.below hb, hb, h.lt⟩
set_option maxHeartbeats 4000000 in
theorem encode_calls (W : World) (m : Mg) (l : Ls) (hr : Rd W m l) (j : Nat) (hj : j < 28) (hk : m.kd = (j : Int) + 1) (Fs : List FL) (hfs : fsT j = Fs.map (·.f)) (hsem : ∀ x ∈ Fs, LaySem x.f x.may x.lay) (hmay : ∀ x ∈ Fs, x.may m l = true)
    (hck : ∀ w, Rd w m l → Calls Tryz.prog 18 #[.agg m.cells] w fun e w' => e = .returned (.int .i64 0) ∧ Below w.heap.size w w')
    (hf0 : 0 ≤ m.fr) (hf1 : m.fr ≤ 116) (ht0 : 0 ≤ m.tt) (ht1 : m.tt ≤ 116) (hlen : ∀ k, (ubs m.fr ++ ubs m.tt ++ layK (Fs.take k) m l).length ≤ 1048576) :
    Calls Tryz.prog 22 #[.agg m.cells] W fun r w => ∃ v, r = .returned (.tuple #[v, .int .i64 0]) ∧ w.ownsRow W.heap.size 5 1 v (fenc m.kd (bodyOf Fs m l)).length (nums .u8 (fenc m.kd (bodyOf Fs m l))) ∧ Below W.heap.size W w := by
  have HM := Aside0.mk (blk_new W (.cells m.cells 49))
  have HR0 := Aside0.mk hr
  have HR := Aside0.mk (hr.below (below_alloc (Below.refl _ _) (.cells m.cells 49)))
  have HB := Aside0.mk (below_alloc (Below.refl W.heap.size W) (.cells m.cells 49))
  have HK := Aside0.mk hk
  have HS := Aside0.mk hsem
  have HMAY := Aside0.mk hmay
  have HFS := Aside0.mk hfs
  have HCK := Aside0.mk hck
  have HLN := Aside0.mk hlen
  have HFT := Aside0.mk (And.intro (And.intro hf0 hf1) (And.intro ht0 ht1))
  have HU := Aside0.mk Tryz.underlying49
  have HI : Aside0 ((Tryz.prog.info? 49).map (·.size) = some 37) := ⟨by kernel_rfl⟩
  have wf : IntKind.u64.wrap m.fr = m.fr := by rw [wrap_u64_eq]; omega
  have wt : IntKind.u64.wrap m.tt = m.tt := by rw [wrap_u64_eq]; omega
  clear hr hk hsem hmay hfs hck hlen
  go_enter Tryz.func22, Tryz.ntmps22
  go_upto_region 4 with (first
    | ((with_reducible refine wpList_load_row rfl 49 (.tmp 1) rfl W.heap.size ?_ 49 m.cells (0, 0) _ HM.out HU.out ?_ ?_ ?_); (· rfl); (· rfl); (· exact HI.out))
    | (go_at_call 18; refine (HCK.out _ HR.out).mono ?_; rintro r w1 ⟨rfl, hb⟩; (have HM1 := Aside0.mk (blk_below HM.out hb)); (have HB1 := Aside0.mk (HB.out.trans (below_weaken' hb HB.out.size))); clear hb)
    | fail)
  clear HM HB HR
  have HLT : Aside0 (W.heap.size < w1.heap.size) := ⟨blk_lt HM1.out⟩
  have HP2 := Aside0.mk (PW.new (blk_new w1 (.cells #[.int .i64 0, .slice none 0 0] 134)))
  have HM2 := Aside0.mk (blk_alloc HM1.out (.cells #[.int .i64 0, .slice none 0 0] 134))
  have HB2 := Aside0.mk (HB1.out.alloc HB1.out.size (.cells #[.int .i64 0, .slice none 0 0] 134))
  clear HM1 HB1
  go_upto_region 5 with fail
  generalize w1.alloc (.cells #[.int .i64 0, .slice none 0 0] 134) = w2 at HP2 HM2 HB2 ⊢
  generalize w1.heap.size = p at HP2 HLT ⊢
  have x1 : w2.cell? ⟨W.heap.size, 1, none⟩ = some (.int .i64 m.fr) := blk_cell HM2.out 1
  go_upto_region 6 with (first
    | (go_at_call 58; refine (puint_calls HP2.out m.fr HFT.out.1.1 (by have := HFT.out.1.2; omega) (by decide)).mono ?_; rintro r w3 ⟨rfl, h3, hb, hk⟩; (have HP3 := Aside0.mk h3); (have HM3 := Aside0.mk ((hb.block _ HLT.out).trans HM2.out)); (have HB3 := Aside0.mk (HB2.out.trans (below_weaken' hb (Nat.le_of_lt HLT.out)))); clear h3 hb hk)
    | fail)
  clear HP2 HM2 HB2 x1
  have x2 : w3.cell? ⟨W.heap.size, 2, none⟩ = some (.int .i64 m.tt) := blk_cell HM3.out 2
  have hl3 : Aside0 (([] ++ ubs m.fr).length ≤ 1099511627776) := ⟨by have : (ubs m.fr).length ≤ 100 := ub_len _ _; simp; omega⟩
  go_upto_region 7 with (first
    | (go_at_call 58; refine (puint_calls HP3.out m.tt HFT.out.2.1 (by have := HFT.out.2.2; omega) hl3.out).mono ?_; rintro r w4 ⟨rfl, h3, hb, hk⟩; (have HP4 := Aside0.mk h3); (have HM4 := Aside0.mk ((hb.block _ HLT.out).trans HM3.out)); (have HB4 := Aside0.mk (HB3.out.trans (below_weaken' hb (Nat.le_of_lt HLT.out)))); clear h3 hb hk)
    | fail)
  clear HP3 HM3 HB3 x2 hl3
  have hf2 := field2
  have x0 : w4.cell? ⟨W.heap.size, 0, none⟩ = some (.int .i64 ((j : Int) + 1)) := by rw [← HK.out]; exact blk_cell HM4.out 0
  have HLT4 : Aside0 (W.heap.size < w4.heap.size) := ⟨blk_lt HM4.out⟩
  go_region_held3 (fun w' => w'.cell? ⟨W.heap.size, 0, none⟩ = some (.int .i64 ((j : Int) + 1))) (go_keep) ((go_at_call 46; refine (lines_calls _).mono ?_; rintro e w5 ⟨b, es, rfl, hE, hB⟩; (have hcx : w5.cell? ⟨W.heap.size, 0, none⟩ = some (.int .i64 ((j : Int) + 1)) := (hB.cell (p := ⟨W.heap.size, 0, none⟩) HLT4.out).trans (by first | assumption | exact x0)); obtain ⟨g, gf, hW, hF, hL⟩ := look_one hE j hj; (have hL1 := hL w5 hE.here); (have HF5 := Aside0.mk hF); (have HB5 := Aside0.mk hB)))
  have HPW : Aside0 (Fld w5 gf (fsT j) ∧ w5.heap[W.heap.size]? = some (.cells m.cells 49 (0, 0)) ∧ PW w5 p p (([] ++ ubs m.fr) ++ ubs m.tt) ∧ Below W.heap.size W w5) := ⟨by
    have hd : Below w4.heap.size w4 w4.drew := below_drew (Below.refl _ _)
    have hb5 : Below w4.heap.size w4 w5 := hd.trans (below_weaken' HB5.out hd.size)
    exact ⟨HF5.out, blk_below HM4.out hb5, HP4.out.below hb5, HB4.out.trans (below_weaken' hb5 HB4.out.size)⟩⟩
  have HL5 : Aside0 (Le W w5 m l j gf p (ubs m.fr ++ ubs m.tt ++ layK (Fs.take 0) m l)) := ⟨⟨HPW.out.1, HPW.out.2.1, by have h := HPW.out.2.2.1; rw [List.nil_append] at h; rw [List.take_zero]; show PW w5 p p (ubs m.fr ++ ubs m.tt ++ []); rw [List.append_nil]; exact h, HR0.out.below HPW.out.2.2.2, HPW.out.2.2.2, HLT.out⟩⟩
  clear HPW HF5 HB5 HB4 HP4 HM4 x0 HLT4 hF hW hE hL1 hL hcx hB
  go_wp2
  go_loopw [29] (fun v wr => ∃ k : Nat, v = .int .i64 k ∧ k ≤ (fsT j).length ∧ Aside0 (Le W wr m l j gf p (ubs m.fr ++ ubs m.tt ++ layK (Fs.take k) m l))) (fun v _ => (fsT j).length - (intOf v).toNat)
  case atStart => exact ⟨0, rfl, Nat.zero_le _, HL5⟩
  case round =>
    obtain ⟨k, rfl, hk, HP⟩ := hrel
    have hlen : (fsT j).length = Fs.length := by rw [HFS.out, List.length_map]
    have hk8 : k ≤ 8 := Nat.le_trans hk (fsT_few j hj)
    by_cases hlt : k < (fsT j).length
    · have hltF : k < Fs.length := by omega
      obtain ⟨x, hx⟩ : ∃ x, x = Fs[k] := ⟨_, rfl⟩
      have hmem : x ∈ Fs := by rw [hx]; exact List.getElem_mem _
      have hcf : wr.cell? ⟨gf, k, none⟩ = some (.func (.func x.f) #[] #[]) := by
        have h1 := blk_cell HP.out.fld k
        rw [h1, hx]
        have : (fsT j)[k]? = some Fs[k].f := by rw [HFS.out, List.getElem?_map, List.getElem?_eq_getElem hltF]; rfl
        simp [this]
      have hent : ∀ (args : Array Value) (w : World), Sem.run Tryz.prog (callFunc x.f args) w = .ok (.enter x.f args) w := (HS.out x hmem).ent
      have HRun := Aside0.mk (HS.out x hmem).run
      have HMX := Aside0.mk (HMAY.out x hmem)
      have HTK : Aside0 (layK (Fs.take (k + 1)) m l = layK (Fs.take k) m l ++ x.lay m l) := ⟨by unfold layK; rw [hx, List.take_succ_eq_append_getElem hltF, List.flatMap_append]; simp⟩
      have hki : (k : Int) < ((fsT j).length : Int) := by omega
      have HKL := Aside0.mk (show k + 1 ≤ (fsT j).length from hlt)
      have hff := ffield0
      clear hlen hltF hx hmem
      go_upto_region 10 with fail
      refine wp_region_held_drew (S := fun w' => Aside0 (w'.heap[W.heap.size]? = some (.cells m.cells 49 (0, 0)))) (by kernel_rfl) ⟨blk_drew HP.out.msg⟩ (fun hHeld => ?_)
      refine wpAnyH_take (i := 0) (oi := Oper.mk _ _ _ _ _ _) (v := ?v0) rfl (by kernel_rfl) (by kernel_rfl) (by kernel_rfl) (fun _ _ _ h => h) (Or.inl ⟨by rfl, ?hy0⟩) (by assumption) ?r0
      case hy0 => (intro w hSw; clear hSw; go_simp; (try with_reducible rfl))
      try simp only [Act.put, List.setIfInBounds_toArray, List.set_cons_zero, List.set_cons_succ]
      refine wpAnyH_take (i := 1) (oi := Oper.mk _ _ _ _ _ _) (v := ?v1) rfl (by kernel_rfl) (by kernel_rfl) (by kernel_rfl) (fun _ _ _ h => h) (Or.inl ⟨by rfl, ?hy1⟩) (by assumption) ?r1
      case hy1 => (intro w hSw; clear hSw; go_simp; (try with_reducible rfl))
      try simp only [Act.put, List.setIfInBounds_toArray, List.set_cons_zero, List.set_cons_succ]
      refine wpAnyH_take (i := 4) (oi := Oper.mk _ _ _ _ _ _) (v := .agg m.cells) rfl (by kernel_rfl) (by kernel_rfl) (by kernel_rfl) (fun _ _ _ h => h) (Or.inl ⟨by rfl, ?hy4⟩) (by assumption) ?r4
      case hy4 => (intro w hSw; exact exec_load_row 49 (.tmp 1) rfl W.heap.size rfl 49 m.cells (0, 0) _ hSw.out HU.out rfl HI.out)
      try simp only [Act.put, List.setIfInBounds_toArray, List.set_cons_zero, List.set_cons_succ]
      have HPD := Aside0.mk (HP.out.below (Drawn0.below ⟨1, rfl⟩))
      change Aside0 (Le W wr.drew m l j gf p (ubs m.fr ++ ubs m.tt ++ layK (Fs.take k) m l)) at HPD
      refine wpAnyH_ready (rs := [2]) (by kernel_rfl) (by simp) ?_
      refine AllReadyH.cons (o := Oper.mk _ _ _ _ _ _) rfl (fun K hK => ?_) AllReadyH.nil
      go_simp
      refine (HRun.out _).mono ?_
      rintro e w6 ⟨f0, c0, f1, c1, f2, c2, f3, c3, rfl, hb, hent0, hlay⟩
      have HP6 := Aside0.mk (HPD.out.below hb)
      have HLAY := Aside0.mk (hlay w6 (fun k _ _ => rfl))
      have hent1 : ∀ (args : Array Value) (w : World), Sem.run Tryz.prog (callFunc f0 args) w = .ok (.enter f0 args) w := hent0
      have HXL : Aside0 ((ubs m.fr ++ ubs m.tt ++ layK (Fs.take k) m l).length ≤ 1099511627776) := ⟨Nat.le_trans (HLN.out k) (by decide)⟩
      clear hb hlay HPD HP
      refine hK.out _ _ ⟨HP6.out.msg⟩ (fun hHeld6 => ?_)
      clear hK K
      try simp only [Act.put, List.setIfInBounds_toArray, List.set_cons_zero, List.set_cons_succ]
      refine wpAnyH_take (i := 3) (oi := Oper.mk _ _ _ _ _ _) (v := .func (.func f0) #[] c0) rfl (by kernel_rfl) (by kernel_rfl) (by kernel_rfl) (fun _ _ _ h => h) (Or.inl ⟨by rfl, ?hy3⟩) (by exact hHeld6) ?r3
      case hy3 => (intro w hSw; clear hSw; go_simp; (try with_reducible rfl))
      try simp only [Act.put, List.setIfInBounds_toArray, List.set_cons_zero, List.set_cons_succ]
      refine wpAnyH_ready (rs := [5]) (by kernel_rfl) (by simp) ?_
      refine AllReadyH.cons (o := Oper.mk _ _ _ _ _ _) rfl (fun K hK => ?_) AllReadyH.nil
      go_simp
      refine (HLAY.out m l p p _ HMX.out HP6.out.rd HP6.out.pw HXL.out).mono ?_
      rintro e w7 ⟨rfl, hp7, hb7, hk7⟩
      have HP7 := Aside0.mk (HP6.out.lay HR0.out hp7 hb7 hk7)
      have HM7 := Aside0.mk ((hb7.block _ HP6.out.lt).trans HP6.out.msg)
      clear hp7 hb7 hk7
      refine hK.out _ _ ⟨HM7.out⟩ (fun hHeld7 => ?_)
      clear hK K
      try simp only [Act.put, List.setIfInBounds_toArray, List.set_cons_zero, List.set_cons_succ]
      refine wpAnyH_done (by kernel_rfl) ?_ _
      go_wp2
      go_roundw
      case rel => exact ⟨k + 1, by go_num, HKL.out, ⟨by rw [HTK.out, ← List.append_assoc]; exact HP7.out⟩⟩
      case measure => (try simp [intOf]); (try (have := HKL.out; omega))
    · have hkn : k = Fs.length := by omega
      have HPL : Aside0 (Le W wr m l j gf p (bodyOf Fs m l)) := ⟨by have h := HP.out; rw [hkn, List.take_length] at h; exact h⟩
      have HBL : Aside0 ((bodyOf Fs m l).length ≤ 1048576) := ⟨by have h := HLN.out Fs.length; rw [List.take_length] at h; exact h⟩
      have HKD : Aside0 (1 ≤ m.kd ∧ m.kd ≤ 255) := ⟨by have := HK.out; omega⟩
      clear HP hkn hlen
      go_upto_region 13 with (first
        | (go_at_call 59; refine (pbytes_calls HPL.out.pw (Nat.le_trans HBL.out (by decide))).mono ?_; rintro r w6 ⟨v6, rfl, ho, hb⟩; obtain ⟨A6, c6, hv6, _⟩ := Frm.own_slice ho; subst hv6; (have HP6 := Aside0.mk (HPL.out.below hb)); (have HO6 := Aside0.mk ho); clear ho hb)
        | fail)
      clear HPL
      have y0 : w6.cell? ⟨W.heap.size, 0, none⟩ = some (.int .i64 m.kd) := blk_cell HP6.out.msg 0
      go_wp2_with (first
        | (go_at_call 60; refine (enc_calls _ m.kd A6 c6 (bodyOf Fs m l) (Frm.C_own HO6.out) HKD.out.1 HKD.out.2 HBL.out).mono ?_; rintro r w8 ⟨v8, rfl, ho, hb⟩; (have HO8 := Aside0.mk (own_lower ho HP6.out.bel.size)); (have HB8 := Aside0.mk (HP6.out.bel.trans (below_weaken' hb HP6.out.bel.size))); clear ho hb)
        | fail)
      go_ret2
      exact ⟨_, rfl, HO8.out, HB8.out⟩
end Msg

end Go.Proofs.YtepkaaplhcbkbaaGreat.G
