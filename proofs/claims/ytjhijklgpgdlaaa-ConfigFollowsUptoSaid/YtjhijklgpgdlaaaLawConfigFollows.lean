-- Written for this claim by a program of this session (wip/xprint.py), by means of the kit's print. Not trusted: Lean checks it.
import Derived.Test.YtjhijklgpgdlaaaRows
import Derived.Test.YtjhijklgpgdlaaaGx10
import Derived.Test.YtjhijklgpgdlaaaPureConfigFollows
import Derived.Test.YtjhijklgpgdlaaaOpens
import Derived.WalkKit
import Derived.ProofKit
import Derived.OpenShut
import Derived.ShutString
import Derived.ChangeOld
import Derived.Below
import Derived.Carry
import Derived.JoinedCond
namespace Go.Proofs.Ytjhijklgpgdlaaa.configFollows
open Go.ChangeShapes Go.WideShapes Go.ChangeAt Go.RowKit Go.Proofs.Ytjhijklgpgdlaaa.G Go.Proofs.YtjhijklgpgdlaaaW.PrintWords Go.Proofs.YtjhijklgpgdlaaaW.PrintLast Go.Proofs.Ytjhijklgpgdlaaa.Open
open Go.ChangeMaps (open_string shut_string)
set_option linter.unusedVariables false
set_option linter.unusedSimpArgs false
theorem own : ownKnob Try.prog.godebug = none := by kernel_rfl
theorem laidOut : laidOutB Try.prog = true := by kernel_rfl
theorem opens0 : Opens Try.prog 32 k32 (fun a : S32 => (1 + (((a.f1.map (fun _ => 1)).sum + 1)) + 1)) (fun a : S32 => ((Lit.int .i64 a.f0).wf = true) ∧ (∀ y0 ∈ a.f1, (Lit.int .i64 y0).wf = true)) := (opens_struct Try.underlying32 (opensF_cons rfl (by kernel_rfl) (opens_int Try.underlying3) (opensF_one rfl (by kernel_rfl) (opens_slice Try.underlying30 (opens_int Try.underlying3) (by kernel_rfl)))) (by kernel_rfl) (fun x : S32 => (x.f0, x.f1)) (fun p => (⟨p.1, p.2⟩ : S32)) (fun _ => rfl))
theorem opens1 : Opens Try.prog 32 k32 (fun a : S32 => (1 + (((a.f1.map (fun _ => 1)).sum + 1)) + 1)) (fun a : S32 => ((Lit.int .i64 a.f0).wf = true) ∧ (∀ y0 ∈ a.f1, (Lit.int .i64 y0).wf = true)) := (opens_struct Try.underlying32 (opensF_cons rfl (by kernel_rfl) (opens_int Try.underlying3) (opensF_one rfl (by kernel_rfl) (opens_slice Try.underlying30 (opens_int Try.underlying3) (by kernel_rfl)))) (by kernel_rfl) (fun x : S32 => (x.f0, x.f1)) (fun p => (⟨p.1, p.2⟩ : S32)) (fun _ => rfl))
set_option maxRecDepth 100000 in
theorem contract (H : Type) (enc : TypeId × Value → H) (W : World) (base : Nat) (args : Array Value) (ds gs : List (DataW H)) (before : List MemPlace)
    (hval0 : ∀ (j : Nat) t v, Try.f7.params[j]? = some t → args[j]? = some v → Value.okWide Try.prog W .any base t v)
    (hW : DataW.Whole enc Try.prog Try.f7.params.toList Rows.configFollowsSpec.vars false W args.toList ds gs before) (hk0 : Rows.uptoSmall H (ds ++ gs) = true) :
    Calls Try.prog 7 args W fun e W' => ∃ v, e = .returned v ∧ Rows.configFollowsSpec.post enc Try.prog Try.f7 false true false false W args v W' := by
  have hk : Rows.uptoBulkAll (ds ++ gs) ≤ 1048576 := of_decide_eq_true hk0
  clear hk0
  have hval : ∀ (j : Nat) t v, Try.f7.params[j]? = some t → args[j]? = some v → Value.okWide Try.prog W .any base t v := hval0
  have hW' := hW
  obtain ⟨p, q, hA0, hV, rfl, hfz, hnd⟩ := hW
  have hA : DataW.TrodAll enc Try.prog W 0 (fun _ => true) true Try.f7.params.toList args.toList ds p := hA0
  rw [Try.params7] at hA hval
  obtain ⟨v0, vs0, d0, ds0, p0, q0, hargs, rfl, rfl, h0, r0⟩ := trodAll_cons hA
  obtain ⟨v1, vs1, d1, ds1, p1, q1, rfl, rfl, rfl, h1, r1⟩ := trodAll_cons r0
  obtain ⟨rfl, rfl, rfl⟩ := trodAll_nil r1
  obtain rfl : args = #[v0, v1] := by cases args; simp_all
  obtain ⟨rfl, rfl⟩ := trodVars_none hV
  simp only [List.cons_append, List.nil_append, List.append_nil, Rows.uptoBulkAll] at hk
  have k0 := h0
  have lt0 : ∀ x ∈ p0, x.block < W.heap.size := by obtain ⟨m, hm⟩ := k0; exact DataW.trod_lt m _ _ _ hm
  obtain ⟨a0, K0, w0, m0⟩ := opens0.arg (by omega) h0
  obtain ⟨cs0, rfl, _⟩ := okWide_struct Try.underlying32 (hval 0 32 v0 rfl rfl)
  obtain ⟨A0_1, c0_1, e0, hc0_1, hr0_1⟩ := k32_open K0
  obtain rfl : cs0 = #[.int .i64 a0.f0, .slice A0_1 a0.f1.length c0_1] := by cases cs0; simp_all [Value.cells]
  have k1 := h1
  have lt1 : ∀ x ∈ p1, x.block < W.heap.size := by obtain ⟨m, hm⟩ := k1; exact DataW.trod_lt m _ _ _ hm
  obtain ⟨a1, K1, w1, m1⟩ := opens1.arg (by omega) h1
  obtain ⟨cs1, rfl, _⟩ := okWide_struct Try.underlying32 (hval 1 32 v1 rfl rfl)
  obtain ⟨A1_1, c1_1, e1, hc1_1, hr1_1⟩ := k32_open K1
  obtain rfl : cs1 = #[.int .i64 a1.f0, .slice A1_1 a1.f1.length c1_1] := by cases cs1; simp_all [Value.cells]
  have hP := Pure.ConfigFollows _ _ w0 w1 (by omega)
  obtain ⟨k, hP⟩ := hP
  clear hA0 hval0
  refine (hawserlaw16_ConfigFollows.calls k a0.f0 A0_1 c0_1 a0.f1 a1.f0 A1_1 c1_1 a1.f1 true W hr0_1 hc0_1 hr1_1 hc1_1 hP).mono fun e W' ⟨he, bel0⟩ => ?_
  have bel : Below W.heap.size W W' := bel0
  subst he
  exact ⟨_, rfl, _, _, _, [], _, [], hW', trodAll_mk1 (shut_bool Try.underlying4 _), (trodAll_cons_mk (Below.trod laidOut (by kernel_rfl) (of_decide_eq_true (by kernel_rfl)) k0 bel lt0) (trodAll_cons_mk (Below.trod laidOut (by kernel_rfl) (of_decide_eq_true (by kernel_rfl)) k1 bel lt1) trodAll_mk0)), rfl, bel.frame _, fun h => by cases h⟩
set_option maxRecDepth 100000 in
theorem lifted (os : Os) (started : os.Started) (H : Type) (enc : TypeId × Value → H) (F : Stop.Interp) :
    ReturnsInHanded {} Try.checked os 7 .any ((Rows.OpenSpec.upto Rows.configFollowsSpec).pre6 enc Try.prog Try.f7 Rows.configFollowsUptoRow.domain false) (((Rows.OpenSpec.upto Rows.configFollowsSpec).at F).post enc Try.prog Try.f7 false true false false) := by
  refine returnsInHanded_of_cond (C := Try.checked) (s := Rows.OpenSpec.upto Rows.configFollowsSpec) (k := Rows.uptoSmall) rfl own started (by kernel_rfl) Try.func7
    (OpenSpec.witness (enc := enc) (C := Try.checked) (s := Rows.OpenSpec.upto Rows.configFollowsSpec) (k := Rows.uptoSmall) rfl false ⟨#[], #[.agg #[(.int .i64 0), (.slice none 0 0)], .agg #[(.int .i64 0), (.slice none 0 0)]], []⟩ 8 (by kernel_rfl) (by kernel_rfl) (by kernel_rfl)
      (x := ([.agg [.lit (.int .i64 0), .nil], .agg [.lit (.int .i64 0), .nil]], [], [])) (by kernel_rfl) rfl (by kernel_rfl)) ?_
  intro W base args ds gs before hval hW _ hk _
  exact contract H enc W base args ds gs before hval hW hk
theorem over : Rows.configFollowsUptoRow.holds Try.pinned (Rows.OpenSpec.upto Rows.configFollowsSpec) :=
  OpenClaim.holds_of_cond 7 Try.f7 rfl rfl rfl rfl rfl rfl rfl ⟨rfl, rfl, rfl, rfl, rfl⟩ rfl rfl rfl rfl rfl (by kernel_rfl) Try.func7 (by kernel_rfl)
    (of_decide_eq_true (by kernel_rfl)) (by unfold Func.isWrapper; first | (rw [if_pos (by decide +kernel)]; kernel_rfl) | (rw [if_neg (by decide +kernel)]; exact ⟨rfl, rfl⟩))
    (fun os started H enc _ F => lifted os started H enc F)
theorem proved : Rows.ConfigFollowsUptoSaid := over
#print axioms proved
end Go.Proofs.Ytjhijklgpgdlaaa.configFollows
namespace Go.Proofs.Ytjhijklgpgdlaaa
/-- The row, under a short name, for the claim. -/
theorem configFollows_holds : Rows.ConfigFollowsUptoSaid := configFollows.proved
end Go.Proofs.Ytjhijklgpgdlaaa
