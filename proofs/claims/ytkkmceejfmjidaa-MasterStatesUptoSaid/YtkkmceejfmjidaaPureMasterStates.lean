/- MasterStates: Check and Encode of any state are the document's, the state stays, and what comes out is one's own; for every argument that is together of bulk at most 1048576 (the given second form). -/
import Derived.Test.YtkkmceejfmjidaaStmtMasterStates
import Derived.Test.YtkkmceejfmjidaaMst
namespace Go.Proofs.Ytkkmceejfmjidaa.Pure
open Go.RowKit Go.Proofs.Ytkkmceejfmjidaa.G Go.Proofs.Ytkkmceejfmjidaa.CfgMath Go.Proofs.Ytkkmceejfmjidaa.Mst Go.Proofs.YtkkmceejfmjidaaW.PrintWords Go.Proofs.YtkkmceejfmjidaaW.PrintLast Go.Proofs.YtkkmceejfmjidaaW.PrintMore
theorem MasterStates : hawserlaw21_MasterStates.Pure := by
  intro a0 _ hb
  rw [sum_ones] at hb
  obtain ⟨⟨e, l⟩, a2, a3, a4, a5⟩ := a0
  replace hb : (1 + (l.length + 1) + 1) + (1 + (1 + (1 + 1))) + 1 ≤ 1048576 := hb
  show ∃ k, hawserlaw21_MasterStates.f k e l a2 a3 a4 a5 = some true
  have hl : l.length ≤ 1048576 := by omega
  have hface : hawserlaw21_face.f e l a2 a3 a4 a5 = some (e, l, a2, a3, a4, a5) := by
    unfold hawserlaw21_face.f hawserlaw21_copied.f
    simp only [Option.bind_some, List.length_nil, List.nil_append]
    rw [if_pos (by omega)]
    rfl
  have hlen := menc_len e l a2 a3 a4 a5
  have hown : hawserref01_Own.f [(menc e l a2 a3 a4 a5).1, (menc e l a2 a3 a4 a5).1] = some true := by
    unfold hawserref01_Own.f
    rw [if_pos]
    intro x hx
    simp only [List.mem_cons, List.not_mem_nil, or_false] at hx
    rcases hx with rfl | rfl <;> omega
  have hone : menc 1 [2] 0 0 0 0 = ([3, 1, 1, 2, 0, 0, 0, 0], 0) := by decide +kernel
  have : Ev (fun k => hawserlaw21_MasterStates.f k e l a2 a3 a4 a5) true := by
    have hs := rsame_ev e l a2 a3 a4 a5 (by omega)
    have hj : Ev (fun k => hawserlaw21_MasterStates.j0 k false) true := by
      refine Ev.step (f := fun _ => some true) (fun k => ?_) (Ev.now _)
      rw [hawserlaw21_MasterStates.j0, if_neg (by simp), menc_f, Option.bind_some, hone]
      rw [if_pos rfl, hawserref01_Same.f, Option.bind_some]
      congr 1
      simp
    have hck : Ev (fun k => hawserref21_Check.f k e l a2 a3 a4 a5) (mchk e l a2 a3 a4 a5) := ⟨100, fun k hk => rcheck_at e l a2 a3 a4 a5 k hk⟩
    have hS : ∀ x : List Int, hawserref01_Same.f x x = some true := fun x => by rw [hawserref01_Same.f]; congr 1; simp
    refine Ev.congr (f := fun k => (hawserref21_Check.f k e l a2 a3 a4 a5).bind fun t220 => if mchk e l a2 a3 a4 a5 = t220 then (hawserref21_Same.f k e l a2 a3 a4 a5 e l a2 a3 a4 a5).bind fun t231 => if t231 = true then hawserlaw21_MasterStates.j0 k false else hawserlaw21_MasterStates.j0 k true else hawserlaw21_MasterStates.j0 k true) (fun k => ?_) ?_
    · unfold hawserlaw21_MasterStates.f
      rw [hface]
      simp only [Option.bind_some]
      rw [renc_f e l a2 a3 a4 a5 hl, menc_f, mcheck_f]
      simp only [Option.bind_some]
      simp only [if_true, hS, Option.bind_some, hawserlaw21_plain.f, hown, Bool.not_true]
    · refine Ev.bind hck ?_
      simp only [if_true]
      refine Ev.bind hs ?_
      simp only [if_true]
      exact hj
  exact this.rounds
end Go.Proofs.Ytkkmceejfmjidaa.Pure
