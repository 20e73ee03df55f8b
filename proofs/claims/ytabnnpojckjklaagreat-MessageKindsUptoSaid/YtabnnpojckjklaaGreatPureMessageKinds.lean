/- MessageKinds: any kind's name, and between whom it goes, are the document's; a number that is no kind has none; for every number (the given second form). -/
import Derived.Test.YtabnnpojckjklaaGreatStmtMessageKinds
namespace Go.Proofs.YtabnnpojckjklaaGreat.Pure
open Go.RowKit Go.Proofs.YtabnnpojckjklaaGreat.G Go.Proofs.YtabnnpojckjklaaGreatW.PrintWords Go.Proofs.YtabnnpojckjklaaGreatW.PrintLast
theorem kinds_in : ∀ i : Nat, i < 28 → hawserlaw15_MessageKinds.f ((i : Int) + 1) = some true := by decide +kernel
theorem table_len : (hawserref15_Table.f).map (fun t => t.length) = some 29 := by decide +kernel
theorem ack_name : some ((nameOf 10).toList == ([97, 99, 107] : List UInt8)) = some true := by decide +kernel
theorem no_bytes : (⟨#[]⟩ : ByteArray).toList = ([] : List UInt8) := by decide +kernel
theorem MessageKinds : hawserlaw15_MessageKinds.Pure := by
  intro a0 _ _
  by_cases h : 1 ≤ a0 ∧ a0 ≤ 28
  · have := kinds_in (a0 - 1).toNat (by omega)
    rwa [show (((a0 - 1).toNat : Nat) : Int) + 1 = a0 by omega] at this
  · have hn : nameOf a0 = ⟨#[]⟩ := by simp only [nameOf, if_neg h]
    have hw : waysOf a0 = [] := by simp only [waysOf, if_neg h]
    have hk : hawserref15_IsKind.f a0 = some false := by
      unfold hawserref15_IsKind.f
      by_cases h1 : a0 ≥ 1
      · rw [if_pos h1]
        have ht := table_len
        cases e : hawserref15_Table.f with
        | none => rw [e] at ht; cases ht
        | some t =>
          rw [e] at ht
          have hl : t.length = 29 := Option.some.inj ht
          rw [Option.bind_some, hl]
          congr 1
          exact decide_eq_false (by omega)
      · rw [if_neg h1]
    unfold hawserlaw15_MessageKinds.f
    rw [hk]
    simp only [message_Between.f, message_Name.f, hn, hw, Option.bind_some]
    rw [if_neg Bool.false_ne_true, if_pos no_bytes, if_neg (by decide), if_neg (by decide), if_neg (by decide)]
    exact ack_name
end Go.Proofs.YtabnnpojckjklaaGreat.Pure
