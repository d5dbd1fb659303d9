/-
  The plain law behind FnExactNewWorld: the program's new world is the reference's.
-/
import Derived.Test.YtoomeeoijbkmnaaNWx6
namespace Go.Proofs.Ytoomeeoijbkmnaa.Pure
open Go.RowKit Go.Proofs.Ytoomeeoijbkmnaa.NW Go.Proofs.YtoomeeoijbkmnaaW.PrintWords Go.Proofs.YtoomeeoijbkmnaaW.PrintLast
theorem FnExactNewWorld : laws_FnExactNewWorld.Pure := by
  intro a0 _
  refine ⟨60, ?_⟩
  show laws_FnExactNewWorld.f 60 a0 = some true
  by_cases h : 1 ≤ a0 ∧ a0 ≤ 5
  · have hc : a0 = 1 ∨ a0 = 2 ∨ a0 = 3 ∨ a0 = 4 ∨ a0 = 5 := by omega
    rcases hc with rfl | rfl | rfl | rfl | rfl <;> decide +kernel
  · have e1 : spec_NewWorld.f a0 = some ([], [], [], [], false) := by
      unfold spec_NewWorld.f spec_l1In.f
      by_cases h1 : a0 ≥ 1
      · rw [if_pos h1, Option.bind_some, if_neg (by simp; omega)]
      · rw [if_neg h1, Option.bind_some, if_neg (by decide)]
    have e2 : impl_NewWorld.f a0 = some ([], [], [], [], false) := by
      unfold impl_NewWorld.f
      by_cases h1 : a0 < 1
      · rw [if_pos h1]
      · rw [if_neg h1, if_pos (by omega)]
    unfold laws_FnExactNewWorld.f
    rw [e1, e2]
    simp only [Option.bind_some, laws_FnExactNewWorld.j0, e2]
    decide +kernel
end Go.Proofs.Ytoomeeoijbkmnaa.Pure
