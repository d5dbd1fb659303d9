/-
  FnRounded, the plain law: for drawn floats both sides answer the same sum, difference, product and quotient, and that of halves is the nearest one.
-/
import Derived.Test.YtdoflfifnkpacaaC18FaL
namespace Go.Proofs.Ytdoflfifnkpacaa.Pure
open Go.RowKit Go.Proofs.Ytdoflfifnkpacaa.FA Go.Proofs.YtdoflfifnkpacaaW.PrintWords Go.Proofs.YtdoflfifnkpacaaW.PrintLast
theorem FnRounded : laws_FnRounded.Pure := by
  intro l0 _ _ hw
  have hb : Byt l0 := fun x hx => by
    have h := hw x hx
    simp [Lit.wf, IntKind.min, IntKind.max, IntKind.bits, IntKind.signed] at h
    omega
  by_cases hl : (l0.length : Int) > 1048576
  · exact ⟨0, by unfold laws_FnRounded.f; rw [if_pos hl]⟩
  · obtain ⟨K, h⟩ := rounded_law l0 hb (by omega)
    exact ⟨K, h K (Nat.le_refl _)⟩
end Go.Proofs.Ytdoflfifnkpacaa.Pure
