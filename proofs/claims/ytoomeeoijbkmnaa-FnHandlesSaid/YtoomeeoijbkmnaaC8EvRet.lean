/-
  Plain laws about what the printed functions compute.
-/
import Derived.Test.YtoomeeoijbkmnaaC8PHx11
import Derived.Test.YtoomeeoijbkmnaaC8PHx10
import Derived.Test.YtoomeeoijbkmnaaC8EvCopy
namespace Go.Proofs.Ytoomeeoijbkmnaa.PH
open Go.RowKit Go.Proofs.YtoomeeoijbkmnaaW.PrintWords Go.Proofs.YtoomeeoijbkmnaaW.PrintLast
set_option linter.unusedSimpArgs false
theorem own_some (S : List S46) (F : List Int) (hS : S.length ≤ 40) (hF : F.length ≤ 40) : spec_l15Own.f S F = some (S, F) := by
  unfold spec_l15Own.f
  simp only [Option.bind_some, List.length_nil, List.nil_append]
  rw [if_pos (by omega), if_pos (by omega)]
theorem clone_some {S : List S46} {F : List Int} (hS : S.length ≤ 40) (hF : F.length ≤ 40) (h : Ev (fun k => impl_GoodTable.f k S F) true) : Ev (fun k => impl_cloneTable.f k S F) (S, F) := by
  unfold impl_cloneTable.f
  refine Ev.bind h (Ev.pos rfl ?_)
  refine Ev.of ?_
  simp only [Option.bind_some, List.length_nil, List.nil_append]
  rw [if_pos (by omega), if_pos (by omega)]
theorem clone_bad {S : List S46} {F : List Int} (h : Ev (fun k => impl_GoodTable.f k S F) false) : Ev (fun k => impl_cloneTable.f k S F) ([], []) := by
  unfold impl_cloneTable.f
  exact Ev.bind h (Ev.neg (by simp) (Ev.const _))
theorem gs_len {S : List S46} {F : List Int} (h : GS S F) : S.length ≤ 40 ∧ F.length ≤ 40 := by
  obtain ⟨_, _, _, h1, h2⟩ := h
  have := List.countP_le_length (p := fun h : S46 => !h.f0) (l := S)
  omega
end Go.Proofs.Ytoomeeoijbkmnaa.PH
