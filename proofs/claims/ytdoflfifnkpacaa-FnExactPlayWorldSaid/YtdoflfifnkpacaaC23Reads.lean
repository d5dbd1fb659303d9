/-
  What the cells of the laws' argument types are. Printed by reads.py (wip/gen).
-/
import Derived.Test.YtdoflfifnkpacaaProg
import Derived.Test.YtdoflfifnkpacaaC23Open
import Derived.KernelRfl
namespace Go.Proofs.Ytdoflfifnkpacaa.Op
set_option linter.unusedSimpArgs false

theorem len5 {l : List Value} (h : l.length = 5) : ∃ c0 c1 c2 c3 c4, l = [c0, c1, c2, c3, c4] := by
  match l, h with
  | [c0, c1, c2, c3, c4], _ => exact ⟨c0, c1, c2, c3, c4, rfl⟩

def R3 (_W : World) (cs : List Value) : Prop := ∃ n, cs = [.int .i64 n] ∧ (Lit.int .i64 n).wf = true
theorem rd3 {W : World} : Reads Try.prog W 3 (R3 W) := Reads.int Try.underlying3

def R86 (W : World) (cs : List Value) : Prop := ∃ (a_0 : Int) (a_1 : Int) (a_2 : Int) (a_3 : Int) (a_4 : Int), cs = [.int .i64 a_0, .int .i64 a_1, .int .i64 a_2, .int .i64 a_3, .int .i64 a_4] ∧ R3 W [.int .i64 a_0] ∧ R3 W [.int .i64 a_1] ∧ R3 W [.int .i64 a_2] ∧ R3 W [.int .i64 a_3] ∧ R3 W [.int .i64 a_4]

theorem rd86 {W : World} : Reads Try.prog W 86 (R86 W) := by
  refine (Reads.struct (Rs := fun i => match i with | 0 => R3 W | 1 => R3 W | 2 => R3 W | 3 => R3 W | 4 => R3 W | _ => fun _ => True) Try.underlying86 (fun i f hf => ?_)).mono (fun cs hcs => ?_)
  · match i, hf with
    | 0, hf => simp at hf; subst hf; exact rd3
    | 1, hf => simp at hf; subst hf; exact rd3
    | 2, hf => simp at hf; subst hf; exact rd3
    | 3, hf => simp at hf; subst hf; exact rd3
    | 4, hf => simp at hf; subst hf; exact rd3
    | i + 5, hf => simp at hf
  · obtain ⟨hl, h⟩ := hcs
    have z3 : Try.prog.cellsOf 3 = 1 := by kernel_rfl
    have hl' : cs.length = 5 := hl.trans (by kernel_rfl)
    obtain ⟨c0, c1, c2, c3, c4, rfl⟩ := len5 hl'
    have h0 : R3 W [c0] := fieldOf h 0 rfl rfl z3
    have ka_0 := h0
    obtain ⟨a_0, e0, _⟩ := h0
    simp only [List.cons.injEq, and_true] at e0
    subst e0
    have h1 : R3 W [c1] := fieldOf h 1 rfl rfl z3
    have ka_1 := h1
    obtain ⟨a_1, e1, _⟩ := h1
    simp only [List.cons.injEq, and_true] at e1
    subst e1
    have h2 : R3 W [c2] := fieldOf h 2 rfl rfl z3
    have ka_2 := h2
    obtain ⟨a_2, e2, _⟩ := h2
    simp only [List.cons.injEq, and_true] at e2
    subst e2
    have h3 : R3 W [c3] := fieldOf h 3 rfl rfl z3
    have ka_3 := h3
    obtain ⟨a_3, e3, _⟩ := h3
    simp only [List.cons.injEq, and_true] at e3
    subst e3
    have h4 : R3 W [c4] := fieldOf h 4 rfl rfl z3
    have ka_4 := h4
    obtain ⟨a_4, e4, _⟩ := h4
    simp only [List.cons.injEq, and_true] at e4
    subst e4
    exact ⟨a_0, a_1, a_2, a_3, a_4, rfl, ka_0, ka_1, ka_2, ka_3, ka_4⟩

def R80 (W : World) (cs : List Value) : Prop := ∃ (a : Option Addr) (len cap : Nat), cs = [.slice a len cap] ∧ len ≤ cap ∧ cap ≤ maxLen ∧ len * 40 ≤ 140737488351232 ∧ (0 < len → ∃ ad, a = some ad ∧ ∀ i, i < len → ∃ c : List Value, c.length = 5 ∧ R86 W c ∧ ∀ j u, c[j]? = some u → W.cell? (ad.add (i * 5 + j)) = some u)
theorem rd80 {W : World} : Reads Try.prog W 80 (R80 W) := Reads.slice Try.underlying80 rd86 (by kernel_rfl) (by kernel_rfl)
end Go.Proofs.Ytdoflfifnkpacaa.Op
