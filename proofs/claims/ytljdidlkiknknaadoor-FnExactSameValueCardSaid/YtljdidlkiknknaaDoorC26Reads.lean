/-
  What the cells of the laws' argument types are. Printed by reads.py (wip/gen).
-/
import Derived.Test.YtljdidlkiknknaaDoorProg
import Derived.Test.YtljdidlkiknknaaDoorC26Open
import Derived.KernelRfl
namespace Go.Proofs.YtljdidlkiknknaaDoor.Op
set_option linter.unusedSimpArgs false

theorem len3 {l : List Value} (h : l.length = 3) : ∃ c0 c1 c2, l = [c0, c1, c2] := by
  match l, h with
  | [c0, c1, c2], _ => exact ⟨c0, c1, c2, rfl⟩

def R3 (_W : World) (cs : List Value) : Prop := ∃ n, cs = [.int .i64 n] ∧ (Lit.int .i64 n).wf = true
theorem rd3 {W : World} : Reads Tryd.prog W 3 (R3 W) := Reads.int Tryd.underlying3

def R69 (W : World) (cs : List Value) : Prop := ∃ (a_0 : Int) (a_1 : Int) (a_2 : Int), cs = [.int .i64 a_0, .int .i64 a_1, .int .i64 a_2] ∧ R3 W [.int .i64 a_0] ∧ R3 W [.int .i64 a_1] ∧ R3 W [.int .i64 a_2]

theorem rd69 {W : World} : Reads Tryd.prog W 69 (R69 W) := by
  refine (Reads.struct (Rs := fun i => match i with | 0 => R3 W | 1 => R3 W | 2 => R3 W | _ => fun _ => True) Tryd.underlying69 (fun i f hf => ?_)).mono (fun cs hcs => ?_)
  · match i, hf with
    | 0, hf => simp at hf; subst hf; exact rd3
    | 1, hf => simp at hf; subst hf; exact rd3
    | 2, hf => simp at hf; subst hf; exact rd3
    | i + 3, hf => simp at hf
  · obtain ⟨hl, h⟩ := hcs
    have z3 : Tryd.prog.cellsOf 3 = 1 := by kernel_rfl
    have hl' : cs.length = 3 := hl.trans (by kernel_rfl)
    obtain ⟨c0, c1, c2, rfl⟩ := len3 hl'
    have h0 : R3 W [c0] := fieldOf h 0 rfl rfl z3
    have ka_0 := h0
    obtain ⟨a_0, e0, _⟩ := h0
    simp only [List.cons.injEq, and_true] at e0
    subst e0
    have h1 : R3 W [c1] := fieldOf h 1 rfl rfl z3
    have ka_1 := h1
    obtain ⟨a_1, e1, _⟩ := h1
    simp only [List.cons.injEq, and_true] at e1
    subst e1
    have h2 : R3 W [c2] := fieldOf h 2 rfl rfl z3
    have ka_2 := h2
    obtain ⟨a_2, e2, _⟩ := h2
    simp only [List.cons.injEq, and_true] at e2
    subst e2
    exact ⟨a_0, a_1, a_2, rfl, ka_0, ka_1, ka_2⟩

def R22 (W : World) (cs : List Value) : Prop := ∃ (a : Option Addr) (len cap : Nat), cs = [.slice a len cap] ∧ len ≤ cap ∧ cap ≤ maxLen ∧ len * 24 ≤ 140737488351232 ∧ (0 < len → ∃ ad, a = some ad ∧ ∀ i, i < len → ∃ c : List Value, c.length = 3 ∧ R69 W c ∧ ∀ j u, c[j]? = some u → W.cell? (ad.add (i * 3 + j)) = some u)
theorem rd22 {W : World} : Reads Tryd.prog W 22 (R22 W) := Reads.slice Tryd.underlying22 rd69 (by kernel_rfl) (by kernel_rfl)

def R9 (_W : World) (cs : List Value) : Prop := ∃ s : ByteArray, cs = [.string s] ∧ s.size ≤ 140737488351232
theorem rd9 {W : World} : Reads Tryd.prog W 9 (R9 W) := Reads.string Tryd.underlying9

def R54 (W : World) (cs : List Value) : Prop := ∃ (a_0 : Int) (a_1 : ByteArray) (a_2 : Int), cs = [.int .i64 a_0, .string a_1, .int .i64 a_2] ∧ R3 W [.int .i64 a_0] ∧ R9 W [.string a_1] ∧ R3 W [.int .i64 a_2]

theorem rd54 {W : World} : Reads Tryd.prog W 54 (R54 W) := by
  refine (Reads.struct (Rs := fun i => match i with | 0 => R3 W | 1 => R9 W | 2 => R3 W | _ => fun _ => True) Tryd.underlying54 (fun i f hf => ?_)).mono (fun cs hcs => ?_)
  · match i, hf with
    | 0, hf => simp at hf; subst hf; exact rd3
    | 1, hf => simp at hf; subst hf; exact rd9
    | 2, hf => simp at hf; subst hf; exact rd3
    | i + 3, hf => simp at hf
  · obtain ⟨hl, h⟩ := hcs
    have z3 : Tryd.prog.cellsOf 3 = 1 := by kernel_rfl
    have z9 : Tryd.prog.cellsOf 9 = 1 := by kernel_rfl
    have hl' : cs.length = 3 := hl.trans (by kernel_rfl)
    obtain ⟨c0, c1, c2, rfl⟩ := len3 hl'
    have h0 : R3 W [c0] := fieldOf h 0 rfl rfl z3
    have ka_0 := h0
    obtain ⟨a_0, e0, _⟩ := h0
    simp only [List.cons.injEq, and_true] at e0
    subst e0
    have h1 : R9 W [c1] := fieldOf h 1 rfl rfl z9
    have ka_1 := h1
    obtain ⟨a_1, e1, _⟩ := h1
    simp only [List.cons.injEq, and_true] at e1
    subst e1
    have h2 : R3 W [c2] := fieldOf h 2 rfl rfl z3
    have ka_2 := h2
    obtain ⟨a_2, e2, _⟩ := h2
    simp only [List.cons.injEq, and_true] at e2
    subst e2
    exact ⟨a_0, a_1, a_2, rfl, ka_0, ka_1, ka_2⟩

def R23 (W : World) (cs : List Value) : Prop := ∃ (a : Option Addr) (len cap : Nat), cs = [.slice a len cap] ∧ len ≤ cap ∧ cap ≤ maxLen ∧ len * 32 ≤ 140737488351232 ∧ (0 < len → ∃ ad, a = some ad ∧ ∀ i, i < len → ∃ c : List Value, c.length = 3 ∧ R54 W c ∧ ∀ j u, c[j]? = some u → W.cell? (ad.add (i * 3 + j)) = some u)
theorem rd23 {W : World} : Reads Tryd.prog W 23 (R23 W) := Reads.slice Tryd.underlying23 rd54 (by kernel_rfl) (by kernel_rfl)
end Go.Proofs.YtljdidlkiknknaaDoor.Op
