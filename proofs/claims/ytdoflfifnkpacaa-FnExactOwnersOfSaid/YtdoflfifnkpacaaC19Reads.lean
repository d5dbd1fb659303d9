/-
  What the cells of the laws' argument types are. Printed by reads.py (wip/gen).
-/
import Derived.Test.YtdoflfifnkpacaaProg
import Derived.Test.YtdoflfifnkpacaaC19Open
import Derived.KernelRfl
namespace Go.Proofs.Ytdoflfifnkpacaa.Op
set_option linter.unusedSimpArgs false

theorem len2 {l : List Value} (h : l.length = 2) : ∃ c0 c1, l = [c0, c1] := by
  match l, h with
  | [c0, c1], _ => exact ⟨c0, c1, rfl⟩
theorem len4 {l : List Value} (h : l.length = 4) : ∃ c0 c1 c2 c3, l = [c0, c1, c2, c3] := by
  match l, h with
  | [c0, c1, c2, c3], _ => exact ⟨c0, c1, c2, c3, rfl⟩
theorem len6 {l : List Value} (h : l.length = 6) : ∃ c0 c1 c2 c3 c4 c5, l = [c0, c1, c2, c3, c4, c5] := by
  match l, h with
  | [c0, c1, c2, c3, c4, c5], _ => exact ⟨c0, c1, c2, c3, c4, c5, rfl⟩

def R3 (_W : World) (cs : List Value) : Prop := ∃ n, cs = [.int .i64 n] ∧ (Lit.int .i64 n).wf = true
theorem rd3 {W : World} : Reads Try.prog W 3 (R3 W) := Reads.int Try.underlying3

def R4 (_W : World) (cs : List Value) : Prop := ∃ b, cs = [.bool b]
theorem rd4 {W : World} : Reads Try.prog W 4 (R4 W) := Reads.bool Try.underlying4

def R159 (W : World) (cs : List Value) : Prop := ∃ (a_0 : Int) (a_1 : Bool), cs = [.int .i64 a_0, .bool a_1] ∧ R3 W [.int .i64 a_0] ∧ R4 W [.bool a_1]

theorem rd159 {W : World} : Reads Try.prog W 159 (R159 W) := by
  refine (Reads.struct (Rs := fun i => match i with | 0 => R3 W | 1 => R4 W | _ => fun _ => True) Try.underlying159 (fun i f hf => ?_)).mono (fun cs hcs => ?_)
  · match i, hf with
    | 0, hf => simp at hf; subst hf; exact rd3
    | 1, hf => simp at hf; subst hf; exact rd4
    | i + 2, hf => simp at hf
  · obtain ⟨hl, h⟩ := hcs
    have z3 : Try.prog.cellsOf 3 = 1 := by kernel_rfl
    have z4 : Try.prog.cellsOf 4 = 1 := by kernel_rfl
    have hl' : cs.length = 2 := hl.trans (by kernel_rfl)
    obtain ⟨c0, c1, rfl⟩ := len2 hl'
    have h0 : R3 W [c0] := fieldOf h 0 rfl rfl z3
    have ka_0 := h0
    obtain ⟨a_0, e0, _⟩ := h0
    simp only [List.cons.injEq, and_true] at e0
    subst e0
    have h1 : R4 W [c1] := fieldOf h 1 rfl rfl z4
    have ka_1 := h1
    obtain ⟨a_1, e1⟩ := h1
    simp only [List.cons.injEq, and_true] at e1
    subst e1
    exact ⟨a_0, a_1, rfl, ka_0, ka_1⟩

def R33 (W : World) (cs : List Value) : Prop := ∃ (a : Option Addr) (len cap : Nat), cs = [.slice a len cap] ∧ len ≤ cap ∧ cap ≤ maxLen ∧ len * 16 ≤ 140737488351232 ∧ (0 < len → ∃ ad, a = some ad ∧ ∀ i, i < len → ∃ c : List Value, c.length = 2 ∧ R159 W c ∧ ∀ j u, c[j]? = some u → W.cell? (ad.add (i * 2 + j)) = some u)
theorem rd33 {W : World} : Reads Try.prog W 33 (R33 W) := Reads.slice Try.underlying33 rd159 (by kernel_rfl) (by kernel_rfl)

def R190 (W : World) (cs : List Value) : Prop := ∃ (a_0 : Bool) (a_1 : Int) (a_2 : Int) (a_3 : Bool) (a_4 : Int) (a_5 : Int), cs = [.bool a_0, .int .i64 a_1, .int .i64 a_2, .bool a_3, .int .i64 a_4, .int .i64 a_5] ∧ R4 W [.bool a_0] ∧ R3 W [.int .i64 a_1] ∧ R3 W [.int .i64 a_2] ∧ R4 W [.bool a_3] ∧ R3 W [.int .i64 a_4] ∧ R3 W [.int .i64 a_5]

theorem rd190 {W : World} : Reads Try.prog W 190 (R190 W) := by
  refine (Reads.struct (Rs := fun i => match i with | 0 => R4 W | 1 => R3 W | 2 => R3 W | 3 => R4 W | 4 => R3 W | 5 => R3 W | _ => fun _ => True) Try.underlying190 (fun i f hf => ?_)).mono (fun cs hcs => ?_)
  · match i, hf with
    | 0, hf => simp at hf; subst hf; exact rd4
    | 1, hf => simp at hf; subst hf; exact rd3
    | 2, hf => simp at hf; subst hf; exact rd3
    | 3, hf => simp at hf; subst hf; exact rd4
    | 4, hf => simp at hf; subst hf; exact rd3
    | 5, hf => simp at hf; subst hf; exact rd3
    | i + 6, hf => simp at hf
  · obtain ⟨hl, h⟩ := hcs
    have z3 : Try.prog.cellsOf 3 = 1 := by kernel_rfl
    have z4 : Try.prog.cellsOf 4 = 1 := by kernel_rfl
    have hl' : cs.length = 6 := hl.trans (by kernel_rfl)
    obtain ⟨c0, c1, c2, c3, c4, c5, rfl⟩ := len6 hl'
    have h0 : R4 W [c0] := fieldOf h 0 rfl rfl z4
    have ka_0 := h0
    obtain ⟨a_0, e0⟩ := h0
    simp only [List.cons.injEq, and_true] at e0
    subst e0
    have h1 : R3 W [c1] := fieldOf h 1 rfl rfl z3
    have ka_1 := h1
    obtain ⟨a_1, e1, _⟩ := h1
    simp only [List.cons.injEq, and_true] at e1
    subst e1
    have h2 : R3 W [c2] := fieldOf h 2 rfl rfl z3
    have ka_2 := h2
    obtain ⟨a_2, e2, _⟩ := h2
    simp only [List.cons.injEq, and_true] at e2
    subst e2
    have h3 : R4 W [c3] := fieldOf h 3 rfl rfl z4
    have ka_3 := h3
    obtain ⟨a_3, e3⟩ := h3
    simp only [List.cons.injEq, and_true] at e3
    subst e3
    have h4 : R3 W [c4] := fieldOf h 4 rfl rfl z3
    have ka_4 := h4
    obtain ⟨a_4, e4, _⟩ := h4
    simp only [List.cons.injEq, and_true] at e4
    subst e4
    have h5 : R3 W [c5] := fieldOf h 5 rfl rfl z3
    have ka_5 := h5
    obtain ⟨a_5, e5, _⟩ := h5
    simp only [List.cons.injEq, and_true] at e5
    subst e5
    exact ⟨a_0, a_1, a_2, a_3, a_4, a_5, rfl, ka_0, ka_1, ka_2, ka_3, ka_4, ka_5⟩

def R150 (W : World) (cs : List Value) : Prop := ∃ (a : Option Addr) (len cap : Nat), cs = [.slice a len cap] ∧ len ≤ cap ∧ cap ≤ maxLen ∧ len * 48 ≤ 140737488351232 ∧ (0 < len → ∃ ad, a = some ad ∧ ∀ i, i < len → ∃ c : List Value, c.length = 6 ∧ R190 W c ∧ ∀ j u, c[j]? = some u → W.cell? (ad.add (i * 6 + j)) = some u)
theorem rd150 {W : World} : Reads Try.prog W 150 (R150 W) := Reads.slice Try.underlying150 rd190 (by kernel_rfl) (by kernel_rfl)

def R36 (W : World) (cs : List Value) : Prop := ∃ (a : Option Addr) (len cap : Nat), cs = [.slice a len cap] ∧ len ≤ cap ∧ cap ≤ maxLen ∧ len * 8 ≤ 140737488351232 ∧ (0 < len → ∃ ad, a = some ad ∧ ∀ i, i < len → ∃ c : List Value, c.length = 1 ∧ R3 W c ∧ ∀ j u, c[j]? = some u → W.cell? (ad.add (i * 1 + j)) = some u)
theorem rd36 {W : World} : Reads Try.prog W 36 (R36 W) := Reads.slice Try.underlying36 rd3 (by kernel_rfl) (by kernel_rfl)

def R152 (W : World) (cs : List Value) : Prop := ∃ (a_0 : Option Addr) (a_0_l a_0_c : Nat) (a_1 : Option Addr) (a_1_l a_1_c : Nat), cs = [.slice a_0 a_0_l a_0_c, .slice a_1 a_1_l a_1_c] ∧ R150 W [.slice a_0 a_0_l a_0_c] ∧ R36 W [.slice a_1 a_1_l a_1_c]

theorem rd152 {W : World} : Reads Try.prog W 152 (R152 W) := by
  refine (Reads.struct (Rs := fun i => match i with | 0 => R150 W | 1 => R36 W | _ => fun _ => True) Try.underlying152 (fun i f hf => ?_)).mono (fun cs hcs => ?_)
  · match i, hf with
    | 0, hf => simp at hf; subst hf; exact rd150
    | 1, hf => simp at hf; subst hf; exact rd36
    | i + 2, hf => simp at hf
  · obtain ⟨hl, h⟩ := hcs
    have z36 : Try.prog.cellsOf 36 = 1 := by kernel_rfl
    have z150 : Try.prog.cellsOf 150 = 1 := by kernel_rfl
    have hl' : cs.length = 2 := hl.trans (by kernel_rfl)
    obtain ⟨c0, c1, rfl⟩ := len2 hl'
    have h0 : R150 W [c0] := fieldOf h 0 rfl rfl z150
    have ka_0 := h0
    obtain ⟨a_0, a_0_l, a_0_c, e0, _⟩ := h0
    simp only [List.cons.injEq, and_true] at e0
    subst e0
    have h1 : R36 W [c1] := fieldOf h 1 rfl rfl z36
    have ka_1 := h1
    obtain ⟨a_1, a_1_l, a_1_c, e1, _⟩ := h1
    simp only [List.cons.injEq, and_true] at e1
    subst e1
    exact ⟨a_0, a_0_l, a_0_c, a_1, a_1_l, a_1_c, rfl, ka_0, ka_1⟩

def R34 (W : World) (cs : List Value) : Prop := ∃ (a : Option Addr) (len cap : Nat), cs = [.slice a len cap] ∧ len ≤ cap ∧ cap ≤ maxLen ∧ len * 48 ≤ 140737488351232 ∧ (0 < len → ∃ ad, a = some ad ∧ ∀ i, i < len → ∃ c : List Value, c.length = 2 ∧ R152 W c ∧ ∀ j u, c[j]? = some u → W.cell? (ad.add (i * 2 + j)) = some u)
theorem rd34 {W : World} : Reads Try.prog W 34 (R34 W) := Reads.slice Try.underlying34 rd152 (by kernel_rfl) (by kernel_rfl)

def R162 (W : World) (cs : List Value) : Prop := ∃ (a_0 : Int) (a_1 : Int) (a_2 : Int) (a_3 : Int), cs = [.int .i64 a_0, .int .i64 a_1, .int .i64 a_2, .int .i64 a_3] ∧ R3 W [.int .i64 a_0] ∧ R3 W [.int .i64 a_1] ∧ R3 W [.int .i64 a_2] ∧ R3 W [.int .i64 a_3]

theorem rd162 {W : World} : Reads Try.prog W 162 (R162 W) := by
  refine (Reads.struct (Rs := fun i => match i with | 0 => R3 W | 1 => R3 W | 2 => R3 W | 3 => R3 W | _ => fun _ => True) Try.underlying162 (fun i f hf => ?_)).mono (fun cs hcs => ?_)
  · match i, hf with
    | 0, hf => simp at hf; subst hf; exact rd3
    | 1, hf => simp at hf; subst hf; exact rd3
    | 2, hf => simp at hf; subst hf; exact rd3
    | 3, hf => simp at hf; subst hf; exact rd3
    | i + 4, hf => simp at hf
  · obtain ⟨hl, h⟩ := hcs
    have z3 : Try.prog.cellsOf 3 = 1 := by kernel_rfl
    have hl' : cs.length = 4 := hl.trans (by kernel_rfl)
    obtain ⟨c0, c1, c2, c3, rfl⟩ := len4 hl'
    have h0 : R3 W [c0] := fieldOf h 0 rfl rfl z3
    have ka_0 := h0
    obtain ⟨a_0, e0, _⟩ := h0
    simp only [List.cons.injEq, and_true] at e0
    subst e0
    have h1 : R3 W [c1] := fieldOf h 1 rfl rfl z3
    have ka_1 := h1
    obtain ⟨a_1, e1, _⟩ := h1
    simp only [List.cons.injEq, and_true] at e1
    subst e1
    have h2 : R3 W [c2] := fieldOf h 2 rfl rfl z3
    have ka_2 := h2
    obtain ⟨a_2, e2, _⟩ := h2
    simp only [List.cons.injEq, and_true] at e2
    subst e2
    have h3 : R3 W [c3] := fieldOf h 3 rfl rfl z3
    have ka_3 := h3
    obtain ⟨a_3, e3, _⟩ := h3
    simp only [List.cons.injEq, and_true] at e3
    subst e3
    exact ⟨a_0, a_1, a_2, a_3, rfl, ka_0, ka_1, ka_2, ka_3⟩

def R35 (W : World) (cs : List Value) : Prop := ∃ (a : Option Addr) (len cap : Nat), cs = [.slice a len cap] ∧ len ≤ cap ∧ cap ≤ maxLen ∧ len * 32 ≤ 140737488351232 ∧ (0 < len → ∃ ad, a = some ad ∧ ∀ i, i < len → ∃ c : List Value, c.length = 4 ∧ R162 W c ∧ ∀ j u, c[j]? = some u → W.cell? (ad.add (i * 4 + j)) = some u)
theorem rd35 {W : World} : Reads Try.prog W 35 (R35 W) := Reads.slice Try.underlying35 rd162 (by kernel_rfl) (by kernel_rfl)

def R38 (W : World) (cs : List Value) : Prop := ∃ (a_0 : Option Addr) (a_0_l a_0_c : Nat) (a_1 : Option Addr) (a_1_l a_1_c : Nat) (a_2 : Option Addr) (a_2_l a_2_c : Nat) (a_3 : Option Addr) (a_3_l a_3_c : Nat), cs = [.slice a_0 a_0_l a_0_c, .slice a_1 a_1_l a_1_c, .slice a_2 a_2_l a_2_c, .slice a_3 a_3_l a_3_c] ∧ R33 W [.slice a_0 a_0_l a_0_c] ∧ R34 W [.slice a_1 a_1_l a_1_c] ∧ R35 W [.slice a_2 a_2_l a_2_c] ∧ R36 W [.slice a_3 a_3_l a_3_c]

theorem rd38 {W : World} : Reads Try.prog W 38 (R38 W) := by
  refine (Reads.struct (Rs := fun i => match i with | 0 => R33 W | 1 => R34 W | 2 => R35 W | 3 => R36 W | _ => fun _ => True) Try.underlying38 (fun i f hf => ?_)).mono (fun cs hcs => ?_)
  · match i, hf with
    | 0, hf => simp at hf; subst hf; exact rd33
    | 1, hf => simp at hf; subst hf; exact rd34
    | 2, hf => simp at hf; subst hf; exact rd35
    | 3, hf => simp at hf; subst hf; exact rd36
    | i + 4, hf => simp at hf
  · obtain ⟨hl, h⟩ := hcs
    have z33 : Try.prog.cellsOf 33 = 1 := by kernel_rfl
    have z34 : Try.prog.cellsOf 34 = 1 := by kernel_rfl
    have z35 : Try.prog.cellsOf 35 = 1 := by kernel_rfl
    have z36 : Try.prog.cellsOf 36 = 1 := by kernel_rfl
    have hl' : cs.length = 4 := hl.trans (by kernel_rfl)
    obtain ⟨c0, c1, c2, c3, rfl⟩ := len4 hl'
    have h0 : R33 W [c0] := fieldOf h 0 rfl rfl z33
    have ka_0 := h0
    obtain ⟨a_0, a_0_l, a_0_c, e0, _⟩ := h0
    simp only [List.cons.injEq, and_true] at e0
    subst e0
    have h1 : R34 W [c1] := fieldOf h 1 rfl rfl z34
    have ka_1 := h1
    obtain ⟨a_1, a_1_l, a_1_c, e1, _⟩ := h1
    simp only [List.cons.injEq, and_true] at e1
    subst e1
    have h2 : R35 W [c2] := fieldOf h 2 rfl rfl z35
    have ka_2 := h2
    obtain ⟨a_2, a_2_l, a_2_c, e2, _⟩ := h2
    simp only [List.cons.injEq, and_true] at e2
    subst e2
    have h3 : R36 W [c3] := fieldOf h 3 rfl rfl z36
    have ka_3 := h3
    obtain ⟨a_3, a_3_l, a_3_c, e3, _⟩ := h3
    simp only [List.cons.injEq, and_true] at e3
    subst e3
    exact ⟨a_0, a_0_l, a_0_c, a_1, a_1_l, a_1_c, a_2, a_2_l, a_2_c, a_3, a_3_l, a_3_c, rfl, ka_0, ka_1, ka_2, ka_3⟩
end Go.Proofs.Ytdoflfifnkpacaa.Op
