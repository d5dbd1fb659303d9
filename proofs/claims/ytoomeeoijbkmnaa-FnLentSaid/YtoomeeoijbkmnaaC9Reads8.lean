/-
  What the cells of the laws' argument types are. Printed by reads.py (wip/gen).
-/
import Derived.Test.YtoomeeoijbkmnaaProg
import Derived.Test.YtoomeeoijbkmnaaC9Open
import Derived.KernelRfl
namespace Go.Proofs.Ytoomeeoijbkmnaa.Op
set_option linter.unusedSimpArgs false

def R5 (_W : World) (cs : List Value) : Prop := ∃ n, cs = [.int .u8 n] ∧ (Lit.int .u8 n).wf = true
theorem rd5 {W : World} : Reads Try.prog W 5 (R5 W) := Reads.int Try.underlying5

def R65 (W : World) (cs : List Value) : Prop := ∃ (a : Option Addr) (len cap : Nat), cs = [.slice a len cap] ∧ len ≤ cap ∧ cap ≤ maxLen ∧ len * 1 ≤ 140737488351232 ∧ (0 < len → ∃ ad, a = some ad ∧ ∀ i, i < len → ∃ c : List Value, c.length = 1 ∧ R5 W c ∧ ∀ j u, c[j]? = some u → W.cell? (ad.add (i * 1 + j)) = some u)
theorem rd65 {W : World} : Reads Try.prog W 65 (R65 W) := Reads.slice Try.underlying65 rd5 (by kernel_rfl) (by kernel_rfl)
end Go.Proofs.Ytoomeeoijbkmnaa.Op
