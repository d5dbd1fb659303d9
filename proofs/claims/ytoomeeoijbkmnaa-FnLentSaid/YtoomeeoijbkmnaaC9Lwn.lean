import Derived.Test.YtoomeeoijbkmnaaC9Lw
import Derived.Lib.Hide
import Derived.Deep.QuietTactic
import Derived.BigQuiet
import Derived.WalkSpells
import Derived.WalkLawsBesides
import Derived.StillTailTactics
namespace Go.Proofs.Ytoomeeoijbkmnaa.PH
open Go.RowKit Go.Proofs.YtoomeeoijbkmnaaW.PrintWords Go.Proofs.YtoomeeoijbkmnaaW.PrintLast Go.Proofs.YtoomeeoijbkmnaaW.PrintMore
set_option linter.unusedVariables false
set_option linter.unusedSimpArgs false
/-- What lies where, behind the law's first half (NewHandle: a handle goes in, no handle comes out). -/
structure Sn (w : World) (s0 s1 v80 v81 v110 v111 v120 v121 : Value) (hh : Array Value) (R1 : List S46) (R2 : List Int) (p8 l8 h8 p11 l11 h11 p12 l12 h12 : Nat) (M : List S46) (F : List Int) (G1 : List S46) (G2 : List Int) (W : World) : Prop where
  qa : W.heap[w.heap.size]? = some (.cells #[s0, s1] 43 (0, 0))
  qh : W.heap[w.heap.size + 1]? = some (.cells hh 60 (0, 0))
  q8 : W.heap[p8]? = some (.cells #[v80, v81] 51 (0, 0))
  q11 : W.heap[p11]? = some (.cells #[v110, v111] 51 (0, 0))
  q12 : W.heap[p12]? = some (.cells #[v120, v121] 51 (0, 0))
  t8 : Tb W w.heap.size l8 h8 v80 v81 R1 R2
  t11 : Tb W w.heap.size l11 h11 v110 v111 M F
  t12 : Tb W w.heap.size l12 h12 v120 v121 G1 G2
  o : w.heap.size + 1 < l11 ∧ p8 < l11 ∧ h8 ≤ l11 ∧ l11 ≤ h11 ∧ h11 ≤ p11 ∧ p11 < l12 ∧ h11 ≤ p12 ∧ (p12 < l12 ∨ h12 ≤ p12)
  l : Below w.heap.size w W
section
variable {w : World} {s0 s1 v80 v81 v110 v111 v120 v121 : Value} {R1 : List S46} {R2 : List Int} {hh : Array Value} {p8 l8 h8 p11 l11 h11 p12 l12 h12 : Nat} {M X : List S46} {F Y : List Int} {G1 : List S46} {G2 : List Int} {W W' : World}
end
section
variable {w : World} {s0 s1 v80 v81 v110 v111 : Value} {R1 : List S46} {R2 : List Int} {hh : Array Value} {p8 l8 h8 p11 l11 h11 : Nat} {M : List S46} {F : List Int} {W W' : World}
end
/-- What a drawn region leaves: a table that is told, its block, and where they lie. -/
structure Sg where
  u : Value
  A0 : Option Addr
  c0 : Nat
  A1 : Option Addr
  c1 : Nat
  p : Nat
  l : Nat
  h : Nat
end Go.Proofs.Ytoomeeoijbkmnaa.PH
