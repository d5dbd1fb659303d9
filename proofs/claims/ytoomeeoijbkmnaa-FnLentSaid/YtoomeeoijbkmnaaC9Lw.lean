import Derived.Test.YtoomeeoijbkmnaaC9PHx10
import Derived.Lib.Hide
import Derived.Deep.QuietTactic
import Derived.BigQuiet
import Derived.WalkSpells
import Derived.WalkLawsBesides
import Derived.StillTailTactics
namespace Go.Proofs.Ytoomeeoijbkmnaa.PH
open Go.RowKit Go.Proofs.YtoomeeoijbkmnaaW.PrintWords Go.Proofs.YtoomeeoijbkmnaaW.PrintLast Go.Proofs.YtoomeeoijbkmnaaW.PrintMore
set_option linter.unusedVariables false
set_option linter.unusedSimpArgs false
/-- A table's two rows of the walk's own, both among the blocks from lo up to hi. -/
def Tb (W : World) (B lo hi : Nat) (v0 v1 : Value) (L0 : List S46) (L1 : List Int) : Prop :=
  Kd.R k46 46 W B (fun k => lo ≤ k ∧ k < hi) v0 L0 ∧ Kd.R (Kd.int .i64) 3 W B (fun k => lo ≤ k ∧ k < hi) v1 L1
section
variable {w W W' : World} {B lo hi : Nat} {v0 v1 : Value} {L0 : List S46} {L1 : List Int}
theorem Tb.new (hB : B ≤ w.heap.size) (h0 : Kd.R k46 46 W w.heap.size (fun _ => True) v0 L0) (h1 : Kd.R (Kd.int .i64) 3 W w.heap.size (fun _ => True) v1 L1) : Tb W B w.heap.size W.heap.size v0 v1 L0 L1 :=
  ⟨Kd.R_lower (Kd.R_mono (Kd.R_bound h0) (fun _ hk => ⟨hk.2.1, hk.2.2.1⟩)) hB, Kd.R_lower (Kd.R_mono (Kd.R_bound h1) (fun _ hk => ⟨hk.2.1, hk.2.2.1⟩)) hB⟩
theorem Tb.keep (h : Tb W B lo hi v0 v1 L0 L1) (hm : ∀ k, lo ≤ k → k < hi → k < W.heap.size → W'.heap[k]? = W.heap[k]?) : Tb W' B lo hi v0 v1 L0 L1 :=
  ⟨Kd.R_step h.1 (fun k hk hl => hm k hk.1 hk.2 hl), Kd.R_step h.2 (fun k hk hl => hm k hk.1 hk.2 hl)⟩
theorem Tb.below (h : Tb W B lo hi v0 v1 L0 L1) (hb : Below W.heap.size W W') : Tb W' B lo hi v0 v1 L0 L1 := h.keep (fun k _ _ hl => hb.block k hl)
end
/-- What lies where, behind the law's first half. -/
structure St (w : World) (s0 s1 v80 v81 v110 v111 v120 v121 : Value) (R1 : List S46) (R2 : List Int) (hh : Array Value) (lo8 p8 p9 lo11 p11 lo12 p12 p13 : Nat) (M : List S46) (F : List Int) (G1 : List S46) (G2 : List Int) (W : World) : Prop where
  qa : W.heap[w.heap.size]? = some (.cells #[s0, s1] 43 (0, 0))
  q8 : W.heap[p8]? = some (.cells #[v80, v81] 51 (0, 0))
  q9 : W.heap[p9]? = some (.cells hh 46 (0, 0))
  q11 : W.heap[p11]? = some (.cells #[v110, v111] 51 (0, 0))
  q12 : W.heap[p12]? = some (.cells #[v120, v121] 51 (0, 0))
  q13 : W.heap[p13]? = some (.cells hh 46 (0, 0))
  t8 : Tb W w.heap.size lo8 p8 v80 v81 R1 R2
  t11 : Tb W w.heap.size lo11 p11 v110 v111 M F
  t12 : Tb W w.heap.size lo12 p12 v120 v121 G1 G2
  o : w.heap.size < lo8 ∧ lo8 ≤ p8 ∧ p8 < p9 ∧ p9 < lo11 ∧ lo11 ≤ p11 ∧ p11 < lo12 ∧ lo12 ≤ p12 ∧ p12 < p13
  l : Below w.heap.size w W
section
variable {w : World} {s0 s1 v80 v81 v110 v111 v120 v121 : Value} {R1 : List S46} {R2 : List Int} {hh : Array Value} {lo8 p8 p9 lo11 p11 lo12 p12 p13 : Nat} {M X : List S46} {F Y : List Int} {G1 : List S46} {G2 : List Int} {W W' : World}
end
theorem z_new2 (w : World) (o o' : Obj) : ((w.alloc o).alloc o').heap[w.heap.size + 1]? = some o' := by
  have e1 : (w.alloc o).heap.size = w.heap.size + 1 := Array.size_push _
  rw [← e1]
  exact blk_new (w.alloc o) o'
end Go.Proofs.Ytoomeeoijbkmnaa.PH
