/-
  Plain laws about what the printed functions compute.
-/
import Derived.Test.YtoomeeoijbkmnaaC9PHx0
import Derived.Test.YtoomeeoijbkmnaaC9Reads8
namespace Go.Proofs.Ytoomeeoijbkmnaa.PH
open Go.RowKit Go.Proofs.YtoomeeoijbkmnaaW.PrintWords Go.Proofs.YtoomeeoijbkmnaaW.PrintLast
set_option linter.unusedSimpArgs false
theorem C_of {α : Type} (d : Kd α) {W : World} {a : Option Addr} {len : Nat} {R : List Value → Prop} {Q : α → Prop} (hl : len ≤ 9223372036854775807)
    (h : 0 < len → ∃ ad, a = some ad ∧ ∀ i, i < len → ∃ c : List Value, c.length = d.sz ∧ R c ∧ ∀ j u, c[j]? = some u → W.cell? (ad.add (i * d.sz + j)) = some u)
    (ho : ∀ c, R c → ∃ x, d.K W x c ∧ Q x) : ∃ xs : List α, xs.length = len ∧ Kd.C d W a len xs ∧ ∀ x ∈ xs, Q x := by
  rcases Nat.eq_zero_or_pos len with e | e
  · subst e
    exact ⟨[], rfl, ⟨rfl, by omega, fun n => absurd n (by omega)⟩, fun x hx => by simp at hx⟩
  · obtain ⟨ad, rfl, hc⟩ := h e
    obtain ⟨xs, h1, h2⟩ := Op.pick (Q := fun i x => ∃ c : List Value, c.length = d.sz ∧ d.K W x c ∧ Q x ∧ ∀ j u, c[j]? = some u → W.cell? (ad.add (i * d.sz + j)) = some u) (fun i hi => by
      obtain ⟨c, c1, c2, c3⟩ := hc i hi
      obtain ⟨x, x1, x2⟩ := ho c c2
      exact ⟨x, c, c1, x1, x2, c3⟩)
    refine ⟨xs, h1, ⟨h1, hl, fun _ => ⟨ad, rfl, fun j p hj => ?_⟩⟩, fun x hx => ?_⟩
    · obtain ⟨c, c1, c2, _, c3⟩ := h2 j p hj
      exact ⟨c, c1, c2, c3⟩
    · obtain ⟨i, hi⟩ := List.mem_iff_getElem?.1 hx
      obtain ⟨_, _, _, q, _⟩ := h2 i x hi
      exact q
def wf8 (n : Int) : Prop := (Lit.int .u8 n).wf = true
theorem wf8_in {n : Int} (h : wf8 n) : 0 ≤ n ∧ n ≤ 255 := by
  unfold wf8 at h
  simp [Lit.wf, IntKind.min, IntKind.max, IntKind.bits, IntKind.signed] at h
  omega
theorem slice65 {W : World} {a : Option Addr} {l c : Nat} (h : Op.R65 W [.slice a l c]) : ∃ xs : List Int, xs.length = l ∧ Kd.C (Kd.int .u8) W a l xs ∧ l ≤ c ∧ xs.length * 1 ≤ 140737488351232 ∧ ∀ x ∈ xs, wf8 x := by
  obtain ⟨_, _, _, e, h1, h2, h3, h4⟩ := h
  simp only [List.cons.injEq, Value.slice.injEq, and_true] at e
  obtain ⟨rfl, rfl, rfl⟩ := e
  obtain ⟨xs, x1, x2, x3⟩ := C_of (Kd.int .u8) (R := Op.R5 W) (Q := wf8) (by omega) h4 (fun c hc => by
    obtain ⟨n, rfl, hn⟩ := hc
    exact ⟨n, rfl, hn⟩)
  exact ⟨xs, x1, x2, h1, by rw [x1]; exact h3, x3⟩
end Go.Proofs.Ytoomeeoijbkmnaa.PH
