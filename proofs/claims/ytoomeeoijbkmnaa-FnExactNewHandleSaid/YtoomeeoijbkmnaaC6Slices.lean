/-
  Plain laws about what the printed functions compute.
-/
import Derived.Test.YtoomeeoijbkmnaaC6PHx0
import Derived.Test.YtoomeeoijbkmnaaC6Reads
namespace Go.Proofs.Ytoomeeoijbkmnaa.PH
open Go.RowKit Go.Proofs.YtoomeeoijbkmnaaW.PrintWords Go.Proofs.YtoomeeoijbkmnaaW.PrintLast
set_option linter.unusedSimpArgs false
theorem C_of {α : Type} (d : Kd α) {W : World} {a : Option Addr} {len : Nat} {R : List Value → Prop} {Q : α → Prop} (hl : len ≤ 9223372036854775807)
    (h : 0 < len → ∃ ad, a = some ad ∧ ∀ i, i < len → ∃ c : List Value, c.length = d.sz ∧ R c ∧ ∀ j u, c[j]? = some u → W.cell? (ad.add (i * d.sz + j)) = some u)
    (ho : ∀ c, R c → ∃ x, d.K W x c ∧ Q x) : ∃ xs : List α, xs.length = len ∧ Kd.C d W a len xs ∧ ∀ x ∈ xs, Q x := by
  rcases Nat.eq_zero_or_pos len with e | e
  · subst e
    exact ⟨[], rfl, ⟨rfl, by omega, fun n => absurd n (by omega)⟩, fun x hx => by simp at hx⟩
  · obtain ⟨ad, rfl, hc⟩ := h e
    obtain ⟨xs, h1, h2⟩ := Op.pick (Q := fun i x => ∃ c : List Value, c.length = d.sz ∧ d.K W x c ∧ Q x ∧ ∀ j u, c[j]? = some u → W.cell? (ad.add (i * d.sz + j)) = some u) (fun i hi => by
      obtain ⟨c, c1, c2, c3⟩ := hc i hi
      obtain ⟨x, x1, x2⟩ := ho c c2
      exact ⟨x, c, c1, x1, x2, c3⟩)
    refine ⟨xs, h1, ⟨h1, hl, fun _ => ⟨ad, rfl, fun j p hj => ?_⟩⟩, fun x hx => ?_⟩
    · obtain ⟨c, c1, c2, _, c3⟩ := h2 j p hj
      exact ⟨c, c1, c2, c3⟩
    · obtain ⟨i, hi⟩ := List.mem_iff_getElem?.1 hx
      obtain ⟨_, _, _, q, _⟩ := h2 i x hi
      exact q
def wf64 (n : Int) : Prop := (Lit.int .i64 n).wf = true
theorem slice41 {W : World} {a : Option Addr} {l c : Nat} (h : Op.R41 W [.slice a l c]) : ∃ xs : List Int, xs.length = l ∧ Kd.C (Kd.int .i64) W a l xs ∧ l ≤ c ∧ xs.length * 8 ≤ 140737488351232 ∧ ∀ x ∈ xs, wf64 x := by
  obtain ⟨_, _, _, e, h1, h2, h3, h4⟩ := h
  simp only [List.cons.injEq, Value.slice.injEq, and_true] at e
  obtain ⟨rfl, rfl, rfl⟩ := e
  obtain ⟨xs, x1, x2, x3⟩ := C_of (Kd.int .i64) (R := Op.R3 W) (Q := wf64) (by omega) h4 (fun c hc => by
    obtain ⟨n, rfl, hn⟩ := hc
    exact ⟨n, rfl, hn⟩)
  exact ⟨xs, x1, x2, h1, by rw [x1]; exact h3, x3⟩
def wf60 (h : S60) : Prop := wf64 h.f1 ∧ wf64 h.f2 ∧ wf64 h.f4 ∧ wf64 h.f5
theorem slice40 {W : World} {a : Option Addr} {l c : Nat} (h : Op.R40 W [.slice a l c]) : ∃ xs : List S60, xs.length = l ∧ Kd.C k60 W a l xs ∧ l ≤ c ∧ xs.length * 48 ≤ 140737488351232 ∧ ∀ x ∈ xs, wf60 x := by
  obtain ⟨_, _, _, e, h1, h2, h3, h4⟩ := h
  simp only [List.cons.injEq, Value.slice.injEq, and_true] at e
  obtain ⟨rfl, rfl, rfl⟩ := e
  obtain ⟨xs, x1, x2, x3⟩ := C_of k60 (R := Op.R60 W) (Q := wf60) (by omega) h4 (fun c hc => by
    obtain ⟨a0, a1, a2, a3, a4, a5, rfl, _, h1, h2, _, h4, h5⟩ := hc
    have g : ∀ {n : Int}, Op.R3 W [.int .i64 n] → wf64 n := fun {n} h => by
      obtain ⟨m, e, hm⟩ := h
      simp only [List.cons.injEq, Value.int.injEq, and_true, true_and] at e
      exact e ▸ hm
    exact ⟨⟨a0, a1, a2, a3, a4, a5⟩, k60_mk W ⟨a0, a1, a2, a3, a4, a5⟩, g h1, g h2, g h4, g h5⟩)
  exact ⟨xs, x1, x2, h1, by rw [x1]; exact h3, x3⟩
end Go.Proofs.Ytoomeeoijbkmnaa.PH
