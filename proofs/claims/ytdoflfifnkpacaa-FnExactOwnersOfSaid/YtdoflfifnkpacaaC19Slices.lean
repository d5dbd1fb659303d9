/-
  Plain laws behind GoodWorld: when a world is good.
-/
import Derived.Test.YtdoflfifnkpacaaC19Open
import Derived.Test.YtdoflfifnkpacaaC19Reads
import Derived.Test.YtdoflfifnkpacaaC19WOx0
namespace Go.Proofs.Ytdoflfifnkpacaa.WO
open Go.RowKit Go.Proofs.YtdoflfifnkpacaaW.PrintWords Go.Proofs.YtdoflfifnkpacaaW.PrintLast Go.Proofs.YtdoflfifnkpacaaW.PrintMore
set_option linter.unusedSimpArgs false
set_option linter.unusedVariables false
theorem C_of {α : Type} (d : Kd α) {W : World} {a : Option Addr} {len : Nat} {R : List Value → Prop} {Q : α → Prop} (hl : len ≤ 9223372036854775807)
    (h : 0 < len → ∃ ad, a = some ad ∧ ∀ i, i < len → ∃ c : List Value, c.length = d.sz ∧ R c ∧ ∀ j u, c[j]? = some u → W.cell? (ad.add (i * d.sz + j)) = some u)
    (ho : ∀ c, R c → ∃ x, d.K W x c ∧ Q x) : ∃ xs : List α, xs.length = len ∧ Kd.C d W a len xs ∧ ∀ x ∈ xs, Q x := by
  rcases Nat.eq_zero_or_pos len with e | e
  · subst e
    exact ⟨[], rfl, ⟨rfl, by omega, fun n => absurd n (by omega)⟩, fun x hx => by simp at hx⟩
  · obtain ⟨ad, rfl, hc⟩ := h e
    obtain ⟨xs, h1, h2⟩ := Op.pick (Q := fun i x => ∃ c : List Value, c.length = d.sz ∧ d.K W x c ∧ Q x ∧ ∀ j u, c[j]? = some u → W.cell? (ad.add (i * d.sz + j)) = some u) (fun i hi => by
      obtain ⟨c, c1, c2, c3⟩ := hc i hi
      obtain ⟨x, x1, x2⟩ := ho c c2
      exact ⟨x, c, c1, x1, x2, c3⟩)
    refine ⟨xs, h1, ⟨h1, hl, fun _ => ⟨ad, rfl, fun j p hj => ?_⟩⟩, fun x hx => ?_⟩
    · obtain ⟨c, c1, c2, _, c3⟩ := h2 j p hj
      exact ⟨c, c1, c2, c3⟩
    · obtain ⟨i, hi⟩ := List.mem_iff_getElem?.1 hx
      obtain ⟨_, _, _, q, _⟩ := h2 i x hi
      exact q
def wf64 (n : Int) : Prop := (Lit.int .i64 n).wf = true
theorem wf_of {W : World} {n : Int} (h : Op.R3 W [.int .i64 n]) : wf64 n := by
  obtain ⟨m, e, hm⟩ := h
  simp only [List.cons.injEq, Value.int.injEq, and_true, true_and] at e
  exact e ▸ hm
theorem slice36 {W : World} {a : Option Addr} {l c : Nat} (h : Op.R36 W [.slice a l c]) : ∃ xs : List Int, xs.length = l ∧ Kd.C (Kd.int .i64) W a l xs ∧ l ≤ c ∧ xs.length * 8 ≤ 140737488351232 ∧ ∀ x ∈ xs, wf64 x := by
  obtain ⟨_, _, _, e, h1, h2, h3, h4⟩ := h
  simp only [List.cons.injEq, Value.slice.injEq, and_true] at e
  obtain ⟨rfl, rfl, rfl⟩ := e
  obtain ⟨xs, x1, x2, x3⟩ := C_of (Kd.int .i64) (R := Op.R3 W) (Q := wf64) (by omega) h4 (fun c hc => by
    obtain ⟨n, rfl, hn⟩ := hc
    exact ⟨n, rfl, hn⟩)
  exact ⟨xs, x1, x2, h1, by rw [x1]; exact h3, x3⟩
theorem slice33 {W : World} {a : Option Addr} {l c : Nat} (h : Op.R33 W [.slice a l c]) : ∃ xs : List S159, xs.length = l ∧ Kd.C k159 W a l xs ∧ l ≤ c ∧ xs.length * 16 ≤ 140737488351232 ∧ ∀ x ∈ xs, wf64 x.f0 := by
  obtain ⟨_, _, _, e, h1, h2, h3, h4⟩ := h
  simp only [List.cons.injEq, Value.slice.injEq, and_true] at e
  obtain ⟨rfl, rfl, rfl⟩ := e
  obtain ⟨xs, x1, x2, x3⟩ := C_of k159 (R := Op.R159 W) (Q := fun x => wf64 x.f0) (by omega) h4 (fun c hc => by
    obtain ⟨a0, a1, rfl, g0, _⟩ := hc
    exact ⟨⟨a0, a1⟩, k159_mk W ⟨a0, a1⟩, wf_of g0⟩)
  exact ⟨xs, x1, x2, h1, by rw [x1]; exact h3, x3⟩
theorem slice35 {W : World} {a : Option Addr} {l c : Nat} (h : Op.R35 W [.slice a l c]) : ∃ xs : List S162, xs.length = l ∧ Kd.C k162 W a l xs ∧ l ≤ c ∧ xs.length * 32 ≤ 140737488351232 ∧ ∀ x ∈ xs, wf64 x.f0 ∧ wf64 x.f1 ∧ wf64 x.f2 ∧ wf64 x.f3 := by
  obtain ⟨_, _, _, e, h1, h2, h3, h4⟩ := h
  simp only [List.cons.injEq, Value.slice.injEq, and_true] at e
  obtain ⟨rfl, rfl, rfl⟩ := e
  obtain ⟨xs, x1, x2, x3⟩ := C_of k162 (R := Op.R162 W) (Q := fun x => wf64 x.f0 ∧ wf64 x.f1 ∧ wf64 x.f2 ∧ wf64 x.f3) (by omega) h4 (fun c hc => by
    obtain ⟨a0, a1, a2, a3, rfl, g0, g1, g2, g3⟩ := hc
    exact ⟨⟨a0, a1, a2, a3⟩, k162_mk W ⟨a0, a1, a2, a3⟩, wf_of g0, wf_of g1, wf_of g2, wf_of g3⟩)
  exact ⟨xs, x1, x2, h1, by rw [x1]; exact h3, x3⟩
def wf190 (h : S190) : Prop := wf64 h.f1 ∧ wf64 h.f2 ∧ wf64 h.f4 ∧ wf64 h.f5
theorem slice150 {W : World} {a : Option Addr} {l c : Nat} (h : Op.R150 W [.slice a l c]) : ∃ xs : List S190, xs.length = l ∧ Kd.C k190 W a l xs ∧ l ≤ c ∧ xs.length * 48 ≤ 140737488351232 ∧ ∀ x ∈ xs, wf190 x := by
  obtain ⟨_, _, _, e, h1, h2, h3, h4⟩ := h
  simp only [List.cons.injEq, Value.slice.injEq, and_true] at e
  obtain ⟨rfl, rfl, rfl⟩ := e
  obtain ⟨xs, x1, x2, x3⟩ := C_of k190 (R := Op.R190 W) (Q := wf190) (by omega) h4 (fun c hc => by
    obtain ⟨a0, a1, a2, a3, a4, a5, rfl, _, h1, h2, _, h4, h5⟩ := hc
    exact ⟨⟨a0, a1, a2, a3, a4, a5⟩, k190_mk W ⟨a0, a1, a2, a3, a4, a5⟩, wf_of h1, wf_of h2, wf_of h4, wf_of h5⟩)
  exact ⟨xs, x1, x2, h1, by rw [x1]; exact h3, x3⟩
def wf152 (t : S152) : Prop := t.f0.length * 48 ≤ 140737488351232 ∧ t.f1.length * 8 ≤ 140737488351232 ∧ (∀ x ∈ t.f0, wf190 x) ∧ ∀ x ∈ t.f1, wf64 x
theorem slice34 {W : World} {a : Option Addr} {l c : Nat} (h : Op.R34 W [.slice a l c]) : ∃ xs : List S152, xs.length = l ∧ Kd.C k152 W a l xs ∧ l ≤ c ∧ xs.length * 48 ≤ 140737488351232 ∧ ∀ x ∈ xs, wf152 x := by
  obtain ⟨_, _, _, e, h1, h2, h3, h4⟩ := h
  simp only [List.cons.injEq, Value.slice.injEq, and_true] at e
  obtain ⟨rfl, rfl, rfl⟩ := e
  obtain ⟨xs, x1, x2, x3⟩ := C_of k152 (R := Op.R152 W) (Q := wf152) (by omega) h4 (fun c hc => by
    obtain ⟨A0, l0, c0, A1, l1, c1, rfl, g0, g1⟩ := hc
    obtain ⟨xs, rfl, b1, b2, b3, b4⟩ := slice150 g0
    obtain ⟨ys, rfl, d1, d2, d3, d4⟩ := slice36 g1
    exact ⟨⟨xs, ys⟩, ⟨_, _, rfl, ⟨A0, c0, rfl, b2, b1⟩, ⟨A1, c1, rfl, d2, d1⟩⟩, b3, d3, b4, d4⟩)
  exact ⟨xs, x1, x2, h1, by rw [x1]; exact h3, x3⟩
end Go.Proofs.Ytdoflfifnkpacaa.WO
