/-
  Plain laws behind FnRoots: roots of halves and singles.
-/
import Derived.Test.YtdoflfifnkpacaaFrNum6
namespace Go.Proofs.Ytdoflfifnkpacaa.FR
open Go.RowKit Go.Proofs.YtdoflfifnkpacaaW.PrintWords Go.Proofs.YtdoflfifnkpacaaW.PrintLast Go.Proofs.YtdoflfifnkpacaaW.PrintMore
set_option linter.unusedSimpArgs false
set_option linter.unusedVariables false
/-- The product of two words, as two words. -/
theorem mul128 {A B : Int} (a0 : 0 ≤ A) (a1 : A < 18446744073709551616) (b0 : 0 ≤ B) (b1 : B < 18446744073709551616) : spec_Mul128.f A B = some (A * B / 18446744073709551616, A * B % 18446744073709551616) := by
  have m : ∀ x : Int, 0 ≤ x → x < 18446744073709551616 → Go.bits .and .u64 x 4294967295 = x % 4294967296 := fun x h0 h1 => and64 32 (by decide) h0 h1
  obtain ⟨ah, hah⟩ : ∃ ah, ah = A / 4294967296 := ⟨_, rfl⟩
  obtain ⟨al, hal⟩ : ∃ al, al = A % 4294967296 := ⟨_, rfl⟩
  obtain ⟨bh, hbh⟩ : ∃ bh, bh = B / 4294967296 := ⟨_, rfl⟩
  obtain ⟨bl, hbl⟩ : ∃ bl, bl = B % 4294967296 := ⟨_, rfl⟩
  have eA : A = ah * 4294967296 + al := by omega
  have eB : B = bh * 4294967296 + bl := by omega
  have bnd : ∀ x y : Int, 0 ≤ x → x ≤ 4294967295 → 0 ≤ y → y ≤ 4294967295 → 0 ≤ x * y ∧ x * y ≤ 18446744065119617025 := by
    intro x y x0 x1 y0 y1
    exact ⟨Int.mul_nonneg x0 y0, Int.le_trans (Int.mul_le_mul x1 y1 y0 (by decide)) (by decide)⟩
  have p1 := bnd ah bh (by omega) (by omega) (by omega) (by omega)
  have p2 := bnd ah bl (by omega) (by omega) (by omega) (by omega)
  have p3 := bnd al bh (by omega) (by omega) (by omega) (by omega)
  have p4 := bnd al bl (by omega) (by omega) (by omega) (by omega)
  have eP : A * B = ah * bh * 18446744073709551616 + (ah * bl + al * bh) * 4294967296 + al * bl := by
    rw [eA, eB]
    grind
  unfold spec_Mul128.f spec_l3Mul.f
  simp only [Option.bind_some, m A a0 a1, m B b0 b1, ← hah, ← hal, ← hbh, ← hbl]
  rw [eP]
  generalize ah * bh = q1 at *
  generalize ah * bl = q2 at *
  generalize al * bh = q3 at *
  generalize al * bl = q4 at *
  have u : ∀ x : Int, 0 ≤ x → x < 18446744073709551616 → IntKind.u64.wrap x = x := fun x h0 h1 => u64_id h0 h1
  have um : ∀ x : Int, IntKind.u64.wrap x = x % 18446744073709551616 := fun x => by simp [IntKind.wrap, IntKind.bits, IntKind.signed]
  rw [u q1 (by omega) (by omega), u q2 (by omega) (by omega), u q3 (by omega) (by omega), u q4 (by omega) (by omega)]
  rw [u (q3 + q4 / 4294967296) (by omega) (by omega)]
  rw [m (q3 + q4 / 4294967296) (by omega) (by omega), m q4 (by omega) (by omega)]
  rw [u (q2 + (q3 + q4 / 4294967296) % 4294967296) (by omega) (by omega)]
  rw [u (q1 + (q3 + q4 / 4294967296) / 4294967296) (by omega) (by omega)]
  rw [u (q1 + (q3 + q4 / 4294967296) / 4294967296 + (q2 + (q3 + q4 / 4294967296) % 4294967296) / 4294967296) (by omega) (by omega)]
  have o : ∀ x y : Int, 0 ≤ x → 0 ≤ y → y < 4294967296 → Go.bits .or .u64 (IntKind.u64.wrap (x * 4294967296)) y = x % 4294967296 * 4294967296 + y := by
    intro x y x0 y0 y1
    rw [um]
    have e : x * 4294967296 % 18446744073709551616 = x % 4294967296 * 4294967296 := by omega
    rw [e]
    exact or64 32 (by omega) (by omega) (by omega) y0 (by omega) (by omega)
  rw [o _ _ (by omega) (by omega) (by omega)]
  simp only [Option.some.injEq, Prod.mk.injEq]
  constructor
  · omega
  · omega
theorem lex {A B : Int} : (A / 18446744073709551616 < B / 18446744073709551616 ∨ (A / 18446744073709551616 = B / 18446744073709551616 ∧ A % 18446744073709551616 ≤ B % 18446744073709551616)) ↔ A ≤ B := by omega
end Go.Proofs.Ytdoflfifnkpacaa.FR
