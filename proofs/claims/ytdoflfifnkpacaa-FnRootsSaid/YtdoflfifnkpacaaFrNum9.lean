/-
  Plain laws behind FnRoots: roots of halves and singles.
-/
import Derived.Test.YtdoflfifnkpacaaFrNum8
namespace Go.Proofs.Ytdoflfifnkpacaa.FR
open Go.RowKit Go.Proofs.YtdoflfifnkpacaaW.PrintWords Go.Proofs.YtdoflfifnkpacaaW.PrintLast Go.Proofs.YtdoflfifnkpacaaW.PrintMore
set_option linter.unusedSimpArgs false
set_option linter.unusedVariables false
/-- What a half from nought on is, in parts of 2 to the -24. -/
def exv (h : Int) : Int := if h / 1024 = 0 then h else (h % 1024 + 1024) * 2 ^ (h / 1024 - 1).toNat
theorem pow_lit (n : Nat) (hn : n ≤ 29) : (2 : Int) ^ n ≤ 536870912 := by
  have h : (2 : Nat) ^ n ≤ 2 ^ 29 := Nat.pow_le_pow_right (by decide) hn
  have h2 : (2 : Int) ^ n = ((2 ^ n : Nat) : Int) := by simp
  rw [h2]
  omega
theorem shlI {x : Int} (n : Nat) (hn : n ≤ 29) (h0 : 0 ≤ x) (h1 : x < 4096) : shl .i64 x (n : Int) = x * 2 ^ n := by
  have hp := p2_pos n
  have hl := pow_lit n hn
  have hq : 0 ≤ x * 2 ^ n := Int.mul_nonneg h0 (by omega)
  have hq2 : x * 2 ^ n ≤ 4096 * 536870912 := Int.mul_le_mul (by omega) hl (by omega) (by decide)
  unfold shl
  have e : min ((n : Int)).toNat IntKind.i64.bits = n := by
    rw [Int.toNat_natCast]
    exact Nat.min_eq_left (show n ≤ 64 by omega)
  rw [e, i64_w]
  exact w64_id (by omega) (by omega)
theorem exact_of {a : Int} (h0 : 0 ≤ a) (h1 : a < 4294967296) {ng : Bool} {m e : Int} (hp : parts 1024 32 32768 (-24) a = (ng, false, false, m, e)) (m0 : 0 ≤ m) (m1 : m < 2048) (e0 : -24 ≤ e) (e1 : e ≤ 5) :
    laws_exact.f a = some (if ng = true then -(m * 2 ^ (e + 24).toNat) else m * 2 ^ (e + 24).toNat, true) := by
  have so := specOpen10 h0 h1
  rw [hp] at so
  have lk : spec_l4Kind.f 16 = some (5, 10, true) := by decide +kernel
  have w1 : IntKind.u64.wrap (wrap64 (e + 24)) = (((e + 24).toNat : Nat) : Int) := by
    rw [w64_id (by omega) (by omega), u64_id (by omega) (by omega)]
    omega
  have w2 : wrap64 m = m := w64_id (by omega) (by omega)
  have hs := shlI (x := m) (e + 24).toNat (by omega) m0 (by omega)
  have hp := p2_pos (e + 24).toNat
  have hl := pow_lit (e + 24).toNat (by omega)
  have hq : 0 ≤ m * 2 ^ (e + 24).toNat := Int.mul_nonneg m0 (by omega)
  have hq2 : m * 2 ^ (e + 24).toNat ≤ 4096 * 536870912 := Int.mul_le_mul (by omega) hl (by omega) (by decide)
  have w3 : wrap64 (-(m * 2 ^ (e + 24).toNat)) = -(m * 2 ^ (e + 24).toNat) := w64_id (by omega) (by omega)
  unfold laws_exact.f spec_FloatParts.f
  simp only [lk, so, Option.bind_some, if_true, Bool.false_eq_true, if_false, w1, w2, hs, w3]
  rw [if_pos (by omega)]
  cases ng <;> rfl
theorem exact_no {a : Int} (h0 : 0 ≤ a) (h1 : a < 4294967296) {ng na : Bool} (hp : parts 1024 32 32768 (-24) a = (ng, na, !na, 0, 0)) : laws_exact.f a = some (0, false) := by
  have so := specOpen10 h0 h1
  rw [hp] at so
  have lk : spec_l4Kind.f 16 = some (5, 10, true) := by decide +kernel
  unfold laws_exact.f spec_FloatParts.f
  simp only [lk, so, Option.bind_some, if_true]
  cases na <;> rfl
theorem exact_half {h : Int} (h0 : 0 ≤ h) (h1 : h < 31744) : laws_exact.f h = some (exv h, true) := by
  have hp : parts 1024 32 32768 (-24) h = (false, false, false, if h / 1024 = 0 then h else h % 1024 + 1024, if h / 1024 = 0 then -24 else h / 1024 - 25) := by
    unfold parts
    have e0 : (h / 32768 % 2 == 1) = false := beq_eq_false_iff_ne.mpr (by omega)
    have e1 : h / 1024 % 32 = h / 1024 := by omega
    rw [e0, e1, if_neg (by omega)]
    by_cases c : h / 1024 = 0
    · rw [if_pos c, if_pos c, if_pos c]
      have : h % 1024 = h := by omega
      rw [this]
    · rw [if_neg c, if_neg c, if_neg c]
      have : -24 + h / 1024 - 1 = h / 1024 - 25 := by omega
      rw [this]
  have g := exact_of (by omega) (by omega) hp (by split <;> omega) (by split <;> omega) (by split <;> omega) (by split <;> omega)
  rw [g]
  unfold exv
  by_cases c : h / 1024 = 0
  · simp only [if_pos c]
    simp
  · simp only [if_neg c]
    have : h / 1024 - 25 + 24 = h / 1024 - 1 := by omega
    rw [this]
    simp
end Go.Proofs.Ytdoflfifnkpacaa.FR
