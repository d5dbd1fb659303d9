/-
  Plain laws behind FnRounded: sums, products and quotients of halves and singles.
-/
import Derived.Test.YtdoflfifnkpacaaC18FaEv
namespace Go.Proofs.Ytdoflfifnkpacaa.FA
open Go.RowKit Go.Proofs.YtdoflfifnkpacaaW.PrintWords Go.Proofs.YtdoflfifnkpacaaW.PrintLast Go.Proofs.YtdoflfifnkpacaaW.PrintMore
set_option linter.unusedSimpArgs false
set_option linter.unusedVariables false
theorem u64_id {n : Int} (h0 : 0 ≤ n) (h1 : n < 18446744073709551616) : IntKind.u64.wrap n = n := by
  have e : IntKind.u64.wrap n = n % 18446744073709551616 := by simp [IntKind.wrap, IntKind.bits, IntKind.signed]
  rw [e]
  omega
theorem u32_id {n : Int} (h0 : 0 ≤ n) (h1 : n < 4294967296) : IntKind.u32.wrap n = n := by
  have e : IntKind.u32.wrap n = n % 4294967296 := by simp [IntKind.wrap, IntKind.bits, IntKind.signed]
  rw [e]
  omega
theorem w64_id {n : Int} (h0 : -9223372036854775808 ≤ n) (h1 : n ≤ 9223372036854775807) : wrap64 n = n := by
  unfold wrap64
  omega
theorem and64 (n : Nat) (hn : n ≤ 64) {a : Int} (h0 : 0 ≤ a) (h1 : a < 18446744073709551616) : Go.bits .and .u64 a (2 ^ n - 1) = a % 2 ^ n :=
  bits_mask .u64 64 (by decide) (fun _ a b => u64_id a (by simpa using b)) n hn a h0 (by simpa using h1)
theorem and32 (n : Nat) (hn : n ≤ 32) {a : Int} (h0 : 0 ≤ a) (h1 : a < 4294967296) : Go.bits .and .u32 a (2 ^ n - 1) = a % 2 ^ n :=
  bits_mask .u32 32 (by decide) (fun _ a b => u32_id a (by simpa using b)) n hn a h0 (by simpa using h1)
theorem or32 (i : Nat) (hi : i ≤ 32) {x y : Int} (hx0 : 0 ≤ x) (hx : x % 2 ^ i = 0) (hx1 : x < 4294967296) (hy0 : 0 ≤ y) (hy : y < 2 ^ i) (hy1 : y < 4294967296) : Go.bits .or .u32 x y = x + y :=
  bits_join .u32 32 (by decide) (fun _ a b => u32_id a (by simpa using b)) i x y hx0 hx (by simpa using hx1) hy0 hy (by simpa using hy1)
theorem shl64 {x : Int} (n : Nat) (hn : n ≤ 64) (h0 : 0 ≤ x) (h1 : x * 2 ^ n < 18446744073709551616) : shl .u64 x (n : Int) = x * 2 ^ n := by
  unfold shl
  have e : min ((n : Int)).toNat IntKind.u64.bits = n := by
    rw [Int.toNat_natCast]
    exact Nat.min_eq_left (by simpa [IntKind.bits] using hn)
  rw [e]
  exact u64_id (Int.mul_nonneg h0 (Int.le_of_lt (Int.pow_pos (by decide)))) h1
theorem shr64 (x : Int) (n : Nat) (hn : n ≤ 64) : shr .u64 x (n : Int) = x / 2 ^ n := by
  unfold shr
  have e : min ((n : Int)).toNat IntKind.u64.bits = n := by
    rw [Int.toNat_natCast]
    exact Nat.min_eq_left (by simpa [IntKind.bits] using hn)
  rw [e]
theorem p2_pos (n : Nat) : (0 : Int) < 2 ^ n := Int.pow_pos (by decide)
theorem p2_succ (n : Nat) : (2 : Int) ^ (n + 1) = 2 * 2 ^ n := by rw [Int.pow_succ]; omega
/-- The last bit's place, of a number above nought. -/
def IsLen (m : Int) (L : Nat) : Prop := 1 ≤ L ∧ 2 ^ (L - 1) ≤ m ∧ m < 2 ^ L
end Go.Proofs.Ytdoflfifnkpacaa.FA
