/-
  Plain laws behind FnRounded: sums, products and quotients of halves and singles.
-/
import Derived.Test.YtdoflfifnkpacaaC18FaN2
namespace Go.Proofs.Ytdoflfifnkpacaa.FA
open Go.RowKit Go.Proofs.YtdoflfifnkpacaaW.PrintWords Go.Proofs.YtdoflfifnkpacaaW.PrintLast Go.Proofs.YtdoflfifnkpacaaW.PrintMore
set_option linter.unusedSimpArgs false
set_option linter.unusedVariables false
theorem or32' (i : Nat) (hi : i ≤ 32) {x y : Int} (hx0 : 0 ≤ x) (hx : x % 2 ^ i = 0) (hx1 : x < 4294967296) (hy0 : 0 ≤ y) (hy : y < 2 ^ i) (hy1 : y < 4294967296) : Go.bits .or .u32 y x = x + y := by
  rw [← or32 i hi hx0 hx hx1 hy0 hy hy1]
  obtain ⟨a, rfl⟩ := Int.eq_ofNat_of_zero_le hx0
  obtain ⟨b, rfl⟩ := Int.eq_ofNat_of_zero_le hy0
  have hk : ∀ n : Int, 0 ≤ n → n < 2 ^ 32 → IntKind.u32.wrap n = n := fun _ a b => u32_id a (by simpa using b)
  have h32 : (2 : Nat) ^ 32 = 4294967296 := by decide
  rw [(bits_nat .u32 32 (by decide) hk b a (by rw [h32]; omega) (by rw [h32]; omega)).2, (bits_nat .u32 32 (by decide) hk a b (by rw [h32]; omega) (by rw [h32]; omega)).2, Nat.or_comm]
theorem andbit (n : Nat) (hn : n ≤ 31) {a : Int} (h0 : 0 ≤ a) (h1 : a < 4294967296) : (Go.bits .and .u32 a (2 ^ n) != 0) = (a / 2 ^ n % 2 == 1) := by
  obtain ⟨b, rfl⟩ := Int.eq_ofNat_of_zero_le h0
  have hk : ∀ n : Int, 0 ≤ n → n < 2 ^ 32 → IntKind.u32.wrap n = n := fun _ a b => u32_id a (by simpa using b)
  have h32 : (2 : Nat) ^ 32 = 4294967296 := by decide
  have e : ((2 : Int) ^ n) = ((2 ^ n : Nat) : Int) := by simp
  have hlt : (2 : Nat) ^ n < 2 ^ 32 := Nat.pow_lt_pow_right (by decide) (by omega)
  have hp : 0 < (2 : Nat) ^ n := Nat.two_pow_pos n
  have ha : b &&& 2 ^ n = if b / 2 ^ n % 2 = 1 then 2 ^ n else 0 := by
    apply Nat.eq_of_testBit_eq
    intro i
    rw [Nat.testBit_and, Nat.testBit_two_pow]
    by_cases hi : n = i
    · subst hi
      simp only [decide_true, Bool.and_true]
      rw [Nat.testBit_eq_decide_div_mod_eq]
      by_cases c : b / 2 ^ n % 2 = 1
      · rw [if_pos c, decide_eq_true c, Nat.testBit_two_pow_self]
      · rw [if_neg c, decide_eq_false c, Nat.zero_testBit]
    · rw [decide_eq_false hi, Bool.and_false]
      by_cases c : b / 2 ^ n % 2 = 1
      · rw [if_pos c, Nat.testBit_two_pow, decide_eq_false hi]
      · rw [if_neg c, Nat.zero_testBit]
  rw [e, (bits_nat .u32 32 (by decide) hk b (2 ^ n) (by rw [h32]; omega) hlt).1, ha]
  have e2 : ((b : Int) / ((2 ^ n : Nat) : Int) % 2 == 1) = decide (b / 2 ^ n % 2 = 1) := by
    by_cases c : b / 2 ^ n % 2 = 1
    · have : (b : Int) / ((2 ^ n : Nat) : Int) % 2 = 1 := by exact_mod_cast c
      rw [this, decide_eq_true c]
      rfl
    · have : ¬ (b : Int) / ((2 ^ n : Nat) : Int) % 2 = 1 := by
        intro x
        exact c (by exact_mod_cast x)
      rw [beq_eq_false_iff_ne.mpr this, decide_eq_false c]
  rw [e2]
  by_cases c : b / 2 ^ n % 2 = 1
  · rw [decide_eq_true c, if_pos c, bne_iff_ne]
    omega
  · rw [decide_eq_false c, if_neg c]
    rfl
/-- A float taken apart: neg, nan, inf, m, e. -/
def parts (T xs sb least : Int) (a : Int) : Bool × Bool × Bool × Int × Int :=
  if a / T % xs = xs - 1 then ((a / sb % 2 == 1), (a % T != 0), (a % T == 0), 0, 0) else (if a / T % xs = 0 then ((a / sb % 2 == 1), false, false, a % T, least) else ((a / sb % 2 == 1), false, false, a % T + T, least + a / T % xs - 1))
theorem implOpen10 {a : Int} (h0 : 0 ≤ a) (h1 : a < 4294967296) : impl_format_open.f 10 15 a = some (parts 1024 32 32768 (-24) a) := by
  have tp : impl_format_top.f 10 15 = some 31 := by decide +kernel
  have sg : impl_format_sign.f 10 15 = some 32768 := by decide +kernel
  have m1 : (shl .u32 1 10 - 1) % 4294967296 = 1023 := by decide +kernel
  have m2 : shl .u64 1 10 = 1024 := by decide +kernel
  have s1 : shr .u32 a 10 = a / 1024 := by
    unfold shr
    have e : min ((10 : Int)).toNat IntKind.u32.bits = 10 := by decide
    have e' : (2 : Int) ^ 10 = 1024 := by decide
    rw [e, e']
  have x1 : Go.bits .and .u32 (a / 1024) 31 = a / 1024 % 32 := and32 5 (by decide) (by omega) (by omega)
  have f1 : Go.bits .and .u32 a 1023 = a % 1024 := and32 10 (by decide) h0 h1
  have n1 : (Go.bits .and .u32 a 32768 != 0) = (a / 32768 % 2 == 1) := andbit 15 (by decide) h0 h1
  have u1 : IntKind.u64.wrap (a % 1024) = a % 1024 := u64_id (by omega) (by omega)
  have u2 : IntKind.u64.wrap (a % 1024 + 1024) = a % 1024 + 1024 := u64_id (by omega) (by omega)
  have l1 : wrap64 (wrap64 (1 - 15) - 10) = -24 := by decide +kernel
  have l2 : wrap64 (wrap64 (wrap64 (a / 1024 % 32) - 15) - 10) = -24 + a / 1024 % 32 - 1 := by unfold wrap64; omega
  unfold impl_format_open.f parts
  simp only [tp, sg, Option.bind_some, m1, m2, s1, x1, f1, n1, u1, u2, l1, l2]
  have e31 : (32 : Int) - 1 = 31 := by decide
  rw [if_pos (by decide), e31]
  by_cases c : a / 1024 % 32 = 31
  · simp only [if_pos c]
  · by_cases d : a / 1024 % 32 = 0
    · simp only [if_neg c, if_pos d]
    · simp only [if_neg c, if_neg d]
theorem specOpen10 {a : Int} (h0 : 0 ≤ a) (h1 : a < 4294967296) : spec_l4K_open.f 5 10 a = some ((parts 1024 32 32768 (-24) a).1, (parts 1024 32 32768 (-24) a).2.2.1, (parts 1024 32 32768 (-24) a).2.1, (parts 1024 32 32768 (-24) a).2.2.2) := by
  have mk : spec_l4K_mask.f 5 10 = some 65535 := by decide +kernel
  have ls : spec_l4K_least.f 5 10 = some (-24) := by decide +kernel
  have a1 : Go.bits .and .u32 a 65535 = a % 65536 := by
    have := and32 16 (by decide) h0 h1
    have e' : (2 : Int) ^ 16 = 65536 := by decide
    rw [e'] at this
    have e'' : (65536 : Int) - 1 = 65535 := by decide
    rw [e''] at this
    rw [this]
  have m1 : (shl .u32 1 10 - 1) % 4294967296 = 1023 := by decide +kernel
  have m2 : (shl .u32 1 5 - 1) % 4294967296 = 31 := by decide +kernel
  have m4 : ((1024 : Int) - 1) % 4294967296 = 1023 := by decide
  have e31 : (32 : Int) - 1 = 31 := by decide
  have m3 : shl .u32 1 10 = 1024 := by decide +kernel
  have w1 : IntKind.u64.wrap (5 + 10) = 15 := by decide +kernel
  have s1 : shr .u32 (a % 65536) 10 = (a % 65536) / 1024 := by
    unfold shr
    have e : min ((10 : Int)).toNat IntKind.u32.bits = 10 := by decide
    have e' : (2 : Int) ^ 10 = 1024 := by decide
    rw [e, e']
  have s2 : shr .u32 (a % 65536) 15 = a / 32768 % 2 := by
    unfold shr
    have e : min ((15 : Int)).toNat IntKind.u32.bits = 15 := by decide
    have e' : (2 : Int) ^ 15 = 32768 := by decide
    rw [e, e']
    omega
  have x1 : Go.bits .and .u32 ((a % 65536) / 1024) 31 = a / 1024 % 32 := by
    have := and32 5 (by decide) (a := (a % 65536) / 1024) (by omega) (by omega)
    have e' : (2 : Int) ^ 5 = 32 := by decide
    rw [e'] at this
    have e'' : (32 : Int) - 1 = 31 := by decide
    rw [e''] at this
    rw [this]
    omega
  have f1 : Go.bits .and .u32 (a % 65536) 1023 = a % 1024 := by
    have := and32 10 (by decide) (a := a % 65536) (by omega) (by omega)
    have e' : (2 : Int) ^ 10 = 1024 := by decide
    rw [e'] at this
    have e'' : (1024 : Int) - 1 = 1023 := by decide
    rw [e''] at this
    rw [this]
    omega
  have o1 : Go.bits .or .u32 (a % 1024) 1024 = 1024 + a % 1024 := or32' 10 (by decide) (by decide) (by decide) (by decide) (by omega) (by simp; omega) (by omega)
  have u1 : IntKind.u64.wrap (a % 1024) = a % 1024 := u64_id (by omega) (by omega)
  have u2 : IntKind.u64.wrap (1024 + a % 1024) = a % 1024 + 1024 := by rw [u64_id (by omega) (by omega)]; omega
  have l2 : wrap64 (wrap64 (-24 + wrap64 (a / 1024 % 32)) - 1) = -24 + a / 1024 % 32 - 1 := by unfold wrap64; omega
  unfold spec_l4K_open.f parts
  simp only [mk, ls, Option.bind_some, a1, m2, m3, m4, w1, s1, s2, x1, f1, o1, u1, u2, l2, e31]
  rw [if_pos (by decide), if_pos (by decide), if_pos (by decide)]
  by_cases c : a / 1024 % 32 = 31
  · simp only [if_pos c]
  · by_cases d : a / 1024 % 32 = 0
    · simp only [if_neg c, if_pos d]
    · simp only [if_neg c, if_neg d]
theorem implOpen23 {a : Int} (h0 : 0 ≤ a) (h1 : a < 4294967296) : impl_format_open.f 23 127 a = some (parts 8388608 256 2147483648 (-149) a) := by
  have tp : impl_format_top.f 23 127 = some 255 := by decide +kernel
  have sg : impl_format_sign.f 23 127 = some 2147483648 := by decide +kernel
  have m1 : (shl .u32 1 23 - 1) % 4294967296 = 8388607 := by decide +kernel
  have m2 : shl .u64 1 23 = 8388608 := by decide +kernel
  have s1 : shr .u32 a 23 = a / 8388608 := by
    unfold shr
    have e : min ((23 : Int)).toNat IntKind.u32.bits = 23 := by decide
    have e' : (2 : Int) ^ 23 = 8388608 := by decide
    rw [e, e']
  have x1 : Go.bits .and .u32 (a / 8388608) 255 = a / 8388608 % 256 := and32 8 (by decide) (by omega) (by omega)
  have f1 : Go.bits .and .u32 a 8388607 = a % 8388608 := and32 23 (by decide) h0 h1
  have n1 : (Go.bits .and .u32 a 2147483648 != 0) = (a / 2147483648 % 2 == 1) := andbit 31 (by decide) h0 h1
  have u1 : IntKind.u64.wrap (a % 8388608) = a % 8388608 := u64_id (by omega) (by omega)
  have u2 : IntKind.u64.wrap (a % 8388608 + 8388608) = a % 8388608 + 8388608 := u64_id (by omega) (by omega)
  have l1 : wrap64 (wrap64 (1 - 127) - 23) = -149 := by decide +kernel
  have l2 : wrap64 (wrap64 (wrap64 (a / 8388608 % 256) - 127) - 23) = -149 + a / 8388608 % 256 - 1 := by unfold wrap64; omega
  unfold impl_format_open.f parts
  simp only [tp, sg, Option.bind_some, m1, m2, s1, x1, f1, n1, u1, u2, l1, l2]
  have e31 : (256 : Int) - 1 = 255 := by decide
  rw [if_pos (by decide), e31]
  by_cases c : a / 8388608 % 256 = 255
  · simp only [if_pos c]
  · by_cases d : a / 8388608 % 256 = 0
    · simp only [if_neg c, if_pos d]
    · simp only [if_neg c, if_neg d]
theorem specOpen23 {a : Int} (h0 : 0 ≤ a) (h1 : a < 4294967296) : spec_l4K_open.f 8 23 a = some ((parts 8388608 256 2147483648 (-149) a).1, (parts 8388608 256 2147483648 (-149) a).2.2.1, (parts 8388608 256 2147483648 (-149) a).2.1, (parts 8388608 256 2147483648 (-149) a).2.2.2) := by
  have mk : spec_l4K_mask.f 8 23 = some 4294967295 := by decide +kernel
  have ls : spec_l4K_least.f 8 23 = some (-149) := by decide +kernel
  have a1 : Go.bits .and .u32 a 4294967295 = a := by
    have := and32 32 (by decide) h0 h1
    have e' : (2 : Int) ^ 32 = 4294967296 := by decide
    rw [e'] at this
    have e'' : (4294967296 : Int) - 1 = 4294967295 := by decide
    rw [e''] at this
    rw [this]
    omega
  have m1 : (shl .u32 1 23 - 1) % 4294967296 = 8388607 := by decide +kernel
  have m2 : (shl .u32 1 8 - 1) % 4294967296 = 255 := by decide +kernel
  have m4 : ((8388608 : Int) - 1) % 4294967296 = 8388607 := by decide
  have e31 : (256 : Int) - 1 = 255 := by decide
  have m3 : shl .u32 1 23 = 8388608 := by decide +kernel
  have w1 : IntKind.u64.wrap (8 + 23) = 31 := by decide +kernel
  have s1 : shr .u32 (a) 23 = (a) / 8388608 := by
    unfold shr
    have e : min ((23 : Int)).toNat IntKind.u32.bits = 23 := by decide
    have e' : (2 : Int) ^ 23 = 8388608 := by decide
    rw [e, e']
  have s2 : shr .u32 (a) 31 = a / 2147483648 % 2 := by
    unfold shr
    have e : min ((31 : Int)).toNat IntKind.u32.bits = 31 := by decide
    have e' : (2 : Int) ^ 31 = 2147483648 := by decide
    rw [e, e']
    omega
  have x1 : Go.bits .and .u32 ((a) / 8388608) 255 = a / 8388608 % 256 := by
    have := and32 8 (by decide) (a := (a) / 8388608) (by omega) (by omega)
    have e' : (2 : Int) ^ 8 = 256 := by decide
    rw [e'] at this
    have e'' : (256 : Int) - 1 = 255 := by decide
    rw [e''] at this
    rw [this]
  have f1 : Go.bits .and .u32 (a) 8388607 = a % 8388608 := by
    have := and32 23 (by decide) (a := a) (by omega) (by omega)
    have e' : (2 : Int) ^ 23 = 8388608 := by decide
    rw [e'] at this
    have e'' : (8388608 : Int) - 1 = 8388607 := by decide
    rw [e''] at this
    rw [this]
  have o1 : Go.bits .or .u32 (a % 8388608) 8388608 = 8388608 + a % 8388608 := or32' 23 (by decide) (by decide) (by decide) (by decide) (by omega) (by simp; omega) (by omega)
  have u1 : IntKind.u64.wrap (a % 8388608) = a % 8388608 := u64_id (by omega) (by omega)
  have u2 : IntKind.u64.wrap (8388608 + a % 8388608) = a % 8388608 + 8388608 := by rw [u64_id (by omega) (by omega)]; omega
  have l2 : wrap64 (wrap64 (-149 + wrap64 (a / 8388608 % 256)) - 1) = -149 + a / 8388608 % 256 - 1 := by unfold wrap64; omega
  unfold spec_l4K_open.f parts
  simp only [mk, ls, Option.bind_some, a1, m2, m3, m4, w1, s1, s2, x1, f1, o1, u1, u2, l2, e31]
  rw [if_pos (by decide), if_pos (by decide), if_pos (by decide)]
  by_cases c : a / 8388608 % 256 = 255
  · simp only [if_pos c]
  · by_cases d : a / 8388608 % 256 = 0
    · simp only [if_neg c, if_pos d]
    · simp only [if_neg c, if_neg d]
end Go.Proofs.Ytdoflfifnkpacaa.FA
