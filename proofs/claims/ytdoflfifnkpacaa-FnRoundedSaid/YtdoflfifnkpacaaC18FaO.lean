/-
  Plain laws behind FnRounded: sums, products and quotients of halves and singles.
-/
import Derived.Test.YtdoflfifnkpacaaC18FaS
namespace Go.Proofs.Ytdoflfifnkpacaa.FA
open Go.RowKit Go.Proofs.YtdoflfifnkpacaaW.PrintWords Go.Proofs.YtdoflfifnkpacaaW.PrintLast Go.Proofs.YtdoflfifnkpacaaW.PrintMore
set_option linter.unusedSimpArgs false
set_option linter.unusedVariables false
theorem xorbit_nat (b i : Nat) : b ^^^ 2 ^ i = if b / 2 ^ i % 2 = 1 then b - 2 ^ i else b + 2 ^ i := by
  have hp : 0 < 2 ^ i := Nat.two_pow_pos i
  have h1 : (b ^^^ 2 ^ i) % 2 ^ i = b % 2 ^ i := by
    rw [Nat.xor_mod_two_pow, Nat.mod_self, Nat.xor_zero]
  have h2 : (b ^^^ 2 ^ i) / 2 ^ i = b / 2 ^ i ^^^ 1 := by
    rw [Nat.xor_div_two_pow, Nat.div_self hp]
  have h3 : ∀ x : Nat, x ^^^ 1 = if x % 2 = 1 then x - 1 else x + 1 := by
    intro x
    have e1 : (x ^^^ 1) / 2 ^ 1 = x / 2 ^ 1 := by
      rw [Nat.xor_div_two_pow]
      simp
    have e2 : (x ^^^ 1) % 2 ^ 1 = (x % 2 ^ 1) ^^^ 1 := by
      rw [Nat.xor_mod_two_pow]
    rw [Nat.pow_one] at e1 e2
    split
    · rename_i c
      rw [c] at e2
      have : (1 ^^^ 1 : Nat) = 0 := by decide
      omega
    · rename_i c
      have c' : x % 2 = 0 := by omega
      rw [c'] at e2
      have : (0 ^^^ 1 : Nat) = 1 := by decide
      omega
  have m1 := Nat.div_add_mod (b ^^^ 2 ^ i) (2 ^ i)
  have m2 := Nat.div_add_mod b (2 ^ i)
  rw [h1, h2, h3] at m1
  generalize b / 2 ^ i = x at *
  generalize b % 2 ^ i = y at *
  by_cases c : x % 2 = 1
  · rw [if_pos c] at m1 ⊢
    obtain ⟨z, rfl⟩ : ∃ z, x = z + 1 := ⟨x - 1, by omega⟩
    rw [Nat.mul_add, Nat.mul_one] at m2
    rw [Nat.add_sub_cancel] at m1
    omega
  · rw [if_neg c, Nat.mul_add, Nat.mul_one] at m1
    rw [if_neg c]
    omega
theorem xorbit (i : Nat) (hi : i ≤ 31) {b : Int} (h0 : 0 ≤ b) (h1 : b < 4294967296) : Go.bits .xor .u32 b (2 ^ i) = if b / 2 ^ i % 2 = 1 then b - 2 ^ i else b + 2 ^ i := by
  obtain ⟨b, rfl⟩ := Int.eq_ofNat_of_zero_le h0
  have hp : 0 < 2 ^ i := Nat.two_pow_pos i
  have hlt : (2 : Nat) ^ i < 2 ^ 32 := Nat.pow_lt_pow_right (by decide) (by omega)
  have h32 : (2 : Nat) ^ 32 = 4294967296 := by decide
  have e : ((2 : Int) ^ i) = ((2 ^ i : Nat) : Int) := by simp
  have ha' : b % 2 ^ 32 = b := Nat.mod_eq_of_lt (by omega)
  have hb' : 2 ^ i % 2 ^ 32 = 2 ^ i := Nat.mod_eq_of_lt hlt
  have hx : Go.bits .xor .u32 (b : Int) ((2 ^ i : Nat) : Int) = ((b ^^^ 2 ^ i : Nat) : Int) := by
    simp only [Go.bits, BitVec.ofInt_natCast, BitVec.toNat_xor, BitVec.toNat_ofNat, show IntKind.u32.bits = 32 from rfl, ha', hb']
    have := Nat.xor_lt_two_pow (n := 32) (show b < 2 ^ 32 by omega) hlt
    exact u32_id (by omega) (by omega)
  rw [e, hx, xorbit_nat]
  have hd : (b : Int) / ((2 ^ i : Nat) : Int) % 2 = ((b / 2 ^ i % 2 : Nat) : Int) := by simp
  rw [hd]
  by_cases c : b / 2 ^ i % 2 = 1
  · rw [if_pos c, if_pos (by omega)]
    have : 2 ^ i ≤ b := by
      rcases Nat.lt_or_ge b (2 ^ i) with h | h
      · rw [Nat.div_eq_of_lt h] at c
        omega
      · exact h
    omega
  · rw [if_neg c, if_neg (by omega)]
    omega
theorem partsEx10 {a : Int} (h0 : 0 ≤ a) : (∃ ng na : Bool, parts 1024 32 32768 (-24) a = (ng, na, !na, 0, 0)) ∨ (∃ (ng : Bool) (m e : Int), parts 1024 32 32768 (-24) a = (ng, false, false, m, e) ∧ Fin10 m e) := by
  unfold parts
  by_cases c : a / 1024 % 32 = 32 - 1
  · rw [if_pos c]
    refine Or.inl ⟨(a / 32768 % 2 == 1), (a % 1024 != 0), ?_⟩
    have e : (a % 1024 == 0) = !(a % 1024 != 0) := by
      show _ = !(!(a % 1024 == 0))
      rw [Bool.not_not]
    rw [e]
  · rw [if_neg c]
    by_cases d : a / 1024 % 32 = 0
    · rw [if_pos d]
      exact Or.inr ⟨_, _, _, rfl, by omega, by omega, by omega, by omega, by omega⟩
    · rw [if_neg d]
      exact Or.inr ⟨_, _, _, rfl, by omega, by omega, by omega, by omega, by omega⟩
def addv10 (x y : Bool × Bool × Bool × Int × Int) : Int :=
  if (x.2.1 || y.2.1 || (x.2.2.1 && y.2.2.1 && (x.1 != y.1))) = true then 32256 else (if x.2.2.1 = true then sg 32768 x.1 + 31744 else (if y.2.2.1 = true then sg 32768 y.1 + 31744 else sum210 x.1 x.2.2.2.1 x.2.2.2.2 y.1 y.2.2.2.1 y.2.2.2.2))
theorem addv_comm10 (x y : Bool × Bool × Bool × Int × Int) : addv10 x y = addv10 y x := by
  obtain ⟨a1, a2, a3, a4, a5⟩ := x
  obtain ⟨b1, b2, b3, b4, b5⟩ := y
  have := sum2_comm10 a1 a4 a5 b1 b4 b5
  unfold addv10
  simp only [this]
  cases a2 <;> cases b2 <;> cases a3 <;> cases b3 <;> cases a1 <;> cases b1 <;> rfl
theorem implAdd10 {a b : Int} (a0 : 0 ≤ a) (a1 : a < 4294967296) (b0 : 0 ≤ b) (b1 : b < 4294967296) :
    Ev (fun k => impl_FAdd.f k 16 a b) (addv10 (parts 1024 32 32768 (-24) a) (parts 1024 32 32768 (-24) b)) := by
  have hk : impl_formatOf.f 16 = some (10, 15, true) := by decide +kernel
  have hn : impl_format_noNumber.f 10 15 = some 32256 := by decide +kernel
  unfold impl_FAdd.f
  simp only [hk, Option.bind_some, implOpen10 a0 a1, implOpen10 b0 b1]
  rcases partsEx10 a0 with ⟨ng, na, ha⟩ | ⟨ng, m, e, ha, hf⟩ <;> rcases partsEx10 b0 with ⟨mg, ma, hb⟩ | ⟨mg, n, f, hb, hg⟩ <;> simp only [ha, hb]
  · cases na <;> cases ma <;> cases ng <;> cases mg <;> exact Ev.step (g := fun _ => some _) (fun k => by simp [impl_FAdd.j0, hn, implInf10, addv10]) (Ev.const _)
  · cases na <;> exact Ev.step (g := fun _ => some _) (fun k => by simp [impl_FAdd.j0, hn, implInf10, addv10]) (Ev.const _)
  · cases ma <;> exact Ev.step (g := fun _ => some _) (fun k => by simp [impl_FAdd.j0, hn, implInf10, addv10]) (Ev.const _)
  · refine Ev.step (g := fun k => (impl_format_sum.f k 10 15 ng false false m e mg false false n f).bind fun t => some t) (fun k => by simp [impl_FAdd.j0]) ?_
    exact Ev.bind (implSum210 ng mg false false false false hf hg) (Ev.const _)
theorem specSumTop10 {x y : Bool × Bool × Bool × Int × Int} (hx : (∃ ng na : Bool, x = (ng, na, !na, 0, 0)) ∨ (∃ (ng : Bool) (m e : Int), x = (ng, false, false, m, e) ∧ Fin10 m e)) (hy : (∃ ng na : Bool, y = (ng, na, !na, 0, 0)) ∨ (∃ (ng : Bool) (m e : Int), y = (ng, false, false, m, e) ∧ Fin10 m e)) :
    Ev (fun k => spec_l4K_sum.f k 5 10 x.1 x.2.2.1 x.2.1 x.2.2.2.1 x.2.2.2.2 y.1 y.2.2.1 y.2.1 y.2.2.2.1 y.2.2.2.2) (addv10 x y) := by
  have hn : spec_l4K_nan.f 5 10 = some 32256 := by decide +kernel
  rcases hx with ⟨ng, na, rfl⟩ | ⟨ng, m, e, rfl, hf⟩ <;> rcases hy with ⟨mg, ma, rfl⟩ | ⟨mg, n, f, rfl, hg⟩
  · cases na <;> cases ma <;> cases ng <;> cases mg <;> exact Ev.step (g := fun k => _) (fun k => by simp [spec_l4K_sum.f]; rfl) (Ev.step (g := fun _ => some _) (fun k => by simp [spec_l4K_sum.j0, hn, specInf10, addv10]) (Ev.const _))
  · cases na <;> exact Ev.step (g := fun k => _) (fun k => by simp [spec_l4K_sum.f]; rfl) (Ev.step (g := fun _ => some _) (fun k => by simp [spec_l4K_sum.j0, hn, specInf10, addv10]) (Ev.const _))
  · cases ma <;> exact Ev.step (g := fun k => _) (fun k => by simp [spec_l4K_sum.f]; rfl) (Ev.step (g := fun _ => some _) (fun k => by simp [spec_l4K_sum.j0, hn, specInf10, addv10]) (Ev.const _))
  · exact specSum210 ng mg hf hg
theorem specAdd10 {a b : Int} (a0 : 0 ≤ a) (a1 : a < 4294967296) (b0 : 0 ≤ b) (b1 : b < 4294967296) :
    Ev (fun k => spec_FAdd.f k 16 a b) (addv10 (parts 1024 32 32768 (-24) a) (parts 1024 32 32768 (-24) b)) := by
  have hk : spec_l4Kind.f 16 = some (5, 10, true) := by decide +kernel
  unfold spec_FAdd.f
  simp only [hk, Option.bind_some, specOpen10 a0 a1, specOpen10 b0 b1]
  refine Ev.pos trivial (Ev.bind (specSumTop10 (partsEx10 a0) (partsEx10 b0)) (Ev.const _))
theorem parts_flip10 {b : Int} (b0 : 0 ≤ b) (b1 : b < 4294967296) : parts 1024 32 32768 (-24) (Go.bits .xor .u32 b 32768) = (!(parts 1024 32 32768 (-24) b).1, (parts 1024 32 32768 (-24) b).2) ∧ 0 ≤ Go.bits .xor .u32 b 32768 ∧ Go.bits .xor .u32 b 32768 < 4294967296 := by
  have hx := xorbit 15 (by decide) b0 b1
  rw [show (2 : Int) ^ 15 = 32768 by decide] at hx
  rw [hx]
  have key : ∀ c : Int, c / 1024 % 32 = b / 1024 % 32 → c % 1024 = b % 1024 → (c / 32768 % 2 == 1) = !(b / 32768 % 2 == 1) → parts 1024 32 32768 (-24) c = (!(parts 1024 32 32768 (-24) b).1, (parts 1024 32 32768 (-24) b).2) := by
    intro c e1 e2 e3
    unfold parts
    rw [e1, e2, e3]
    repeat' split
    all_goals rfl
  by_cases c : b / 32768 % 2 = 1
  · rw [if_pos c]
    refine ⟨key _ (by omega) (by omega) ?_, by omega, by omega⟩
    have e : (b - 32768) / 32768 % 2 = 0 := by omega
    rw [e, c]
    rfl
  · rw [if_neg c]
    have c' : b / 32768 % 2 = 0 := by omega
    refine ⟨key _ (by omega) (by omega) ?_, by omega, by omega⟩
    have e : (b + 32768) / 32768 % 2 = 1 := by omega
    rw [e, c']
    rfl
def flip (x : Bool × Bool × Bool × Int × Int) : Bool × Bool × Bool × Int × Int := (!x.1, x.2)
theorem implSub10 {a b : Int} (a0 : 0 ≤ a) (a1 : a < 4294967296) (b0 : 0 ≤ b) (b1 : b < 4294967296) :
    Ev (fun k => impl_FSub.f k 16 a b) (addv10 (parts 1024 32 32768 (-24) a) (flip (parts 1024 32 32768 (-24) b))) := by
  have hk : impl_formatOf.f 16 = some (10, 15, true) := by decide +kernel
  have hs : impl_format_sign.f 10 15 = some 32768 := by decide +kernel
  obtain ⟨h1, h2, h3⟩ := parts_flip10 b0 b1
  unfold impl_FSub.f
  simp only [hk, hs, Option.bind_some]
  have J := implAdd10 a0 a1 h2 h3
  rw [h1] at J
  exact Ev.pos trivial (Ev.bind J (Ev.const _))
theorem specSub10 {a b : Int} (a0 : 0 ≤ a) (a1 : a < 4294967296) (b0 : 0 ≤ b) (b1 : b < 4294967296) :
    Ev (fun k => spec_FSub.f k 16 a b) (addv10 (parts 1024 32 32768 (-24) a) (flip (parts 1024 32 32768 (-24) b))) := by
  have hk : spec_l4Kind.f 16 = some (5, 10, true) := by decide +kernel
  unfold spec_FSub.f
  simp only [hk, Option.bind_some, specOpen10 a0 a1, specOpen10 b0 b1]
  have hy : (∃ ng na : Bool, flip (parts 1024 32 32768 (-24) b) = (ng, na, !na, 0, 0)) ∨ (∃ (ng : Bool) (m e : Int), flip (parts 1024 32 32768 (-24) b) = (ng, false, false, m, e) ∧ Fin10 m e) := by
    rcases partsEx10 b0 with ⟨ng, na, h⟩ | ⟨ng, m, e, h, hf⟩
    · exact Or.inl ⟨!ng, na, by rw [h]; rfl⟩
    · exact Or.inr ⟨!ng, m, e, by rw [h]; rfl, hf⟩
  exact Ev.pos trivial (Ev.bind (specSumTop10 (partsEx10 a0) hy) (Ev.const _))
def mulv10 (x y : Bool × Bool × Bool × Int × Int) : Int :=
  if (x.2.1 || y.2.1 || (x.2.2.1 && !y.2.2.1 && (y.2.2.2.1 == 0)) || (y.2.2.1 && !x.2.2.1 && (x.2.2.2.1 == 0))) = true then 32256 else (if (x.2.2.1 || y.2.2.1) = true then sg 32768 (x.1 != y.1) + 31744 else flt 32768 10 (-24) 31 (x.1 != y.1) (x.2.2.2.1 * y.2.2.2.1) (x.2.2.2.2 + y.2.2.2.2) false)
theorem mulv_comm10 (x y : Bool × Bool × Bool × Int × Int) : mulv10 x y = mulv10 y x := by
  obtain ⟨a1, a2, a3, a4, a5⟩ := x
  obtain ⟨b1, b2, b3, b4, b5⟩ := y
  unfold mulv10
  simp only [Int.mul_comm a4 b4, Int.add_comm a5 b5]
  cases a2 <;> cases b2 <;> cases a3 <;> cases b3 <;> cases a1 <;> cases b1 <;> simp
theorem implMul10 {a b : Int} (a0 : 0 ≤ a) (a1 : a < 4294967296) (b0 : 0 ≤ b) (b1 : b < 4294967296) :
    Ev (fun k => impl_FMul.f k 16 a b) (mulv10 (parts 1024 32 32768 (-24) a) (parts 1024 32 32768 (-24) b)) := by
  have hk : impl_formatOf.f 16 = some (10, 15, true) := by decide +kernel
  have hn : impl_format_noNumber.f 10 15 = some 32256 := by decide +kernel
  unfold impl_FMul.f
  simp only [hk, Option.bind_some, implOpen10 a0 a1, implOpen10 b0 b1]
  rcases partsEx10 a0 with ⟨ng, na, ha⟩ | ⟨ng, m, e, ha, hf⟩ <;> rcases partsEx10 b0 with ⟨mg, ma, hb⟩ | ⟨mg, n, f, hb, hg⟩ <;> simp only [ha, hb]
  · cases na <;> cases ma <;> cases ng <;> cases mg <;> exact ⟨3, fun k hk => by (obtain ⟨j, rfl⟩ : ∃ j, k = j + 3 := ⟨k - 3, by omega⟩); simp [impl_FMul.j0, impl_FMul.j1, impl_FMul.j2, hn, implInf10, mulv10]⟩
  · by_cases z : n = 0 <;> cases na <;> cases ng <;> cases mg <;> exact ⟨3, fun k hk => by (obtain ⟨j, rfl⟩ : ∃ j, k = j + 3 := ⟨k - 3, by omega⟩); simp [impl_FMul.j0, impl_FMul.j1, impl_FMul.j2, hn, implInf10, mulv10, z]⟩
  · by_cases z : m = 0 <;> cases ma <;> cases ng <;> cases mg <;> exact ⟨3, fun k hk => by (obtain ⟨j, rfl⟩ : ∃ j, k = j + 3 := ⟨k - 3, by omega⟩); simp [impl_FMul.j0, impl_FMul.j1, impl_FMul.j2, hn, implInf10, mulv10, z]⟩
  · obtain ⟨x0, x1, x2, x3, _⟩ := hf
    obtain ⟨y0, y1, y2, y3, _⟩ := hg
    have hm0 : 0 ≤ m * n := Int.mul_nonneg x0 y0
    have hm1 : m * n ≤ 2048 * 2048 := Int.mul_le_mul (by omega) (by omega) (by omega) (by omega)
    have w1 : IntKind.u64.wrap (m * n) = m * n := u64_id hm0 (by omega)
    have w2 : wrap64 (e + f) = e + f := w64_id (by omega) (by omega)
    have J := implFlt10 (m := m * n) (e := e + f) (ng != mg) false hm0 (by omega) (by omega) (by omega)
    have hv : mulv10 (ng, false, false, m, e) (mg, false, false, n, f) = flt 32768 10 (-24) 31 (ng != mg) (m * n) (e + f) false := by simp [mulv10]
    rw [hv]
    refine Ev.eq (g := fun k => impl_FMul.j0 k (ng != mg) (if m = 0 then true else (n == 0)) 10 15 ng false false m e mg false false n f) (fun k => by by_cases z : m = 0 <;> simp [z]) ?_
    refine Ev.step (g := fun k => impl_FMul.j1 k (ng != mg) false 10 15 ng false false m e mg false false n f) (fun k => by simp [impl_FMul.j0]) ?_
    refine Ev.step (g := fun k => impl_FMul.j2 k (ng != mg) false 10 15 ng false false m e mg false false n f) (fun k => by simp [impl_FMul.j1]) ?_
    refine Ev.step (g := fun k => (impl_format_round.f k 10 15 (ng != mg) (m * n) (e + f) false).bind fun t => some t) (fun k => by simp only [impl_FMul.j2, w1, w2]; rw [if_neg (by decide)]) ?_
    exact Ev.bind J (Ev.const _)
theorem specMul10 {a b : Int} (a0 : 0 ≤ a) (a1 : a < 4294967296) (b0 : 0 ≤ b) (b1 : b < 4294967296) :
    Ev (fun k => spec_FMul.f k 16 a b) (mulv10 (parts 1024 32 32768 (-24) a) (parts 1024 32 32768 (-24) b)) := by
  have hk : spec_l4Kind.f 16 = some (5, 10, true) := by decide +kernel
  have hn : spec_l4K_nan.f 5 10 = some 32256 := by decide +kernel
  unfold spec_FMul.f
  simp only [hk, Option.bind_some, specOpen10 a0 a1, specOpen10 b0 b1]
  refine Ev.pos trivial ?_
  unfold spec_l4K_product.f
  rcases partsEx10 a0 with ⟨ng, na, ha⟩ | ⟨ng, m, e, ha, hf⟩ <;> rcases partsEx10 b0 with ⟨mg, ma, hb⟩ | ⟨mg, n, f, hb, hg⟩ <;> simp only [ha, hb]
  · cases na <;> cases ma <;> cases ng <;> cases mg <;> exact ⟨3, fun k hk => by (obtain ⟨j, rfl⟩ : ∃ j, k = j + 3 := ⟨k - 3, by omega⟩); simp [spec_l4K_product.j0, spec_l4K_product.j1, hn, specInf10, mulv10]⟩
  · by_cases z : n = 0 <;> cases na <;> cases ng <;> cases mg <;> exact ⟨3, fun k hk => by (obtain ⟨j, rfl⟩ : ∃ j, k = j + 3 := ⟨k - 3, by omega⟩); simp [spec_l4K_product.j0, spec_l4K_product.j1, hn, specInf10, mulv10, z]⟩
  · by_cases z : m = 0 <;> cases ma <;> cases ng <;> cases mg <;> exact ⟨3, fun k hk => by (obtain ⟨j, rfl⟩ : ∃ j, k = j + 3 := ⟨k - 3, by omega⟩); simp [spec_l4K_product.j0, spec_l4K_product.j1, hn, specInf10, mulv10, z]⟩
  · obtain ⟨x0, x1, x2, x3, _⟩ := hf
    obtain ⟨y0, y1, y2, y3, _⟩ := hg
    have hm0 : 0 ≤ m * n := Int.mul_nonneg x0 y0
    have hm1 : m * n ≤ 2048 * 2048 := Int.mul_le_mul (by omega) (by omega) (by omega) (by omega)
    have w1 : IntKind.u64.wrap (m * n) = m * n := u64_id hm0 (by omega)
    have w2 : wrap64 (e + f) = e + f := w64_id (by omega) (by omega)
    have J := specFlt10 (m := m * n) (e := e + f) (ng != mg) false hm0 (by omega) (by omega) (by omega)
    have hv : mulv10 (ng, false, false, m, e) (mg, false, false, n, f) = flt 32768 10 (-24) 31 (ng != mg) (m * n) (e + f) false := by simp [mulv10]
    rw [hv]
    refine Ev.bind (g := fun k => if false = true then _ else _) (a := flt 32768 10 (-24) 31 (ng != mg) (m * n) (e + f) false) (Ev.neg (by decide) (Ev.neg (by decide) (Ev.neg (by decide) (Ev.neg (by decide) ?_)))) (Ev.const _)
    refine Ev.step (g := fun k => spec_l4K_product.j1 k (ng != mg) false 5 10 ng false false m e mg false false n f) (fun k => by simp [spec_l4K_product.j0]) ?_
    refine Ev.step (g := fun k => (spec_l4K_round.f k 5 10 (ng != mg) (m * n) (e + f) false).bind fun t => some t) (fun k => by simp only [spec_l4K_product.j1, w1, w2]; rw [if_neg (by decide)]) ?_
    exact Ev.bind J (Ev.const _)
theorem partsEx23 {a : Int} (h0 : 0 ≤ a) : (∃ ng na : Bool, parts 8388608 256 2147483648 (-149) a = (ng, na, !na, 0, 0)) ∨ (∃ (ng : Bool) (m e : Int), parts 8388608 256 2147483648 (-149) a = (ng, false, false, m, e) ∧ Fin23 m e) := by
  unfold parts
  by_cases c : a / 8388608 % 256 = 256 - 1
  · rw [if_pos c]
    refine Or.inl ⟨(a / 2147483648 % 2 == 1), (a % 8388608 != 0), ?_⟩
    have e : (a % 8388608 == 0) = !(a % 8388608 != 0) := by
      show _ = !(!(a % 8388608 == 0))
      rw [Bool.not_not]
    rw [e]
  · rw [if_neg c]
    by_cases d : a / 8388608 % 256 = 0
    · rw [if_pos d]
      exact Or.inr ⟨_, _, _, rfl, by omega, by omega, by omega, by omega, by omega⟩
    · rw [if_neg d]
      exact Or.inr ⟨_, _, _, rfl, by omega, by omega, by omega, by omega, by omega⟩
def addv23 (x y : Bool × Bool × Bool × Int × Int) : Int :=
  if (x.2.1 || y.2.1 || (x.2.2.1 && y.2.2.1 && (x.1 != y.1))) = true then 2143289344 else (if x.2.2.1 = true then sg 2147483648 x.1 + 2139095040 else (if y.2.2.1 = true then sg 2147483648 y.1 + 2139095040 else sum223 x.1 x.2.2.2.1 x.2.2.2.2 y.1 y.2.2.2.1 y.2.2.2.2))
theorem addv_comm23 (x y : Bool × Bool × Bool × Int × Int) : addv23 x y = addv23 y x := by
  obtain ⟨a1, a2, a3, a4, a5⟩ := x
  obtain ⟨b1, b2, b3, b4, b5⟩ := y
  have := sum2_comm23 a1 a4 a5 b1 b4 b5
  unfold addv23
  simp only [this]
  cases a2 <;> cases b2 <;> cases a3 <;> cases b3 <;> cases a1 <;> cases b1 <;> rfl
theorem implAdd23 {a b : Int} (a0 : 0 ≤ a) (a1 : a < 4294967296) (b0 : 0 ≤ b) (b1 : b < 4294967296) :
    Ev (fun k => impl_FAdd.f k 32 a b) (addv23 (parts 8388608 256 2147483648 (-149) a) (parts 8388608 256 2147483648 (-149) b)) := by
  have hk : impl_formatOf.f 32 = some (23, 127, true) := by decide +kernel
  have hn : impl_format_noNumber.f 23 127 = some 2143289344 := by decide +kernel
  unfold impl_FAdd.f
  simp only [hk, Option.bind_some, implOpen23 a0 a1, implOpen23 b0 b1]
  rcases partsEx23 a0 with ⟨ng, na, ha⟩ | ⟨ng, m, e, ha, hf⟩ <;> rcases partsEx23 b0 with ⟨mg, ma, hb⟩ | ⟨mg, n, f, hb, hg⟩ <;> simp only [ha, hb]
  · cases na <;> cases ma <;> cases ng <;> cases mg <;> exact Ev.step (g := fun _ => some _) (fun k => by simp [impl_FAdd.j0, hn, implInf23, addv23]) (Ev.const _)
  · cases na <;> exact Ev.step (g := fun _ => some _) (fun k => by simp [impl_FAdd.j0, hn, implInf23, addv23]) (Ev.const _)
  · cases ma <;> exact Ev.step (g := fun _ => some _) (fun k => by simp [impl_FAdd.j0, hn, implInf23, addv23]) (Ev.const _)
  · refine Ev.step (g := fun k => (impl_format_sum.f k 23 127 ng false false m e mg false false n f).bind fun t => some t) (fun k => by simp [impl_FAdd.j0]) ?_
    exact Ev.bind (implSum223 ng mg false false false false hf hg) (Ev.const _)
theorem specSumTop23 {x y : Bool × Bool × Bool × Int × Int} (hx : (∃ ng na : Bool, x = (ng, na, !na, 0, 0)) ∨ (∃ (ng : Bool) (m e : Int), x = (ng, false, false, m, e) ∧ Fin23 m e)) (hy : (∃ ng na : Bool, y = (ng, na, !na, 0, 0)) ∨ (∃ (ng : Bool) (m e : Int), y = (ng, false, false, m, e) ∧ Fin23 m e)) :
    Ev (fun k => spec_l4K_sum.f k 8 23 x.1 x.2.2.1 x.2.1 x.2.2.2.1 x.2.2.2.2 y.1 y.2.2.1 y.2.1 y.2.2.2.1 y.2.2.2.2) (addv23 x y) := by
  have hn : spec_l4K_nan.f 8 23 = some 2143289344 := by decide +kernel
  rcases hx with ⟨ng, na, rfl⟩ | ⟨ng, m, e, rfl, hf⟩ <;> rcases hy with ⟨mg, ma, rfl⟩ | ⟨mg, n, f, rfl, hg⟩
  · cases na <;> cases ma <;> cases ng <;> cases mg <;> exact Ev.step (g := fun k => _) (fun k => by simp [spec_l4K_sum.f]; rfl) (Ev.step (g := fun _ => some _) (fun k => by simp [spec_l4K_sum.j0, hn, specInf23, addv23]) (Ev.const _))
  · cases na <;> exact Ev.step (g := fun k => _) (fun k => by simp [spec_l4K_sum.f]; rfl) (Ev.step (g := fun _ => some _) (fun k => by simp [spec_l4K_sum.j0, hn, specInf23, addv23]) (Ev.const _))
  · cases ma <;> exact Ev.step (g := fun k => _) (fun k => by simp [spec_l4K_sum.f]; rfl) (Ev.step (g := fun _ => some _) (fun k => by simp [spec_l4K_sum.j0, hn, specInf23, addv23]) (Ev.const _))
  · exact specSum223 ng mg hf hg
theorem specAdd23 {a b : Int} (a0 : 0 ≤ a) (a1 : a < 4294967296) (b0 : 0 ≤ b) (b1 : b < 4294967296) :
    Ev (fun k => spec_FAdd.f k 32 a b) (addv23 (parts 8388608 256 2147483648 (-149) a) (parts 8388608 256 2147483648 (-149) b)) := by
  have hk : spec_l4Kind.f 32 = some (8, 23, true) := by decide +kernel
  unfold spec_FAdd.f
  simp only [hk, Option.bind_some, specOpen23 a0 a1, specOpen23 b0 b1]
  refine Ev.pos trivial (Ev.bind (specSumTop23 (partsEx23 a0) (partsEx23 b0)) (Ev.const _))
theorem parts_flip23 {b : Int} (b0 : 0 ≤ b) (b1 : b < 4294967296) : parts 8388608 256 2147483648 (-149) (Go.bits .xor .u32 b 2147483648) = (!(parts 8388608 256 2147483648 (-149) b).1, (parts 8388608 256 2147483648 (-149) b).2) ∧ 0 ≤ Go.bits .xor .u32 b 2147483648 ∧ Go.bits .xor .u32 b 2147483648 < 4294967296 := by
  have hx := xorbit 31 (by decide) b0 b1
  rw [show (2 : Int) ^ 31 = 2147483648 by decide] at hx
  rw [hx]
  have key : ∀ c : Int, c / 8388608 % 256 = b / 8388608 % 256 → c % 8388608 = b % 8388608 → (c / 2147483648 % 2 == 1) = !(b / 2147483648 % 2 == 1) → parts 8388608 256 2147483648 (-149) c = (!(parts 8388608 256 2147483648 (-149) b).1, (parts 8388608 256 2147483648 (-149) b).2) := by
    intro c e1 e2 e3
    unfold parts
    rw [e1, e2, e3]
    repeat' split
    all_goals rfl
  by_cases c : b / 2147483648 % 2 = 1
  · rw [if_pos c]
    refine ⟨key _ (by omega) (by omega) ?_, by omega, by omega⟩
    have e : (b - 2147483648) / 2147483648 % 2 = 0 := by omega
    rw [e, c]
    rfl
  · rw [if_neg c]
    have c' : b / 2147483648 % 2 = 0 := by omega
    refine ⟨key _ (by omega) (by omega) ?_, by omega, by omega⟩
    have e : (b + 2147483648) / 2147483648 % 2 = 1 := by omega
    rw [e, c']
    rfl
theorem implSub23 {a b : Int} (a0 : 0 ≤ a) (a1 : a < 4294967296) (b0 : 0 ≤ b) (b1 : b < 4294967296) :
    Ev (fun k => impl_FSub.f k 32 a b) (addv23 (parts 8388608 256 2147483648 (-149) a) (flip (parts 8388608 256 2147483648 (-149) b))) := by
  have hk : impl_formatOf.f 32 = some (23, 127, true) := by decide +kernel
  have hs : impl_format_sign.f 23 127 = some 2147483648 := by decide +kernel
  obtain ⟨h1, h2, h3⟩ := parts_flip23 b0 b1
  unfold impl_FSub.f
  simp only [hk, hs, Option.bind_some]
  have J := implAdd23 a0 a1 h2 h3
  rw [h1] at J
  exact Ev.pos trivial (Ev.bind J (Ev.const _))
theorem specSub23 {a b : Int} (a0 : 0 ≤ a) (a1 : a < 4294967296) (b0 : 0 ≤ b) (b1 : b < 4294967296) :
    Ev (fun k => spec_FSub.f k 32 a b) (addv23 (parts 8388608 256 2147483648 (-149) a) (flip (parts 8388608 256 2147483648 (-149) b))) := by
  have hk : spec_l4Kind.f 32 = some (8, 23, true) := by decide +kernel
  unfold spec_FSub.f
  simp only [hk, Option.bind_some, specOpen23 a0 a1, specOpen23 b0 b1]
  have hy : (∃ ng na : Bool, flip (parts 8388608 256 2147483648 (-149) b) = (ng, na, !na, 0, 0)) ∨ (∃ (ng : Bool) (m e : Int), flip (parts 8388608 256 2147483648 (-149) b) = (ng, false, false, m, e) ∧ Fin23 m e) := by
    rcases partsEx23 b0 with ⟨ng, na, h⟩ | ⟨ng, m, e, h, hf⟩
    · exact Or.inl ⟨!ng, na, by rw [h]; rfl⟩
    · exact Or.inr ⟨!ng, m, e, by rw [h]; rfl, hf⟩
  exact Ev.pos trivial (Ev.bind (specSumTop23 (partsEx23 a0) hy) (Ev.const _))
def mulv23 (x y : Bool × Bool × Bool × Int × Int) : Int :=
  if (x.2.1 || y.2.1 || (x.2.2.1 && !y.2.2.1 && (y.2.2.2.1 == 0)) || (y.2.2.1 && !x.2.2.1 && (x.2.2.2.1 == 0))) = true then 2143289344 else (if (x.2.2.1 || y.2.2.1) = true then sg 2147483648 (x.1 != y.1) + 2139095040 else flt 2147483648 23 (-149) 255 (x.1 != y.1) (x.2.2.2.1 * y.2.2.2.1) (x.2.2.2.2 + y.2.2.2.2) false)
theorem mulv_comm23 (x y : Bool × Bool × Bool × Int × Int) : mulv23 x y = mulv23 y x := by
  obtain ⟨a1, a2, a3, a4, a5⟩ := x
  obtain ⟨b1, b2, b3, b4, b5⟩ := y
  unfold mulv23
  simp only [Int.mul_comm a4 b4, Int.add_comm a5 b5]
  cases a2 <;> cases b2 <;> cases a3 <;> cases b3 <;> cases a1 <;> cases b1 <;> simp
theorem implMul23 {a b : Int} (a0 : 0 ≤ a) (a1 : a < 4294967296) (b0 : 0 ≤ b) (b1 : b < 4294967296) :
    Ev (fun k => impl_FMul.f k 32 a b) (mulv23 (parts 8388608 256 2147483648 (-149) a) (parts 8388608 256 2147483648 (-149) b)) := by
  have hk : impl_formatOf.f 32 = some (23, 127, true) := by decide +kernel
  have hn : impl_format_noNumber.f 23 127 = some 2143289344 := by decide +kernel
  unfold impl_FMul.f
  simp only [hk, Option.bind_some, implOpen23 a0 a1, implOpen23 b0 b1]
  rcases partsEx23 a0 with ⟨ng, na, ha⟩ | ⟨ng, m, e, ha, hf⟩ <;> rcases partsEx23 b0 with ⟨mg, ma, hb⟩ | ⟨mg, n, f, hb, hg⟩ <;> simp only [ha, hb]
  · cases na <;> cases ma <;> cases ng <;> cases mg <;> exact ⟨3, fun k hk => by (obtain ⟨j, rfl⟩ : ∃ j, k = j + 3 := ⟨k - 3, by omega⟩); simp [impl_FMul.j0, impl_FMul.j1, impl_FMul.j2, hn, implInf23, mulv23]⟩
  · by_cases z : n = 0 <;> cases na <;> cases ng <;> cases mg <;> exact ⟨3, fun k hk => by (obtain ⟨j, rfl⟩ : ∃ j, k = j + 3 := ⟨k - 3, by omega⟩); simp [impl_FMul.j0, impl_FMul.j1, impl_FMul.j2, hn, implInf23, mulv23, z]⟩
  · by_cases z : m = 0 <;> cases ma <;> cases ng <;> cases mg <;> exact ⟨3, fun k hk => by (obtain ⟨j, rfl⟩ : ∃ j, k = j + 3 := ⟨k - 3, by omega⟩); simp [impl_FMul.j0, impl_FMul.j1, impl_FMul.j2, hn, implInf23, mulv23, z]⟩
  · obtain ⟨x0, x1, x2, x3, _⟩ := hf
    obtain ⟨y0, y1, y2, y3, _⟩ := hg
    have hm0 : 0 ≤ m * n := Int.mul_nonneg x0 y0
    have hm1 : m * n ≤ 16777216 * 16777216 := Int.mul_le_mul (by omega) (by omega) (by omega) (by omega)
    have w1 : IntKind.u64.wrap (m * n) = m * n := u64_id hm0 (by omega)
    have w2 : wrap64 (e + f) = e + f := w64_id (by omega) (by omega)
    have J := implFlt23 (m := m * n) (e := e + f) (ng != mg) false hm0 (by omega) (by omega) (by omega)
    have hv : mulv23 (ng, false, false, m, e) (mg, false, false, n, f) = flt 2147483648 23 (-149) 255 (ng != mg) (m * n) (e + f) false := by simp [mulv23]
    rw [hv]
    refine Ev.eq (g := fun k => impl_FMul.j0 k (ng != mg) (if m = 0 then true else (n == 0)) 23 127 ng false false m e mg false false n f) (fun k => by by_cases z : m = 0 <;> simp [z]) ?_
    refine Ev.step (g := fun k => impl_FMul.j1 k (ng != mg) false 23 127 ng false false m e mg false false n f) (fun k => by simp [impl_FMul.j0]) ?_
    refine Ev.step (g := fun k => impl_FMul.j2 k (ng != mg) false 23 127 ng false false m e mg false false n f) (fun k => by simp [impl_FMul.j1]) ?_
    refine Ev.step (g := fun k => (impl_format_round.f k 23 127 (ng != mg) (m * n) (e + f) false).bind fun t => some t) (fun k => by simp only [impl_FMul.j2, w1, w2]; rw [if_neg (by decide)]) ?_
    exact Ev.bind J (Ev.const _)
theorem specMul23 {a b : Int} (a0 : 0 ≤ a) (a1 : a < 4294967296) (b0 : 0 ≤ b) (b1 : b < 4294967296) :
    Ev (fun k => spec_FMul.f k 32 a b) (mulv23 (parts 8388608 256 2147483648 (-149) a) (parts 8388608 256 2147483648 (-149) b)) := by
  have hk : spec_l4Kind.f 32 = some (8, 23, true) := by decide +kernel
  have hn : spec_l4K_nan.f 8 23 = some 2143289344 := by decide +kernel
  unfold spec_FMul.f
  simp only [hk, Option.bind_some, specOpen23 a0 a1, specOpen23 b0 b1]
  refine Ev.pos trivial ?_
  unfold spec_l4K_product.f
  rcases partsEx23 a0 with ⟨ng, na, ha⟩ | ⟨ng, m, e, ha, hf⟩ <;> rcases partsEx23 b0 with ⟨mg, ma, hb⟩ | ⟨mg, n, f, hb, hg⟩ <;> simp only [ha, hb]
  · cases na <;> cases ma <;> cases ng <;> cases mg <;> exact ⟨3, fun k hk => by (obtain ⟨j, rfl⟩ : ∃ j, k = j + 3 := ⟨k - 3, by omega⟩); simp [spec_l4K_product.j0, spec_l4K_product.j1, hn, specInf23, mulv23]⟩
  · by_cases z : n = 0 <;> cases na <;> cases ng <;> cases mg <;> exact ⟨3, fun k hk => by (obtain ⟨j, rfl⟩ : ∃ j, k = j + 3 := ⟨k - 3, by omega⟩); simp [spec_l4K_product.j0, spec_l4K_product.j1, hn, specInf23, mulv23, z]⟩
  · by_cases z : m = 0 <;> cases ma <;> cases ng <;> cases mg <;> exact ⟨3, fun k hk => by (obtain ⟨j, rfl⟩ : ∃ j, k = j + 3 := ⟨k - 3, by omega⟩); simp [spec_l4K_product.j0, spec_l4K_product.j1, hn, specInf23, mulv23, z]⟩
  · obtain ⟨x0, x1, x2, x3, _⟩ := hf
    obtain ⟨y0, y1, y2, y3, _⟩ := hg
    have hm0 : 0 ≤ m * n := Int.mul_nonneg x0 y0
    have hm1 : m * n ≤ 16777216 * 16777216 := Int.mul_le_mul (by omega) (by omega) (by omega) (by omega)
    have w1 : IntKind.u64.wrap (m * n) = m * n := u64_id hm0 (by omega)
    have w2 : wrap64 (e + f) = e + f := w64_id (by omega) (by omega)
    have J := specFlt23 (m := m * n) (e := e + f) (ng != mg) false hm0 (by omega) (by omega) (by omega)
    have hv : mulv23 (ng, false, false, m, e) (mg, false, false, n, f) = flt 2147483648 23 (-149) 255 (ng != mg) (m * n) (e + f) false := by simp [mulv23]
    rw [hv]
    refine Ev.bind (g := fun k => if false = true then _ else _) (a := flt 2147483648 23 (-149) 255 (ng != mg) (m * n) (e + f) false) (Ev.neg (by decide) (Ev.neg (by decide) (Ev.neg (by decide) (Ev.neg (by decide) ?_)))) (Ev.const _)
    refine Ev.step (g := fun k => spec_l4K_product.j1 k (ng != mg) false 8 23 ng false false m e mg false false n f) (fun k => by simp [spec_l4K_product.j0]) ?_
    refine Ev.step (g := fun k => (spec_l4K_round.f k 8 23 (ng != mg) (m * n) (e + f) false).bind fun t => some t) (fun k => by simp only [spec_l4K_product.j1, w1, w2]; rw [if_neg (by decide)]) ?_
    exact Ev.bind J (Ev.const _)
end Go.Proofs.Ytdoflfifnkpacaa.FA
