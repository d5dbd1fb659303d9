/-
  Plain laws behind FnRounded: sums, products and quotients of halves and singles.
-/
import Derived.Test.YtdoflfifnkpacaaC18FaD
import Derived.Test.YtdoflfifnkpacaaC18FaDr
namespace Go.Proofs.Ytdoflfifnkpacaa.FA
open Go.RowKit Go.Proofs.YtdoflfifnkpacaaW.PrintWords Go.Proofs.YtdoflfifnkpacaaW.PrintLast Go.Proofs.YtdoflfifnkpacaaW.PrintMore
set_option linter.unusedSimpArgs false
set_option linter.unusedVariables false
theorem andval (n : Nat) (hn : n ≤ 31) {a : Int} (h0 : 0 ≤ a) (h1 : a < 4294967296) : Go.bits .and .u32 a (2 ^ n) = if a / 2 ^ n % 2 = 1 then 2 ^ n else 0 := by
  obtain ⟨b, rfl⟩ := Int.eq_ofNat_of_zero_le h0
  have hk : ∀ n : Int, 0 ≤ n → n < 2 ^ 32 → IntKind.u32.wrap n = n := fun _ a b => u32_id a (by simpa using b)
  have h32 : (2 : Nat) ^ 32 = 4294967296 := by decide
  have e : ((2 : Int) ^ n) = ((2 ^ n : Nat) : Int) := by simp
  have hlt : (2 : Nat) ^ n < 2 ^ 32 := Nat.pow_lt_pow_right (by decide) (by omega)
  have ha : b &&& 2 ^ n = if b / 2 ^ n % 2 = 1 then 2 ^ n else 0 := by
    apply Nat.eq_of_testBit_eq
    intro i
    rw [Nat.testBit_and, Nat.testBit_two_pow]
    by_cases hi : n = i
    · subst hi
      simp only [decide_true, Bool.and_true]
      rw [Nat.testBit_eq_decide_div_mod_eq]
      by_cases c : b / 2 ^ n % 2 = 1
      · rw [if_pos c, decide_eq_true c, Nat.testBit_two_pow_self]
      · rw [if_neg c, decide_eq_false c, Nat.zero_testBit]
    · rw [decide_eq_false hi, Bool.and_false]
      by_cases c : b / 2 ^ n % 2 = 1
      · rw [if_pos c, Nat.testBit_two_pow, decide_eq_false hi]
      · rw [if_neg c, Nat.zero_testBit]
  rw [e, (bits_nat .u32 32 (by decide) hk b (2 ^ n) (by rw [h32]; omega) hlt).1, ha]
  have hd : (b : Int) / ((2 ^ n : Nat) : Int) % 2 = ((b / 2 ^ n % 2 : Nat) : Int) := by simp
  rw [hd]
  by_cases c : b / 2 ^ n % 2 = 1
  · rw [if_pos c, if_pos (by omega)]
  · rw [if_neg c, if_neg (by omega)]
    rfl
theorem sg_cases (neg : Bool) : (neg = true ∧ sg 32768 neg = 32768) ∨ (neg = false ∧ sg 32768 neg = 0) := by
  cases neg
  · exact Or.inr ⟨rfl, rfl⟩
  · exact Or.inl ⟨rfl, rfl⟩
theorem pow_lit (n : Nat) (hn : n ≤ 29) : (2 : Int) ^ n ≤ 536870912 := by
  have := p2_le hn
  have e : (2 : Int) ^ 29 = 536870912 := by decide
  omega
theorem shlI {x : Int} (n : Nat) (hn : n ≤ 29) (h0 : 0 ≤ x) (h1 : x < 4096) : shl .i64 x (n : Int) = x * 2 ^ n := by
  have hp := p2_pos n
  have hl := pow_lit n hn
  have hq : 0 ≤ x * 2 ^ n := Int.mul_nonneg h0 (by omega)
  have hq2 : x * 2 ^ n ≤ 4096 * 536870912 := Int.mul_le_mul (by omega) hl (by omega) (by decide)
  unfold shl
  have e : min ((n : Int)).toNat IntKind.i64.bits = n := by
    rw [Int.toNat_natCast]
    exact Nat.min_eq_left (show n ≤ 64 by omega)
  rw [e, i64_w]
  exact w64_id (by omega) (by omega)
theorem exact_of {a : Int} (h0 : 0 ≤ a) (h1 : a < 4294967296) {ng : Bool} {m e : Int} (hp : parts 1024 32 32768 (-24) a = (ng, false, false, m, e)) (m0 : 0 ≤ m) (m1 : m < 2048) (e0 : -24 ≤ e) (e1 : e ≤ 5) :
    laws_exact.f a = some (if ng = true then -(m * 2 ^ (e + 24).toNat) else m * 2 ^ (e + 24).toNat, true) := by
  have so := specOpen10 h0 h1
  rw [hp] at so
  have lk : spec_l4Kind.f 16 = some (5, 10, true) := by decide +kernel
  have w1 : IntKind.u64.wrap (wrap64 (e + 24)) = (((e + 24).toNat : Nat) : Int) := by
    rw [w64_id (by omega) (by omega), u64_id (by omega) (by omega)]
    omega
  have w2 : wrap64 m = m := w64_id (by omega) (by omega)
  have hs := shlI (x := m) (e + 24).toNat (by omega) m0 (by omega)
  have hp := p2_pos (e + 24).toNat
  have hl := pow_lit (e + 24).toNat (by omega)
  have hq : 0 ≤ m * 2 ^ (e + 24).toNat := Int.mul_nonneg m0 (by omega)
  have hq2 : m * 2 ^ (e + 24).toNat ≤ 4096 * 536870912 := Int.mul_le_mul (by omega) hl (by omega) (by decide)
  have w3 : wrap64 (-(m * 2 ^ (e + 24).toNat)) = -(m * 2 ^ (e + 24).toNat) := w64_id (by omega) (by omega)
  unfold laws_exact.f spec_FloatParts.f
  simp only [lk, so, Option.bind_some, if_true, Bool.false_eq_true, if_false, w1, w2, hs, w3]
  rw [if_pos (by omega)]
  cases ng <;> rfl
theorem exact_no {a : Int} (h0 : 0 ≤ a) (h1 : a < 4294967296) {ng na : Bool} (hp : parts 1024 32 32768 (-24) a = (ng, na, !na, 0, 0)) : laws_exact.f a = some (0, false) := by
  have so := specOpen10 h0 h1
  rw [hp] at so
  have lk : spec_l4Kind.f 16 = some (5, 10, true) := by decide +kernel
  unfold laws_exact.f spec_FloatParts.f
  simp only [lk, so, Option.bind_some, if_true]
  cases na <;> rfl
theorem exact_sg {c : Int} (neg : Bool) (h0 : 0 ≤ c) (h1 : c < 31744) : laws_exact.f (sg 32768 neg + c) = some (if neg = true then -(exv c) else exv c, true) := by
  have hs := sg_cases neg
  have hp : parts 1024 32 32768 (-24) (sg 32768 neg + c) = (neg, false, false, if c / 1024 = 0 then c else c % 1024 + 1024, if c / 1024 = 0 then -24 else c / 1024 - 25) := by
    unfold parts
    have e0 : ((sg 32768 neg + c) / 32768 % 2 == 1) = neg := by
      rcases hs with ⟨h, hv⟩ | ⟨h, hv⟩
      · rw [h] at hv ⊢
        rw [hv]
        exact beq_iff_eq.mpr (by omega)
      · rw [h] at hv ⊢
        rw [hv]
        exact beq_eq_false_iff_ne.mpr (by omega)
    have e1 : (sg 32768 neg + c) / 1024 % 32 = c / 1024 := by rcases hs with ⟨_, hv⟩ | ⟨_, hv⟩ <;> rw [hv] <;> omega
    have e2 : (sg 32768 neg + c) % 1024 = c % 1024 := by rcases hs with ⟨_, hv⟩ | ⟨_, hv⟩ <;> rw [hv] <;> omega
    rw [e0, e1, e2, if_neg (by omega)]
    by_cases c' : c / 1024 = 0
    · rw [if_pos c', if_pos c', if_pos c']
      have : c % 1024 = c := by omega
      rw [this]
    · rw [if_neg c', if_neg c', if_neg c']
      have : -24 + c / 1024 - 1 = c / 1024 - 25 := by omega
      rw [this]
  have g := exact_of (by rcases hs with ⟨_, hv⟩ | ⟨_, hv⟩ <;> rw [hv] <;> omega) (by rcases hs with ⟨_, hv⟩ | ⟨_, hv⟩ <;> rw [hv] <;> omega) hp (by split <;> omega) (by split <;> omega) (by split <;> omega) (by split <;> omega)
  rw [g]
  have e : (if c / 1024 = 0 then c else c % 1024 + 1024) * 2 ^ ((if c / 1024 = 0 then -24 else c / 1024 - 25) + 24).toNat = exv c := by
    unfold exv
    by_cases c' : c / 1024 = 0
    · rw [if_pos c', if_pos c', if_pos c']
      simp
    · rw [if_neg c', if_neg c', if_neg c']
      have : (c / 1024 - 25 + 24) = c / 1024 - 1 := by omega
      rw [this]
  rw [e]
theorem exact_sg_inf (neg : Bool) : laws_exact.f (sg 32768 neg + 31744) = some (0, false) := by
  cases neg <;> decide +kernel
theorem size_ok {n : Int} (h0 : -9223372036854775808 < n) (h1 : n ≤ 9223372036854775807) : laws_size.f n = some (ab n) := by
  unfold laws_size.f ab
  by_cases c : n < 0
  · rw [if_pos c, if_pos c, w64_id (by omega) (by omega)]
  · rw [if_neg c, if_neg c]
theorem ab_neg (n : Int) : ab (-n) = ab n := by
  unfold ab
  split <;> split <;> omega
/-- One neighbour. -/
theorem near_j1 {X B c x y n w : Int} {neg : Bool} {i : Int} {l : List Int} {z : Int} (hB : 0 < B) (hB1 : B ≤ 4398046511104) (X0 : 0 ≤ X) (X1 : X ≤ 4611686018427387904) (hx : x = if neg = true then -X else X) (hy : y = if neg = true then -(exv c) else exv c)
    (c0 : 0 ≤ c) (c1 : c < 31744) (h : NearOut X B c) (he : (∃ q, laws_exact.f n = some (q, false)) ∨ (laws_exact.f n = some (if neg = true then -w else w, true) ∧ Beats X B (exv c) w c ∧ -(B) ≤ w * B ∧ 1024 * (w * B) ≤ 1027 * X + 4096 * B))
    (i0 : 0 ≤ i) (i1 : i ≤ 2) (H : Ev (fun k => laws_near.l0 k (sg 32768 neg + c) x B y l z (i + 1)) true) : Ev (fun k => laws_near.j1 k (sg 32768 neg + c) x B y n l z i) true := by
  have hs := sg_cases neg
  have wi : wrap64 (i + 1) = i + 1 := w64_id (by omega) (by omega)
  rcases he with ⟨q, he⟩ | ⟨he, ⟨b1, b2⟩, w0, w1⟩
  · refine Ev.step (fun k => ?_) H
    simp only [laws_near.j1, he, Option.bind_some, wi]
    rw [if_neg (by decide)]
  · have v0 := h.v0
    have v1 := h.v1 c1
    have ey : y * B = if neg = true then -(exv c * B) else exv c * B := by
      rw [hy]
      cases neg <;> simp [Int.neg_mul]
    have ew : (if neg = true then -w else w) * B = if neg = true then -(w * B) else w * B := by
      cases neg <;> simp [Int.neg_mul]
    have wy : wrap64 (y * B) = y * B := by rw [ey]; exact w64_id (by split <;> omega) (by split <;> omega)
    have ww : wrap64 ((if neg = true then -w else w) * B) = (if neg = true then -w else w) * B := by rw [ew]; exact w64_id (by split <;> omega) (by split <;> omega)
    have dy : x - y * B = if neg = true then -(X - exv c * B) else X - exv c * B := by
      rw [hx, ey]
      split <;> omega
    have dw : x - (if neg = true then -w else w) * B = if neg = true then -(X - w * B) else X - w * B := by
      rw [hx, ew]
      split <;> omega
    have sy : laws_size.f (wrap64 (x - y * B)) = some (ab (X - exv c * B)) := by
      rw [dy, w64_id (by split <;> omega) (by split <;> omega), size_ok (by split <;> omega) (by split <;> omega)]
      cases neg
      · rfl
      · rw [if_pos rfl, ab_neg]
    have sw : laws_size.f (wrap64 (x - (if neg = true then -w else w) * B)) = some (ab (X - w * B)) := by
      rw [dw, w64_id (by split <;> omega) (by split <;> omega), size_ok (by split <;> omega) (by split <;> omega)]
      cases neg
      · rfl
      · rw [if_pos rfl, ab_neg]
    have hb : Go.bits .and .u32 (sg 32768 neg + c) 1 = c % 2 := by
      have := and32 1 (by decide) (a := sg 32768 neg + c) (by rcases hs with ⟨_, hv⟩ | ⟨_, hv⟩ <;> rw [hv] <;> omega) (by rcases hs with ⟨_, hv⟩ | ⟨_, hv⟩ <;> rw [hv] <;> omega)
      rw [show (2 : Int) ^ 1 - 1 = 1 by decide, show (2 : Int) ^ 1 = 2 by decide] at this
      rw [this]
      rcases hs with ⟨_, hv⟩ | ⟨_, hv⟩ <;> rw [hv] <;> omega
    refine Ev.step (fun k => ?_) H
    simp only [laws_near.j1, he, Option.bind_some, wi, wy, ww, sy, sw, hb]
    rw [if_pos trivial, if_neg (by omega)]
    by_cases c2 : ab (X - exv c * B) = ab (X - w * B)
    · rw [if_pos c2, if_neg (by have := b2 c2; omega)]
    · rw [if_neg c2]
theorem near_ok {X B c x : Int} {neg : Bool} (hB : 0 < B) (hB1 : B ≤ 4398046511104) (X0 : 0 ≤ X) (X1 : X ≤ 4611686018427387904) (h : NearOut X B c) (hx : x = if neg = true then -X else X) :
    Ev (fun k => laws_near.f k (sg 32768 neg + c) x B) true := by
  have hs := sg_cases neg
  have c0 := h.lo
  have c9 := h.hi
  have b15 : Go.bits .and .u32 (sg 32768 neg + c) 32767 = c := by
    have := and32 15 (by decide) (a := sg 32768 neg + c) (by rcases hs with ⟨_, hv⟩ | ⟨_, hv⟩ <;> rw [hv] <;> omega) (by rcases hs with ⟨_, hv⟩ | ⟨_, hv⟩ <;> rw [hv] <;> omega)
    rw [show (2 : Int) ^ 15 - 1 = 32767 by decide, show (2 : Int) ^ 15 = 32768 by decide] at this
    rw [this]
    rcases hs with ⟨_, hv⟩ | ⟨_, hv⟩ <;> rw [hv] <;> omega
  unfold laws_near.f
  by_cases c1 : c = 31744
  · have hf := h.far c1
    subst c1
    have sx : laws_size.f x = some X := by
      rw [size_ok (by rw [hx]; split <;> omega) (by rw [hx]; split <;> omega), hx]
      unfold ab
      cases neg
      · simp only [Bool.false_eq_true, if_false]
        rw [if_neg (by omega)]
      · simp only [if_true]
        rw [if_pos (by omega)]
        congr 1
        omega
    have w1 : wrap64 (1099243192320 * B) = 1099243192320 * B := w64_id (by omega) (by omega)
    refine Ev.eq (g := fun _ => some true) (fun k => ?_) (Ev.const _)
    simp only [exact_sg_inf, b15, sx, w1, Option.bind_some]
    rw [if_neg (by decide), if_pos trivial, if_pos (by omega)]
    congr 1
    cases neg
    · rw [hx, if_neg (by decide), decide_eq_false (by omega), show sg 32768 false = 0 from rfl]
      rfl
    · rw [hx, if_pos rfl, decide_eq_true (by omega), show sg 32768 true = 32768 from rfl]
      rfl
  · have c1 : c < 31744 := by omega
    have b16 : Go.bits .and .u32 (sg 32768 neg + c) 32768 = sg 32768 neg := by
      have := andval 15 (by decide) (a := sg 32768 neg + c) (by rcases hs with ⟨_, hv⟩ | ⟨_, hv⟩ <;> rw [hv] <;> omega) (by rcases hs with ⟨_, hv⟩ | ⟨_, hv⟩ <;> rw [hv] <;> omega)
      rw [show (2 : Int) ^ 15 = 32768 by decide] at this
      rw [this]
      rcases hs with ⟨_, hv⟩ | ⟨_, hv⟩ <;> rw [hv]
      · rw [if_pos (by omega)]
      · rw [if_neg (by omega)]
    have orS : ∀ o : Int, 0 ≤ o → o < 32768 → Go.bits .or .u32 o (sg 32768 neg) = sg 32768 neg + o := by
      intro o o0 o1
      rcases hs with ⟨_, hv⟩ | ⟨_, hv⟩
      · rw [hv]
        exact or32' 15 (by decide) (by decide) (by decide) (by decide) o0 (by simp; omega) (by omega)
      · rw [hv]
        exact or32' 15 (by decide) (by decide) (by decide) (by decide) o0 (by simp; omega) (by omega)
    simp only [exact_sg neg c0 c1, Option.bind_some]
    refine Ev.pos trivial ?_
    have e2 : (([(-1), 1] : List Int).length : Int) = 2 := rfl
    rw [e2]
    have r0 : rd ([(-1), 1] : List Int) 0 = -1 := rfl
    have r1 : rd ([(-1), 1] : List Int) 1 = 1 := rfl
    have wc : wrap64 c = c := w64_id (by omega) (by omega)
    have wm : wrap64 (c + -1) = c + -1 := w64_id (by omega) (by omega)
    have wp : wrap64 (c + 1) = c + 1 := w64_id (by omega) (by omega)
    have hv2 := h.v2 c1
    have F : Ev (fun k => laws_near.l0 k (sg 32768 neg + c) x B (if neg = true then -(exv c) else exv c) [(-1), 1] 2 (1 + 1)) true := by
      refine Ev.step (g := fun _ => some true) (fun k => ?_) (Ev.const _)
      simp only [laws_near.l0]
      rw [if_neg (by decide)]
    have E : Ev (fun k => laws_near.l0 k (sg 32768 neg + c) x B (if neg = true then -(exv c) else exv c) [(-1), 1] 2 (0 + 1)) true := by
      have J := near_j1 (n := sg 32768 neg + (c + 1)) (w := exv (c + 1)) hB hB1 X0 X1 hx rfl c0 c1 h (by
        by_cases d : c + 1 = 31744
        · exact Or.inl ⟨0, by rw [d]; exact exact_sg_inf neg⟩
        · exact Or.inr ⟨exact_sg neg (by omega) (by omega), h.up c1, by omega, by omega⟩) (by decide) (by decide) F
      refine Ev.step (fun k => ?_) J
      simp only [laws_near.l0, Int.zero_add, r1, b15, b16, wc, wp]
      rw [if_pos (by decide), if_pos (by decide), if_pos (by decide), if_neg (by omega)]
      have e3 : (c + 1) % 4294967296 = c + 1 := by omega
      rw [e3, orS (c + 1) (by omega) (by omega)]
    by_cases d : c = 0
    · have J := near_j1 (n := sg 32768 (!neg) + 1) (w := -1) hB hB1 X0 X1 hx rfl c0 c1 h (by
        refine Or.inr ⟨?_, ?_, by omega, by omega⟩
        · rw [exact_sg (!neg) (by decide) (by decide)]
          cases neg <;> rfl
        · have hz := h.zero d
          subst d
          have ez : exv 0 = 0 := by decide
          unfold Beats
          rw [ez]
          unfold ab
          exact ⟨by split <;> split <;> omega, fun _ => by decide⟩) (by decide) (by decide) E
      refine Ev.step (fun k => ?_) J
      simp only [laws_near.l0, r0, b15, b16, wc, wm]
      rw [if_pos (by decide), if_pos (by decide), if_pos (by decide), if_pos (by omega), orS 1 (by decide) (by decide)]
      have ex : Go.bits .xor .u32 (sg 32768 neg + 1) 32768 = sg 32768 (!neg) + 1 := by cases neg <;> decide +kernel
      rw [ex]
    · have hv3 := h.v3 c1 (by omega)
      have hv1 := h.v1 c1
      have em : c + -1 = c - 1 := by omega
      have J := near_j1 (n := sg 32768 neg + (c - 1)) (w := exv (c - 1)) hB hB1 X0 X1 hx rfl c0 c1 h (Or.inr ⟨exact_sg neg (by omega) (by omega), h.down c1 (by omega), by omega, by omega⟩) (by decide) (by decide) E
      refine Ev.step (fun k => ?_) J
      simp only [laws_near.l0, r0, b15, b16, wc, wm]
      rw [if_pos (by decide), if_pos (by decide), if_pos (by decide), if_neg (by omega), em]
      have e3 : (c - 1) % 4294967296 = c - 1 := by omega
      rw [e3, orS (c - 1) (by omega) (by omega)]
theorem nearOut_zero {B : Int} (hB : 0 < B) : NearOut 0 B 0 := by
  have h := nearOut (k := 0) (X := 0) (B := B) (n := 0) (by decide) (by decide) (fun h => by omega) hB (by decide) (by
    unfold Near
    simp
    omega) (fun h => by omega)
  exact h
theorem flt_near {Z e : Int} (b : Nat) (neg : Bool) (hZ : 0 ≤ Z) (he : 0 ≤ e + 24 + b) : ∃ c, flt 32768 10 (-24) 31 neg Z e false = sg 32768 neg + c ∧ NearOut (Z * 2 ^ (e + 24 + b).toNat) (2 ^ b) c := by
  unfold flt
  by_cases z : Z = 0
  · subst z
    refine ⟨0, by rw [if_pos rfl]; omega, ?_⟩
    rw [Int.zero_mul]
    exact nearOut_zero (p2_pos b)
  · exact ⟨_, by rw [if_neg z], exact_near (isLen_of (by omega)) he⟩
/-- A sum, exactly. -/
theorem sum_near {xn yn : Bool} {xm xe ym ye : Int} (hx : Fin10 xm xe) (hy : Fin10 ym ye) :
    ∃ (neg : Bool) (c X : Int), sum210 xn xm xe yn ym ye = sg 32768 neg + c ∧ NearOut X 1 c ∧ 0 ≤ X ∧ X ≤ 4398046511104 ∧
      (if xn = true then -(xm * 2 ^ (xe + 24).toNat) else xm * 2 ^ (xe + 24).toNat) + (if yn = true then -(ym * 2 ^ (ye + 24).toNat) else ym * 2 ^ (ye + 24).toNat) = if neg = true then -X else X := by
  have key : ∀ {xn yn : Bool} {xm xe ym ye : Int}, Fin10 xm xe → Fin10 ym ye → ye ≤ xe → ∃ (neg : Bool) (c X : Int), sumv10 xn xm xe yn ym ye = sg 32768 neg + c ∧ NearOut X 1 c ∧ 0 ≤ X ∧ X ≤ 4398046511104 ∧
      (if xn = true then -(xm * 2 ^ (xe + 24).toNat) else xm * 2 ^ (xe + 24).toNat) + (if yn = true then -(ym * 2 ^ (ye + 24).toNat) else ym * 2 ^ (ye + 24).toNat) = if neg = true then -X else X := by
    intro xn yn xm xe ym ye hx hy h
    obtain ⟨x0, x1, x2, x3, _⟩ := hx
    obtain ⟨y0, y1, y2, y3, _⟩ := hy
    have eM : xm * 2 ^ (xe + 24).toNat = xm * 2 ^ (xe - ye).toNat * 2 ^ (ye + 24).toNat := by
      rw [Int.mul_assoc, ← p2_add]
      congr 2
      omega
    have lx := pow_lit (xe + 24).toNat (by omega)
    have ly := pow_lit (ye + 24).toNat (by omega)
    have px := p2_pos (xe + 24).toNat
    have py := p2_pos (ye + 24).toNat
    have bx : xm * 2 ^ (xe + 24).toNat ≤ 2048 * 536870912 := Int.mul_le_mul (by omega) lx (by omega) (by decide)
    have by' : ym * 2 ^ (ye + 24).toNat ≤ 2048 * 536870912 := Int.mul_le_mul (by omega) ly (by omega) (by decide)
    have zx : 0 ≤ xm * 2 ^ (xe - ye).toNat := Int.mul_nonneg x0 (Int.le_of_lt (p2_pos _))
    have nx : 0 ≤ xm * 2 ^ (xe + 24).toNat := Int.mul_nonneg x0 (by omega)
    have ny : 0 ≤ ym * 2 ^ (ye + 24).toNat := Int.mul_nonneg y0 (by omega)
    have e0 : (ye + 24 + ((0 : Nat) : Int)).toNat = (ye + 24).toNat := by congr 1; omega
    have fl : ∀ (neg : Bool) (Z : Int), 0 ≤ Z → ∃ c, flt 32768 10 (-24) 31 neg Z ye false = sg 32768 neg + c ∧ NearOut (Z * 2 ^ (ye + 24).toNat) 1 c := by
      intro neg Z hZ
      obtain ⟨c, h1, h2⟩ := flt_near 0 neg hZ (show 0 ≤ ye + 24 + ((0 : Nat) : Int) by omega)
      rw [e0, show (2 : Int) ^ 0 = 1 by decide] at h2
      exact ⟨c, h1, h2⟩
    rw [eM] at bx nx ⊢
    unfold sumv10
    generalize xm * 2 ^ (xe - ye).toNat = M at *
    generalize (2 : Int) ^ (ye + 24).toNat = g at *
    by_cases c1 : (xn == yn) = true
    · rw [if_pos c1]
      obtain rfl : xn = yn := by simpa using c1
      obtain ⟨c, h1, h2⟩ := fl xn (M + ym) (by omega)
      have ea : (M + ym) * g = M * g + ym * g := Int.add_mul _ _ _
      refine ⟨xn, c, _, h1, h2, by rw [ea]; omega, by rw [ea]; omega, ?_⟩
      rw [ea]
      cases xn
      · rfl
      · simp only [if_true]
        omega
    · rw [if_neg c1]
      have hne : yn = !xn := by cases xn <;> cases yn <;> simp_all
      subst hne
      by_cases c2 : M > ym
      · rw [if_pos c2]
        obtain ⟨c, h1, h2⟩ := fl xn (M - ym) (by omega)
        have ea : (M - ym) * g = M * g - ym * g := Int.sub_mul _ _ _
        have ge : ym * g ≤ M * g := Int.mul_le_mul_of_nonneg_right (by omega) (by omega)
        refine ⟨xn, c, _, h1, h2, by rw [ea]; omega, by rw [ea]; omega, ?_⟩
        rw [ea]
        cases xn <;> simp <;> omega
      · rw [if_neg c2]
        by_cases c3 : M < ym
        · rw [if_pos c3]
          obtain ⟨c, h1, h2⟩ := fl (!xn) (ym - M) (by omega)
          have ea : (ym - M) * g = ym * g - M * g := Int.sub_mul _ _ _
          have ge : M * g ≤ ym * g := Int.mul_le_mul_of_nonneg_right (by omega) (by omega)
          refine ⟨!xn, c, _, h1, h2, by rw [ea]; omega, by rw [ea]; omega, ?_⟩
          rw [ea]
          cases xn <;> simp <;> omega
        · rw [if_neg c3]
          obtain rfl : M = ym := by omega
          refine ⟨false, 0, 0, rfl, nearOut_zero (by decide), by decide, by decide, ?_⟩
          cases xn <;> simp <;> omega
  unfold sum210
  by_cases c : xe < ye
  · rw [if_pos c]
    obtain ⟨neg, d, X, h1, h2, h3, h4, h5⟩ := key (xn := yn) (yn := xn) hy hx (by omega)
    exact ⟨neg, d, X, h1, h2, h3, h4, by rw [Int.add_comm]; exact h5⟩
  · rw [if_neg c]
    exact key hx hy (by omega)
theorem prod_near {xn yn : Bool} {xm xe ym ye : Int} (hx : Fin10 xm xe) (hy : Fin10 ym ye) :
    ∃ (c X : Int), flt 32768 10 (-24) 31 (xn != yn) (xm * ym) (xe + ye) false = sg 32768 (xn != yn) + c ∧ NearOut X 16777216 c ∧ X = xm * 2 ^ (xe + 24).toNat * (ym * 2 ^ (ye + 24).toNat) := by
  obtain ⟨x0, x1, x2, x3, _⟩ := hx
  obtain ⟨y0, y1, y2, y3, _⟩ := hy
  obtain ⟨c, h1, h2⟩ := flt_near 24 (xn != yn) (Int.mul_nonneg x0 y0) (show 0 ≤ xe + ye + 24 + ((24 : Nat) : Int) by omega)
  rw [show (2 : Int) ^ 24 = 16777216 by decide] at h2
  refine ⟨c, _, h1, h2, ?_⟩
  have e : (2 : Int) ^ (xe + ye + 24 + ((24 : Nat) : Int)).toNat = 2 ^ (xe + 24).toNat * 2 ^ (ye + 24).toNat := by
    rw [← p2_add]
    congr 1
    omega
  rw [e]
  grind
theorem quot_nearv {xm xe ym ye : Int} (neg : Bool) (hx : Fin10 xm xe) (hy : Fin10 ym ye) (hy0 : 0 < ym) :
    ∃ c, (if (xm == 0) = true then sg 32768 neg else quotv10 neg xm xe ym ye) = sg 32768 neg + c ∧ NearOut (xm * 2 ^ (xe + 24).toNat * 16777216) (ym * 2 ^ (ye + 24).toNat) c := by
  obtain ⟨x0, x1, x2, x3, _⟩ := hx
  obtain ⟨y0, y1, y2, y3, _⟩ := hy
  by_cases z : xm = 0
  · subst z
    refine ⟨0, by simp, ?_⟩
    rw [Int.zero_mul, Int.zero_mul]
    exact nearOut_zero (Int.mul_pos hy0 (p2_pos _))
  · have zb : ¬ (xm == 0) = true := by simpa using z
    have hx0 : 0 < xm := by omega
    obtain ⟨l1, l2⟩ := lenLe10 hx0 x1
    have hlx := isLen_of hx0
    have hlo := (len_mul hlx (60 - lenOf xm)).2.1
    have e59 : lenOf xm + (60 - lenOf xm) - 1 = 59 := by omega
    rw [e59, show (2 : Int) ^ 59 = 576460752303423488 by decide] at hlo
    have hbig : 268435456 ≤ xm * 2 ^ (60 - lenOf xm) / ym := by
      refine le_div hy0 ?_
      have : (268435456 : Int) * ym ≤ 268435456 * 2048 := Int.mul_le_mul_of_nonneg_left (by omega) (by decide)
      omega
    have hq0 : 0 < xm * 2 ^ (60 - lenOf xm) / ym := by omega
    have hL : 12 ≤ lenOf (xm * 2 ^ (60 - lenOf xm) / ym) := by
      rcases Nat.lt_or_ge (lenOf (xm * 2 ^ (60 - lenOf xm) / ym)) 12 with c | c
      · exfalso
        have h1 := (isLen_of hq0).2.2
        have h2 := p2_le (Nat.le_of_lt c)
        rw [show (2 : Int) ^ 12 = 4096 by decide] at h2
        omega
      · exact c
    have hm := Int.emod_add_mul_ediv (xm * 2 ^ (60 - lenOf xm)) ym
    have m0 := Int.emod_nonneg (xm * 2 ^ (60 - lenOf xm)) (b := ym) (by omega)
    have m1 := Int.emod_lt_of_pos (xm * 2 ^ (60 - lenOf xm)) hy0
    have hN := quot_near (a := 60 - lenOf xm) (ea := xe) (eb := ye) (x := xm) (isLen_of hq0) hL hy0 m0 m1 x2 y2 rfl (by rw [Int.mul_comm _ ym]; omega) x0
    refine ⟨code 10 (-24) 31 (lenOf (xm * 2 ^ (60 - lenOf xm) / ym)) (xm * 2 ^ (60 - lenOf xm) / ym) (xe - ((60 - lenOf xm : Nat) : Int) - ye) (decide (xm * 2 ^ (60 - lenOf xm) % ym ≠ 0)), ?_, hN⟩
    rw [if_neg zb]
    unfold quotv10 flt
    rw [if_neg (by omega)]
/-- What the four operations answer for floats of a kind. -/
theorem ops16 {a b : Int} (ha : InU a) (hb : InU b) : ∃ A D M Q : Int, Ev (fun k => impl_FAdd.f k 16 a b) A ∧ Ev (fun k => impl_FSub.f k 16 a b) D ∧ Ev (fun k => impl_FMul.f k 16 a b) M ∧ Ev (fun k => impl_FDiv.f k 16 a b) Q ∧
    Ev (fun k => spec_FAdd.f k 16 a b) A ∧ Ev (fun k => spec_FSub.f k 16 a b) D ∧ Ev (fun k => spec_FMul.f k 16 a b) M ∧ Ev (fun k => spec_FDiv.f k 16 a b) Q ∧ Ev (fun k => impl_FAdd.f k 16 b a) A ∧ Ev (fun k => impl_FMul.f k 16 b a) M ∧
    A = addv10 (parts 1024 32 32768 (-24) a) (parts 1024 32 32768 (-24) b) ∧ D = addv10 (parts 1024 32 32768 (-24) a) (flip (parts 1024 32 32768 (-24) b)) ∧ M = mulv10 (parts 1024 32 32768 (-24) a) (parts 1024 32 32768 (-24) b) ∧ Q = divv10 (parts 1024 32 32768 (-24) a) (parts 1024 32 32768 (-24) b) := by
  obtain ⟨a0, a1⟩ := ha
  obtain ⟨b0, b1⟩ := hb
  exact ⟨_, _, _, _, implAdd10 a0 a1 b0 b1, implSub10 a0 a1 b0 b1, implMul10 a0 a1 b0 b1, implDiv10 a0 a1 b0 b1, specAdd10 a0 a1 b0 b1, specSub10 a0 a1 b0 b1, specMul10 a0 a1 b0 b1, specDiv10 a0 a1 b0 b1,
    by rw [addv_comm10]; exact implAdd10 b0 b1 a0 a1, by rw [mulv_comm10]; exact implMul10 b0 b1 a0 a1, rfl, rfl, rfl, rfl⟩
theorem ops32 {a b : Int} (ha : InU a) (hb : InU b) : ∃ A D M Q : Int, Ev (fun k => impl_FAdd.f k 32 a b) A ∧ Ev (fun k => impl_FSub.f k 32 a b) D ∧ Ev (fun k => impl_FMul.f k 32 a b) M ∧ Ev (fun k => impl_FDiv.f k 32 a b) Q ∧
    Ev (fun k => spec_FAdd.f k 32 a b) A ∧ Ev (fun k => spec_FSub.f k 32 a b) D ∧ Ev (fun k => spec_FMul.f k 32 a b) M ∧ Ev (fun k => spec_FDiv.f k 32 a b) Q ∧ Ev (fun k => impl_FAdd.f k 32 b a) A ∧ Ev (fun k => impl_FMul.f k 32 b a) M := by
  obtain ⟨a0, a1⟩ := ha
  obtain ⟨b0, b1⟩ := hb
  exact ⟨_, _, _, _, implAdd23 a0 a1 b0 b1, implSub23 a0 a1 b0 b1, implMul23 a0 a1 b0 b1, implDiv23 a0 a1 b0 b1, specAdd23 a0 a1 b0 b1, specSub23 a0 a1 b0 b1, specMul23 a0 a1 b0 b1, specDiv23 a0 a1 b0 b1,
    by rw [addv_comm23]; exact implAdd23 b0 b1 a0 a1, by rw [mulv_comm23]; exact implMul23 b0 b1 a0 a1⟩
theorem ops64 {a b : Int} : ∃ A D M Q : Int, Ev (fun k => impl_FAdd.f k 64 a b) A ∧ Ev (fun k => impl_FSub.f k 64 a b) D ∧ Ev (fun k => impl_FMul.f k 64 a b) M ∧ Ev (fun k => impl_FDiv.f k 64 a b) Q ∧
    Ev (fun k => spec_FAdd.f k 64 a b) A ∧ Ev (fun k => spec_FSub.f k 64 a b) D ∧ Ev (fun k => spec_FMul.f k 64 a b) M ∧ Ev (fun k => spec_FDiv.f k 64 a b) Q ∧ Ev (fun k => impl_FAdd.f k 64 b a) A ∧ Ev (fun k => impl_FMul.f k 64 b a) M := by
  have h1 : impl_formatOf.f 64 = some (0, 0, false) := by decide +kernel
  have h2 : spec_l4Kind.f 64 = some (0, 0, false) := by decide +kernel
  refine ⟨0, 0, 0, 0, ?_, ?_, ?_, ?_, ?_, ?_, ?_, ?_, ?_, ?_⟩
  · exact Ev.eq (g := fun _ => some 0) (fun k => by unfold impl_FAdd.f; simp [h1]) (Ev.const _)
  · exact Ev.eq (g := fun _ => some 0) (fun k => by unfold impl_FSub.f; simp [h1]) (Ev.const _)
  · exact Ev.eq (g := fun _ => some 0) (fun k => by unfold impl_FMul.f; simp [h1]) (Ev.const _)
  · exact Ev.eq (g := fun _ => some 0) (fun k => by unfold impl_FDiv.f; simp [h1]) (Ev.const _)
  · exact Ev.eq (g := fun _ => some 0) (fun k => by unfold spec_FAdd.f; simp [h2]) (Ev.const _)
  · exact Ev.eq (g := fun _ => some 0) (fun k => by unfold spec_FSub.f; simp [h2]) (Ev.const _)
  · exact Ev.eq (g := fun _ => some 0) (fun k => by unfold spec_FMul.f; simp [h2]) (Ev.const _)
  · exact Ev.eq (g := fun _ => some 0) (fun k => by unfold spec_FDiv.f; simp [h2]) (Ev.const _)
  · exact Ev.eq (g := fun _ => some 0) (fun k => by unfold impl_FAdd.f; simp [h1]) (Ev.const _)
  · exact Ev.eq (g := fun _ => some 0) (fun k => by unfold impl_FMul.f; simp [h1]) (Ev.const _)
/-- The law's rest: the quotient. -/
theorem rest_j3 {xn yn : Bool} {xm xe ym ye Q : Int} (hx : Fin10 xm xe) (hy : Fin10 ym ye) (hQ : Q = divv10 (xn, false, false, xm, xe) (yn, false, false, ym, ye)) :
    Ev (fun k => laws_FnRounded.j3 k Q (if xn = true then -(xm * 2 ^ (xe + 24).toNat) else xm * 2 ^ (xe + 24).toNat) (if yn = true then -(ym * 2 ^ (ye + 24).toNat) else ym * 2 ^ (ye + 24).toNat) false) true := by
  have hx' := hx
  have hy' := hy
  obtain ⟨x0, x1, x2, x3, _⟩ := hx
  obtain ⟨y0, y1, y2, y3, _⟩ := hy
  have lx := pow_lit (xe + 24).toNat (by omega)
  have ly := pow_lit (ye + 24).toNat (by omega)
  have px := p2_pos (xe + 24).toNat
  have py := p2_pos (ye + 24).toNat
  have bx : xm * 2 ^ (xe + 24).toNat ≤ 2048 * 536870912 := Int.mul_le_mul (by omega) lx (by omega) (by decide)
  have by' : ym * 2 ^ (ye + 24).toNat ≤ 2048 * 536870912 := Int.mul_le_mul (by omega) ly (by omega) (by decide)
  have nx : 0 ≤ xm * 2 ^ (xe + 24).toNat := Int.mul_nonneg x0 (by omega)
  have ny : 0 ≤ ym * 2 ^ (ye + 24).toNat := Int.mul_nonneg y0 (by omega)
  refine Ev.step (g := fun k => _) (fun k => by simp only [laws_FnRounded.j3]; rfl) ?_
  refine Ev.neg (by decide) ?_
  have J4 : ∀ z : Int, Ev (fun k => laws_FnRounded.j4 k Q (if xn = true then -(xm * 2 ^ (xe + 24).toNat) else xm * 2 ^ (xe + 24).toNat) z true) true := fun z =>
    Ev.step (g := fun _ => some true) (fun k => by simp only [laws_FnRounded.j4]; rw [if_pos trivial]) (Ev.const _)
  by_cases z : ym = 0
  · subst z
    have e : (if yn = true then -((0 : Int) * 2 ^ (ye + 24).toNat) else 0 * 2 ^ (ye + 24).toNat) = 0 := by
      rw [Int.zero_mul]
      cases yn <;> rfl
    rw [e]
    exact Ev.pos rfl (J4 0)
  · have hy0 : 0 < ym := by omega
    have hyp : 0 < ym * 2 ^ (ye + 24).toNat := Int.mul_pos hy0 py
    obtain ⟨c, hc1, hc2⟩ := quot_nearv (xn != yn) hx' hy' hy0
    have hQ2 : Q = sg 32768 (xn != yn) + c := by
      rw [hQ, ← hc1]
      have zb : (ym == 0) = false := by simpa using z
      simp [divv10, zb]
    generalize xm * 2 ^ (xe + 24).toNat = X at *
    generalize ym * 2 ^ (ye + 24).toNat = Y at *
    refine Ev.neg (by split <;> omega) ?_
    refine Ev.bind (a := X) (Ev.of ?_) ?_
    · rw [size_ok (by split <;> omega) (by split <;> omega)]
      congr 1
      unfold ab
      cases xn
      · simp only [Bool.false_eq_true, if_false]
        rw [if_neg (by omega)]
      · simp only [if_true]
        split <;> omega
    · by_cases hbig : X ≥ 274877906944
      · rw [decide_eq_true hbig]
        exact J4 _
      · rw [decide_eq_false hbig]
        refine Ev.step (g := fun k => _) (fun k => by simp only [laws_FnRounded.j4]; rfl) ?_
        refine Ev.neg (by decide) ?_
        rw [hQ2]
        cases yn with
        | true =>
          refine Ev.pos (by simp only [if_true]; omega) (Ev.bind (a := true) ?_ (Ev.const _))
          have w1 : wrap64 (-(if true = true then -Y else Y)) = Y := by
            simp only [if_true]
            rw [w64_id (by omega) (by omega)]
            omega
          have w2 : wrap64 (wrap64 (-(if xn = true then -X else X)) * 16777216) = if (xn != true) = true then -(X * 16777216) else X * 16777216 := by
            cases xn
            · simp only [Bool.false_eq_true, if_false]
              rw [w64_id (n := -X) (by omega) (by omega), w64_id (by omega) (by omega)]
              simp
              omega
            · simp only [if_true]
              rw [w64_id (n := - -X) (by omega) (by omega), w64_id (by omega) (by omega)]
              simp
          rw [w1, w2]
          exact near_ok hyp (by omega) (by omega) (by omega) hc2 rfl
        | false =>
          refine Ev.neg (by simp; omega) (Ev.bind (a := true) ?_ (Ev.const _))
          have w2 : wrap64 ((if xn = true then -X else X) * 16777216) = if (xn != false) = true then -(X * 16777216) else X * 16777216 := by
            cases xn
            · simp only [Bool.false_eq_true, if_false]
              rw [w64_id (by omega) (by omega)]
              simp
            · simp only [if_true]
              rw [w64_id (by omega) (by omega)]
              simp
              omega
          rw [w2]
          exact near_ok hyp (by omega) (by omega) (by omega) hc2 rfl
theorem rest_j0 {a b A D M Q : Int} (ha : InU a) (hb : InU b) (hA : A = addv10 (parts 1024 32 32768 (-24) a) (parts 1024 32 32768 (-24) b)) (hD : D = addv10 (parts 1024 32 32768 (-24) a) (flip (parts 1024 32 32768 (-24) b))) (hM : M = mulv10 (parts 1024 32 32768 (-24) a) (parts 1024 32 32768 (-24) b)) (hQ : Q = divv10 (parts 1024 32 32768 (-24) a) (parts 1024 32 32768 (-24) b)) :
    Ev (fun k => laws_FnRounded.j0 k 16 a b A D M Q false) true := by
  obtain ⟨a0, a1⟩ := ha
  obtain ⟨b0, b1⟩ := hb
  have J1 : ∀ x y : Int, Ev (fun k => laws_FnRounded.j1 k A D M Q x y true) true := fun x y =>
    Ev.step (g := fun _ => some true) (fun k => by simp only [laws_FnRounded.j1]; rw [if_pos trivial]) (Ev.const _)
  refine Ev.step (g := fun k => _) (fun k => by simp only [laws_FnRounded.j0]; rfl) ?_
  refine Ev.neg (by decide) (Ev.pos trivial ?_)
  rcases partsEx10 a0 with ⟨xn, na, hp⟩ | ⟨xn, xm, xe, hp, hx⟩
  · refine Ev.bind (Ev.of (exact_no a0 a1 hp)) ?_
    rcases partsEx10 b0 with ⟨yn, nb, hq⟩ | ⟨yn, ym, ye, hq, hy⟩
    · exact Ev.bind (Ev.of (exact_no b0 b1 hq)) (Ev.neg (by decide) (J1 _ _))
    · exact Ev.bind (Ev.of (exact_of b0 b1 hq hy.m0 hy.m1 hy.e0 hy.e1)) (Ev.neg (by decide) (J1 _ _))
  · refine Ev.bind (Ev.of (exact_of a0 a1 hp hx.m0 hx.m1 hx.e0 hx.e1)) ?_
    rcases partsEx10 b0 with ⟨yn, nb, hq⟩ | ⟨yn, ym, ye, hq, hy⟩
    · exact Ev.bind (Ev.of (exact_no b0 b1 hq)) (Ev.pos rfl (J1 _ _))
    · refine Ev.bind (Ev.of (exact_of b0 b1 hq hy.m0 hy.m1 hy.e0 hy.e1)) (Ev.pos rfl ?_)
      rw [hp, hq] at hA hD hM hQ
      have J3 := rest_j3 hx hy hQ
      obtain ⟨sn, sc, sX, s1, s2, s3, s4, s5⟩ := sum_near (xn := xn) (yn := yn) hx hy
      obtain ⟨dn, dc, dX, d1, d2, d3, d4, d5⟩ := sum_near (xn := xn) (yn := !yn) hx hy
      obtain ⟨pc, pX, p1, p2, p3⟩ := prod_near (xn := xn) (yn := yn) hx hy
      have hA2 : A = sg 32768 sn + sc := by
        rw [hA, ← s1]
        simp [addv10]
      have hD2 : D = sg 32768 dn + dc := by
        rw [hD, ← d1]
        simp [addv10, flip]
      have hM2 : M = sg 32768 (xn != yn) + pc := by
        rw [hM, ← p1]
        simp [mulv10]
      obtain ⟨x0, x1, x2, x3, _⟩ := hx
      obtain ⟨y0, y1, y2, y3, _⟩ := hy
      have nx : 0 ≤ xm * 2 ^ (xe + 24).toNat := Int.mul_nonneg x0 (Int.le_of_lt (p2_pos _))
      have ny : 0 ≤ ym * 2 ^ (ye + 24).toNat := Int.mul_nonneg y0 (Int.le_of_lt (p2_pos _))
      have lx := pow_lit (xe + 24).toNat (by omega)
      have ly := pow_lit (ye + 24).toNat (by omega)
      have px := p2_pos (xe + 24).toNat
      have py := p2_pos (ye + 24).toNat
      have bx : xm * 2 ^ (xe + 24).toNat ≤ 2048 * 536870912 := Int.mul_le_mul (by omega) lx (by omega) (by decide)
      have by' : ym * 2 ^ (ye + 24).toNat ≤ 2048 * 536870912 := Int.mul_le_mul (by omega) ly (by omega) (by decide)
      generalize xm * 2 ^ (xe + 24).toNat = X at *
      generalize ym * 2 ^ (ye + 24).toNat = Y at *
      show Ev (fun k => laws_FnRounded.j1 k A D M Q (if xn = true then -X else X) (if yn = true then -Y else Y) false) true
      refine Ev.step (g := fun k => _) (fun k => by simp only [laws_FnRounded.j1]; rfl) ?_
      refine Ev.neg (by decide) ?_
      have d5' : (if xn = true then -X else X) - (if yn = true then -Y else Y) = if dn = true then -dX else dX := by
        rw [← d5]
        cases yn <;> simp <;> omega
      have w1 : wrap64 ((if xn = true then -X else X) + (if yn = true then -Y else Y)) = if sn = true then -sX else sX := by
        rw [s5]
        exact w64_id (by split <;> omega) (by split <;> omega)
      have w2 : wrap64 ((if xn = true then -X else X) - (if yn = true then -Y else Y)) = if dn = true then -dX else dX := by
        rw [d5']
        exact w64_id (by split <;> omega) (by split <;> omega)
      rw [w1, w2, hA2, hD2]
      refine Ev.bind (a := true) (near_ok (by decide) (by decide) s3 (by omega) s2 rfl) (Ev.pos rfl (Ev.bind (a := true) (near_ok (by decide) (by decide) d3 (by omega) d2 rfl) ?_))
      refine Ev.step (g := fun k => _) (fun k => by simp only [laws_FnRounded.j2]; rfl) ?_
      refine Ev.neg (by decide) ?_
      have sz : ∀ (n : Bool) (Z : Int), 0 ≤ Z → Z ≤ 1099511627776 → laws_size.f (if n = true then -Z else Z) = some Z := by
        intro n Z z0 z1
        rw [size_ok (by split <;> omega) (by split <;> omega)]
        congr 1
        unfold ab
        cases n
        · simp only [Bool.false_eq_true, if_false]
          rw [if_neg (by omega)]
        · simp only [if_true]
          split <;> omega
      refine Ev.bind (Ev.of (sz xn X nx (by omega))) ?_
      by_cases c1 : X < 1073741824
      · refine Ev.pos c1 (Ev.bind (Ev.of (sz yn Y ny (by omega))) ?_)
        by_cases c2 : Y < 1073741824
        · refine Ev.pos c2 ?_
          have hXY : X * Y ≤ 1073741824 * 1073741824 := Int.mul_le_mul (by omega) (by omega) ny (by decide)
          have hXY0 : 0 ≤ X * Y := Int.mul_nonneg nx ny
          have ep : (if xn = true then -X else X) * (if yn = true then -Y else Y) = if (xn != yn) = true then -pX else pX := by
            rw [p3]
            cases xn <;> cases yn <;> simp [Int.neg_mul, Int.mul_neg]
          have w3 : wrap64 ((if xn = true then -X else X) * (if yn = true then -Y else Y)) = if (xn != yn) = true then -pX else pX := by
            rw [ep]
            exact w64_id (by split <;> omega) (by split <;> omega)
          rw [w3, hM2]
          exact Ev.bind (a := true) (near_ok (by decide) (by decide) (by omega) (by omega) p2 rfl) J3
        · exact Ev.neg c2 J3
      · exact Ev.neg c1 J3
theorem rounded_law (l0 : List Int) (hb : Byt l0) (hl : l0.length ≤ 1048576) : Ev (fun k => laws_FnRounded.f k l0) true := by
  obtain ⟨q, a, b, hdr, hq, ha, hb⟩ := draw_ok hb
  unfold laws_FnRounded.f
  refine Ev.neg (by omega) (Ev.bind hdr ?_)
  dsimp only
  have key : ∀ A D M Q : Int, Ev (fun k => impl_FAdd.f k q a b) A → Ev (fun k => impl_FSub.f k q a b) D → Ev (fun k => impl_FMul.f k q a b) M → Ev (fun k => impl_FDiv.f k q a b) Q →
      Ev (fun k => spec_FAdd.f k q a b) A → Ev (fun k => spec_FSub.f k q a b) D → Ev (fun k => spec_FMul.f k q a b) M → Ev (fun k => spec_FDiv.f k q a b) Q → Ev (fun k => impl_FAdd.f k q b a) A → Ev (fun k => impl_FMul.f k q b a) M →
      Ev (fun k => laws_FnRounded.j0 k q a b A D M Q false) true →
      Ev (fun k => ((impl_FAdd.f k q a b).bind fun t405 => ((impl_FSub.f k q a b).bind fun t406 => ((impl_FMul.f k q a b).bind fun t407 => ((impl_FDiv.f k q a b).bind fun t408 => ((spec_FAdd.f k q a b).bind fun t409 => (if t405 = t409 then ((spec_FSub.f k q a b).bind fun t410 => (if t406 = t410 then ((spec_FMul.f k q a b).bind fun t411 => (if t407 = t411 then ((spec_FDiv.f k q a b).bind fun t412 => (if t408 = t412 then ((impl_FAdd.f k q b a).bind fun t413 => (if t405 = t413 then ((impl_FMul.f k q b a).bind fun t414 => (laws_FnRounded.j0 k q a b t405 t406 t407 t408 (t407 != t414))) else (laws_FnRounded.j0 k q a b t405 t406 t407 t408 true))) else (laws_FnRounded.j0 k q a b t405 t406 t407 t408 true))) else (laws_FnRounded.j0 k q a b t405 t406 t407 t408 true))) else (laws_FnRounded.j0 k q a b t405 t406 t407 t408 true))) else (laws_FnRounded.j0 k q a b t405 t406 t407 t408 true)))))))) true := by
    intro A D M Q h1 h2 h3 h4 h5 h6 h7 h8 h9 h10 J
    refine Ev.bind h1 (Ev.bind h2 (Ev.bind h3 (Ev.bind h4 (Ev.bind h5 (Ev.pos rfl (Ev.bind h6 (Ev.pos rfl (Ev.bind h7 (Ev.pos rfl (Ev.bind h8 (Ev.pos rfl (Ev.bind h9 (Ev.pos rfl (Ev.bind h10 ?_))))))))))))))
    have e : (M != M) = false := by simp
    rw [e]
    exact J
  have J0 : ∀ (q A D M Q : Int), q ≠ 16 → Ev (fun k => laws_FnRounded.j0 k q a b A D M Q false) true := by
    intro q A D M Q hne
    refine Ev.step (g := fun _ => some true) (fun k => ?_) (Ev.const _)
    simp only [laws_FnRounded.j0]
    rw [if_neg (by decide), if_neg hne]
  rcases hq with rfl | rfl | rfl
  · obtain ⟨A, D, M, Q, h1, h2, h3, h4, h5, h6, h7, h8, h9, h10, eA, eD, eM, eQ⟩ := ops16 ha hb
    exact key A D M Q h1 h2 h3 h4 h5 h6 h7 h8 h9 h10 (rest_j0 ha hb eA eD eM eQ)
  · obtain ⟨A, D, M, Q, h1, h2, h3, h4, h5, h6, h7, h8, h9, h10⟩ := ops32 ha hb
    exact key A D M Q h1 h2 h3 h4 h5 h6 h7 h8 h9 h10 (J0 _ _ _ _ _ (by decide))
  · obtain ⟨A, D, M, Q, h1, h2, h3, h4, h5, h6, h7, h8, h9, h10⟩ := ops64 (a := a) (b := b)
    exact key A D M Q h1 h2 h3 h4 h5 h6 h7 h8 h9 h10 (J0 _ _ _ _ _ (by decide))
end Go.Proofs.Ytdoflfifnkpacaa.FA
