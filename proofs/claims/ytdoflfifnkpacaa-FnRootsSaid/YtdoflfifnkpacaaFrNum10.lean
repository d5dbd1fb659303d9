/-
  Plain laws behind FnRoots: roots of halves and singles.
-/
import Derived.Test.YtdoflfifnkpacaaFrNum9
namespace Go.Proofs.Ytdoflfifnkpacaa.FR
open Go.RowKit Go.Proofs.YtdoflfifnkpacaaW.PrintWords Go.Proofs.YtdoflfifnkpacaaW.PrintLast Go.Proofs.YtdoflfifnkpacaaW.PrintMore
set_option linter.unusedSimpArgs false
set_option linter.unusedVariables false
theorem rq_near {R M K : Int} (r0 : 536870912 ≤ R) (r1 : R < 1073741824) (hK : K = rq 524288 262144 R (R * R != M)) :
    1024 ≤ K ∧ K ≤ 2048 ∧ (2 * K - 1) * 262144 ≤ R ∧ (R + 1 ≤ (2 * K + 1) * 262144 ∨ (R = (2 * K + 1) * 262144 ∧ R * R = M)) := by
  unfold rq at hK
  by_cases c1 : R % 524288 > 262144
  · rw [if_pos c1] at hK
    omega
  · rw [if_neg c1] at hK
    by_cases c2 : R % 524288 = 262144
    · rw [if_pos c2] at hK
      by_cases c3 : (R * R != M) = true
      · rw [if_pos c3] at hK
        omega
      · rw [if_neg c3] at hK
        have c4 : R * R = M := by
          rcases Int.decEq (R * R) M with d | d
          · exact absurd (bne_iff_ne.mpr d) c3
          · exact d
        by_cases c5 : R / 524288 % 2 = 1
        · rw [if_pos c5] at hK
          omega
        · rw [if_neg c5] at hK
          refine ⟨by omega, by omega, by omega, Or.inr ⟨by omega, c4⟩⟩
    · rw [if_neg c2] at hK
      omega
theorem exv_at {c : Nat} {K r : Int} (hr : r = (c + 1) * 1024 + K - 1024) (k0 : 1024 ≤ K) (k1 : K < 2048) : exv r = K * 2 ^ c := by
  unfold exv
  have e1 : r / 1024 = (c : Int) + 1 := by omega
  have e2 : r % 1024 + 1024 = K := by omega
  have e3 : ((c : Int) + 1 - 1).toNat = c := by omega
  rw [e1, e2, if_neg (by omega), e3]
theorem roots_rest {a r : Int} (h0 : 0 ≤ a) (h1 : a < 4294967296)
    (hr : ∀ m e : Int, parts 1024 32 32768 (-24) a = (false, false, false, m, e) → 0 < m → ∃ (e1 R M : Int) (s : Nat), r = (29 + e1 + 15) * 1024 + rq 524288 262144 R (R * R != M) - 1024 ∧ e - s = 2 * e1 ∧ M = m * 2 ^ s ∧ 536870912 ≤ R ∧ R < 1073741824 ∧ R * R ≤ M ∧ M < (R + 1) * (R + 1) ∧ 48 ≤ s ∧ s ≤ 59) :
    ∃ (v : Int) (ok : Bool), laws_exact.f a = some (v, ok) ∧ (ok = true → 0 < v → Ev (fun k => laws_FnRoots.j0 k r v false) true) := by
  rcases parts_ex10 h0 with ⟨ng, na, hp⟩ | ⟨ng, m, e, hp, m0, m1, e0, e1⟩
  · exact ⟨0, false, exact_no h0 h1 hp, fun x => by cases x⟩
  · refine ⟨_, _, exact_of h0 h1 hp m0 m1 e0 e1, fun _ hv => ?_⟩
    have p1 := p2_pos (e + 24).toNat
    cases ng with
    | true =>
      rw [if_pos rfl] at hv
      have := Int.mul_nonneg m0 (Int.le_of_lt p1)
      omega
    | false =>
      rw [if_neg (by decide)] at hv ⊢
      have mp : 0 < m := by
        rcases Int.lt_or_le 0 m with c | c
        · exact c
        · obtain rfl : m = 0 := by omega
          simp at hv
      obtain ⟨e1', R, M, s, hr1, hr2, hr3, r0, r1, r2, r3, s0, s1⟩ := hr m e hp mp
      obtain ⟨K, hK⟩ : ∃ K, K = rq 524288 262144 R (R * R != M) := ⟨_, rfl⟩
      obtain ⟨k0, k1, k2, k3⟩ := rq_near r0 r1 hK
      rw [← hK] at hr1
      obtain ⟨d, hd⟩ : ∃ d : Nat, e1' + 43 = (d : Int) + 1 := ⟨(e1' + 42).toNat, by omega⟩
      have hx : r = ((d : Int) + 1 + 1) * 1024 + K - 1024 := by omega
      obtain ⟨q, hq⟩ : ∃ q : Int, q = 2 ^ d := ⟨_, rfl⟩
      have q0 : 0 < q := by rw [hq]; exact p2_pos d
      have q1 : q ≤ 536870912 := by rw [hq]; exact pow_lit d (by omega)
      have q2 : (2 : Int) ^ (d + 1) = 2 * q := by rw [p2_succ, hq]
      have q3 : (2 : Int) ^ (d + 2) = 4 * q := by rw [p2_succ, p2_succ, hq]; omega
      have hd2 : d ≤ 20 := by omega
      have q4 : q ≤ 1048576 := by
        have h : (2 : Nat) ^ d ≤ 2 ^ 20 := Nat.pow_le_pow_right (by decide) hd2
        have h2 : (2 : Int) ^ d = ((2 ^ d : Nat) : Int) := by simp
        rw [hq, h2]
        omega
      have v1 : exv r = K * (2 * q) := by
        by_cases c : K = 2048
        · have := exv_at (c := d + 2) (K := 1024) (r := r) (by omega) (by omega) (by omega)
          rw [this, q3, c]
          omega
        · have := exv_at (c := d + 1) (K := K) (r := r) (by omega) (by omega) (by omega)
          rw [this, q2]
      have kq := Int.mul_le_mul_of_nonneg_right (show K ≤ 2048 by omega) (show 0 ≤ 2 * q by omega)
      have kq0 := Int.mul_le_mul_of_nonneg_right (show 1024 ≤ K by omega) (show 0 ≤ 2 * q by omega)
      have v2 : (K + 1) * (2 * q) ≤ exv (r + 1) ∧ exv (r + 1) ≤ 2050 * (2 * q) := by
        by_cases c : K = 2048
        · have := exv_at (c := d + 2) (K := 1025) (r := r + 1) (by omega) (by omega) (by omega)
          rw [this, q3, c]
          omega
        · by_cases c2 : K = 2047
          · have := exv_at (c := d + 2) (K := 1024) (r := r + 1) (by omega) (by omega) (by omega)
            rw [this, q3, c2]
            omega
          · have := exv_at (c := d + 1) (K := K + 1) (r := r + 1) (by omega) (by omega) (by omega)
            rw [this, q2]
            have h := Int.mul_le_mul_of_nonneg_right (show K + 1 ≤ 2050 by omega) (show 0 ≤ 2 * q by omega)
            omega
      obtain ⟨T, v3, t0, t1⟩ : ∃ T : Int, exv r + exv (r - 1) = T * q ∧ 0 ≤ T ∧ T * 131072 ≤ R := by
        by_cases c : K = 1024
        · have := exv_at (c := d) (K := 2047) (r := r - 1) (by omega) (by omega) (by omega)
          refine ⟨4095, ?_, by omega, by omega⟩
          rw [v1, this, ← hq, c]
          omega
        · by_cases c2 : K = 2048
          · have := exv_at (c := d + 1) (K := 2047) (r := r - 1) (by omega) (by omega) (by omega)
            refine ⟨4 * K - 2, ?_, by omega, by omega⟩
            rw [v1, this, q2, c2]
            omega
          · have := exv_at (c := d + 1) (K := K - 1) (r := r - 1) (by omega) (by omega) (by omega)
            refine ⟨4 * K - 2, ?_, by omega, by omega⟩
            rw [v1, this, q2]
            grind
      have lw0 : 0 ≤ exv (r - 1) := by
        by_cases c : K = 1024
        · have := exv_at (c := d) (K := 2047) (r := r - 1) (by omega) (by omega) (by omega)
          rw [this, ← hq]
          omega
        · by_cases c2 : K = 2048
          · have := exv_at (c := d + 1) (K := 2047) (r := r - 1) (by omega) (by omega) (by omega)
            rw [this, q2]
            omega
          · have := exv_at (c := d + 1) (K := K - 1) (r := r - 1) (by omega) (by omega) (by omega)
            rw [this, q2]
            exact Int.mul_nonneg (by omega) (by omega)
      have lw1 : exv (r - 1) ≤ 2048 * (2 * q) := by
        by_cases c : K = 1024
        · have := exv_at (c := d) (K := 2047) (r := r - 1) (by omega) (by omega) (by omega)
          rw [this, ← hq]
          omega
        · by_cases c2 : K = 2048
          · have := exv_at (c := d + 1) (K := 2047) (r := r - 1) (by omega) (by omega) (by omega)
            rw [this, q2]
            omega
          · have := exv_at (c := d + 1) (K := K - 1) (r := r - 1) (by omega) (by omega) (by omega)
            rw [this, q2]
            exact Int.mul_le_mul_of_nonneg_right (by omega) (by omega)
      have bV : 0 ≤ exv r ∧ exv r ≤ 2048 * (2 * q) := by rw [v1]; omega
      have bU : 0 ≤ exv (r + 1) ∧ exv (r + 1) ≤ 2050 * (2 * q) := ⟨by
        have h := Int.mul_nonneg (show 0 ≤ K + 1 by omega) (show 0 ≤ 2 * q by omega)
        omega, v2.2⟩
      have x1 := exact_half (h := r) (by omega) (by omega)
      have x2 := exact_half (h := r + 1) (by omega) (by omega)
      have x3 := exact_half (h := r - 1) (by omega) (by omega)
      have w1 : (r + 1) % 4294967296 = r + 1 := by omega
      have w2 : (r - 1) % 4294967296 = r - 1 := by omega
      obtain ⟨x, hxv⟩ : ∃ x, x = m * 2 ^ (e + 24).toNat := ⟨_, rfl⟩
      rw [← hxv] at hv ⊢
      have xb : x ≤ 2048 * 536870912 := by
        rw [hxv]
        exact Int.mul_le_mul (by omega) (pow_lit _ (by omega)) (by omega) (by decide)
      have rel : x * 67108864 * 68719476736 = M * (2 * q * (2 * q)) := by
        have e1 : (e + 24).toNat + 62 = s + (d + 1) + (d + 1) := by omega
        have e2 : x * 2 ^ 62 = m * 2 ^ ((e + 24).toNat + 62) := by rw [hxv, Int.pow_add]; grind
        have e3 : m * 2 ^ (s + (d + 1) + (d + 1)) = M * (2 * q * (2 * q)) := by rw [Int.pow_add, Int.pow_add, q2, hr3]; grind
        have e4 : (2 : Int) ^ 62 = 4611686018427387904 := by decide
        rw [e1, e3, e4] at e2
        omega
      generalize exv r = V at *
      generalize exv (r + 1) = U at *
      generalize exv (r - 1) = L at *
      have up : x * 67108864 ≤ (V + U) * (V + U) := by
        have g1 : M ≤ ((2 * K + 1) * 262144) * ((2 * K + 1) * 262144) := by
          rcases k3 with c | ⟨c, c'⟩
          · have := sq_le (a := R + 1) (b := (2 * K + 1) * 262144) (by omega) c
            omega
          · rw [← c, c']
            omega
        have g2 : ((2 * K + 1) * (2 * q)) * ((2 * K + 1) * (2 * q)) ≤ (V + U) * (V + U) := sq_le (Int.mul_nonneg (by omega) (by omega)) (by
          have : (2 * K + 1) * (2 * q) = K * (2 * q) + (K + 1) * (2 * q) := by grind
          omega)
        have g3 := Int.mul_le_mul_of_nonneg_right g1 (show 0 ≤ 2 * q * (2 * q) from Int.mul_nonneg (by omega) (by omega))
        have g4 : ((2 * K + 1) * 262144) * ((2 * K + 1) * 262144) * (2 * q * (2 * q)) = ((2 * K + 1) * (2 * q)) * ((2 * K + 1) * (2 * q)) * 68719476736 := by grind
        omega
      have lo : (V + L) * (V + L) ≤ x * 67108864 := by
        have g1 : (T * 131072) * (T * 131072) ≤ M := by
          have := sq_le (a := T * 131072) (b := R) (by omega) t1
          omega
        have g3 := Int.mul_le_mul_of_nonneg_right g1 (show 0 ≤ 2 * q * (2 * q) from Int.mul_nonneg (by omega) (by omega))
        have g4 : (T * 131072) * (T * 131072) * (2 * q * (2 * q)) = (V + L) * (V + L) * 68719476736 := by rw [v3]; grind
        omega
      have b1 : (V + U) * (V + U) ≤ 8600000000 * 8600000000 := sq_le (by omega) (by omega)
      have mA := mul128 (A := x) (B := 67108864) (by omega) (by omega) (by decide) (by decide)
      have mB := mul128 (A := V + U) (B := V + U) (by omega) (by omega) (by omega) (by omega)
      have mC := mul128 (A := V + L) (B := V + L) (by omega) (by omega) (by omega) (by omega)
      have u0 : IntKind.u64.wrap x = x := u64_id (by omega) (by omega)
      have u1 : IntKind.u64.wrap (wrap64 (V + U)) = V + U := by rw [w64_id (by omega) (by omega), u64_id (by omega) (by omega)]
      have u2 : IntKind.u64.wrap (wrap64 (V + L)) = V + L := by rw [w64_id (by omega) (by omega), u64_id (by omega) (by omega)]
      have lx1 := lex.mpr up
      have lx2 := lex.mpr lo
      have hj : Ev (fun k => laws_FnRoots.j1 k x V U L false) true := by
        refine Ev.step (g := fun _ => some true) (fun k => ?_) (Ev.const _)
        simp only [laws_FnRoots.j1, u0, u1, u2, mA, mB, mC, Option.bind_some]
        rw [if_neg (by decide)]
        generalize x * 67108864 / 18446744073709551616 = ha at *
        generalize x * 67108864 % 18446744073709551616 = la at *
        generalize (V + U) * (V + U) / 18446744073709551616 = hb at *
        generalize (V + U) * (V + U) % 18446744073709551616 = lb at *
        generalize (V + L) * (V + L) / 18446744073709551616 = hc at *
        generalize (V + L) * (V + L) % 18446744073709551616 = lc at *
        have fin : (if ha > hc then some true else if ha = hc then some (decide (la ≥ lc)) else some false) = some true := by
          rcases lx2 with c | ⟨c, c'⟩
          · rw [if_pos (by omega)]
          · rw [if_neg (by omega), if_pos (by omega), decide_eq_true (by omega)]
        rcases lx1 with c | ⟨c, c'⟩
        · rw [if_pos c, fin]
        · rw [if_neg (by omega), if_pos c, if_pos c', fin]
      refine Ev.step (g := fun k => laws_FnRoots.j1 k x V U L false) (fun k => ?_) hj
      have dv : decide (V ≤ 0) = false := decide_eq_false (by omega)
      simp only [laws_FnRoots.j0, x1, x2, x3, w1, w2, Option.bind_some, dv]
      rfl
end Go.Proofs.Ytdoflfifnkpacaa.FR
