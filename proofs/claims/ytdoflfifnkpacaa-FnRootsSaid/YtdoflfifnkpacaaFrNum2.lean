/-
  Plain laws behind FnRoots: roots of halves and singles.
-/
import Derived.Test.YtdoflfifnkpacaaFrNum1
import Derived.Test.YtdoflfifnkpacaaFRx9
namespace Go.Proofs.Ytdoflfifnkpacaa.FR
open Go.RowKit Go.Proofs.YtdoflfifnkpacaaW.PrintWords Go.Proofs.YtdoflfifnkpacaaW.PrintLast Go.Proofs.YtdoflfifnkpacaaW.PrintMore
set_option linter.unusedSimpArgs false
set_option linter.unusedVariables false
theorem len_uniq {m : Int} {a b : Nat} (ha : IsLen m a) (hb : IsLen m b) : a = b := by
  obtain ⟨a1, a2, a3⟩ := ha
  obtain ⟨b1, b2, b3⟩ := hb
  rcases Nat.lt_trichotomy a b with h | h | h
  · have : (2 : Int) ^ a ≤ 2 ^ (b - 1) := by
      have := Nat.pow_le_pow_right (n := 2) (by decide) (show a ≤ b - 1 by omega)
      exact_mod_cast this
    omega
  · exact h
  · have : (2 : Int) ^ b ≤ 2 ^ (a - 1) := by
      have := Nat.pow_le_pow_right (n := 2) (by decide) (show b ≤ a - 1 by omega)
      exact_mod_cast this
    omega
theorem len_ex {m : Int} (h : 0 < m) : ∃ L, IsLen m L := by
  obtain ⟨n, rfl⟩ : ∃ n : Nat, m = n := ⟨m.toNat, by omega⟩
  have hn : n ≠ 0 := by omega
  refine ⟨n.log2 + 1, by omega, ?_, ?_⟩
  · have := Nat.log2_self_le hn
    simp only [Nat.add_sub_cancel]
    exact_mod_cast this
  · have := Nat.lt_log2_self (n := n)
    exact_mod_cast this
theorem len_half {m : Int} {L : Nat} (h : IsLen m (L + 1)) (hL : 1 ≤ L) : IsLen (m / 2) L := by
  obtain ⟨_, h2, h3⟩ := h
  obtain ⟨n, rfl⟩ : ∃ n, L = n + 1 := ⟨L - 1, by omega⟩
  simp only [Nat.add_sub_cancel] at h2 ⊢
  rw [p2_succ] at h2
  rw [p2_succ] at h3
  exact ⟨by omega, by simp only [Nat.add_sub_cancel]; omega, by omega⟩
theorem specLen_l0 : ∀ (L : Nat) (m n : Int), IsLen m L → 0 ≤ n → n + L < 1000 → Ev (fun k => spec_l4Len.l0 k m n) (n + L)
  | 0, m, n, h, _, _ => by
    have := h.1
    omega
  | 1, m, n, h, h0, h1 => by
    obtain ⟨_, h2, h3⟩ := h
    have e : m = 1 := by
      simp at h2 h3
      omega
    subst e
    have hw : wrap64 (n + 1) = n + 1 := w64_id (by omega) (by omega)
    refine Ev.step (g := fun k => spec_l4Len.l0 k (1 / 2) (n + 1)) (fun k => ?_) (Ev.step (g := fun _ => some (n + 1)) (fun k => ?_) (by simpa using Ev.const _))
    · simp only [spec_l4Len.l0, hw]
      rw [if_pos (by decide)]
    · show spec_l4Len.l0 (k + 1) 0 (n + 1) = _
      simp only [spec_l4Len.l0]
      rw [if_neg (by decide)]
  | L + 2, m, n, h, h0, h1 => by
    have hm : m > 0 := by
      obtain ⟨_, h2, _⟩ := h
      have := p2_pos (L + 2 - 1)
      omega
    have hw : wrap64 (n + 1) = n + 1 := w64_id (by omega) (by omega)
    have ih := specLen_l0 (L + 1) (m / 2) (n + 1) (len_half h (by omega)) (by omega) (by omega)
    have e : n + 1 + ((L + 1 : Nat) : Int) = n + ((L + 2 : Nat) : Int) := by omega
    rw [e] at ih
    refine Ev.step (fun k => ?_) ih
    simp only [spec_l4Len.l0, hw]
    rw [if_pos hm]
theorem specLen {m : Int} {L : Nat} (h : IsLen m L) (hL : L ≤ 64) : Ev (fun k => spec_l4Len.f k m) (L : Int) := by
  have := specLen_l0 L m 0 h (by omega) (by omega)
  simpa [spec_l4Len.f] using this
/-- A root is being made: the bits that are still to come. -/
def bitAt (i : Nat) : Int := if i = 0 then 0 else 2 ^ (i - 1)
theorem bitAt_succ (i : Nat) : bitAt (i + 1) = 2 ^ i := by simp [bitAt]
theorem bitAt_half (i : Nat) : bitAt (i + 1) / 2 = bitAt i := by
  rw [bitAt_succ]
  cases i with
  | zero => simp [bitAt]
  | succ n =>
    rw [bitAt_succ, p2_succ]
    omega
theorem sq_le {a b : Int} (h0 : 0 ≤ a) (h : a ≤ b) : a * a ≤ b * b := Int.mul_le_mul h h h0 (by omega)
theorem implRoot_l0 {M : Int} (hM : M < 1152921504606846976) : ∀ (i : Nat) (r : Int), i ≤ 30 → 0 ≤ r → r + 2 ^ i ≤ 1073741824 → r * r ≤ M → M < (r + 2 ^ i) * (r + 2 ^ i) →
    ∃ R : Int, Ev (fun k => impl_root.l0 k M r (bitAt i)) R ∧ 0 ≤ R ∧ R < 1073741824 ∧ R * R ≤ M ∧ M < (R + 1) * (R + 1)
  | 0, r, _, h0, h1, h2, h3 => by
    refine ⟨r, Ev.step (g := fun _ => some r) (fun k => ?_) (Ev.const _), h0, by simp at h1; omega, h2, by simpa using h3⟩
    simp only [impl_root.l0]
    rw [if_neg (by simp [bitAt])]
  | i + 1, r, hi, h0, h1, h2, h3 => by
    have hp := p2_pos i
    rw [p2_succ] at h1 h3
    have w1 : IntKind.u64.wrap (r + 2 ^ i) = r + 2 ^ i := u64_id (by omega) (by omega)
    have hq : (r + 2 ^ i) * (r + 2 ^ i) ≤ 1073741824 * 1073741824 := sq_le (by omega) (by omega)
    have hq0 : 0 ≤ (r + 2 ^ i) * (r + 2 ^ i) := Int.mul_nonneg (by omega) (by omega)
    have w2 : IntKind.u64.wrap ((r + 2 ^ i) * (r + 2 ^ i)) = (r + 2 ^ i) * (r + 2 ^ i) := u64_id hq0 (by omega)
    by_cases c : (r + 2 ^ i) * (r + 2 ^ i) ≤ M
    · have e : r + 2 ^ i + 2 ^ i = r + 2 * 2 ^ i := by omega
      obtain ⟨R, hR, g⟩ := implRoot_l0 hM i (r + 2 ^ i) (by omega) (by omega) (by omega) c (by rw [e]; exact h3)
      refine ⟨R, Ev.step (fun k => ?_) hR, g⟩
      simp only [impl_root.l0]
      rw [bitAt_half, bitAt_succ, w1, w2, if_pos (by omega), if_pos c]
    · obtain ⟨R, hR, g⟩ := implRoot_l0 hM i r (by omega) h0 (by omega) h2 (by omega)
      refine ⟨R, Ev.step (fun k => ?_) hR, g⟩
      simp only [impl_root.l0]
      rw [bitAt_half, bitAt_succ, w1, w2, if_pos (by omega), if_neg c]
theorem implRoot {M : Int} (h0 : 0 ≤ M) (hM : M < 1152921504606846976) : ∃ R : Int, Ev (fun k => impl_root.f k M) R ∧ 0 ≤ R ∧ R < 1073741824 ∧ R * R ≤ M ∧ M < (R + 1) * (R + 1) := by
  have := implRoot_l0 hM 30 0 (by omega) (by omega) (by decide) (by simpa using h0) (by simp; omega)
  simpa [impl_root.f, bitAt] using this
theorem specRoot_l0 {M : Int} (hM : M < 1152921504606846976) : ∀ (i : Nat) (r : Int), i ≤ 31 → 0 ≤ r → r % 2 ^ i = 0 → r + 2 ^ i ≤ 2147483648 → r * r ≤ M → M < (r + 2 ^ i) * (r + 2 ^ i) →
    ∃ R : Int, Ev (fun k => spec_l4Root.l0 k M r (bitAt i)) R ∧ 0 ≤ R ∧ R * R ≤ M ∧ M < (R + 1) * (R + 1)
  | 0, r, _, h0, _, h1, h2, h3 => by
    refine ⟨r, Ev.step (g := fun _ => some r) (fun k => ?_) (Ev.const _), h0, h2, by simpa using h3⟩
    simp only [spec_l4Root.l0]
    rw [if_neg (by simp [bitAt])]
  | i + 1, r, hi, h0, hm, h1, h2, h3 => by
    have hp := p2_pos i
    rw [p2_succ] at h1 h3 hm
    have hm' : r % 2 ^ (i + 1) = 0 := by rw [p2_succ]; exact hm
    have hd : (2 * 2 ^ i : Int) ∣ r := Int.dvd_of_emod_eq_zero hm
    have hd2 : (2 ^ i : Int) ∣ r := Int.dvd_trans ⟨2, by omega⟩ hd
    have hl : (2 : Int) ^ i < 2 ^ (i + 1) := by rw [p2_succ]; omega
    have w1 : Go.bits .or .u64 r (2 ^ i) = r + 2 ^ i := or64 (i + 1) h0 hm' (by omega) (by omega) hl (by omega)
    have hq : (r + 2 ^ i) * (r + 2 ^ i) ≤ 2147483648 * 2147483648 := sq_le (by omega) (by omega)
    have hq0 : 0 ≤ (r + 2 ^ i) * (r + 2 ^ i) := Int.mul_nonneg (by omega) (by omega)
    have w2 : IntKind.u64.wrap ((r + 2 ^ i) * (r + 2 ^ i)) = (r + 2 ^ i) * (r + 2 ^ i) := u64_id hq0 (by omega)
    by_cases c : (r + 2 ^ i) * (r + 2 ^ i) ≤ M
    · have e : r + 2 ^ i + 2 ^ i = r + 2 * 2 ^ i := by omega
      obtain ⟨R, hR, g⟩ := specRoot_l0 hM i (r + 2 ^ i) (by omega) (by omega) (Int.emod_eq_zero_of_dvd (Int.dvd_add hd2 ⟨1, by omega⟩)) (by omega) c (by rw [e]; exact h3)
      refine ⟨R, Ev.step (fun k => ?_) hR, g⟩
      simp only [spec_l4Root.l0]
      rw [bitAt_half, bitAt_succ, w1, w2, if_pos (by omega), if_pos c]
    · obtain ⟨R, hR, g⟩ := specRoot_l0 hM i r (by omega) h0 (Int.emod_eq_zero_of_dvd hd2) (by omega) h2 (by omega)
      refine ⟨R, Ev.step (fun k => ?_) hR, g⟩
      simp only [spec_l4Root.l0]
      rw [bitAt_half, bitAt_succ, w1, w2, if_pos (by omega), if_neg c]
theorem specRoot {M : Int} (h0 : 0 ≤ M) (hM : M < 1152921504606846976) : ∃ R : Int, Ev (fun k => spec_l4Root.f k M) R ∧ 0 ≤ R ∧ R * R ≤ M ∧ M < (R + 1) * (R + 1) := by
  have := specRoot_l0 hM 31 0 (by omega) (by omega) (by decide) (by decide) (by simpa using h0) (by simp; omega)
  simpa [spec_l4Root.f, bitAt] using this
end Go.Proofs.Ytdoflfifnkpacaa.FR
