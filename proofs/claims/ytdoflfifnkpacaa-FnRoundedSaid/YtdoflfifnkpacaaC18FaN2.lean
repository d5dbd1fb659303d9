/-
  Plain laws behind FnRounded: sums, products and quotients of halves and singles.
-/
import Derived.Test.YtdoflfifnkpacaaC18FaN1
namespace Go.Proofs.Ytdoflfifnkpacaa.FA
open Go.RowKit Go.Proofs.YtdoflfifnkpacaaW.PrintWords Go.Proofs.YtdoflfifnkpacaaW.PrintLast Go.Proofs.YtdoflfifnkpacaaW.PrintMore
set_option linter.unusedSimpArgs false
set_option linter.unusedVariables false
theorem len_uniq {m : Int} {a b : Nat} (ha : IsLen m a) (hb : IsLen m b) : a = b := by
  obtain ⟨a1, a2, a3⟩ := ha
  obtain ⟨b1, b2, b3⟩ := hb
  rcases Nat.lt_trichotomy a b with h | h | h
  · have : (2 : Int) ^ a ≤ 2 ^ (b - 1) := by
      have := Nat.pow_le_pow_right (n := 2) (by decide) (show a ≤ b - 1 by omega)
      exact_mod_cast this
    omega
  · exact h
  · have : (2 : Int) ^ b ≤ 2 ^ (a - 1) := by
      have := Nat.pow_le_pow_right (n := 2) (by decide) (show b ≤ a - 1 by omega)
      exact_mod_cast this
    omega
theorem len_half {m : Int} {L : Nat} (h : IsLen m (L + 1)) (hL : 1 ≤ L) : IsLen (m / 2) L := by
  obtain ⟨_, h2, h3⟩ := h
  obtain ⟨n, rfl⟩ : ∃ n, L = n + 1 := ⟨L - 1, by omega⟩
  simp only [Nat.add_sub_cancel] at h2 ⊢
  rw [p2_succ] at h2
  rw [p2_succ] at h3
  exact ⟨by omega, by simp only [Nat.add_sub_cancel]; omega, by omega⟩
theorem specLen_l0 : ∀ (L : Nat) (m n : Int), IsLen m L → 0 ≤ n → n + L < 1000 → Ev (fun k => spec_l4Len.l0 k m n) (n + L)
  | 0, m, n, h, _, _ => by
    have := h.1
    omega
  | 1, m, n, h, h0, h1 => by
    obtain ⟨_, h2, h3⟩ := h
    have e : m = 1 := by
      simp at h2 h3
      omega
    subst e
    have hw : wrap64 (n + 1) = n + 1 := w64_id (by omega) (by omega)
    refine Ev.step (g := fun k => spec_l4Len.l0 k (1 / 2) (n + 1)) (fun k => ?_) (Ev.step (g := fun _ => some (n + 1)) (fun k => ?_) (by simpa using Ev.const _))
    · simp only [spec_l4Len.l0, hw]
      rw [if_pos (by decide)]
    · show spec_l4Len.l0 (k + 1) 0 (n + 1) = _
      simp only [spec_l4Len.l0]
      rw [if_neg (by decide)]
  | L + 2, m, n, h, h0, h1 => by
    have hm : m > 0 := by
      obtain ⟨_, h2, _⟩ := h
      have := p2_pos (L + 2 - 1)
      omega
    have hw : wrap64 (n + 1) = n + 1 := w64_id (by omega) (by omega)
    have ih := specLen_l0 (L + 1) (m / 2) (n + 1) (len_half h (by omega)) (by omega) (by omega)
    have e : n + 1 + ((L + 1 : Nat) : Int) = n + ((L + 2 : Nat) : Int) := by omega
    rw [e] at ih
    refine Ev.step (fun k => ?_) ih
    simp only [spec_l4Len.l0, hw]
    rw [if_pos hm]
theorem specLen {m : Int} {L : Nat} (h : IsLen m L) (hL : L ≤ 64) : Ev (fun k => spec_l4Len.f k m) (L : Int) := by
  have := specLen_l0 L m 0 h (by omega) (by omega)
  simpa [spec_l4Len.f] using this
theorem len_dbl {m : Int} {L : Nat} (h : IsLen m L) : IsLen (m * 2) (L + 1) := by
  obtain ⟨h1, h2, h3⟩ := h
  obtain ⟨n, rfl⟩ : ∃ n, L = n + 1 := ⟨L - 1, by omega⟩
  simp only [Nat.add_sub_cancel] at h2
  refine ⟨by omega, ?_, ?_⟩
  · simp only [Nat.add_sub_cancel]
    rw [p2_succ]
    omega
  · rw [p2_succ (n + 1)]
    omega
theorem len_mul {m : Int} {L : Nat} (h : IsLen m L) : ∀ s : Nat, IsLen (m * 2 ^ s) (L + s)
  | 0 => by simpa using h
  | s + 1 => by
    have := len_dbl (len_mul h s)
    rw [p2_succ]
    have e : m * (2 * 2 ^ s) = m * 2 ^ s * 2 := by grind
    rw [e]
    exact this
theorem len_le {m : Int} {L n : Nat} (h : IsLen m L) (hm : m < 2 ^ n) : L ≤ n := by
  obtain ⟨h1, h2, h3⟩ := h
  rcases Nat.lt_or_ge n L with c | c
  · have : (2 : Int) ^ n ≤ 2 ^ (L - 1) := by
      have := Nat.pow_le_pow_right (n := 2) (by decide) (show n ≤ L - 1 by omega)
      exact_mod_cast this
    omega
  · exact c
def T8 : ByteArray := ⟨#[0, 1, 2, 2, 3, 3, 3, 3, 4, 4, 4, 4, 4, 4, 4, 4, 5, 5, 5, 5, 5, 5, 5, 5, 5, 5, 5, 5, 5, 5, 5, 5, 6, 6, 6, 6, 6, 6, 6, 6, 6, 6, 6, 6, 6, 6, 6, 6, 6, 6, 6, 6, 6, 6, 6, 6, 6, 6, 6, 6, 6, 6, 6, 6, 7, 7, 7, 7, 7, 7, 7, 7, 7, 7, 7, 7, 7, 7, 7, 7, 7, 7, 7, 7, 7, 7, 7, 7, 7, 7, 7, 7, 7, 7, 7, 7, 7, 7, 7, 7, 7, 7, 7, 7, 7, 7, 7, 7, 7, 7, 7, 7, 7, 7, 7, 7, 7, 7, 7, 7, 7, 7, 7, 7, 7, 7, 7, 7, 8, 8, 8, 8, 8, 8, 8, 8, 8, 8, 8, 8, 8, 8, 8, 8, 8, 8, 8, 8, 8, 8, 8, 8, 8, 8, 8, 8, 8, 8, 8, 8, 8, 8, 8, 8, 8, 8, 8, 8, 8, 8, 8, 8, 8, 8, 8, 8, 8, 8, 8, 8, 8, 8, 8, 8, 8, 8, 8, 8, 8, 8, 8, 8, 8, 8, 8, 8, 8, 8, 8, 8, 8, 8, 8, 8, 8, 8, 8, 8, 8, 8, 8, 8, 8, 8, 8, 8, 8, 8, 8, 8, 8, 8, 8, 8, 8, 8, 8, 8, 8, 8, 8, 8, 8, 8, 8, 8, 8, 8, 8, 8, 8, 8, 8, 8, 8, 8, 8, 8, 8, 8, 8, 8, 8, 8, 8, 8]⟩
theorem len64_j0 (k : Nat) (x0 x2 : Int) : bits_Len64.j0 (k + 1) x0 x2 = (if x0 ≥ 65536 then (if (x0 / 65536) ≥ 256 then (if 0 ≤ (((x0 / 65536) / 256) % 256) then (if (((x0 / 65536) / 256) % 256) < 256 then (some (wrap64 ((wrap64 ((wrap64 (x2 + 16)) + 8)) + (wrap64 (bt T8 (((x0 / 65536) / 256) % 256)))))) else (none)) else (none)) else (if 0 ≤ ((x0 / 65536) % 256) then (if ((x0 / 65536) % 256) < 256 then (some (wrap64 ((wrap64 (x2 + 16)) + (wrap64 (bt T8 ((x0 / 65536) % 256)))))) else (none)) else (none))) else (if x0 ≥ 256 then (if 0 ≤ ((x0 / 256) % 256) then (if ((x0 / 256) % 256) < 256 then (some (wrap64 ((wrap64 (x2 + 8)) + (wrap64 (bt T8 ((x0 / 256) % 256)))))) else (none)) else (none)) else (if 0 ≤ ((x0) % 256) then (if ((x0) % 256) < 256 then (some (wrap64 (x2 + (wrap64 (bt T8 ((x0) % 256)))))) else (none)) else (none)))) := rfl
theorem tab_all : (List.range 256).all (fun n => n == 0 || (bt T8 (n : Int) == 1 && (1 ≤ n && n ≤ 1)) || (bt T8 (n : Int) == 2 && (2 ≤ n && n ≤ 3)) || (bt T8 (n : Int) == 3 && (4 ≤ n && n ≤ 7)) || (bt T8 (n : Int) == 4 && (8 ≤ n && n ≤ 15)) || (bt T8 (n : Int) == 5 && (16 ≤ n && n ≤ 31)) || (bt T8 (n : Int) == 6 && (32 ≤ n && n ≤ 63)) || (bt T8 (n : Int) == 7 && (64 ≤ n && n ≤ 127)) || (bt T8 (n : Int) == 8 && (128 ≤ n && n ≤ 255))) = true := by decide +kernel
theorem tab_at {z : Int} (h0 : 0 < z) (h1 : z < 256) : (bt T8 z = 1 ∧ 1 ≤ z ∧ z ≤ 1) ∨ (bt T8 z = 2 ∧ 2 ≤ z ∧ z ≤ 3) ∨ (bt T8 z = 3 ∧ 4 ≤ z ∧ z ≤ 7) ∨ (bt T8 z = 4 ∧ 8 ≤ z ∧ z ≤ 15) ∨ (bt T8 z = 5 ∧ 16 ≤ z ∧ z ≤ 31) ∨ (bt T8 z = 6 ∧ 32 ≤ z ∧ z ≤ 63) ∨ (bt T8 z = 7 ∧ 64 ≤ z ∧ z ≤ 127) ∨ (bt T8 z = 8 ∧ 128 ≤ z ∧ z ≤ 255) := by
  obtain ⟨n, rfl⟩ : ∃ n : Nat, z = n := ⟨z.toNat, by omega⟩
  have h := List.all_eq_true.1 tab_all n (List.mem_range.2 (by omega))
  simp only [Bool.or_eq_true, Bool.and_eq_true, beq_iff_eq, decide_eq_true_eq] at h
  rcases h with ((((((((h | h) | h) | h) | h) | h) | h) | h) | h)
  · omega
  · exact Or.inl ⟨h.1, by omega, by omega⟩
  · exact Or.inr (Or.inl ⟨h.1, by omega, by omega⟩)
  · exact Or.inr (Or.inr (Or.inl ⟨h.1, by omega, by omega⟩))
  · exact Or.inr (Or.inr (Or.inr (Or.inl ⟨h.1, by omega, by omega⟩)))
  · exact Or.inr (Or.inr (Or.inr (Or.inr (Or.inl ⟨h.1, by omega, by omega⟩))))
  · exact Or.inr (Or.inr (Or.inr (Or.inr (Or.inr (Or.inl ⟨h.1, by omega, by omega⟩)))))
  · exact Or.inr (Or.inr (Or.inr (Or.inr (Or.inr (Or.inr (Or.inl ⟨h.1, by omega, by omega⟩))))))
  · exact Or.inr (Or.inr (Or.inr (Or.inr (Or.inr (Or.inr (Or.inr (⟨h.1, by omega, by omega⟩)))))))
set_option maxRecDepth 100000 in
theorem lenJ0 {x : Int} (h0 : 0 < x) (h1 : x < 4294967296) (oo : Int) (oo0 : 0 ≤ oo) (oo1 : oo ≤ 32) : ∃ L : Nat, IsLen x L ∧ L ≤ 32 ∧ ∀ k, bits_Len64.j0 (k + 1) x oo = some ((L : Int) + oo) := by
  have key : ∃ L : Nat, IsLen x L ∧ L ≤ 32 ∧ ∀ k, bits_Len64.j0 (k + 1) x oo = some ((L : Int) + oo) := by
    have mk : ∀ (o v : Nat) (z : Int), (o = 0 ∨ o = 8 ∨ o = 16 ∨ o = 24) → z = x / 2 ^ o → 0 < z → z < 256 → bt T8 z = v → ∃ L : Nat, IsLen x L ∧ L ≤ 32 ∧ (L : Int) = o + v := by
      intro o v z ho hz z0 z1 hb
      have q := tab_at z0 z1
      rw [hb] at q
      refine ⟨o + v, ?_, ?_, by omega⟩
      · have hv : v = 1 ∨ v = 2 ∨ v = 3 ∨ v = 4 ∨ v = 5 ∨ v = 6 ∨ v = 7 ∨ v = 8 := by omega
        unfold IsLen
        rcases ho with rfl | rfl | rfl | rfl <;> rcases hv with rfl | rfl | rfl | rfl | rfl | rfl | rfl | rfl <;> simp at hz ⊢ <;> omega
      · omega
    have wr : ∀ v : Int, 0 ≤ v → v ≤ 8 → wrap64 v = v := fun v a b => w64_id (by omega) (by omega)
    by_cases c1 : x ≥ 65536
    · by_cases c2 : x / 65536 ≥ 256
      · have e : x / 65536 / 256 % 256 = x / 16777216 := by omega
        have q := tab_at (z := x / 16777216) (by omega) (by omega)
        obtain ⟨v, hv⟩ : ∃ v : Nat, bt T8 (x / 16777216) = v := ⟨(bt T8 (x / 16777216)).toNat, by omega⟩
        obtain ⟨L, l1, l2, l3⟩ := mk 24 v (x / 16777216) (by omega) (by simp) (by omega) (by omega) hv
        refine ⟨L, l1, l2, fun k => ?_⟩
        rw [len64_j0, if_pos c1, if_pos c2, e, if_pos (by omega), if_pos (by omega), hv, wr v (by omega) (by omega), w64_id (n := oo + 16) (by omega) (by omega), w64_id (n := oo + 16 + 8) (by omega) (by omega), w64_id (by omega) (by omega)]
        congr 1
        omega
      · have e : x / 65536 % 256 = x / 65536 := by omega
        have q := tab_at (z := x / 65536) (by omega) (by omega)
        obtain ⟨v, hv⟩ : ∃ v : Nat, bt T8 (x / 65536) = v := ⟨(bt T8 (x / 65536)).toNat, by omega⟩
        obtain ⟨L, l1, l2, l3⟩ := mk 16 v (x / 65536) (by omega) (by simp) (by omega) (by omega) hv
        refine ⟨L, l1, l2, fun k => ?_⟩
        rw [len64_j0, if_pos c1, if_neg c2, e, if_pos (by omega), if_pos (by omega), hv, wr v (by omega) (by omega), w64_id (n := oo + 16) (by omega) (by omega), w64_id (by omega) (by omega)]
        congr 1
        omega
    · by_cases c2 : x ≥ 256
      · have e : x / 256 % 256 = x / 256 := by omega
        have q := tab_at (z := x / 256) (by omega) (by omega)
        obtain ⟨v, hv⟩ : ∃ v : Nat, bt T8 (x / 256) = v := ⟨(bt T8 (x / 256)).toNat, by omega⟩
        obtain ⟨L, l1, l2, l3⟩ := mk 8 v (x / 256) (by omega) (by simp) (by omega) (by omega) hv
        refine ⟨L, l1, l2, fun k => ?_⟩
        rw [len64_j0, if_neg c1, if_pos c2, e, if_pos (by omega), if_pos (by omega), hv, wr v (by omega) (by omega), w64_id (n := oo + 8) (by omega) (by omega), w64_id (by omega) (by omega)]
        congr 1
        omega
      · have e : x % 256 = x := by omega
        have q := tab_at (z := x) (by omega) (by omega)
        obtain ⟨v, hv⟩ : ∃ v : Nat, bt T8 x = v := ⟨(bt T8 x).toNat, by omega⟩
        obtain ⟨L, l1, l2, l3⟩ := mk 0 v x (by omega) (by simp) (by omega) (by omega) hv
        refine ⟨L, l1, l2, fun k => ?_⟩
        rw [len64_j0, if_neg c1, if_neg c2, e, if_pos (by omega), if_pos (by omega), hv, wr v (by omega) (by omega), w64_id (by omega) (by omega)]
        congr 1
        omega
  exact key
theorem implLen {x : Int} (h0 : 0 < x) (h1 : x < 18446744073709551616) : ∃ L : Nat, IsLen x L ∧ L ≤ 64 ∧ Ev (fun k => bits_Len64.f k x) (L : Int) := by
  by_cases c : x ≥ 4294967296
  · obtain ⟨L, l1, l2, l3⟩ := lenJ0 (x := x / 4294967296) (by omega) (by omega) 32 (by omega) (by omega)
    refine ⟨L + 32, ?_, by omega, Ev.eq (g := fun k => bits_Len64.j0 k (x / 4294967296) 32) (fun k => ?_) (Ev.step (g := fun _ => some (((L + 32 : Nat) : Int))) (fun k => ?_) (Ev.const _))⟩
    · obtain ⟨q0, q1, q2⟩ := l1
      have e1 : L + 32 - 1 = (L - 1) + 32 := by omega
      refine ⟨by omega, ?_, ?_⟩
      · rw [e1, Int.pow_add]
        omega
      · rw [Int.pow_add]
        omega
    · unfold bits_Len64.f
      rw [if_pos c]
    · rw [l3]
      congr 1
  · obtain ⟨L, l1, l2, l3⟩ := lenJ0 (x := x) h0 (by omega) 0 (by omega) (by omega)
    refine ⟨L, l1, by omega, Ev.eq (g := fun k => bits_Len64.j0 k x 0) (fun k => ?_) (Ev.step (g := fun _ => some (L : Int)) (fun k => ?_) (Ev.const _))⟩
    · unfold bits_Len64.f
      rw [if_neg c]
    · rw [l3]
      congr 1
end Go.Proofs.Ytdoflfifnkpacaa.FA
