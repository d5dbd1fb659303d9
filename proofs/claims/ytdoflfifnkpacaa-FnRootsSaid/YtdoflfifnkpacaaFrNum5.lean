/-
  Plain laws behind FnRoots: roots of halves and singles.
-/
import Derived.Test.YtdoflfifnkpacaaFrNum4
namespace Go.Proofs.Ytdoflfifnkpacaa.FR
open Go.RowKit Go.Proofs.YtdoflfifnkpacaaW.PrintWords Go.Proofs.YtdoflfifnkpacaaW.PrintLast Go.Proofs.YtdoflfifnkpacaaW.PrintMore
set_option linter.unusedSimpArgs false
set_option linter.unusedVariables false
theorem tm2 (x : Int) : Int.tmod x 2 = 0 ↔ x % 2 = 0 := ⟨fun h => Int.emod_eq_zero_of_dvd (Int.dvd_of_tmod_eq_zero h), fun h => Int.tmod_eq_zero_of_dvd (Int.dvd_of_emod_eq_zero h)⟩
theorem td2 {x y : Int} (h : x = 2 * y) : Int.tdiv x 2 = y := by
  subst h
  exact Int.mul_tdiv_cancel_left y (by decide)
theorem len_dbl {m : Int} {L : Nat} (h : IsLen m L) : IsLen (m * 2) (L + 1) := by
  obtain ⟨h1, h2, h3⟩ := h
  obtain ⟨n, rfl⟩ : ∃ n, L = n + 1 := ⟨L - 1, by omega⟩
  simp only [Nat.add_sub_cancel] at h2
  refine ⟨by omega, ?_, ?_⟩
  · simp only [Nat.add_sub_cancel]
    rw [p2_succ]
    omega
  · rw [p2_succ (n + 1)]
    omega
theorem len_mul {m : Int} {L : Nat} (h : IsLen m L) : ∀ s : Nat, IsLen (m * 2 ^ s) (L + s)
  | 0 => by simpa using h
  | s + 1 => by
    have := len_dbl (len_mul h s)
    rw [p2_succ]
    have e : m * (2 * 2 ^ s) = m * 2 ^ s * 2 := by grind
    rw [e]
    exact this
theorem len_le {m : Int} {L n : Nat} (h : IsLen m L) (hm : m < 2 ^ n) : L ≤ n := by
  obtain ⟨h1, h2, h3⟩ := h
  rcases Nat.lt_or_ge n L with c | c
  · have : (2 : Int) ^ n ≤ 2 ^ (L - 1) := by
      have := Nat.pow_le_pow_right (n := 2) (by decide) (show n ≤ L - 1 by omega)
      exact_mod_cast this
    omega
  · exact c
/-- The roots of a number and of its fourth part. -/
theorem roots_rel {R R2 M M2 : Int} (hM : M = 4 * M2) (h0 : 0 ≤ R) (h1 : R * R ≤ M) (h2 : M < (R + 1) * (R + 1)) (g0 : 0 ≤ R2) (g1 : R2 * R2 ≤ M2) (g2 : M2 < (R2 + 1) * (R2 + 1)) :
    (R = 2 * R2 ∨ R = 2 * R2 + 1) ∧ (R = 2 * R2 → (R * R != M) = (R2 * R2 != M2)) ∧ (R = 2 * R2 + 1 → (R2 * R2 != M2) = true) := by
  have a1 : (2 * R2) * (2 * R2) = 4 * (R2 * R2) := by grind
  have a2 : (2 * R2 + 2) * (2 * R2 + 2) = 4 * ((R2 + 1) * (R2 + 1)) := by grind
  have b1 : 2 * R2 ≤ R := by
    rcases Int.lt_or_le R (2 * R2) with c | c
    · have := sq_le (a := R + 1) (b := 2 * R2) (by omega) (by omega)
      omega
    · exact c
  have b2 : R ≤ 2 * R2 + 1 := by
    rcases Int.lt_or_le (2 * R2 + 1) R with c | c
    · have := sq_le (a := 2 * R2 + 2) (b := R) (by omega) (by omega)
      omega
    · exact c
  refine ⟨by omega, fun e => ?_, fun e => ?_⟩
  · subst e
    rw [a1, hM]
    by_cases c : R2 * R2 = M2
    · simp [c]
    · have c' : ¬ 4 * (R2 * R2) = 4 * M2 := by omega
      rw [bne_iff_ne.mpr c, bne_iff_ne.mpr c']
  · subst e
    rw [bne_iff_ne]
    intro c
    have a3 : (2 * R2 + 1) * (2 * R2 + 1) = 4 * (R2 * R2) + 4 * R2 + 1 := by grind
    omega
theorem specFull10 : ∀ (d : Nat) (m e : Int), IsLen m (11 - d) → d ≤ 10 → -1000 ≤ e - d → e ≤ 1000 → Ev (fun k => spec_l4K_full.l0 k 5 10 false false false m e) (false, false, false, m * 2 ^ d, e - d)
  | 0, m, e, h, _, _, _ => by
    have s1 : shl .u64 1 10 = 1024 := by decide +kernel
    obtain ⟨h1, h2, h3⟩ := h
    simp at h2 h3
    refine Ev.step (g := fun _ => some (false, false, false, m, e)) (fun k => ?_) (by simpa using Ev.const _)
    simp only [spec_l4K_full.l0, s1]
    rw [if_neg (by omega), if_pos (by decide), if_neg (by omega)]
  | d + 1, m, e, h, hd, he, he' => by
    have s1 : shl .u64 1 10 = 1024 := by decide +kernel
    have h' := h
    obtain ⟨h1, h2, h3⟩ := h
    have hp := p2_pos (11 - (d + 1) - 1)
    have hlt : m < 1024 := by
      have : (2 : Int) ^ (11 - (d + 1)) ≤ 2 ^ 10 := by
        have := Nat.pow_le_pow_right (n := 2) (by decide) (show 11 - (d + 1) ≤ 10 by omega)
        exact_mod_cast this
      have h10 : (2 : Int) ^ 10 = 1024 := by decide
      rw [h10] at this
      omega
    have hl := len_dbl h'
    have el : 11 - (d + 1) + 1 = 11 - d := by omega
    rw [el] at hl
    have ih := specFull10 d (m * 2) (e - 1) hl (by omega) (by omega) (by omega)
    have e1 : m * 2 * 2 ^ d = m * 2 ^ (d + 1) := by rw [p2_succ]; grind
    have e2 : e - 1 - (d : Int) = e - ((d + 1 : Nat) : Int) := by omega
    rw [e1, e2] at ih
    have w1 : IntKind.u64.wrap (m * 2) = m * 2 := u64_id (by omega) (by omega)
    have w2 : wrap64 (e - 1) = e - 1 := by unfold wrap64; omega
    refine Ev.step (fun k => ?_) ih
    simp only [spec_l4K_full.l0, s1, w1, w2]
    rw [if_neg (by omega), if_pos (by decide), if_pos hlt]
set_option maxHeartbeats 1000000 in
theorem sqrt_core10 {m e : Int} (h0 : 0 < m) (h1 : m < 2048) (h2 : -24 ≤ e) (h3 : e ≤ 5) :
    ∃ (r e1 R M : Int) (s : Nat), Ev (fun k => impl_FSqrt.j0 k false 10 15 false false false m e) r ∧ Ev (fun k => spec_l4K_root.j0 k false 5 10 false false false m e) r ∧
      r = (29 + e1 + 15) * 1024 + rq 524288 262144 R (R * R != M) - 1024 ∧ e - s = 2 * e1 ∧ M = m * 2 ^ s ∧ 536870912 ≤ R ∧ R < 1073741824 ∧ R * R ≤ M ∧ M < (R + 1) * (R + 1) ∧ 48 ≤ s ∧ s ≤ 59 := by
  obtain ⟨L, hL⟩ := len_ex h0
  have hL1 : 1 ≤ L := hL.1
  have hL2 : L ≤ 11 := len_le hL (by simp; omega)
  obtain ⟨s, hs, e1, he1⟩ : ∃ s : Nat, ((s + L = 60 ∧ (e - (60 - L)) % 2 = 0) ∨ (s + L = 59 ∧ ¬ (e - (60 - L)) % 2 = 0)) ∧ ∃ e1 : Int, e - s = 2 * e1 := by
    by_cases c : (e - (60 - L)) % 2 = 0
    · exact ⟨60 - L, Or.inl ⟨by omega, c⟩, (e - (60 - L)) / 2, by omega⟩
    · exact ⟨59 - L, Or.inr ⟨by omega, c⟩, (e - (59 - L)) / 2, by omega⟩
  have hlM := len_mul hL s
  obtain ⟨M, hM⟩ : ∃ M, M = m * 2 ^ s := ⟨_, rfl⟩
  have hM1 : 288230376151711744 ≤ M ∧ M < 1152921504606846976 := by
    rw [← hM] at hlM
    obtain ⟨_, a2, a3⟩ := hlM
    have hN : L + s = 60 ∨ L + s = 59 := by omega
    rcases hN with c | c
    · rw [c] at a2 a3
      simp at a2 a3
      omega
    · rw [c] at a2 a3
      simp at a2 a3
      omega
  obtain ⟨R, hR, r0, r1, r2, r3⟩ := implRoot (M := M) (by omega) hM1.2
  have r4 : 536870912 ≤ R := by
    rcases Int.lt_or_le R 536870912 with c | c
    · have := sq_le (a := R + 1) (b := 536870912) (by omega) (by omega)
      omega
    · exact c
  have eb : -24 - 59 ≤ 2 * e1 ∧ 2 * e1 ≤ 5 - 48 := by omega
  have wR : IntKind.u64.wrap (R * R) = R * R := u64_id (Int.mul_nonneg r0 r0) (by omega)
  have hsh : shl .u64 m (s : Int) = M := by
    rw [hM]
    exact shl64 s (by omega) (by omega) (by rw [← hM]; omega)
  -- the reference's
  obtain ⟨t, ht⟩ : ∃ t : Nat, s = t + (11 - L) + 2 := ⟨s - 2 - (11 - L), by omega⟩
  obtain ⟨M2, hM2⟩ : ∃ M2, M2 = m * 2 ^ (11 - L) * 2 ^ t := ⟨_, rfl⟩
  have h4 : M = 4 * M2 := by
    rw [hM, hM2, ht, Int.pow_add, Int.pow_add]
    grind
  obtain ⟨R2, hR2, g0, g1, g2⟩ := specRoot (M := M2) (by omega) (by omega)
  obtain ⟨q1, q2, q3⟩ := roots_rel h4 r0 r2 r3 g0 g1 g2
  have hlF := len_mul hL (11 - L)
  have eL : L + (11 - L) = 11 := by omega
  rw [eL] at hlF
  have eL2 : 11 - (11 - L) = L := by omega
  have hF := specFull10 (11 - L) m e (by rw [eL2]; exact hL) (by omega) (by omega) (by omega)
  have wR2 : IntKind.u64.wrap (R2 * R2) = R2 * R2 := u64_id (Int.mul_nonneg g0 g0) (by omega)
  have hsh2 : shl .u64 (m * 2 ^ (11 - L)) (t : Int) = M2 := by
    rw [hM2]
    have := hlF.2.1
    have p := p2_pos (11 - 1)
    exact shl64 t (by omega) (by omega) (by rw [← hM2]; omega)
  have rr := rq_same10 q1 q2 q3
  have ri := implRound10 (R := R) (e1 := e1) (R * R != M) r4 r1 (by omega) (by omega)
  have rs := specRound10 (R := R2) (e1 := e1) (R2 * R2 != M2) (by omega) (by omega) (by omega) (by omega)
  rw [← rr] at rs
  refine ⟨_, e1, R, M, s, ?_, ?_, rfl, he1, hM, r4, r1, r2, r3, by omega, by omega⟩
  · obtain ⟨L', hL', _, hE⟩ := implLen (x := m) h0 (by omega)
    obtain rfl := len_uniq hL hL'
    refine Ev.step (g := fun k => (bits_Len64.f k m).bind fun t210 => _) (fun k => by
      simp only [impl_FSqrt.j0]
      rw [if_neg (by decide), if_neg (by decide), if_neg (by decide)]) (Ev.bind hE ?_)
    have w60 : wrap64 (60 - (L : Int)) = 60 - L := by unfold wrap64; omega
    have w59 : wrap64 (60 - (L : Int) - 1) = 59 - L := by unfold wrap64; omega
    have we : wrap64 (e - (60 - (L : Int))) = e - (60 - L) := by unfold wrap64; omega
    have we9 : wrap64 (e - (59 - (L : Int))) = e - (59 - L) := by unfold wrap64; omega
    simp only [w60, w59, we, we9]
    rcases hs with ⟨c1, c2⟩ | ⟨c1, c2⟩
    · have es : (60 : Int) - L = s := by omega
      have et : Int.tdiv (e - s) 2 = e1 := td2 he1
      have ew : wrap64 e1 = e1 := by unfold wrap64; omega
      refine Ev.pos ((tm2 _).mpr c2) (Ev.pos (by omega) ?_)
      rw [es, hsh, et, ew]
      exact Ev.bind hR (Ev.bind (by rw [wR]; exact ri) (Ev.const _))
    · have es : (59 : Int) - L = s := by omega
      have et : Int.tdiv (e - s) 2 = e1 := td2 he1
      have ew : wrap64 e1 = e1 := by unfold wrap64; omega
      refine Ev.neg (fun x => c2 ((tm2 _).mp x)) (Ev.pos (by omega) ?_)
      rw [es, hsh, et, ew]
      exact Ev.bind hR (Ev.bind (by rw [wR]; exact ri) (Ev.const _))
  · refine Ev.step (g := fun k => spec_l4K_root.j0 (k + 1) false 5 10 false false false m e) (fun _ => rfl) ?_
    simp only [spec_l4K_root.j0]
    refine Ev.neg (by decide) (Ev.neg (by decide) (Ev.neg (by omega) (Ev.bind (a := (false, false, false, m * 2 ^ (11 - L), e - ((11 - L : Nat) : Int))) hF (Ev.bind (specLen hlF (by decide)) ?_))))
    have w58 : wrap64 (58 - ((11 : Nat) : Int)) = 47 := by decide +kernel
    have w57 : wrap64 (47 - 1) = 46 := by decide +kernel
    have u58 : IntKind.u64.wrap 47 = 47 := by decide +kernel
    have u57 : IntKind.u64.wrap 46 = 46 := by decide +kernel
    have we : wrap64 (e - ((11 - L : Nat) : Int) - 47) = e - ((11 - L : Nat) : Int) - 47 := by unfold wrap64; omega
    have we9 : wrap64 (e - ((11 - L : Nat) : Int) - 46) = e - ((11 - L : Nat) : Int) - 46 := by unfold wrap64; omega
    simp only [w58, w57, u58, u57, we, we9]
    rcases hs with ⟨c1, c2⟩ | ⟨c1, c2⟩
    · have es : (47 : Int) = t := by omega
      have et : Int.tdiv (e - ((11 - L : Nat) : Int) - t) 2 = e1 + 1 := td2 (by omega)
      have ew : wrap64 (e1 + 1) = e1 + 1 := by unfold wrap64; omega
      refine Ev.pos ((tm2 _).mpr (by omega)) (Ev.pos (by decide) ?_)
      rw [es, hsh2, et, ew]
      exact Ev.bind hR2 (Ev.bind (by rw [wR2]; exact rs) (Ev.const _))
    · have es : (46 : Int) = t := by omega
      have et : Int.tdiv (e - ((11 - L : Nat) : Int) - t) 2 = e1 + 1 := td2 (by omega)
      have ew : wrap64 (e1 + 1) = e1 + 1 := by unfold wrap64; omega
      refine Ev.neg (fun x => by have := (tm2 _).mp x; omega) (Ev.pos (by decide) ?_)
      rw [es, hsh2, et, ew]
      exact Ev.bind hR2 (Ev.bind (by rw [wR2]; exact rs) (Ev.const _))
theorem specFull23 : ∀ (d : Nat) (m e : Int), IsLen m (24 - d) → d ≤ 23 → -1000 ≤ e - d → e ≤ 1000 → Ev (fun k => spec_l4K_full.l0 k 8 23 false false false m e) (false, false, false, m * 2 ^ d, e - d)
  | 0, m, e, h, _, _, _ => by
    have s1 : shl .u64 1 23 = 8388608 := by decide +kernel
    obtain ⟨h1, h2, h3⟩ := h
    simp at h2 h3
    refine Ev.step (g := fun _ => some (false, false, false, m, e)) (fun k => ?_) (by simpa using Ev.const _)
    simp only [spec_l4K_full.l0, s1]
    rw [if_neg (by omega), if_pos (by decide), if_neg (by omega)]
  | d + 1, m, e, h, hd, he, he' => by
    have s1 : shl .u64 1 23 = 8388608 := by decide +kernel
    have h' := h
    obtain ⟨h1, h2, h3⟩ := h
    have hp := p2_pos (24 - (d + 1) - 1)
    have hlt : m < 8388608 := by
      have : (2 : Int) ^ (24 - (d + 1)) ≤ 2 ^ 23 := by
        have := Nat.pow_le_pow_right (n := 2) (by decide) (show 24 - (d + 1) ≤ 23 by omega)
        exact_mod_cast this
      have h10 : (2 : Int) ^ 23 = 8388608 := by decide
      rw [h10] at this
      omega
    have hl := len_dbl h'
    have el : 24 - (d + 1) + 1 = 24 - d := by omega
    rw [el] at hl
    have ih := specFull23 d (m * 2) (e - 1) hl (by omega) (by omega) (by omega)
    have e1 : m * 2 * 2 ^ d = m * 2 ^ (d + 1) := by rw [p2_succ]; grind
    have e2 : e - 1 - (d : Int) = e - ((d + 1 : Nat) : Int) := by omega
    rw [e1, e2] at ih
    have w1 : IntKind.u64.wrap (m * 2) = m * 2 := u64_id (by omega) (by omega)
    have w2 : wrap64 (e - 1) = e - 1 := by unfold wrap64; omega
    refine Ev.step (fun k => ?_) ih
    simp only [spec_l4K_full.l0, s1, w1, w2]
    rw [if_neg (by omega), if_pos (by decide), if_pos hlt]
set_option maxHeartbeats 1000000 in
theorem sqrt_core23 {m e : Int} (h0 : 0 < m) (h1 : m < 16777216) (h2 : -149 ≤ e) (h3 : e ≤ 104) :
    ∃ (r e1 R M : Int) (s : Nat), Ev (fun k => impl_FSqrt.j0 k false 23 127 false false false m e) r ∧ Ev (fun k => spec_l4K_root.j0 k false 8 23 false false false m e) r ∧
      r = (29 + e1 + 127) * 8388608 + rq 64 32 R (R * R != M) - 8388608 ∧ e - s = 2 * e1 ∧ M = m * 2 ^ s ∧ 536870912 ≤ R ∧ R < 1073741824 ∧ R * R ≤ M ∧ M < (R + 1) * (R + 1) ∧ 35 ≤ s ∧ s ≤ 59 := by
  obtain ⟨L, hL⟩ := len_ex h0
  have hL1 : 1 ≤ L := hL.1
  have hL2 : L ≤ 24 := len_le hL (by simp; omega)
  obtain ⟨s, hs, e1, he1⟩ : ∃ s : Nat, ((s + L = 60 ∧ (e - (60 - L)) % 2 = 0) ∨ (s + L = 59 ∧ ¬ (e - (60 - L)) % 2 = 0)) ∧ ∃ e1 : Int, e - s = 2 * e1 := by
    by_cases c : (e - (60 - L)) % 2 = 0
    · exact ⟨60 - L, Or.inl ⟨by omega, c⟩, (e - (60 - L)) / 2, by omega⟩
    · exact ⟨59 - L, Or.inr ⟨by omega, c⟩, (e - (59 - L)) / 2, by omega⟩
  have hlM := len_mul hL s
  obtain ⟨M, hM⟩ : ∃ M, M = m * 2 ^ s := ⟨_, rfl⟩
  have hM1 : 288230376151711744 ≤ M ∧ M < 1152921504606846976 := by
    rw [← hM] at hlM
    obtain ⟨_, a2, a3⟩ := hlM
    have hN : L + s = 60 ∨ L + s = 59 := by omega
    rcases hN with c | c
    · rw [c] at a2 a3
      simp at a2 a3
      omega
    · rw [c] at a2 a3
      simp at a2 a3
      omega
  obtain ⟨R, hR, r0, r1, r2, r3⟩ := implRoot (M := M) (by omega) hM1.2
  have r4 : 536870912 ≤ R := by
    rcases Int.lt_or_le R 536870912 with c | c
    · have := sq_le (a := R + 1) (b := 536870912) (by omega) (by omega)
      omega
    · exact c
  have eb : -149 - 59 ≤ 2 * e1 ∧ 2 * e1 ≤ 104 - 35 := by omega
  have wR : IntKind.u64.wrap (R * R) = R * R := u64_id (Int.mul_nonneg r0 r0) (by omega)
  have hsh : shl .u64 m (s : Int) = M := by
    rw [hM]
    exact shl64 s (by omega) (by omega) (by rw [← hM]; omega)
  -- the reference's
  obtain ⟨t, ht⟩ : ∃ t : Nat, s = t + (24 - L) + 2 := ⟨s - 2 - (24 - L), by omega⟩
  obtain ⟨M2, hM2⟩ : ∃ M2, M2 = m * 2 ^ (24 - L) * 2 ^ t := ⟨_, rfl⟩
  have h4 : M = 4 * M2 := by
    rw [hM, hM2, ht, Int.pow_add, Int.pow_add]
    grind
  obtain ⟨R2, hR2, g0, g1, g2⟩ := specRoot (M := M2) (by omega) (by omega)
  obtain ⟨q1, q2, q3⟩ := roots_rel h4 r0 r2 r3 g0 g1 g2
  have hlF := len_mul hL (24 - L)
  have eL : L + (24 - L) = 24 := by omega
  rw [eL] at hlF
  have eL2 : 24 - (24 - L) = L := by omega
  have hF := specFull23 (24 - L) m e (by rw [eL2]; exact hL) (by omega) (by omega) (by omega)
  have wR2 : IntKind.u64.wrap (R2 * R2) = R2 * R2 := u64_id (Int.mul_nonneg g0 g0) (by omega)
  have hsh2 : shl .u64 (m * 2 ^ (24 - L)) (t : Int) = M2 := by
    rw [hM2]
    have := hlF.2.1
    have p := p2_pos (24 - 1)
    exact shl64 t (by omega) (by omega) (by rw [← hM2]; omega)
  have rr := rq_same23 q1 q2 q3
  have ri := implRound23 (R := R) (e1 := e1) (R * R != M) r4 r1 (by omega) (by omega)
  have rs := specRound23 (R := R2) (e1 := e1) (R2 * R2 != M2) (by omega) (by omega) (by omega) (by omega)
  rw [← rr] at rs
  refine ⟨_, e1, R, M, s, ?_, ?_, rfl, he1, hM, r4, r1, r2, r3, by omega, by omega⟩
  · obtain ⟨L', hL', _, hE⟩ := implLen (x := m) h0 (by omega)
    obtain rfl := len_uniq hL hL'
    refine Ev.step (g := fun k => (bits_Len64.f k m).bind fun t210 => _) (fun k => by
      simp only [impl_FSqrt.j0]
      rw [if_neg (by decide), if_neg (by decide), if_neg (by decide)]) (Ev.bind hE ?_)
    have w60 : wrap64 (60 - (L : Int)) = 60 - L := by unfold wrap64; omega
    have w59 : wrap64 (60 - (L : Int) - 1) = 59 - L := by unfold wrap64; omega
    have we : wrap64 (e - (60 - (L : Int))) = e - (60 - L) := by unfold wrap64; omega
    have we9 : wrap64 (e - (59 - (L : Int))) = e - (59 - L) := by unfold wrap64; omega
    simp only [w60, w59, we, we9]
    rcases hs with ⟨c1, c2⟩ | ⟨c1, c2⟩
    · have es : (60 : Int) - L = s := by omega
      have et : Int.tdiv (e - s) 2 = e1 := td2 he1
      have ew : wrap64 e1 = e1 := by unfold wrap64; omega
      refine Ev.pos ((tm2 _).mpr c2) (Ev.pos (by omega) ?_)
      rw [es, hsh, et, ew]
      exact Ev.bind hR (Ev.bind (by rw [wR]; exact ri) (Ev.const _))
    · have es : (59 : Int) - L = s := by omega
      have et : Int.tdiv (e - s) 2 = e1 := td2 he1
      have ew : wrap64 e1 = e1 := by unfold wrap64; omega
      refine Ev.neg (fun x => c2 ((tm2 _).mp x)) (Ev.pos (by omega) ?_)
      rw [es, hsh, et, ew]
      exact Ev.bind hR (Ev.bind (by rw [wR]; exact ri) (Ev.const _))
  · refine Ev.step (g := fun k => spec_l4K_root.j0 (k + 1) false 8 23 false false false m e) (fun _ => rfl) ?_
    simp only [spec_l4K_root.j0]
    refine Ev.neg (by decide) (Ev.neg (by decide) (Ev.neg (by omega) (Ev.bind (a := (false, false, false, m * 2 ^ (24 - L), e - ((24 - L : Nat) : Int))) hF (Ev.bind (specLen hlF (by decide)) ?_))))
    have w58 : wrap64 (58 - ((24 : Nat) : Int)) = 34 := by decide +kernel
    have w57 : wrap64 (34 - 1) = 33 := by decide +kernel
    have u58 : IntKind.u64.wrap 34 = 34 := by decide +kernel
    have u57 : IntKind.u64.wrap 33 = 33 := by decide +kernel
    have we : wrap64 (e - ((24 - L : Nat) : Int) - 34) = e - ((24 - L : Nat) : Int) - 34 := by unfold wrap64; omega
    have we9 : wrap64 (e - ((24 - L : Nat) : Int) - 33) = e - ((24 - L : Nat) : Int) - 33 := by unfold wrap64; omega
    simp only [w58, w57, u58, u57, we, we9]
    rcases hs with ⟨c1, c2⟩ | ⟨c1, c2⟩
    · have es : (34 : Int) = t := by omega
      have et : Int.tdiv (e - ((24 - L : Nat) : Int) - t) 2 = e1 + 1 := td2 (by omega)
      have ew : wrap64 (e1 + 1) = e1 + 1 := by unfold wrap64; omega
      refine Ev.pos ((tm2 _).mpr (by omega)) (Ev.pos (by decide) ?_)
      rw [es, hsh2, et, ew]
      exact Ev.bind hR2 (Ev.bind (by rw [wR2]; exact rs) (Ev.const _))
    · have es : (33 : Int) = t := by omega
      have et : Int.tdiv (e - ((24 - L : Nat) : Int) - t) 2 = e1 + 1 := td2 (by omega)
      have ew : wrap64 (e1 + 1) = e1 + 1 := by unfold wrap64; omega
      refine Ev.neg (fun x => by have := (tm2 _).mp x; omega) (Ev.pos (by decide) ?_)
      rw [es, hsh2, et, ew]
      exact Ev.bind hR2 (Ev.bind (by rw [wR2]; exact rs) (Ev.const _))
end Go.Proofs.Ytdoflfifnkpacaa.FR
