/-
  Plain laws behind FnRounded: sums, products and quotients of halves and singles.
-/
import Derived.Test.YtdoflfifnkpacaaC18FaO
namespace Go.Proofs.Ytdoflfifnkpacaa.FA
open Go.RowKit Go.Proofs.YtdoflfifnkpacaaW.PrintWords Go.Proofs.YtdoflfifnkpacaaW.PrintLast Go.Proofs.YtdoflfifnkpacaaW.PrintMore
set_option linter.unusedSimpArgs false
set_option linter.unusedVariables false
theorem div_cut1 {N y : Int} (t : Nat) (hy : 0 < y) : N * 2 ^ t / y / 2 ^ t = N / y := by
  have hp := p2_pos t
  rw [Int.ediv_ediv_of_nonneg (Int.le_of_lt hy), Int.mul_ediv_mul_of_pos_left _ _ hp]
theorem div_cut2 {N y : Int} (t : Nat) (hy : 0 < y) : (decide (N * 2 ^ t / y % 2 ^ t ≠ 0) || decide (N * 2 ^ t % y ≠ 0)) = decide (N % y ≠ 0) := by
  have hp := p2_pos t
  have h1 := Int.emod_add_mul_ediv (N * 2 ^ t) y
  have h2 := Int.emod_add_mul_ediv (N * 2 ^ t / y) (2 ^ t)
  have h3 := Int.emod_add_mul_ediv N y
  rw [div_cut1 t hy] at h2
  have b0 := Int.emod_nonneg (N * 2 ^ t) (b := y) (by omega)
  have b1 := Int.emod_nonneg (N * 2 ^ t / y) (b := 2 ^ t) (by omega)
  have b2 := Int.emod_nonneg N (b := y) (by omega)
  generalize N * 2 ^ t / y % 2 ^ t = r at *
  generalize N * 2 ^ t % y = r1 at *
  generalize N % y = r0 at *
  generalize N * 2 ^ t / y = q1 at *
  generalize N / y = q at *
  generalize (2 : Int) ^ t = g at *
  -- N g = r1 + y (r + g q), N = r0 + y q
  have key : r0 * g = r1 + y * r := by
    have e1 : N * g = r0 * g + y * q * g := by rw [← h3]; grind
    have e2 : y * q1 = y * r + y * q * g := by rw [← h2]; grind
    omega
  rw [Bool.eq_iff_iff]
  simp only [Bool.or_eq_true, decide_eq_true_eq, ne_eq]
  constructor
  · intro h z
    subst z
    have : 0 ≤ y * r := Int.mul_nonneg (by omega) b1
    have h0 : r1 = 0 ∧ y * r = 0 := by omega
    rcases h with h | h
    · rcases Int.mul_eq_zero.1 h0.2 with c | c <;> omega
    · exact h h0.1
  · intro h
    rcases Decidable.em (r = 0) with c | c
    · right
      intro z
      rw [c, z] at key
      have : r0 * g = 0 := by omega
      rcases Int.mul_eq_zero.1 this with d | d <;> omega
    · exact Or.inl c
theorem specFull10 (ng : Bool) : ∀ (d : Nat) (m e : Int), IsLen m (10 + 1 - d) → d ≤ 10 → -1000 ≤ e - d → e ≤ 1000 → Ev (fun k => spec_l4K_full.l0 k 5 10 ng false false m e) (ng, false, false, m * 2 ^ d, e - d)
  | 0, m, e, h, _, _, _ => by
    have s1 : shl .u64 1 10 = 1024 := by decide +kernel
    obtain ⟨h1, h2, h3⟩ := h
    simp at h2 h3
    refine Ev.step (g := fun _ => some (ng, false, false, m, e)) (fun k => ?_) (by simpa using Ev.const _)
    simp only [spec_l4K_full.l0, s1]
    rw [if_neg (by omega), if_pos (by decide), if_neg (by omega)]
  | d + 1, m, e, h, hd, he, he' => by
    have s1 : shl .u64 1 10 = 1024 := by decide +kernel
    have h' := h
    obtain ⟨h1, h2, h3⟩ := h
    have hp := p2_pos (10 + 1 - (d + 1) - 1)
    have hlt : m < 1024 := by
      have := p2_le (show 10 + 1 - (d + 1) ≤ 10 by omega)
      have h10 : (2 : Int) ^ 10 = 1024 := by decide
      rw [h10] at this
      omega
    have hl := len_dbl h'
    have el : 10 + 1 - (d + 1) + 1 = 10 + 1 - d := by omega
    rw [el] at hl
    have ih := specFull10 ng d (m * 2) (e - 1) hl (by omega) (by omega) (by omega)
    have e1 : m * 2 * 2 ^ d = m * 2 ^ (d + 1) := by rw [p2_succ]; grind
    have e2 : e - 1 - (d : Int) = e - ((d + 1 : Nat) : Int) := by omega
    rw [e1, e2] at ih
    have w1 : IntKind.u64.wrap (m * 2) = m * 2 := u64_id (by omega) (by omega)
    have w2 : wrap64 (e - 1) = e - 1 := by unfold wrap64; omega
    refine Ev.step (fun k => ?_) ih
    simp only [spec_l4K_full.l0, s1, w1, w2]
    rw [if_neg (by omega), if_pos (by decide), if_pos hlt]
def quotv10 (neg : Bool) (xm xe ym ye : Int) : Int := flt 32768 10 (-24) 31 neg (xm * 2 ^ (60 - lenOf xm) / ym) (xe - ((60 - lenOf xm : Nat) : Int) - ye) (decide (xm * 2 ^ (60 - lenOf xm) % ym ≠ 0))
theorem lenLe10 {m : Int} (h0 : 0 < m) (h1 : m < 2048) : 1 ≤ lenOf m ∧ lenOf m ≤ 10 + 1 :=
  ⟨(isLen_of h0).1, len_le (isLen_of h0) (by rw [show (2 : Int) ^ (10 + 1) = 2048 by decide]; exact h1)⟩
theorem implQuot10 {xm xe ym ye : Int} (neg b1 b2 b3 b4 b5 b6 : Bool) (hx : Fin10 xm xe) (hy : Fin10 ym ye) (hx0 : 0 < xm) (hy0 : 0 < ym) :
    Ev (fun k => impl_FDiv.j3 k neg false 10 15 b1 b2 b3 xm xe b4 b5 b6 ym ye) (quotv10 neg xm xe ym ye) := by
  obtain ⟨x0, x1, x2, x3, _⟩ := hx
  obtain ⟨y0, y1, y2, y3, _⟩ := hy
  obtain ⟨l1, l2⟩ := lenLe10 hx0 x1
  obtain ⟨L, hL, _, hE⟩ := implLen (x := xm) hx0 (by omega)
  obtain rfl := len_uniq hL (isLen_of hx0)
  have hlt := (len_mul (isLen_of hx0) (60 - lenOf xm)).2.2
  have e60 : lenOf xm + (60 - lenOf xm) = 60 := by omega
  rw [e60, show (2 : Int) ^ 60 = 1152921504606846976 by decide] at hlt
  have w1 : wrap64 (60 - (lenOf xm : Int)) = ((60 - lenOf xm : Nat) : Int) := by rw [w64_id (by omega) (by omega)]; omega
  have w2 : shl .u64 xm ((60 - lenOf xm : Nat) : Int) = xm * 2 ^ (60 - lenOf xm) := shl64 _ (by omega) x0 (by omega)
  have hp := p2_pos (60 - lenOf xm)
  have hm0 : 0 ≤ xm * 2 ^ (60 - lenOf xm) := Int.mul_nonneg x0 (by omega)
  have hq0 : 0 ≤ xm * 2 ^ (60 - lenOf xm) / ym := Int.ediv_nonneg hm0 y0
  have hq1 : xm * 2 ^ (60 - lenOf xm) / ym ≤ xm * 2 ^ (60 - lenOf xm) := Int.ediv_le_self _ hm0
  have w3 : Int.tdiv (xm * 2 ^ (60 - lenOf xm)) ym = xm * 2 ^ (60 - lenOf xm) / ym := Int.tdiv_eq_ediv_of_nonneg hm0
  have w4 : Int.tmod (xm * 2 ^ (60 - lenOf xm)) ym = xm * 2 ^ (60 - lenOf xm) % ym := Int.tmod_eq_emod_of_nonneg hm0
  have w5 : IntKind.u64.wrap (xm * 2 ^ (60 - lenOf xm) / ym) = xm * 2 ^ (60 - lenOf xm) / ym := u64_id hq0 (by omega)
  have w6 : (xm * 2 ^ (60 - lenOf xm) % ym != 0) = decide (xm * 2 ^ (60 - lenOf xm) % ym ≠ 0) := by
    rw [Bool.eq_iff_iff]
    simp
  have w7 : wrap64 (wrap64 (xe - ((60 - lenOf xm : Nat) : Int)) - ye) = xe - ((60 - lenOf xm : Nat) : Int) - ye := by
    rw [w64_id (n := xe - ((60 - lenOf xm : Nat) : Int)) (by omega) (by omega), w64_id (by omega) (by omega)]
  have J := implFlt10 (m := xm * 2 ^ (60 - lenOf xm) / ym) (e := xe - ((60 - lenOf xm : Nat) : Int) - ye) neg (decide (xm * 2 ^ (60 - lenOf xm) % ym ≠ 0)) hq0 (by omega) (by omega) (by omega)
  unfold quotv10
  refine Ev.step (g := fun k => _) (fun k => by simp only [impl_FDiv.j3]; rfl) ?_
  refine Ev.neg (by decide) (Ev.bind hE ?_)
  simp only [w1, w2, w3, w4, w5, w6, w7]
  exact Ev.pos (by omega) (Ev.neg (by omega) (Ev.bind J (Ev.const _)))
theorem specQuot10 {xm xe ym ye : Int} (neg xn yn : Bool) (hx : Fin10 xm xe) (hy : Fin10 ym ye) (hx0 : 0 < xm) (hy0 : 0 < ym) :
    Ev (fun k => spec_l4K_quotient.j2 k neg false 5 10 xn false false xm xe yn false false ym ye) (quotv10 neg xm xe ym ye) := by
  obtain ⟨x0, x1, x2, x3, _⟩ := hx
  obtain ⟨y0, y1, y2, y3, _⟩ := hy
  obtain ⟨l1, l2⟩ := lenLe10 hx0 x1
  obtain ⟨r1, r2⟩ := lenLe10 hy0 y1
  have hlx := isLen_of hx0
  have hly := isLen_of hy0
  obtain ⟨dx, hdx⟩ : ∃ dx, lenOf xm = 10 + 1 - dx ∧ dx ≤ 10 := ⟨10 + 1 - lenOf xm, by omega, by omega⟩
  obtain ⟨dy, hdy⟩ : ∃ dy, lenOf ym = 10 + 1 - dy ∧ dy ≤ 10 := ⟨10 + 1 - lenOf ym, by omega, by omega⟩
  have F1 := specFull10 xn dx xm xe (by rw [← hdx.1]; exact hlx) hdx.2 (by omega) (by omega)
  have F2 := specFull10 yn dy ym ye (by rw [← hdy.1]; exact hly) hdy.2 (by omega) (by omega)
  obtain ⟨j, hj⟩ : ∃ j : Nat, dx + 30 = dy + j := ⟨30 + dx - dy, by omega⟩
  obtain ⟨t, ht⟩ : ∃ t : Nat, 60 - lenOf xm = j + t := ⟨60 - lenOf xm - j, by omega⟩
  have htl : t + lenOf ym = 30 := by omega
  have pj := p2_pos j
  have pdy := p2_pos dy
  have pdx := p2_pos dx
  have pt := p2_pos t
  have hN0 : 0 ≤ xm * 2 ^ j := Int.mul_nonneg x0 (by omega)
  have hA : xm * 2 ^ dx * 1073741824 = xm * 2 ^ j * 2 ^ dy := by
    rw [show (1073741824 : Int) = 2 ^ 30 by decide, Int.mul_assoc, ← p2_add, hj, p2_add, Int.mul_comm (2 ^ dy), ← Int.mul_assoc]
  have hM : xm * 2 ^ (60 - lenOf xm) = xm * 2 ^ j * 2 ^ t := by rw [ht, p2_add, Int.mul_assoc]
  have hAlt : xm * 2 ^ dx * 1073741824 < 18446744073709551616 := by
    have h1 := (len_mul hlx dx).2.2
    have h2 := p2_le (show lenOf xm + dx ≤ 10 + 1 by omega)
    rw [show (2 : Int) ^ (10 + 1) = 2048 by decide] at h2
    omega
  have hA0 : 0 ≤ xm * 2 ^ dx * 1073741824 := by rw [hA]; exact Int.mul_nonneg hN0 (by omega)
  have hB0 : 0 < ym * 2 ^ dy := Int.mul_pos hy0 pdy
  have hdiv : xm * 2 ^ dx * 1073741824 / (ym * 2 ^ dy) = xm * 2 ^ j / ym := by rw [hA, Int.mul_ediv_mul_of_pos_left _ _ pdy]
  have hmod : (xm * 2 ^ dx * 1073741824 % (ym * 2 ^ dy) != 0) = decide (xm * 2 ^ j % ym ≠ 0) := by
    have h3 := Int.emod_add_mul_ediv (xm * 2 ^ dx * 1073741824) (ym * 2 ^ dy)
    have h4 := Int.emod_add_mul_ediv (xm * 2 ^ j) ym
    rw [hdiv] at h3
    have e : xm * 2 ^ dx * 1073741824 % (ym * 2 ^ dy) = xm * 2 ^ j % ym * 2 ^ dy := by
      generalize xm * 2 ^ dx * 1073741824 % (ym * 2 ^ dy) = r at *
      generalize xm * 2 ^ j % ym = s at *
      generalize xm * 2 ^ j / ym = q at *
      rw [hA, ← h4] at h3
      have : (s + ym * q) * 2 ^ dy = s * 2 ^ dy + ym * 2 ^ dy * q := by grind
      omega
    rw [e, Bool.eq_iff_iff]
    simp only [bne_iff_ne, ne_eq, decide_eq_true_eq]
    constructor
    · intro h z
      rw [z, Int.zero_mul] at h
      exact h rfl
    · intro h z
      rcases Int.mul_eq_zero.1 z with c | c <;> omega
  have hq0 : 0 ≤ xm * 2 ^ j / ym := Int.ediv_nonneg hN0 y0
  have hq1 : xm * 2 ^ j / ym < 2305843009213693952 := by
    have h1 := Int.ediv_le_self ym hN0
    have h2 := (len_mul hlx j).2.2
    have h3 := p2_le (show lenOf xm + j ≤ 60 by omega)
    rw [show (2 : Int) ^ 60 = 1152921504606846976 by decide] at h3
    omega
  have hbig : 2048 ≤ xm * 2 ^ j / ym := by
    refine le_div hy0 ?_
    have h1 := (len_mul hlx j).2.1
    have h2 := hly.2.2
    have h3 : (2 : Int) ^ (lenOf xm + j - 1) = 536870912 * 2 ^ lenOf ym := by
      rw [show (536870912 : Int) = 2 ^ 29 by decide, ← p2_add]
      congr 1
      omega
    rw [h3] at h1
    have h4 : (2048 : Int) * ym ≤ 536870912 * ym := Int.mul_le_mul_of_nonneg_right (by omega) y0
    omega
  have hv : quotv10 neg xm xe ym ye = flt 32768 10 (-24) 31 neg (xm * 2 ^ j / ym) (xe - dx - 30 - (ye - dy)) (decide (xm * 2 ^ j % ym ≠ 0)) := by
    unfold quotv10
    rw [hM]
    have e1 : xm * 2 ^ j * 2 ^ t / ym = xm * 2 ^ j / ym * 2 ^ t + xm * 2 ^ j * 2 ^ t / ym % 2 ^ t := by
      have h3 := Int.emod_add_mul_ediv (xm * 2 ^ j * 2 ^ t / ym) (2 ^ t)
      rw [div_cut1 t hy0] at h3
      have hc := Int.mul_comm (2 ^ t) (xm * 2 ^ j / ym)
      omega
    have e2 := div_cut2 (N := xm * 2 ^ j) t hy0
    have m0 := Int.emod_nonneg (xm * 2 ^ j * 2 ^ t / ym) (b := 2 ^ t) (by omega)
    have m1 := Int.emod_lt_of_pos (xm * 2 ^ j * 2 ^ t / ym) pt
    generalize xm * 2 ^ j * 2 ^ t / ym % 2 ^ t = r at *
    rw [e1, flt_cut10 neg _ hbig m0 m1, e2]
    congr 1
    omega
  rw [hv]
  have J := specFlt10 (m := xm * 2 ^ j / ym) (e := xe - dx - 30 - (ye - dy)) neg (decide (xm * 2 ^ j % ym ≠ 0)) hq0 hq1 (by omega) (by omega)
  have w1 : IntKind.u64.wrap (xm * 2 ^ dx * 1073741824) = xm * 2 ^ dx * 1073741824 := u64_id hA0 hAlt
  have w3 : Int.tdiv (xm * 2 ^ dx * 1073741824) (ym * 2 ^ dy) = xm * 2 ^ j / ym := by rw [Int.tdiv_eq_ediv_of_nonneg hA0, hdiv]
  have w4 : (Int.tmod (xm * 2 ^ dx * 1073741824) (ym * 2 ^ dy) != 0) = decide (xm * 2 ^ j % ym ≠ 0) := by rw [Int.tmod_eq_emod_of_nonneg hA0, hmod]
  have w5 : IntKind.u64.wrap (xm * 2 ^ j / ym) = xm * 2 ^ j / ym := u64_id hq0 (by omega)
  have w7 : wrap64 (wrap64 (xe - dx - 30) - (ye - dy)) = xe - dx - 30 - (ye - dy) := by
    rw [w64_id (n := xe - dx - 30) (by omega) (by omega), w64_id (by omega) (by omega)]
  refine Ev.step (g := fun k => _) (fun k => by simp only [spec_l4K_quotient.j2, spec_l4K_full.f]; rfl) ?_
  refine Ev.neg (by decide) (Ev.bind F1 (Ev.bind F2 ?_))
  simp only [w1, w3, w4, w5, w7]
  exact Ev.neg (by omega) (Ev.bind J (Ev.const _))
def divv10 (x y : Bool × Bool × Bool × Int × Int) : Int :=
  if (x.2.1 || y.2.1 || (x.2.2.1 && y.2.2.1) || (!x.2.2.1 && !y.2.2.1 && (x.2.2.2.1 == 0) && (y.2.2.2.1 == 0))) = true then 32256 else (if (x.2.2.1 || (!y.2.2.1 && (y.2.2.2.1 == 0))) = true then sg 32768 (x.1 != y.1) + 31744 else (if (y.2.2.1 || (x.2.2.2.1 == 0)) = true then sg 32768 (x.1 != y.1) else quotv10 (x.1 != y.1) x.2.2.2.1 x.2.2.2.2 y.2.2.2.1 y.2.2.2.2))
theorem implDiv10 {a b : Int} (a0 : 0 ≤ a) (a1 : a < 4294967296) (b0 : 0 ≤ b) (b1 : b < 4294967296) :
    Ev (fun k => impl_FDiv.f k 16 a b) (divv10 (parts 1024 32 32768 (-24) a) (parts 1024 32 32768 (-24) b)) := by
  have hk : impl_formatOf.f 16 = some (10, 15, true) := by decide +kernel
  have hn : impl_format_noNumber.f 10 15 = some 32256 := by decide +kernel
  have hs : ∀ neg, impl_format_signed.f 10 15 neg 0 = some (sg 32768 neg) := fun neg => by rw [implSigned10 neg (by omega) (by omega), Int.add_zero]
  unfold impl_FDiv.f
  simp only [hk, Option.bind_some, implOpen10 a0 a1, implOpen10 b0 b1]
  rcases partsEx10 a0 with ⟨ng, na, ha⟩ | ⟨ng, m, e, ha, hf⟩ <;> rcases partsEx10 b0 with ⟨mg, ma, hb⟩ | ⟨mg, n, f, hb, hg⟩ <;> simp only [ha, hb]
  · cases na <;> cases ma <;> cases ng <;> cases mg <;> exact ⟨4, fun k hk => by (obtain ⟨j, rfl⟩ : ∃ j, k = j + 4 := ⟨k - 4, by omega⟩); simp [impl_FDiv.j0, impl_FDiv.j1, impl_FDiv.j2, impl_FDiv.j3, hn, hs, implInf10, divv10]⟩
  · by_cases z : n = 0 <;> cases na <;> cases ng <;> cases mg <;> exact ⟨4, fun k hk => by (obtain ⟨j, rfl⟩ : ∃ j, k = j + 4 := ⟨k - 4, by omega⟩); simp [impl_FDiv.j0, impl_FDiv.j1, impl_FDiv.j2, impl_FDiv.j3, hn, hs, implInf10, divv10, z]⟩
  · by_cases z : m = 0 <;> cases ma <;> cases ng <;> cases mg <;> exact ⟨4, fun k hk => by (obtain ⟨j, rfl⟩ : ∃ j, k = j + 4 := ⟨k - 4, by omega⟩); simp [impl_FDiv.j0, impl_FDiv.j1, impl_FDiv.j2, impl_FDiv.j3, hn, hs, implInf10, divv10, z]⟩
  · by_cases z : m = 0
    · by_cases y : n = 0 <;> exact ⟨4, fun k hk => by (obtain ⟨j, rfl⟩ : ∃ j, k = j + 4 := ⟨k - 4, by omega⟩); simp [impl_FDiv.j0, impl_FDiv.j1, impl_FDiv.j2, impl_FDiv.j3, hn, hs, implInf10, divv10, z, y]⟩
    · by_cases y : n = 0
      · exact ⟨4, fun k hk => by (obtain ⟨j, rfl⟩ : ∃ j, k = j + 4 := ⟨k - 4, by omega⟩); simp [impl_FDiv.j0, impl_FDiv.j1, impl_FDiv.j2, impl_FDiv.j3, hn, hs, implInf10, divv10, z, y]⟩
      · have J := implQuot10 (ng != mg) ng false false mg false false hf hg (by have := hf.m0; omega) (by have := hg.m0; omega)
        have hv : divv10 (ng, false, false, m, e) (mg, false, false, n, f) = quotv10 (ng != mg) m e n f := by simp [divv10, z, y]
        rw [hv]
        have zb : (m == 0) = false := by simpa using z
        have yb : (n == 0) = false := by simpa using y
        refine Ev.eq (g := fun k => impl_FDiv.j0 k (ng != mg) false false 10 15 ng false false m e mg false false n f) (fun k => by simp [zb, yb]) ?_
        refine Ev.step (g := fun k => impl_FDiv.j1 k (ng != mg) false false false 10 15 ng false false m e mg false false n f) (fun k => by simp [impl_FDiv.j0]) ?_
        refine Ev.step (g := fun k => impl_FDiv.j2 k (ng != mg) false false 10 15 ng false false m e mg false false n f) (fun k => by simp [impl_FDiv.j1]) ?_
        exact Ev.step (g := fun k => impl_FDiv.j3 k (ng != mg) false 10 15 ng false false m e mg false false n f) (fun k => by simp [impl_FDiv.j2]) J
theorem specDiv10 {a b : Int} (a0 : 0 ≤ a) (a1 : a < 4294967296) (b0 : 0 ≤ b) (b1 : b < 4294967296) :
    Ev (fun k => spec_FDiv.f k 16 a b) (divv10 (parts 1024 32 32768 (-24) a) (parts 1024 32 32768 (-24) b)) := by
  have hk : spec_l4Kind.f 16 = some (5, 10, true) := by decide +kernel
  have hn : spec_l4K_nan.f 5 10 = some 32256 := by decide +kernel
  unfold spec_FDiv.f
  simp only [hk, Option.bind_some, specOpen10 a0 a1, specOpen10 b0 b1]
  refine Ev.pos trivial ?_
  unfold spec_l4K_quotient.f
  rcases partsEx10 a0 with ⟨ng, na, ha⟩ | ⟨ng, m, e, ha, hf⟩ <;> rcases partsEx10 b0 with ⟨mg, ma, hb⟩ | ⟨mg, n, f, hb, hg⟩ <;> simp only [ha, hb]
  · cases na <;> cases ma <;> cases ng <;> cases mg <;> exact ⟨4, fun k hk => by (obtain ⟨j, rfl⟩ : ∃ j, k = j + 4 := ⟨k - 4, by omega⟩); simp [spec_l4K_quotient.j0, spec_l4K_quotient.j1, spec_l4K_quotient.j2, hn, specSign10, specInf10, divv10]⟩
  · by_cases z : n = 0 <;> cases na <;> cases ng <;> cases mg <;> exact ⟨4, fun k hk => by (obtain ⟨j, rfl⟩ : ∃ j, k = j + 4 := ⟨k - 4, by omega⟩); simp [spec_l4K_quotient.j0, spec_l4K_quotient.j1, spec_l4K_quotient.j2, hn, specSign10, specInf10, divv10, z]⟩
  · by_cases z : m = 0 <;> cases ma <;> cases ng <;> cases mg <;> exact ⟨4, fun k hk => by (obtain ⟨j, rfl⟩ : ∃ j, k = j + 4 := ⟨k - 4, by omega⟩); simp [spec_l4K_quotient.j0, spec_l4K_quotient.j1, spec_l4K_quotient.j2, hn, specSign10, specInf10, divv10, z]⟩
  · by_cases z : m = 0
    · by_cases y : n = 0 <;> exact ⟨4, fun k hk => by (obtain ⟨j, rfl⟩ : ∃ j, k = j + 4 := ⟨k - 4, by omega⟩); simp [spec_l4K_quotient.j0, spec_l4K_quotient.j1, spec_l4K_quotient.j2, hn, specSign10, specInf10, divv10, z, y]⟩
    · by_cases y : n = 0
      · exact ⟨4, fun k hk => by (obtain ⟨j, rfl⟩ : ∃ j, k = j + 4 := ⟨k - 4, by omega⟩); simp [spec_l4K_quotient.j0, spec_l4K_quotient.j1, spec_l4K_quotient.j2, hn, specSign10, specInf10, divv10, z, y]⟩
      · have J := specQuot10 (ng != mg) ng mg hf hg (by have := hf.m0; omega) (by have := hg.m0; omega)
        have hv : divv10 (ng, false, false, m, e) (mg, false, false, n, f) = quotv10 (ng != mg) m e n f := by simp [divv10, z, y]
        rw [hv]
        have zb : (m == 0) = false := by simpa using z
        have yb : (n == 0) = false := by simpa using y
        refine Ev.eq (g := fun k => (spec_l4K_quotient.j0 k (ng != mg) false 5 10 ng false false m e mg false false n f).bind fun t => some t) (fun k => by simp [z]) ?_
        refine Ev.bind ?_ (Ev.const _)
        refine Ev.step (g := fun k => spec_l4K_quotient.j1 k (ng != mg) false 5 10 ng false false m e mg false false n f) (fun k => by simp [spec_l4K_quotient.j0, yb]) ?_
        exact Ev.step (g := fun k => spec_l4K_quotient.j2 k (ng != mg) false 5 10 ng false false m e mg false false n f) (fun k => by simp [spec_l4K_quotient.j1, zb]) J
theorem specFull23 (ng : Bool) : ∀ (d : Nat) (m e : Int), IsLen m (23 + 1 - d) → d ≤ 23 → -1000 ≤ e - d → e ≤ 1000 → Ev (fun k => spec_l4K_full.l0 k 8 23 ng false false m e) (ng, false, false, m * 2 ^ d, e - d)
  | 0, m, e, h, _, _, _ => by
    have s1 : shl .u64 1 23 = 8388608 := by decide +kernel
    obtain ⟨h1, h2, h3⟩ := h
    simp at h2 h3
    refine Ev.step (g := fun _ => some (ng, false, false, m, e)) (fun k => ?_) (by simpa using Ev.const _)
    simp only [spec_l4K_full.l0, s1]
    rw [if_neg (by omega), if_pos (by decide), if_neg (by omega)]
  | d + 1, m, e, h, hd, he, he' => by
    have s1 : shl .u64 1 23 = 8388608 := by decide +kernel
    have h' := h
    obtain ⟨h1, h2, h3⟩ := h
    have hp := p2_pos (23 + 1 - (d + 1) - 1)
    have hlt : m < 8388608 := by
      have := p2_le (show 23 + 1 - (d + 1) ≤ 23 by omega)
      have h10 : (2 : Int) ^ 23 = 8388608 := by decide
      rw [h10] at this
      omega
    have hl := len_dbl h'
    have el : 23 + 1 - (d + 1) + 1 = 23 + 1 - d := by omega
    rw [el] at hl
    have ih := specFull23 ng d (m * 2) (e - 1) hl (by omega) (by omega) (by omega)
    have e1 : m * 2 * 2 ^ d = m * 2 ^ (d + 1) := by rw [p2_succ]; grind
    have e2 : e - 1 - (d : Int) = e - ((d + 1 : Nat) : Int) := by omega
    rw [e1, e2] at ih
    have w1 : IntKind.u64.wrap (m * 2) = m * 2 := u64_id (by omega) (by omega)
    have w2 : wrap64 (e - 1) = e - 1 := by unfold wrap64; omega
    refine Ev.step (fun k => ?_) ih
    simp only [spec_l4K_full.l0, s1, w1, w2]
    rw [if_neg (by omega), if_pos (by decide), if_pos hlt]
def quotv23 (neg : Bool) (xm xe ym ye : Int) : Int := flt 2147483648 23 (-149) 255 neg (xm * 2 ^ (60 - lenOf xm) / ym) (xe - ((60 - lenOf xm : Nat) : Int) - ye) (decide (xm * 2 ^ (60 - lenOf xm) % ym ≠ 0))
theorem lenLe23 {m : Int} (h0 : 0 < m) (h1 : m < 16777216) : 1 ≤ lenOf m ∧ lenOf m ≤ 23 + 1 :=
  ⟨(isLen_of h0).1, len_le (isLen_of h0) (by rw [show (2 : Int) ^ (23 + 1) = 16777216 by decide]; exact h1)⟩
theorem implQuot23 {xm xe ym ye : Int} (neg b1 b2 b3 b4 b5 b6 : Bool) (hx : Fin23 xm xe) (hy : Fin23 ym ye) (hx0 : 0 < xm) (hy0 : 0 < ym) :
    Ev (fun k => impl_FDiv.j3 k neg false 23 127 b1 b2 b3 xm xe b4 b5 b6 ym ye) (quotv23 neg xm xe ym ye) := by
  obtain ⟨x0, x1, x2, x3, _⟩ := hx
  obtain ⟨y0, y1, y2, y3, _⟩ := hy
  obtain ⟨l1, l2⟩ := lenLe23 hx0 x1
  obtain ⟨L, hL, _, hE⟩ := implLen (x := xm) hx0 (by omega)
  obtain rfl := len_uniq hL (isLen_of hx0)
  have hlt := (len_mul (isLen_of hx0) (60 - lenOf xm)).2.2
  have e60 : lenOf xm + (60 - lenOf xm) = 60 := by omega
  rw [e60, show (2 : Int) ^ 60 = 1152921504606846976 by decide] at hlt
  have w1 : wrap64 (60 - (lenOf xm : Int)) = ((60 - lenOf xm : Nat) : Int) := by rw [w64_id (by omega) (by omega)]; omega
  have w2 : shl .u64 xm ((60 - lenOf xm : Nat) : Int) = xm * 2 ^ (60 - lenOf xm) := shl64 _ (by omega) x0 (by omega)
  have hp := p2_pos (60 - lenOf xm)
  have hm0 : 0 ≤ xm * 2 ^ (60 - lenOf xm) := Int.mul_nonneg x0 (by omega)
  have hq0 : 0 ≤ xm * 2 ^ (60 - lenOf xm) / ym := Int.ediv_nonneg hm0 y0
  have hq1 : xm * 2 ^ (60 - lenOf xm) / ym ≤ xm * 2 ^ (60 - lenOf xm) := Int.ediv_le_self _ hm0
  have w3 : Int.tdiv (xm * 2 ^ (60 - lenOf xm)) ym = xm * 2 ^ (60 - lenOf xm) / ym := Int.tdiv_eq_ediv_of_nonneg hm0
  have w4 : Int.tmod (xm * 2 ^ (60 - lenOf xm)) ym = xm * 2 ^ (60 - lenOf xm) % ym := Int.tmod_eq_emod_of_nonneg hm0
  have w5 : IntKind.u64.wrap (xm * 2 ^ (60 - lenOf xm) / ym) = xm * 2 ^ (60 - lenOf xm) / ym := u64_id hq0 (by omega)
  have w6 : (xm * 2 ^ (60 - lenOf xm) % ym != 0) = decide (xm * 2 ^ (60 - lenOf xm) % ym ≠ 0) := by
    rw [Bool.eq_iff_iff]
    simp
  have w7 : wrap64 (wrap64 (xe - ((60 - lenOf xm : Nat) : Int)) - ye) = xe - ((60 - lenOf xm : Nat) : Int) - ye := by
    rw [w64_id (n := xe - ((60 - lenOf xm : Nat) : Int)) (by omega) (by omega), w64_id (by omega) (by omega)]
  have J := implFlt23 (m := xm * 2 ^ (60 - lenOf xm) / ym) (e := xe - ((60 - lenOf xm : Nat) : Int) - ye) neg (decide (xm * 2 ^ (60 - lenOf xm) % ym ≠ 0)) hq0 (by omega) (by omega) (by omega)
  unfold quotv23
  refine Ev.step (g := fun k => _) (fun k => by simp only [impl_FDiv.j3]; rfl) ?_
  refine Ev.neg (by decide) (Ev.bind hE ?_)
  simp only [w1, w2, w3, w4, w5, w6, w7]
  exact Ev.pos (by omega) (Ev.neg (by omega) (Ev.bind J (Ev.const _)))
theorem specQuot23 {xm xe ym ye : Int} (neg xn yn : Bool) (hx : Fin23 xm xe) (hy : Fin23 ym ye) (hx0 : 0 < xm) (hy0 : 0 < ym) :
    Ev (fun k => spec_l4K_quotient.j2 k neg false 8 23 xn false false xm xe yn false false ym ye) (quotv23 neg xm xe ym ye) := by
  obtain ⟨x0, x1, x2, x3, _⟩ := hx
  obtain ⟨y0, y1, y2, y3, _⟩ := hy
  obtain ⟨l1, l2⟩ := lenLe23 hx0 x1
  obtain ⟨r1, r2⟩ := lenLe23 hy0 y1
  have hlx := isLen_of hx0
  have hly := isLen_of hy0
  obtain ⟨dx, hdx⟩ : ∃ dx, lenOf xm = 23 + 1 - dx ∧ dx ≤ 23 := ⟨23 + 1 - lenOf xm, by omega, by omega⟩
  obtain ⟨dy, hdy⟩ : ∃ dy, lenOf ym = 23 + 1 - dy ∧ dy ≤ 23 := ⟨23 + 1 - lenOf ym, by omega, by omega⟩
  have F1 := specFull23 xn dx xm xe (by rw [← hdx.1]; exact hlx) hdx.2 (by omega) (by omega)
  have F2 := specFull23 yn dy ym ye (by rw [← hdy.1]; exact hly) hdy.2 (by omega) (by omega)
  obtain ⟨j, hj⟩ : ∃ j : Nat, dx + 30 = dy + j := ⟨30 + dx - dy, by omega⟩
  obtain ⟨t, ht⟩ : ∃ t : Nat, 60 - lenOf xm = j + t := ⟨60 - lenOf xm - j, by omega⟩
  have htl : t + lenOf ym = 30 := by omega
  have pj := p2_pos j
  have pdy := p2_pos dy
  have pdx := p2_pos dx
  have pt := p2_pos t
  have hN0 : 0 ≤ xm * 2 ^ j := Int.mul_nonneg x0 (by omega)
  have hA : xm * 2 ^ dx * 1073741824 = xm * 2 ^ j * 2 ^ dy := by
    rw [show (1073741824 : Int) = 2 ^ 30 by decide, Int.mul_assoc, ← p2_add, hj, p2_add, Int.mul_comm (2 ^ dy), ← Int.mul_assoc]
  have hM : xm * 2 ^ (60 - lenOf xm) = xm * 2 ^ j * 2 ^ t := by rw [ht, p2_add, Int.mul_assoc]
  have hAlt : xm * 2 ^ dx * 1073741824 < 18446744073709551616 := by
    have h1 := (len_mul hlx dx).2.2
    have h2 := p2_le (show lenOf xm + dx ≤ 23 + 1 by omega)
    rw [show (2 : Int) ^ (23 + 1) = 16777216 by decide] at h2
    omega
  have hA0 : 0 ≤ xm * 2 ^ dx * 1073741824 := by rw [hA]; exact Int.mul_nonneg hN0 (by omega)
  have hB0 : 0 < ym * 2 ^ dy := Int.mul_pos hy0 pdy
  have hdiv : xm * 2 ^ dx * 1073741824 / (ym * 2 ^ dy) = xm * 2 ^ j / ym := by rw [hA, Int.mul_ediv_mul_of_pos_left _ _ pdy]
  have hmod : (xm * 2 ^ dx * 1073741824 % (ym * 2 ^ dy) != 0) = decide (xm * 2 ^ j % ym ≠ 0) := by
    have h3 := Int.emod_add_mul_ediv (xm * 2 ^ dx * 1073741824) (ym * 2 ^ dy)
    have h4 := Int.emod_add_mul_ediv (xm * 2 ^ j) ym
    rw [hdiv] at h3
    have e : xm * 2 ^ dx * 1073741824 % (ym * 2 ^ dy) = xm * 2 ^ j % ym * 2 ^ dy := by
      generalize xm * 2 ^ dx * 1073741824 % (ym * 2 ^ dy) = r at *
      generalize xm * 2 ^ j % ym = s at *
      generalize xm * 2 ^ j / ym = q at *
      rw [hA, ← h4] at h3
      have : (s + ym * q) * 2 ^ dy = s * 2 ^ dy + ym * 2 ^ dy * q := by grind
      omega
    rw [e, Bool.eq_iff_iff]
    simp only [bne_iff_ne, ne_eq, decide_eq_true_eq]
    constructor
    · intro h z
      rw [z, Int.zero_mul] at h
      exact h rfl
    · intro h z
      rcases Int.mul_eq_zero.1 z with c | c <;> omega
  have hq0 : 0 ≤ xm * 2 ^ j / ym := Int.ediv_nonneg hN0 y0
  have hq1 : xm * 2 ^ j / ym < 2305843009213693952 := by
    have h1 := Int.ediv_le_self ym hN0
    have h2 := (len_mul hlx j).2.2
    have h3 := p2_le (show lenOf xm + j ≤ 60 by omega)
    rw [show (2 : Int) ^ 60 = 1152921504606846976 by decide] at h3
    omega
  have hbig : 16777216 ≤ xm * 2 ^ j / ym := by
    refine le_div hy0 ?_
    have h1 := (len_mul hlx j).2.1
    have h2 := hly.2.2
    have h3 : (2 : Int) ^ (lenOf xm + j - 1) = 536870912 * 2 ^ lenOf ym := by
      rw [show (536870912 : Int) = 2 ^ 29 by decide, ← p2_add]
      congr 1
      omega
    rw [h3] at h1
    have h4 : (16777216 : Int) * ym ≤ 536870912 * ym := Int.mul_le_mul_of_nonneg_right (by omega) y0
    omega
  have hv : quotv23 neg xm xe ym ye = flt 2147483648 23 (-149) 255 neg (xm * 2 ^ j / ym) (xe - dx - 30 - (ye - dy)) (decide (xm * 2 ^ j % ym ≠ 0)) := by
    unfold quotv23
    rw [hM]
    have e1 : xm * 2 ^ j * 2 ^ t / ym = xm * 2 ^ j / ym * 2 ^ t + xm * 2 ^ j * 2 ^ t / ym % 2 ^ t := by
      have h3 := Int.emod_add_mul_ediv (xm * 2 ^ j * 2 ^ t / ym) (2 ^ t)
      rw [div_cut1 t hy0] at h3
      have hc := Int.mul_comm (2 ^ t) (xm * 2 ^ j / ym)
      omega
    have e2 := div_cut2 (N := xm * 2 ^ j) t hy0
    have m0 := Int.emod_nonneg (xm * 2 ^ j * 2 ^ t / ym) (b := 2 ^ t) (by omega)
    have m1 := Int.emod_lt_of_pos (xm * 2 ^ j * 2 ^ t / ym) pt
    generalize xm * 2 ^ j * 2 ^ t / ym % 2 ^ t = r at *
    rw [e1, flt_cut23 neg _ hbig m0 m1, e2]
    congr 1
    omega
  rw [hv]
  have J := specFlt23 (m := xm * 2 ^ j / ym) (e := xe - dx - 30 - (ye - dy)) neg (decide (xm * 2 ^ j % ym ≠ 0)) hq0 hq1 (by omega) (by omega)
  have w1 : IntKind.u64.wrap (xm * 2 ^ dx * 1073741824) = xm * 2 ^ dx * 1073741824 := u64_id hA0 hAlt
  have w3 : Int.tdiv (xm * 2 ^ dx * 1073741824) (ym * 2 ^ dy) = xm * 2 ^ j / ym := by rw [Int.tdiv_eq_ediv_of_nonneg hA0, hdiv]
  have w4 : (Int.tmod (xm * 2 ^ dx * 1073741824) (ym * 2 ^ dy) != 0) = decide (xm * 2 ^ j % ym ≠ 0) := by rw [Int.tmod_eq_emod_of_nonneg hA0, hmod]
  have w5 : IntKind.u64.wrap (xm * 2 ^ j / ym) = xm * 2 ^ j / ym := u64_id hq0 (by omega)
  have w7 : wrap64 (wrap64 (xe - dx - 30) - (ye - dy)) = xe - dx - 30 - (ye - dy) := by
    rw [w64_id (n := xe - dx - 30) (by omega) (by omega), w64_id (by omega) (by omega)]
  refine Ev.step (g := fun k => _) (fun k => by simp only [spec_l4K_quotient.j2, spec_l4K_full.f]; rfl) ?_
  refine Ev.neg (by decide) (Ev.bind F1 (Ev.bind F2 ?_))
  simp only [w1, w3, w4, w5, w7]
  exact Ev.neg (by omega) (Ev.bind J (Ev.const _))
def divv23 (x y : Bool × Bool × Bool × Int × Int) : Int :=
  if (x.2.1 || y.2.1 || (x.2.2.1 && y.2.2.1) || (!x.2.2.1 && !y.2.2.1 && (x.2.2.2.1 == 0) && (y.2.2.2.1 == 0))) = true then 2143289344 else (if (x.2.2.1 || (!y.2.2.1 && (y.2.2.2.1 == 0))) = true then sg 2147483648 (x.1 != y.1) + 2139095040 else (if (y.2.2.1 || (x.2.2.2.1 == 0)) = true then sg 2147483648 (x.1 != y.1) else quotv23 (x.1 != y.1) x.2.2.2.1 x.2.2.2.2 y.2.2.2.1 y.2.2.2.2))
theorem implDiv23 {a b : Int} (a0 : 0 ≤ a) (a1 : a < 4294967296) (b0 : 0 ≤ b) (b1 : b < 4294967296) :
    Ev (fun k => impl_FDiv.f k 32 a b) (divv23 (parts 8388608 256 2147483648 (-149) a) (parts 8388608 256 2147483648 (-149) b)) := by
  have hk : impl_formatOf.f 32 = some (23, 127, true) := by decide +kernel
  have hn : impl_format_noNumber.f 23 127 = some 2143289344 := by decide +kernel
  have hs : ∀ neg, impl_format_signed.f 23 127 neg 0 = some (sg 2147483648 neg) := fun neg => by rw [implSigned23 neg (by omega) (by omega), Int.add_zero]
  unfold impl_FDiv.f
  simp only [hk, Option.bind_some, implOpen23 a0 a1, implOpen23 b0 b1]
  rcases partsEx23 a0 with ⟨ng, na, ha⟩ | ⟨ng, m, e, ha, hf⟩ <;> rcases partsEx23 b0 with ⟨mg, ma, hb⟩ | ⟨mg, n, f, hb, hg⟩ <;> simp only [ha, hb]
  · cases na <;> cases ma <;> cases ng <;> cases mg <;> exact ⟨4, fun k hk => by (obtain ⟨j, rfl⟩ : ∃ j, k = j + 4 := ⟨k - 4, by omega⟩); simp [impl_FDiv.j0, impl_FDiv.j1, impl_FDiv.j2, impl_FDiv.j3, hn, hs, implInf23, divv23]⟩
  · by_cases z : n = 0 <;> cases na <;> cases ng <;> cases mg <;> exact ⟨4, fun k hk => by (obtain ⟨j, rfl⟩ : ∃ j, k = j + 4 := ⟨k - 4, by omega⟩); simp [impl_FDiv.j0, impl_FDiv.j1, impl_FDiv.j2, impl_FDiv.j3, hn, hs, implInf23, divv23, z]⟩
  · by_cases z : m = 0 <;> cases ma <;> cases ng <;> cases mg <;> exact ⟨4, fun k hk => by (obtain ⟨j, rfl⟩ : ∃ j, k = j + 4 := ⟨k - 4, by omega⟩); simp [impl_FDiv.j0, impl_FDiv.j1, impl_FDiv.j2, impl_FDiv.j3, hn, hs, implInf23, divv23, z]⟩
  · by_cases z : m = 0
    · by_cases y : n = 0 <;> exact ⟨4, fun k hk => by (obtain ⟨j, rfl⟩ : ∃ j, k = j + 4 := ⟨k - 4, by omega⟩); simp [impl_FDiv.j0, impl_FDiv.j1, impl_FDiv.j2, impl_FDiv.j3, hn, hs, implInf23, divv23, z, y]⟩
    · by_cases y : n = 0
      · exact ⟨4, fun k hk => by (obtain ⟨j, rfl⟩ : ∃ j, k = j + 4 := ⟨k - 4, by omega⟩); simp [impl_FDiv.j0, impl_FDiv.j1, impl_FDiv.j2, impl_FDiv.j3, hn, hs, implInf23, divv23, z, y]⟩
      · have J := implQuot23 (ng != mg) ng false false mg false false hf hg (by have := hf.m0; omega) (by have := hg.m0; omega)
        have hv : divv23 (ng, false, false, m, e) (mg, false, false, n, f) = quotv23 (ng != mg) m e n f := by simp [divv23, z, y]
        rw [hv]
        have zb : (m == 0) = false := by simpa using z
        have yb : (n == 0) = false := by simpa using y
        refine Ev.eq (g := fun k => impl_FDiv.j0 k (ng != mg) false false 23 127 ng false false m e mg false false n f) (fun k => by simp [zb, yb]) ?_
        refine Ev.step (g := fun k => impl_FDiv.j1 k (ng != mg) false false false 23 127 ng false false m e mg false false n f) (fun k => by simp [impl_FDiv.j0]) ?_
        refine Ev.step (g := fun k => impl_FDiv.j2 k (ng != mg) false false 23 127 ng false false m e mg false false n f) (fun k => by simp [impl_FDiv.j1]) ?_
        exact Ev.step (g := fun k => impl_FDiv.j3 k (ng != mg) false 23 127 ng false false m e mg false false n f) (fun k => by simp [impl_FDiv.j2]) J
theorem specDiv23 {a b : Int} (a0 : 0 ≤ a) (a1 : a < 4294967296) (b0 : 0 ≤ b) (b1 : b < 4294967296) :
    Ev (fun k => spec_FDiv.f k 32 a b) (divv23 (parts 8388608 256 2147483648 (-149) a) (parts 8388608 256 2147483648 (-149) b)) := by
  have hk : spec_l4Kind.f 32 = some (8, 23, true) := by decide +kernel
  have hn : spec_l4K_nan.f 8 23 = some 2143289344 := by decide +kernel
  unfold spec_FDiv.f
  simp only [hk, Option.bind_some, specOpen23 a0 a1, specOpen23 b0 b1]
  refine Ev.pos trivial ?_
  unfold spec_l4K_quotient.f
  rcases partsEx23 a0 with ⟨ng, na, ha⟩ | ⟨ng, m, e, ha, hf⟩ <;> rcases partsEx23 b0 with ⟨mg, ma, hb⟩ | ⟨mg, n, f, hb, hg⟩ <;> simp only [ha, hb]
  · cases na <;> cases ma <;> cases ng <;> cases mg <;> exact ⟨4, fun k hk => by (obtain ⟨j, rfl⟩ : ∃ j, k = j + 4 := ⟨k - 4, by omega⟩); simp [spec_l4K_quotient.j0, spec_l4K_quotient.j1, spec_l4K_quotient.j2, hn, specSign23, specInf23, divv23]⟩
  · by_cases z : n = 0 <;> cases na <;> cases ng <;> cases mg <;> exact ⟨4, fun k hk => by (obtain ⟨j, rfl⟩ : ∃ j, k = j + 4 := ⟨k - 4, by omega⟩); simp [spec_l4K_quotient.j0, spec_l4K_quotient.j1, spec_l4K_quotient.j2, hn, specSign23, specInf23, divv23, z]⟩
  · by_cases z : m = 0 <;> cases ma <;> cases ng <;> cases mg <;> exact ⟨4, fun k hk => by (obtain ⟨j, rfl⟩ : ∃ j, k = j + 4 := ⟨k - 4, by omega⟩); simp [spec_l4K_quotient.j0, spec_l4K_quotient.j1, spec_l4K_quotient.j2, hn, specSign23, specInf23, divv23, z]⟩
  · by_cases z : m = 0
    · by_cases y : n = 0 <;> exact ⟨4, fun k hk => by (obtain ⟨j, rfl⟩ : ∃ j, k = j + 4 := ⟨k - 4, by omega⟩); simp [spec_l4K_quotient.j0, spec_l4K_quotient.j1, spec_l4K_quotient.j2, hn, specSign23, specInf23, divv23, z, y]⟩
    · by_cases y : n = 0
      · exact ⟨4, fun k hk => by (obtain ⟨j, rfl⟩ : ∃ j, k = j + 4 := ⟨k - 4, by omega⟩); simp [spec_l4K_quotient.j0, spec_l4K_quotient.j1, spec_l4K_quotient.j2, hn, specSign23, specInf23, divv23, z, y]⟩
      · have J := specQuot23 (ng != mg) ng mg hf hg (by have := hf.m0; omega) (by have := hg.m0; omega)
        have hv : divv23 (ng, false, false, m, e) (mg, false, false, n, f) = quotv23 (ng != mg) m e n f := by simp [divv23, z, y]
        rw [hv]
        have zb : (m == 0) = false := by simpa using z
        have yb : (n == 0) = false := by simpa using y
        refine Ev.eq (g := fun k => (spec_l4K_quotient.j0 k (ng != mg) false 8 23 ng false false m e mg false false n f).bind fun t => some t) (fun k => by simp [z]) ?_
        refine Ev.bind ?_ (Ev.const _)
        refine Ev.step (g := fun k => spec_l4K_quotient.j1 k (ng != mg) false 8 23 ng false false m e mg false false n f) (fun k => by simp [spec_l4K_quotient.j0, yb]) ?_
        exact Ev.step (g := fun k => spec_l4K_quotient.j2 k (ng != mg) false 8 23 ng false false m e mg false false n f) (fun k => by simp [spec_l4K_quotient.j1, zb]) J
end Go.Proofs.Ytdoflfifnkpacaa.FA
