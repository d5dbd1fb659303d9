/-
  Plain laws behind FnRounded: sums, products and quotients of halves and singles.
-/
import Derived.Test.YtdoflfifnkpacaaC18FaR
namespace Go.Proofs.Ytdoflfifnkpacaa.FA
open Go.RowKit Go.Proofs.YtdoflfifnkpacaaW.PrintWords Go.Proofs.YtdoflfifnkpacaaW.PrintLast Go.Proofs.YtdoflfifnkpacaaW.PrintMore
set_option linter.unusedSimpArgs false
set_option linter.unusedVariables false
/-- How many bits a number has. -/
def lenOf (m : Int) : Nat := m.toNat.log2 + 1
theorem isLen_of {m : Int} (h : 0 < m) : IsLen m (lenOf m) := by
  obtain ⟨n, rfl⟩ : ∃ n : Nat, m = n := ⟨m.toNat, by omega⟩
  have hn : n ≠ 0 := by omega
  unfold lenOf
  rw [Int.toNat_natCast]
  refine ⟨by omega, ?_, ?_⟩
  · have := Nat.log2_self_le hn
    simp only [Nat.add_sub_cancel]
    exact_mod_cast this
  · have := Nat.lt_log2_self (n := n)
    exact_mod_cast this
/-- The float that is nearest to m 2^e, and something more. -/
def flt (SB : Int) (p : Nat) (L0 T : Int) (neg : Bool) (m e : Int) (more : Bool) : Int := if m = 0 then sg SB neg else sg SB neg + code p L0 T (lenOf m) m e more
theorem implFlt10 {m e : Int} (neg more : Bool) (m0 : 0 ≤ m) (m1 : m < 2305843009213693952) (e0 : -1000 ≤ e) (e1 : e ≤ 1000) : Ev (fun k => impl_format_round.f k 10 15 neg m e more) (flt 32768 10 (-24) 31 neg m e more) := by
  unfold flt
  by_cases c : m = 0
  · subst c
    rw [if_pos rfl]
    refine Ev.eq (g := fun _ => some (sg 32768 neg)) (fun k => ?_) (Ev.const _)
    unfold impl_format_round.f
    rw [if_pos rfl, implSigned10 neg (by omega) (by omega), Option.bind_some, Int.add_zero]
  · rw [if_neg c]
    have h := isLen_of (m := m) (by omega)
    exact implRnd10 neg more h (len_le h (n := 62) (by have : (2 : Int) ^ 62 = 4611686018427387904 := by decide
                                                       omega)) e0 e1
theorem specFlt10 {m e : Int} (neg more : Bool) (m0 : 0 ≤ m) (m1 : m < 2305843009213693952) (e0 : -1000 ≤ e) (e1 : e ≤ 1000) : Ev (fun k => spec_l4K_round.f k 5 10 neg m e more) (flt 32768 10 (-24) 31 neg m e more) := by
  unfold flt
  by_cases c : m = 0
  · subst c
    rw [if_pos rfl]
    refine Ev.eq (g := fun _ => some (sg 32768 neg)) (fun k => ?_) (Ev.const _)
    unfold spec_l4K_round.f
    rw [if_pos rfl, specSign10 neg, Option.bind_some]
  · rw [if_neg c]
    have h := isLen_of (m := m) (by omega)
    exact specRnd10 neg more h (len_le h (n := 62) (by have : (2 : Int) ^ 62 = 4611686018427387904 := by decide
                                                       omega)) e0 e1
theorem flt_cut10 {A r e : Int} {t : Nat} (neg more : Bool) (hA : 2048 ≤ A) (r0 : 0 ≤ r) (r1 : r < 2 ^ t) :
    flt 32768 10 (-24) 31 neg (A * 2 ^ t + r) e more = flt 32768 10 (-24) 31 neg A (e + t) (decide (r ≠ 0) || more) := by
  have ht := p2_pos t
  have hA' : 0 < A * 2 ^ t := Int.mul_pos (by omega) ht
  have hl := isLen_of (m := A) (by omega)
  have hL : 10 + 1 < lenOf A := by
    rcases Nat.lt_or_ge (10 + 1) (lenOf A) with c | c
    · exact c
    · exfalso
      have h1 := hl.2.2
      have h2 := p2_le c
      have h3 : (2 : Int) ^ (10 + 1) = 2048 := by decide
      omega
  have hl2 := isLen_of (m := A * 2 ^ t + r) (by omega)
  have he := len_uniq hl2 (len_cut hl r0 r1)
  unfold flt
  rw [if_neg (by omega), if_neg (by omega), he, code_cut more r0 r1 hL]
/-- A finite one taken apart. -/
structure Fin10 (m e : Int) : Prop where
  m0 : 0 ≤ m
  m1 : m < 2048
  e0 : -24 ≤ e
  e1 : e ≤ 5
  nm : -24 < e → 1024 ≤ m
def sumv10 (xn : Bool) (xm xe : Int) (yn : Bool) (ym ye : Int) : Int :=
  if (xn == yn) = true then flt 32768 10 (-24) 31 xn (xm * 2 ^ (xe - ye).toNat + ym) ye false
  else (if xm * 2 ^ (xe - ye).toNat > ym then flt 32768 10 (-24) 31 xn (xm * 2 ^ (xe - ye).toNat - ym) ye false
  else (if xm * 2 ^ (xe - ye).toNat < ym then flt 32768 10 (-24) 31 yn (ym - xm * 2 ^ (xe - ye).toNat) ye false else 0))
def sum210 (xn : Bool) (xm xe : Int) (yn : Bool) (ym ye : Int) : Int := if xe < ye then sumv10 yn ym ye xn xm xe else sumv10 xn xm xe yn ym ye
theorem sum2_comm10 (xn : Bool) (xm xe : Int) (yn : Bool) (ym ye : Int) : sum210 xn xm xe yn ym ye = sum210 yn ym ye xn xm xe := by
  unfold sum210
  rcases Int.lt_trichotomy xe ye with c | c | c
  · rw [if_pos c, if_neg (by omega)]
  · subst c
    rw [if_neg (by omega), if_neg (by omega)]
    unfold sumv10
    have e : (xe - xe).toNat = 0 := by omega
    rw [e]
    simp only [Int.pow_zero, Int.mul_one]
    by_cases c1 : xn = yn
    · subst c1
      simp [Int.add_comm]
    · have c2 : ¬ (xn == yn) = true := by simpa using c1
      have c3 : ¬ (yn == xn) = true := by simpa using fun h => c1 h.symm
      rw [if_neg c2, if_neg c3]
      rcases Int.lt_trichotomy xm ym with d | d | d
      · rw [if_neg (by omega), if_pos d, if_pos d]
      · subst d
        rw [if_neg (by omega), if_neg (by omega), if_neg (by omega), if_neg (by omega)]
      · rw [if_pos d, if_neg (by omega), if_pos d]
  · rw [if_neg (by omega), if_pos c]
theorem sumv_cut10 {xm xe ym ye : Int} (xn yn : Bool) (c t : Nat) (hc : 30 ≤ c) (hc' : c ≤ 35) (hx : Fin10 xm xe) (hy : Fin10 ym ye) (ht : 1 ≤ t) (hd : xe - ye = ((c + t : Nat) : Int)) :
    sumv10 xn xm xe yn ym ye = if (xn == yn) = true then flt 32768 10 (-24) 31 xn (xm * 2 ^ c + ym / 2 ^ t) (xe - c) (decide (ym % 2 ^ t ≠ 0))
      else flt 32768 10 (-24) 31 xn (xm * 2 ^ c - ym / 2 ^ t - (if (decide (ym % 2 ^ t ≠ 0)) = true then 1 else 0)) (xe - c) (decide (ym % 2 ^ t ≠ 0)) := by
  obtain ⟨x0, x1, x2, x3, x4⟩ := hx
  obtain ⟨y0, y1, y2, y3, _⟩ := hy
  have hp := p2_pos t
  have xp := x4 (by omega)
  have h30 : (2 : Int) ^ 30 ≤ 2 ^ c := p2_le hc
  have e30 : (2 : Int) ^ 30 = 1073741824 := by decide
  have hX : 1024 * 1073741824 ≤ xm * 2 ^ c := Int.mul_le_mul xp (by omega) (by omega) (by omega)
  have hr0 := Int.emod_nonneg ym (b := 2 ^ t) (by omega)
  have hr1 := Int.emod_lt_of_pos ym hp
  have hs0 : 0 ≤ ym / 2 ^ t := Int.ediv_nonneg y0 (by omega)
  have hs1 : ym / 2 ^ t ≤ ym := Int.ediv_le_self _ y0
  have hy := Int.emod_add_mul_ediv ym (2 ^ t)
  have hM : xm * 2 ^ (c + t) = xm * 2 ^ c * 2 ^ t := by rw [p2_add, Int.mul_assoc]
  have he : ye + (t : Int) = xe - c := by omega
  have hXM : xm * 2 ^ c ≤ xm * 2 ^ c * 2 ^ t := by
    have := Int.mul_le_mul_of_nonneg_left (show (1 : Int) ≤ 2 ^ t by omega) (show 0 ≤ xm * 2 ^ c by omega)
    omega
  unfold sumv10
  rw [hd, Int.toNat_natCast, hM]
  generalize xm * 2 ^ c = X at *
  generalize ym / 2 ^ t = s at *
  generalize ym % 2 ^ t = r at *
  have hms : 2 ^ t * s = s * 2 ^ t := Int.mul_comm _ _
  by_cases c1 : (xn == yn) = true
  · rw [if_pos c1, if_pos c1]
    have e1 : X * 2 ^ t + ym = (X + s) * 2 ^ t + r := by
      rw [Int.add_mul]
      omega
    rw [e1, flt_cut10 xn false (by omega) hr0 hr1, he, Bool.or_false]
  · rw [if_neg c1, if_neg c1, if_pos (by omega)]
    by_cases c2 : r = 0
    · have e1 : X * 2 ^ t - ym = (X - s) * 2 ^ t + 0 := by
        rw [Int.sub_mul]
        omega
      rw [e1, flt_cut10 xn false (by omega) (by omega) hp, he, c2]
      simp
    · have e1 : X * 2 ^ t - ym = (X - s - 1) * 2 ^ t + (2 ^ t - r) := by
        rw [Int.sub_mul, Int.sub_mul]
        omega
      rw [e1, flt_cut10 xn false (by omega) (by omega) (by omega), he]
      have e2 : decide (2 ^ t - r ≠ 0) = true := by
        rw [decide_eq_true_eq]
        omega
      have e3 : decide (r ≠ 0) = true := by simpa using c2
      rw [e2, e3]
      rfl
theorem implSumJ10 {xm xe ym ye X s : Int} (xn yn b1 b2 b3 b4 more : Bool) (hX : 2 * 2048 ≤ X) (hX1 : X ≤ 2048 * 34359738368) (s0 : 0 ≤ s) (s1 : s < 2048) (e0 : -24 ≤ xe) (e1 : xe ≤ 5) :
    Ev (fun k => impl_format_sum.j1 k X s more 10 15 xn b1 b2 xm xe yn b3 b4 ym ye) (if (xn == yn) = true then flt 32768 10 (-24) 31 xn (X + s) (xe - 35) more else flt 32768 10 (-24) 31 xn (X - s - (if more = true then 1 else 0)) (xe - 35) more) := by
  have w1 : IntKind.u64.wrap (X + s) = X + s := u64_id (by omega) (by omega)
  have w2 : IntKind.u64.wrap (X - s) = X - s := u64_id (by omega) (by omega)
  have w3 : IntKind.u64.wrap (X - s - 1) = X - s - 1 := u64_id (by omega) (by omega)
  have w4 : wrap64 (xe - 35) = xe - 35 := w64_id (by omega) (by omega)
  refine Ev.step (g := fun k => _) (fun k => by simp only [impl_format_sum.j1, w1, w2, w3, w4]; rfl) ?_
  by_cases c1 : (xn == yn) = true
  · rw [if_pos c1]
    exact Ev.pos c1 (Ev.bind (implFlt10 xn more (by omega) (by omega) (by omega) (by omega)) (Ev.const _))
  · rw [if_neg c1]
    refine Ev.neg c1 ?_
    by_cases c2 : more = true
    · rw [if_pos c2]
      exact Ev.pos c2 (Ev.bind (implFlt10 xn more (by omega) (by omega) (by omega) (by omega)) (Ev.const _))
    · rw [if_neg c2, Int.sub_zero]
      exact Ev.neg c2 (Ev.bind (implFlt10 xn more (by omega) (by omega) (by omega) (by omega)) (Ev.const _))
theorem implSum10 {xm xe ym ye : Int} (xn yn b1 b2 b3 b4 : Bool) (hx : Fin10 xm xe) (hy : Fin10 ym ye) (h : ye ≤ xe) :
    Ev (fun k => impl_format_sum.j0 k 10 15 xn b1 b2 xm xe yn b3 b4 ym ye) (sumv10 xn xm xe yn ym ye) := by
  have hx' := hx
  have hy' := hy
  obtain ⟨x0, x1, x2, x3, x4⟩ := hx
  obtain ⟨y0, y1, y2, y3, _⟩ := hy
  obtain ⟨d, hd⟩ : ∃ d : Nat, xe - ye = d := ⟨(xe - ye).toNat, by omega⟩
  have w1 : wrap64 (xe - ye) = (d : Int) := by rw [w64_id (by omega) (by omega), hd]
  by_cases c : d ≤ 35
  · have hp := p2_pos d
    have hp1 := p2_le c
    have e35 : (2 : Int) ^ 35 = 34359738368 := by decide
    have hM0 : 0 ≤ xm * 2 ^ d := Int.mul_nonneg x0 (by omega)
    have hM1 : xm * 2 ^ d ≤ 2048 * 34359738368 := Int.mul_le_mul (by omega) (by omega) (by omega) (by omega)
    have w2 : shl .u64 xm (d : Int) = xm * 2 ^ d := shl64 d (by omega) x0 (by omega)
    unfold sumv10
    rw [hd, Int.toNat_natCast]
    refine Ev.step (g := fun k => _) (fun k => by simp only [impl_format_sum.j0, w1, w2]; rfl) ?_
    generalize xm * 2 ^ d = M at *
    refine Ev.pos (by omega) (Ev.pos (by omega) ?_)
    by_cases c1 : (xn == yn) = true
    · rw [if_pos c1]
      have w3 : IntKind.u64.wrap (M + ym) = M + ym := u64_id (by omega) (by omega)
      simp only [w3]
      exact Ev.pos c1 (Ev.bind (implFlt10 xn false (by omega) (by omega) (by omega) (by omega)) (Ev.const _))
    · rw [if_neg c1]
      refine Ev.neg c1 ?_
      by_cases c2 : M > ym
      · rw [if_pos c2]
        have w3 : IntKind.u64.wrap (M - ym) = M - ym := u64_id (by omega) (by omega)
        simp only [w3]
        exact Ev.pos c2 (Ev.bind (implFlt10 xn false (by omega) (by omega) (by omega) (by omega)) (Ev.const _))
      · rw [if_neg c2]
        refine Ev.neg c2 ?_
        by_cases c3 : M < ym
        · rw [if_pos c3]
          have w3 : IntKind.u64.wrap (ym - M) = ym - M := u64_id (by omega) (by omega)
          simp only [w3]
          exact Ev.pos c3 (Ev.bind (implFlt10 yn false (by omega) (by omega) (by omega) (by omega)) (Ev.const _))
        · rw [if_neg c3]
          exact Ev.neg c3 (Ev.const _)
  · obtain ⟨t, ht⟩ : ∃ t : Nat, d = 35 + t := ⟨d - 35, by omega⟩
    subst ht
    rw [sumv_cut10 xn yn 35 t (by omega) (by omega) hx' hy' (by omega) hd]
    have xp := x4 (by omega)
    have hpt := p2_pos t
    have hs0 : 0 ≤ ym / 2 ^ t := Int.ediv_nonneg y0 (by omega)
    have hs1 : ym / 2 ^ t ≤ ym := Int.ediv_le_self _ y0
    have e35 : (2 : Int) ^ 35 = 34359738368 := by decide
    rw [e35]
    have w2 : wrap64 (((35 + t : Nat) : Int) - 35) = (t : Int) := by rw [w64_id (by omega) (by omega)]; omega
    have w3 : IntKind.u64.wrap (xm * 34359738368) = xm * 34359738368 := u64_id (by omega) (by omega)
    have J := implSumJ10 (xm := xm) (ym := ym) (ye := ye) (X := xm * 34359738368) (s := ym / 2 ^ t) xn yn b1 b2 b3 b4 (decide (ym % 2 ^ t ≠ 0)) (by omega) (by omega) hs0 (by omega) x2 x3
    refine Ev.step (g := fun k => _) (fun k => by simp only [impl_format_sum.j0, w1, w2, w3]; rfl) ?_
    refine Ev.neg (by omega) ?_
    by_cases c2 : t < 64
    · have w4 : shr .u64 ym (t : Int) = ym / 2 ^ t := shr64 ym t (by omega)
      have hle : ym / 2 ^ t * 2 ^ t ≤ ym := Int.ediv_mul_le _ (by omega)
      have w5 : shl .u64 (ym / 2 ^ t) (t : Int) = ym / 2 ^ t * 2 ^ t := shl64 t (by omega) hs0 (by omega)
      have w6 : (ym / 2 ^ t * 2 ^ t != ym) = decide (ym % 2 ^ t ≠ 0) := by
        have hy := Int.emod_add_mul_ediv ym (2 ^ t)
        rw [Int.mul_comm] at hy
        rw [Bool.eq_iff_iff]
        simp only [bne_iff_ne, decide_eq_true_eq, ne_eq]
        omega
      simp only [w4, w5, w6]
      exact Ev.pos (by omega) (Ev.pos (by omega) J)
    · have h64 := p2_le (a := 64) (b := t) (by omega)
      have e64 : (2 : Int) ^ 64 = 18446744073709551616 := by decide
      have z1 : ym / 2 ^ t = 0 := Int.ediv_eq_zero_of_lt y0 (by omega)
      have z2 : ym % 2 ^ t = ym := Int.emod_eq_of_lt y0 (by omega)
      rw [z1, z2] at J
      rw [z1, z2]
      have w6 : (ym != 0) = decide (ym ≠ 0) := by
        rw [Bool.eq_iff_iff]
        simp
      simp only [w6]
      exact Ev.neg (by omega) J
theorem implSum210 {xm xe ym ye : Int} (xn yn b1 b2 b3 b4 : Bool) (hx : Fin10 xm xe) (hy : Fin10 ym ye) :
    Ev (fun k => impl_format_sum.f k 10 15 xn b1 b2 xm xe yn b3 b4 ym ye) (sum210 xn xm xe yn ym ye) := by
  unfold impl_format_sum.f sum210
  by_cases c : xe < ye
  · rw [if_pos c]
    exact Ev.pos c (implSum10 yn xn b3 b4 b1 b2 hy hx (by omega))
  · rw [if_neg c]
    exact Ev.neg c (implSum10 xn yn b1 b2 b3 b4 hx hy (by omega))
theorem specSumJ10 {xe ym ye X s : Int} (xn yn b1 b2 b3 b4 more : Bool) (hX : 2 * 2048 ≤ X) (hX1 : X ≤ 2048 * 1073741824) (s0 : 0 ≤ s) (s1 : s < 2048) (e0 : -24 ≤ xe) (e1 : xe ≤ 5) :
    Ev (fun k => spec_l4K_sum.j1 k more 5 10 xn b1 b2 X xe yn b3 b4 s (xe - 30)) (if (xn == yn) = true then flt 32768 10 (-24) 31 xn (X + s) (xe - 30) more else flt 32768 10 (-24) 31 xn (X - s - (if more = true then 1 else 0)) (xe - 30) more) := by
  have w1 : IntKind.u64.wrap (X + s) = X + s := u64_id (by omega) (by omega)
  have w2 : IntKind.u64.wrap (X - s) = X - s := u64_id (by omega) (by omega)
  have w3 : IntKind.u64.wrap (X - s - 1) = X - s - 1 := u64_id (by omega) (by omega)
  refine Ev.step (g := fun k => _) (fun k => by simp only [spec_l4K_sum.j1, w1, w2, w3]; rfl) ?_
  by_cases c1 : (xn == yn) = true
  · rw [if_pos c1]
    exact Ev.pos c1 (Ev.bind (specFlt10 xn more (by omega) (by omega) (by omega) (by omega)) (Ev.const _))
  · rw [if_neg c1]
    have j2 : ∀ Z : Int, 0 < Z → Z < 2305843009213693952 → Ev (fun k => spec_l4K_sum.j2 k more Z 5 10 xn b1 b2 X xe yn b3 b4 s (xe - 30)) (flt 32768 10 (-24) 31 xn Z (xe - 30) more) := by
      intro Z z0 z1
      refine Ev.step (g := fun k => spec_l4K_sum.j3 k more Z false 5 10 xn b1 b2 X xe yn b3 b4 s (xe - 30)) (fun k => by simp only [spec_l4K_sum.j2]; rw [if_neg (by omega)]) ?_
      refine Ev.step (g := fun k => (spec_l4K_round.f k 5 10 xn Z (xe - 30) more).bind fun t => some t) (fun k => by simp only [spec_l4K_sum.j3]; rw [if_neg (by decide)]) ?_
      exact Ev.bind (specFlt10 xn more (by omega) (by omega) (by omega) (by omega)) (Ev.const _)
    refine Ev.neg c1 (Ev.neg (by omega) ?_)
    by_cases c2 : more = true
    · rw [if_pos c2]
      exact Ev.pos c2 (j2 _ (by omega) (by omega))
    · rw [if_neg c2, Int.sub_zero]
      exact Ev.neg c2 (j2 _ (by omega) (by omega))
theorem specSum10 {xm xe ym ye : Int} (xn yn : Bool) (hx : Fin10 xm xe) (hy : Fin10 ym ye) (h : ye ≤ xe) :
    Ev (fun k => spec_l4K_sum.j0 k false 5 10 xn false false xm xe yn false false ym ye) (sumv10 xn xm xe yn ym ye) := by
  have hx' := hx
  have hy' := hy
  obtain ⟨x0, x1, x2, x3, x4⟩ := hx
  obtain ⟨y0, y1, y2, y3, _⟩ := hy
  obtain ⟨d, hd⟩ : ∃ d : Nat, xe - ye = d := ⟨(xe - ye).toNat, by omega⟩
  have w1 : IntKind.u64.wrap (wrap64 (xe - ye)) = (d : Int) := by rw [w64_id (by omega) (by omega), hd, u64_id (by omega) (by omega)]
  refine Ev.step (g := fun k => _) (fun k => by simp only [spec_l4K_sum.j0, w1]; rfl) ?_
  refine Ev.neg (by decide) (Ev.neg (by decide) (Ev.neg (by decide) (Ev.neg (by omega) ?_)))
  by_cases c : d ≤ 30
  · have hp := p2_pos d
    have hp1 := p2_le c
    have e30 : (2 : Int) ^ 30 = 1073741824 := by decide
    have hM0 : 0 ≤ xm * 2 ^ d := Int.mul_nonneg x0 (by omega)
    have hM1 : xm * 2 ^ d ≤ 2048 * 1073741824 := Int.mul_le_mul (by omega) (by omega) (by omega) (by omega)
    have w2 : shl .u64 xm (d : Int) = xm * 2 ^ d := shl64 d (by omega) x0 (by omega)
    refine Ev.pos (by omega) (Ev.pos (by omega) ?_)
    simp only [w2]
    unfold sumv10
    rw [hd, Int.toNat_natCast]
    generalize xm * 2 ^ d = M at *
    refine Ev.step (g := fun k => _) (fun k => by simp only [spec_l4K_sum.j1]; rfl) ?_
    by_cases c1 : (xn == yn) = true
    · rw [if_pos c1]
      have w3 : IntKind.u64.wrap (M + ym) = M + ym := u64_id (by omega) (by omega)
      simp only [w3]
      exact Ev.pos c1 (Ev.bind (specFlt10 xn false (by omega) (by omega) (by omega) (by omega)) (Ev.const _))
    · rw [if_neg c1]
      refine Ev.neg c1 ?_
      by_cases c2 : ym > M
      · rw [if_neg (by omega), if_pos c2]
        have w3 : IntKind.u64.wrap (ym - M) = ym - M := u64_id (by omega) (by omega)
        simp only [w3]
        exact Ev.pos c2 (Ev.bind (specFlt10 yn false (by omega) (by omega) (by omega) (by omega)) (Ev.const _))
      · refine Ev.neg c2 (Ev.neg (by decide) ?_)
        have w3 : IntKind.u64.wrap (M - ym) = M - ym := u64_id (by omega) (by omega)
        simp only [w3]
        by_cases c3 : M = ym
        · rw [if_neg (by omega), if_neg (by omega)]
          have z : M - ym = 0 := by omega
          rw [z]
          refine Ev.step (g := fun k => spec_l4K_sum.j3 k false 0 true 5 10 xn false false M xe yn false false ym ye) (fun k => by simp only [spec_l4K_sum.j2]; rw [if_pos trivial]; rfl) ?_
          refine Ev.step (g := fun k => some 0) (fun k => by simp only [spec_l4K_sum.j3]; rw [if_pos trivial, specSign10]; rfl) (Ev.const _)
        · rw [if_pos (by omega)]
          refine Ev.step (g := fun k => spec_l4K_sum.j3 k false (M - ym) false 5 10 xn false false M xe yn false false ym ye) (fun k => by simp only [spec_l4K_sum.j2]; rw [if_neg (by omega)]) ?_
          refine Ev.step (g := fun k => (spec_l4K_round.f k 5 10 xn (M - ym) ye false).bind fun t => some t) (fun k => by simp only [spec_l4K_sum.j3]; rw [if_neg (by decide)]) ?_
          exact Ev.bind (specFlt10 xn false (by omega) (by omega) (by omega) (by omega)) (Ev.const _)
  · refine Ev.neg (by omega) ?_
    obtain ⟨t, ht⟩ : ∃ t : Nat, d = 30 + t := ⟨d - 30, by omega⟩
    subst ht
    rw [sumv_cut10 xn yn 30 t (by omega) (by omega) hx' hy' (by omega) hd]
    have xp := x4 (by omega)
    have hpt := p2_pos t
    have hs0 : 0 ≤ ym / 2 ^ t := Int.ediv_nonneg y0 (by omega)
    have hs1 : ym / 2 ^ t ≤ ym := Int.ediv_le_self _ y0
    have e30 : (2 : Int) ^ 30 = 1073741824 := by decide
    rw [e30]
    have w2 : IntKind.u64.wrap (((30 + t : Nat) : Int) - 30) = (t : Int) := by rw [u64_id (by omega) (by omega)]; omega
    have w3 : IntKind.u64.wrap (xm * 1073741824) = xm * 1073741824 := u64_id (by omega) (by omega)
    have w4 : wrap64 (xe - 30) = xe - 30 := w64_id (by omega) (by omega)
    have J := specSumJ10 (xe := xe) (ym := ym) (ye := ye) (X := xm * 1073741824) (s := ym / 2 ^ t) xn yn false false false false (decide (ym % 2 ^ t ≠ 0)) (by omega) (by omega) hs0 (by omega) x2 x3
    simp only [w2, w3, w4]
    by_cases c2 : (t : Int) > 60
    · have h64 := p2_le (a := 60) (b := t) (by omega)
      have e64 : (2 : Int) ^ 60 = 1152921504606846976 := by decide
      have z1 : ym / 2 ^ t = 0 := Int.ediv_eq_zero_of_lt y0 (by omega)
      have z2 : ym % 2 ^ t = ym := Int.emod_eq_of_lt y0 (by omega)
      rw [z1, z2] at J
      rw [z1, z2]
      have w6 : (ym != 0) = decide (ym ≠ 0) := by
        rw [Bool.eq_iff_iff]
        simp
      simp only [w6]
      exact Ev.pos c2 J
    · have h60 := p2_le (a := t) (b := 60) (by omega)
      have e60 : (2 : Int) ^ 60 = 1152921504606846976 := by decide
      have w5 : shr .u64 ym (t : Int) = ym / 2 ^ t := shr64 ym t (by omega)
      have w6 : shl .u64 1 (t : Int) = 2 ^ t := by
        rw [shl64 t (by omega) (by omega) (by omega)]
        omega
      have w7 : IntKind.u64.wrap (2 ^ t - 1) = 2 ^ t - 1 := u64_id (by omega) (by omega)
      have w8 : Go.bits .and .u64 ym (2 ^ t - 1) = ym % 2 ^ t := and64 t (by omega) y0 (by omega)
      have w9 : (ym % 2 ^ t != 0) = decide (ym % 2 ^ t ≠ 0) := by
        rw [Bool.eq_iff_iff]
        simp
      simp only [w5, w6, w7, w8, w9]
      exact Ev.neg c2 (Ev.pos (by omega) J)
theorem specSum210 {xm xe ym ye : Int} (xn yn : Bool) (hx : Fin10 xm xe) (hy : Fin10 ym ye) :
    Ev (fun k => spec_l4K_sum.f k 5 10 xn false false xm xe yn false false ym ye) (sum210 xn xm xe yn ym ye) := by
  have hf : ∀ (xn yn : Bool) (xm xe ym ye : Int), Fin10 xm xe → Fin10 ym ye → ye ≤ xe → Ev (fun k => spec_l4K_sum.f k 5 10 xn false false xm xe yn false false ym ye) (sumv10 xn xm xe yn ym ye) := by
    intro xn yn xm xe ym ye hx hy h
    refine Ev.step (g := fun k => spec_l4K_sum.j0 k false 5 10 xn false false xm xe yn false false ym ye) (fun k => by simp only [spec_l4K_sum.f]; rfl) (specSum10 xn yn hx hy h)
  unfold sum210
  by_cases c : xe < ye
  · rw [if_pos c]
    refine Ev.step (g := fun k => spec_l4K_sum.j0 k false 5 10 xn false false xm xe yn false false ym ye) (fun k => by simp only [spec_l4K_sum.f]; rfl) ?_
    refine Ev.step (g := fun k => (spec_l4K_sum.f k 5 10 yn false false ym ye xn false false xm xe).bind fun t => some t) (fun k => ?_) (Ev.bind (hf yn xn ym ye xm xe hy hx (by omega)) (Ev.const _))
    simp only [spec_l4K_sum.j0]
    rw [if_neg (by decide), if_neg (by decide), if_neg (by decide), if_pos c]
  · rw [if_neg c]
    exact hf xn yn xm xe ym ye hx hy (by omega)
theorem implFlt23 {m e : Int} (neg more : Bool) (m0 : 0 ≤ m) (m1 : m < 2305843009213693952) (e0 : -1000 ≤ e) (e1 : e ≤ 1000) : Ev (fun k => impl_format_round.f k 23 127 neg m e more) (flt 2147483648 23 (-149) 255 neg m e more) := by
  unfold flt
  by_cases c : m = 0
  · subst c
    rw [if_pos rfl]
    refine Ev.eq (g := fun _ => some (sg 2147483648 neg)) (fun k => ?_) (Ev.const _)
    unfold impl_format_round.f
    rw [if_pos rfl, implSigned23 neg (by omega) (by omega), Option.bind_some, Int.add_zero]
  · rw [if_neg c]
    have h := isLen_of (m := m) (by omega)
    exact implRnd23 neg more h (len_le h (n := 62) (by have : (2 : Int) ^ 62 = 4611686018427387904 := by decide
                                                       omega)) e0 e1
theorem specFlt23 {m e : Int} (neg more : Bool) (m0 : 0 ≤ m) (m1 : m < 2305843009213693952) (e0 : -1000 ≤ e) (e1 : e ≤ 1000) : Ev (fun k => spec_l4K_round.f k 8 23 neg m e more) (flt 2147483648 23 (-149) 255 neg m e more) := by
  unfold flt
  by_cases c : m = 0
  · subst c
    rw [if_pos rfl]
    refine Ev.eq (g := fun _ => some (sg 2147483648 neg)) (fun k => ?_) (Ev.const _)
    unfold spec_l4K_round.f
    rw [if_pos rfl, specSign23 neg, Option.bind_some]
  · rw [if_neg c]
    have h := isLen_of (m := m) (by omega)
    exact specRnd23 neg more h (len_le h (n := 62) (by have : (2 : Int) ^ 62 = 4611686018427387904 := by decide
                                                       omega)) e0 e1
theorem flt_cut23 {A r e : Int} {t : Nat} (neg more : Bool) (hA : 16777216 ≤ A) (r0 : 0 ≤ r) (r1 : r < 2 ^ t) :
    flt 2147483648 23 (-149) 255 neg (A * 2 ^ t + r) e more = flt 2147483648 23 (-149) 255 neg A (e + t) (decide (r ≠ 0) || more) := by
  have ht := p2_pos t
  have hA' : 0 < A * 2 ^ t := Int.mul_pos (by omega) ht
  have hl := isLen_of (m := A) (by omega)
  have hL : 23 + 1 < lenOf A := by
    rcases Nat.lt_or_ge (23 + 1) (lenOf A) with c | c
    · exact c
    · exfalso
      have h1 := hl.2.2
      have h2 := p2_le c
      have h3 : (2 : Int) ^ (23 + 1) = 16777216 := by decide
      omega
  have hl2 := isLen_of (m := A * 2 ^ t + r) (by omega)
  have he := len_uniq hl2 (len_cut hl r0 r1)
  unfold flt
  rw [if_neg (by omega), if_neg (by omega), he, code_cut more r0 r1 hL]
/-- A finite one taken apart. -/
structure Fin23 (m e : Int) : Prop where
  m0 : 0 ≤ m
  m1 : m < 16777216
  e0 : -149 ≤ e
  e1 : e ≤ 104
  nm : -149 < e → 8388608 ≤ m
def sumv23 (xn : Bool) (xm xe : Int) (yn : Bool) (ym ye : Int) : Int :=
  if (xn == yn) = true then flt 2147483648 23 (-149) 255 xn (xm * 2 ^ (xe - ye).toNat + ym) ye false
  else (if xm * 2 ^ (xe - ye).toNat > ym then flt 2147483648 23 (-149) 255 xn (xm * 2 ^ (xe - ye).toNat - ym) ye false
  else (if xm * 2 ^ (xe - ye).toNat < ym then flt 2147483648 23 (-149) 255 yn (ym - xm * 2 ^ (xe - ye).toNat) ye false else 0))
def sum223 (xn : Bool) (xm xe : Int) (yn : Bool) (ym ye : Int) : Int := if xe < ye then sumv23 yn ym ye xn xm xe else sumv23 xn xm xe yn ym ye
theorem sum2_comm23 (xn : Bool) (xm xe : Int) (yn : Bool) (ym ye : Int) : sum223 xn xm xe yn ym ye = sum223 yn ym ye xn xm xe := by
  unfold sum223
  rcases Int.lt_trichotomy xe ye with c | c | c
  · rw [if_pos c, if_neg (by omega)]
  · subst c
    rw [if_neg (by omega), if_neg (by omega)]
    unfold sumv23
    have e : (xe - xe).toNat = 0 := by omega
    rw [e]
    simp only [Int.pow_zero, Int.mul_one]
    by_cases c1 : xn = yn
    · subst c1
      simp [Int.add_comm]
    · have c2 : ¬ (xn == yn) = true := by simpa using c1
      have c3 : ¬ (yn == xn) = true := by simpa using fun h => c1 h.symm
      rw [if_neg c2, if_neg c3]
      rcases Int.lt_trichotomy xm ym with d | d | d
      · rw [if_neg (by omega), if_pos d, if_pos d]
      · subst d
        rw [if_neg (by omega), if_neg (by omega), if_neg (by omega), if_neg (by omega)]
      · rw [if_pos d, if_neg (by omega), if_pos d]
  · rw [if_neg (by omega), if_pos c]
theorem sumv_cut23 {xm xe ym ye : Int} (xn yn : Bool) (c t : Nat) (hc : 30 ≤ c) (hc' : c ≤ 35) (hx : Fin23 xm xe) (hy : Fin23 ym ye) (ht : 1 ≤ t) (hd : xe - ye = ((c + t : Nat) : Int)) :
    sumv23 xn xm xe yn ym ye = if (xn == yn) = true then flt 2147483648 23 (-149) 255 xn (xm * 2 ^ c + ym / 2 ^ t) (xe - c) (decide (ym % 2 ^ t ≠ 0))
      else flt 2147483648 23 (-149) 255 xn (xm * 2 ^ c - ym / 2 ^ t - (if (decide (ym % 2 ^ t ≠ 0)) = true then 1 else 0)) (xe - c) (decide (ym % 2 ^ t ≠ 0)) := by
  obtain ⟨x0, x1, x2, x3, x4⟩ := hx
  obtain ⟨y0, y1, y2, y3, _⟩ := hy
  have hp := p2_pos t
  have xp := x4 (by omega)
  have h30 : (2 : Int) ^ 30 ≤ 2 ^ c := p2_le hc
  have e30 : (2 : Int) ^ 30 = 1073741824 := by decide
  have hX : 8388608 * 1073741824 ≤ xm * 2 ^ c := Int.mul_le_mul xp (by omega) (by omega) (by omega)
  have hr0 := Int.emod_nonneg ym (b := 2 ^ t) (by omega)
  have hr1 := Int.emod_lt_of_pos ym hp
  have hs0 : 0 ≤ ym / 2 ^ t := Int.ediv_nonneg y0 (by omega)
  have hs1 : ym / 2 ^ t ≤ ym := Int.ediv_le_self _ y0
  have hy := Int.emod_add_mul_ediv ym (2 ^ t)
  have hM : xm * 2 ^ (c + t) = xm * 2 ^ c * 2 ^ t := by rw [p2_add, Int.mul_assoc]
  have he : ye + (t : Int) = xe - c := by omega
  have hXM : xm * 2 ^ c ≤ xm * 2 ^ c * 2 ^ t := by
    have := Int.mul_le_mul_of_nonneg_left (show (1 : Int) ≤ 2 ^ t by omega) (show 0 ≤ xm * 2 ^ c by omega)
    omega
  unfold sumv23
  rw [hd, Int.toNat_natCast, hM]
  generalize xm * 2 ^ c = X at *
  generalize ym / 2 ^ t = s at *
  generalize ym % 2 ^ t = r at *
  have hms : 2 ^ t * s = s * 2 ^ t := Int.mul_comm _ _
  by_cases c1 : (xn == yn) = true
  · rw [if_pos c1, if_pos c1]
    have e1 : X * 2 ^ t + ym = (X + s) * 2 ^ t + r := by
      rw [Int.add_mul]
      omega
    rw [e1, flt_cut23 xn false (by omega) hr0 hr1, he, Bool.or_false]
  · rw [if_neg c1, if_neg c1, if_pos (by omega)]
    by_cases c2 : r = 0
    · have e1 : X * 2 ^ t - ym = (X - s) * 2 ^ t + 0 := by
        rw [Int.sub_mul]
        omega
      rw [e1, flt_cut23 xn false (by omega) (by omega) hp, he, c2]
      simp
    · have e1 : X * 2 ^ t - ym = (X - s - 1) * 2 ^ t + (2 ^ t - r) := by
        rw [Int.sub_mul, Int.sub_mul]
        omega
      rw [e1, flt_cut23 xn false (by omega) (by omega) (by omega), he]
      have e2 : decide (2 ^ t - r ≠ 0) = true := by
        rw [decide_eq_true_eq]
        omega
      have e3 : decide (r ≠ 0) = true := by simpa using c2
      rw [e2, e3]
      rfl
theorem implSumJ23 {xm xe ym ye X s : Int} (xn yn b1 b2 b3 b4 more : Bool) (hX : 2 * 16777216 ≤ X) (hX1 : X ≤ 16777216 * 34359738368) (s0 : 0 ≤ s) (s1 : s < 16777216) (e0 : -149 ≤ xe) (e1 : xe ≤ 104) :
    Ev (fun k => impl_format_sum.j1 k X s more 23 127 xn b1 b2 xm xe yn b3 b4 ym ye) (if (xn == yn) = true then flt 2147483648 23 (-149) 255 xn (X + s) (xe - 35) more else flt 2147483648 23 (-149) 255 xn (X - s - (if more = true then 1 else 0)) (xe - 35) more) := by
  have w1 : IntKind.u64.wrap (X + s) = X + s := u64_id (by omega) (by omega)
  have w2 : IntKind.u64.wrap (X - s) = X - s := u64_id (by omega) (by omega)
  have w3 : IntKind.u64.wrap (X - s - 1) = X - s - 1 := u64_id (by omega) (by omega)
  have w4 : wrap64 (xe - 35) = xe - 35 := w64_id (by omega) (by omega)
  refine Ev.step (g := fun k => _) (fun k => by simp only [impl_format_sum.j1, w1, w2, w3, w4]; rfl) ?_
  by_cases c1 : (xn == yn) = true
  · rw [if_pos c1]
    exact Ev.pos c1 (Ev.bind (implFlt23 xn more (by omega) (by omega) (by omega) (by omega)) (Ev.const _))
  · rw [if_neg c1]
    refine Ev.neg c1 ?_
    by_cases c2 : more = true
    · rw [if_pos c2]
      exact Ev.pos c2 (Ev.bind (implFlt23 xn more (by omega) (by omega) (by omega) (by omega)) (Ev.const _))
    · rw [if_neg c2, Int.sub_zero]
      exact Ev.neg c2 (Ev.bind (implFlt23 xn more (by omega) (by omega) (by omega) (by omega)) (Ev.const _))
theorem implSum23 {xm xe ym ye : Int} (xn yn b1 b2 b3 b4 : Bool) (hx : Fin23 xm xe) (hy : Fin23 ym ye) (h : ye ≤ xe) :
    Ev (fun k => impl_format_sum.j0 k 23 127 xn b1 b2 xm xe yn b3 b4 ym ye) (sumv23 xn xm xe yn ym ye) := by
  have hx' := hx
  have hy' := hy
  obtain ⟨x0, x1, x2, x3, x4⟩ := hx
  obtain ⟨y0, y1, y2, y3, _⟩ := hy
  obtain ⟨d, hd⟩ : ∃ d : Nat, xe - ye = d := ⟨(xe - ye).toNat, by omega⟩
  have w1 : wrap64 (xe - ye) = (d : Int) := by rw [w64_id (by omega) (by omega), hd]
  by_cases c : d ≤ 35
  · have hp := p2_pos d
    have hp1 := p2_le c
    have e35 : (2 : Int) ^ 35 = 34359738368 := by decide
    have hM0 : 0 ≤ xm * 2 ^ d := Int.mul_nonneg x0 (by omega)
    have hM1 : xm * 2 ^ d ≤ 16777216 * 34359738368 := Int.mul_le_mul (by omega) (by omega) (by omega) (by omega)
    have w2 : shl .u64 xm (d : Int) = xm * 2 ^ d := shl64 d (by omega) x0 (by omega)
    unfold sumv23
    rw [hd, Int.toNat_natCast]
    refine Ev.step (g := fun k => _) (fun k => by simp only [impl_format_sum.j0, w1, w2]; rfl) ?_
    generalize xm * 2 ^ d = M at *
    refine Ev.pos (by omega) (Ev.pos (by omega) ?_)
    by_cases c1 : (xn == yn) = true
    · rw [if_pos c1]
      have w3 : IntKind.u64.wrap (M + ym) = M + ym := u64_id (by omega) (by omega)
      simp only [w3]
      exact Ev.pos c1 (Ev.bind (implFlt23 xn false (by omega) (by omega) (by omega) (by omega)) (Ev.const _))
    · rw [if_neg c1]
      refine Ev.neg c1 ?_
      by_cases c2 : M > ym
      · rw [if_pos c2]
        have w3 : IntKind.u64.wrap (M - ym) = M - ym := u64_id (by omega) (by omega)
        simp only [w3]
        exact Ev.pos c2 (Ev.bind (implFlt23 xn false (by omega) (by omega) (by omega) (by omega)) (Ev.const _))
      · rw [if_neg c2]
        refine Ev.neg c2 ?_
        by_cases c3 : M < ym
        · rw [if_pos c3]
          have w3 : IntKind.u64.wrap (ym - M) = ym - M := u64_id (by omega) (by omega)
          simp only [w3]
          exact Ev.pos c3 (Ev.bind (implFlt23 yn false (by omega) (by omega) (by omega) (by omega)) (Ev.const _))
        · rw [if_neg c3]
          exact Ev.neg c3 (Ev.const _)
  · obtain ⟨t, ht⟩ : ∃ t : Nat, d = 35 + t := ⟨d - 35, by omega⟩
    subst ht
    rw [sumv_cut23 xn yn 35 t (by omega) (by omega) hx' hy' (by omega) hd]
    have xp := x4 (by omega)
    have hpt := p2_pos t
    have hs0 : 0 ≤ ym / 2 ^ t := Int.ediv_nonneg y0 (by omega)
    have hs1 : ym / 2 ^ t ≤ ym := Int.ediv_le_self _ y0
    have e35 : (2 : Int) ^ 35 = 34359738368 := by decide
    rw [e35]
    have w2 : wrap64 (((35 + t : Nat) : Int) - 35) = (t : Int) := by rw [w64_id (by omega) (by omega)]; omega
    have w3 : IntKind.u64.wrap (xm * 34359738368) = xm * 34359738368 := u64_id (by omega) (by omega)
    have J := implSumJ23 (xm := xm) (ym := ym) (ye := ye) (X := xm * 34359738368) (s := ym / 2 ^ t) xn yn b1 b2 b3 b4 (decide (ym % 2 ^ t ≠ 0)) (by omega) (by omega) hs0 (by omega) x2 x3
    refine Ev.step (g := fun k => _) (fun k => by simp only [impl_format_sum.j0, w1, w2, w3]; rfl) ?_
    refine Ev.neg (by omega) ?_
    by_cases c2 : t < 64
    · have w4 : shr .u64 ym (t : Int) = ym / 2 ^ t := shr64 ym t (by omega)
      have hle : ym / 2 ^ t * 2 ^ t ≤ ym := Int.ediv_mul_le _ (by omega)
      have w5 : shl .u64 (ym / 2 ^ t) (t : Int) = ym / 2 ^ t * 2 ^ t := shl64 t (by omega) hs0 (by omega)
      have w6 : (ym / 2 ^ t * 2 ^ t != ym) = decide (ym % 2 ^ t ≠ 0) := by
        have hy := Int.emod_add_mul_ediv ym (2 ^ t)
        rw [Int.mul_comm] at hy
        rw [Bool.eq_iff_iff]
        simp only [bne_iff_ne, decide_eq_true_eq, ne_eq]
        omega
      simp only [w4, w5, w6]
      exact Ev.pos (by omega) (Ev.pos (by omega) J)
    · have h64 := p2_le (a := 64) (b := t) (by omega)
      have e64 : (2 : Int) ^ 64 = 18446744073709551616 := by decide
      have z1 : ym / 2 ^ t = 0 := Int.ediv_eq_zero_of_lt y0 (by omega)
      have z2 : ym % 2 ^ t = ym := Int.emod_eq_of_lt y0 (by omega)
      rw [z1, z2] at J
      rw [z1, z2]
      have w6 : (ym != 0) = decide (ym ≠ 0) := by
        rw [Bool.eq_iff_iff]
        simp
      simp only [w6]
      exact Ev.neg (by omega) J
theorem implSum223 {xm xe ym ye : Int} (xn yn b1 b2 b3 b4 : Bool) (hx : Fin23 xm xe) (hy : Fin23 ym ye) :
    Ev (fun k => impl_format_sum.f k 23 127 xn b1 b2 xm xe yn b3 b4 ym ye) (sum223 xn xm xe yn ym ye) := by
  unfold impl_format_sum.f sum223
  by_cases c : xe < ye
  · rw [if_pos c]
    exact Ev.pos c (implSum23 yn xn b3 b4 b1 b2 hy hx (by omega))
  · rw [if_neg c]
    exact Ev.neg c (implSum23 xn yn b1 b2 b3 b4 hx hy (by omega))
theorem specSumJ23 {xe ym ye X s : Int} (xn yn b1 b2 b3 b4 more : Bool) (hX : 2 * 16777216 ≤ X) (hX1 : X ≤ 16777216 * 1073741824) (s0 : 0 ≤ s) (s1 : s < 16777216) (e0 : -149 ≤ xe) (e1 : xe ≤ 104) :
    Ev (fun k => spec_l4K_sum.j1 k more 8 23 xn b1 b2 X xe yn b3 b4 s (xe - 30)) (if (xn == yn) = true then flt 2147483648 23 (-149) 255 xn (X + s) (xe - 30) more else flt 2147483648 23 (-149) 255 xn (X - s - (if more = true then 1 else 0)) (xe - 30) more) := by
  have w1 : IntKind.u64.wrap (X + s) = X + s := u64_id (by omega) (by omega)
  have w2 : IntKind.u64.wrap (X - s) = X - s := u64_id (by omega) (by omega)
  have w3 : IntKind.u64.wrap (X - s - 1) = X - s - 1 := u64_id (by omega) (by omega)
  refine Ev.step (g := fun k => _) (fun k => by simp only [spec_l4K_sum.j1, w1, w2, w3]; rfl) ?_
  by_cases c1 : (xn == yn) = true
  · rw [if_pos c1]
    exact Ev.pos c1 (Ev.bind (specFlt23 xn more (by omega) (by omega) (by omega) (by omega)) (Ev.const _))
  · rw [if_neg c1]
    have j2 : ∀ Z : Int, 0 < Z → Z < 2305843009213693952 → Ev (fun k => spec_l4K_sum.j2 k more Z 8 23 xn b1 b2 X xe yn b3 b4 s (xe - 30)) (flt 2147483648 23 (-149) 255 xn Z (xe - 30) more) := by
      intro Z z0 z1
      refine Ev.step (g := fun k => spec_l4K_sum.j3 k more Z false 8 23 xn b1 b2 X xe yn b3 b4 s (xe - 30)) (fun k => by simp only [spec_l4K_sum.j2]; rw [if_neg (by omega)]) ?_
      refine Ev.step (g := fun k => (spec_l4K_round.f k 8 23 xn Z (xe - 30) more).bind fun t => some t) (fun k => by simp only [spec_l4K_sum.j3]; rw [if_neg (by decide)]) ?_
      exact Ev.bind (specFlt23 xn more (by omega) (by omega) (by omega) (by omega)) (Ev.const _)
    refine Ev.neg c1 (Ev.neg (by omega) ?_)
    by_cases c2 : more = true
    · rw [if_pos c2]
      exact Ev.pos c2 (j2 _ (by omega) (by omega))
    · rw [if_neg c2, Int.sub_zero]
      exact Ev.neg c2 (j2 _ (by omega) (by omega))
theorem specSum23 {xm xe ym ye : Int} (xn yn : Bool) (hx : Fin23 xm xe) (hy : Fin23 ym ye) (h : ye ≤ xe) :
    Ev (fun k => spec_l4K_sum.j0 k false 8 23 xn false false xm xe yn false false ym ye) (sumv23 xn xm xe yn ym ye) := by
  have hx' := hx
  have hy' := hy
  obtain ⟨x0, x1, x2, x3, x4⟩ := hx
  obtain ⟨y0, y1, y2, y3, _⟩ := hy
  obtain ⟨d, hd⟩ : ∃ d : Nat, xe - ye = d := ⟨(xe - ye).toNat, by omega⟩
  have w1 : IntKind.u64.wrap (wrap64 (xe - ye)) = (d : Int) := by rw [w64_id (by omega) (by omega), hd, u64_id (by omega) (by omega)]
  refine Ev.step (g := fun k => _) (fun k => by simp only [spec_l4K_sum.j0, w1]; rfl) ?_
  refine Ev.neg (by decide) (Ev.neg (by decide) (Ev.neg (by decide) (Ev.neg (by omega) ?_)))
  by_cases c : d ≤ 30
  · have hp := p2_pos d
    have hp1 := p2_le c
    have e30 : (2 : Int) ^ 30 = 1073741824 := by decide
    have hM0 : 0 ≤ xm * 2 ^ d := Int.mul_nonneg x0 (by omega)
    have hM1 : xm * 2 ^ d ≤ 16777216 * 1073741824 := Int.mul_le_mul (by omega) (by omega) (by omega) (by omega)
    have w2 : shl .u64 xm (d : Int) = xm * 2 ^ d := shl64 d (by omega) x0 (by omega)
    refine Ev.pos (by omega) (Ev.pos (by omega) ?_)
    simp only [w2]
    unfold sumv23
    rw [hd, Int.toNat_natCast]
    generalize xm * 2 ^ d = M at *
    refine Ev.step (g := fun k => _) (fun k => by simp only [spec_l4K_sum.j1]; rfl) ?_
    by_cases c1 : (xn == yn) = true
    · rw [if_pos c1]
      have w3 : IntKind.u64.wrap (M + ym) = M + ym := u64_id (by omega) (by omega)
      simp only [w3]
      exact Ev.pos c1 (Ev.bind (specFlt23 xn false (by omega) (by omega) (by omega) (by omega)) (Ev.const _))
    · rw [if_neg c1]
      refine Ev.neg c1 ?_
      by_cases c2 : ym > M
      · rw [if_neg (by omega), if_pos c2]
        have w3 : IntKind.u64.wrap (ym - M) = ym - M := u64_id (by omega) (by omega)
        simp only [w3]
        exact Ev.pos c2 (Ev.bind (specFlt23 yn false (by omega) (by omega) (by omega) (by omega)) (Ev.const _))
      · refine Ev.neg c2 (Ev.neg (by decide) ?_)
        have w3 : IntKind.u64.wrap (M - ym) = M - ym := u64_id (by omega) (by omega)
        simp only [w3]
        by_cases c3 : M = ym
        · rw [if_neg (by omega), if_neg (by omega)]
          have z : M - ym = 0 := by omega
          rw [z]
          refine Ev.step (g := fun k => spec_l4K_sum.j3 k false 0 true 8 23 xn false false M xe yn false false ym ye) (fun k => by simp only [spec_l4K_sum.j2]; rw [if_pos trivial]; rfl) ?_
          refine Ev.step (g := fun k => some 0) (fun k => by simp only [spec_l4K_sum.j3]; rw [if_pos trivial, specSign23]; rfl) (Ev.const _)
        · rw [if_pos (by omega)]
          refine Ev.step (g := fun k => spec_l4K_sum.j3 k false (M - ym) false 8 23 xn false false M xe yn false false ym ye) (fun k => by simp only [spec_l4K_sum.j2]; rw [if_neg (by omega)]) ?_
          refine Ev.step (g := fun k => (spec_l4K_round.f k 8 23 xn (M - ym) ye false).bind fun t => some t) (fun k => by simp only [spec_l4K_sum.j3]; rw [if_neg (by decide)]) ?_
          exact Ev.bind (specFlt23 xn false (by omega) (by omega) (by omega) (by omega)) (Ev.const _)
  · refine Ev.neg (by omega) ?_
    obtain ⟨t, ht⟩ : ∃ t : Nat, d = 30 + t := ⟨d - 30, by omega⟩
    subst ht
    rw [sumv_cut23 xn yn 30 t (by omega) (by omega) hx' hy' (by omega) hd]
    have xp := x4 (by omega)
    have hpt := p2_pos t
    have hs0 : 0 ≤ ym / 2 ^ t := Int.ediv_nonneg y0 (by omega)
    have hs1 : ym / 2 ^ t ≤ ym := Int.ediv_le_self _ y0
    have e30 : (2 : Int) ^ 30 = 1073741824 := by decide
    rw [e30]
    have w2 : IntKind.u64.wrap (((30 + t : Nat) : Int) - 30) = (t : Int) := by rw [u64_id (by omega) (by omega)]; omega
    have w3 : IntKind.u64.wrap (xm * 1073741824) = xm * 1073741824 := u64_id (by omega) (by omega)
    have w4 : wrap64 (xe - 30) = xe - 30 := w64_id (by omega) (by omega)
    have J := specSumJ23 (xe := xe) (ym := ym) (ye := ye) (X := xm * 1073741824) (s := ym / 2 ^ t) xn yn false false false false (decide (ym % 2 ^ t ≠ 0)) (by omega) (by omega) hs0 (by omega) x2 x3
    simp only [w2, w3, w4]
    by_cases c2 : (t : Int) > 60
    · have h64 := p2_le (a := 60) (b := t) (by omega)
      have e64 : (2 : Int) ^ 60 = 1152921504606846976 := by decide
      have z1 : ym / 2 ^ t = 0 := Int.ediv_eq_zero_of_lt y0 (by omega)
      have z2 : ym % 2 ^ t = ym := Int.emod_eq_of_lt y0 (by omega)
      rw [z1, z2] at J
      rw [z1, z2]
      have w6 : (ym != 0) = decide (ym ≠ 0) := by
        rw [Bool.eq_iff_iff]
        simp
      simp only [w6]
      exact Ev.pos c2 J
    · have h60 := p2_le (a := t) (b := 60) (by omega)
      have e60 : (2 : Int) ^ 60 = 1152921504606846976 := by decide
      have w5 : shr .u64 ym (t : Int) = ym / 2 ^ t := shr64 ym t (by omega)
      have w6 : shl .u64 1 (t : Int) = 2 ^ t := by
        rw [shl64 t (by omega) (by omega) (by omega)]
        omega
      have w7 : IntKind.u64.wrap (2 ^ t - 1) = 2 ^ t - 1 := u64_id (by omega) (by omega)
      have w8 : Go.bits .and .u64 ym (2 ^ t - 1) = ym % 2 ^ t := and64 t (by omega) y0 (by omega)
      have w9 : (ym % 2 ^ t != 0) = decide (ym % 2 ^ t ≠ 0) := by
        rw [Bool.eq_iff_iff]
        simp
      simp only [w5, w6, w7, w8, w9]
      exact Ev.neg c2 (Ev.pos (by omega) J)
theorem specSum223 {xm xe ym ye : Int} (xn yn : Bool) (hx : Fin23 xm xe) (hy : Fin23 ym ye) :
    Ev (fun k => spec_l4K_sum.f k 8 23 xn false false xm xe yn false false ym ye) (sum223 xn xm xe yn ym ye) := by
  have hf : ∀ (xn yn : Bool) (xm xe ym ye : Int), Fin23 xm xe → Fin23 ym ye → ye ≤ xe → Ev (fun k => spec_l4K_sum.f k 8 23 xn false false xm xe yn false false ym ye) (sumv23 xn xm xe yn ym ye) := by
    intro xn yn xm xe ym ye hx hy h
    refine Ev.step (g := fun k => spec_l4K_sum.j0 k false 8 23 xn false false xm xe yn false false ym ye) (fun k => by simp only [spec_l4K_sum.f]; rfl) (specSum23 xn yn hx hy h)
  unfold sum223
  by_cases c : xe < ye
  · rw [if_pos c]
    refine Ev.step (g := fun k => spec_l4K_sum.j0 k false 8 23 xn false false xm xe yn false false ym ye) (fun k => by simp only [spec_l4K_sum.f]; rfl) ?_
    refine Ev.step (g := fun k => (spec_l4K_sum.f k 8 23 yn false false ym ye xn false false xm xe).bind fun t => some t) (fun k => ?_) (Ev.bind (hf yn xn ym ye xm xe hy hx (by omega)) (Ev.const _))
    simp only [spec_l4K_sum.j0]
    rw [if_neg (by decide), if_neg (by decide), if_neg (by decide), if_pos c]
  · rw [if_neg c]
    exact hf xn yn xm xe ym ye hx hy (by omega)
end Go.Proofs.Ytdoflfifnkpacaa.FA
