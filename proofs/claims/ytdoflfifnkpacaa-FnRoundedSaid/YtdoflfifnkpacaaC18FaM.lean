/-
  Plain laws behind FnRounded: sums, products and quotients of halves and singles.
-/
import Derived.Test.YtdoflfifnkpacaaC18FaN1
namespace Go.Proofs.Ytdoflfifnkpacaa.FA
open Go.RowKit Go.Proofs.YtdoflfifnkpacaaW.PrintWords Go.Proofs.YtdoflfifnkpacaaW.PrintLast Go.Proofs.YtdoflfifnkpacaaW.PrintMore
set_option linter.unusedSimpArgs false
set_option linter.unusedVariables false
def rq (d h R : Int) (more : Bool) : Int := if R % d > h then R / d + 1 else (if R % d = h then (if more = true then R / d + 1 else (if R / d % 2 = 1 then R / d + 1 else R / d)) else R / d)
theorem p2_add (a b : Nat) : (2 : Int) ^ (a + b) = 2 ^ a * 2 ^ b := Int.pow_add _ _ _
theorem p2_le {a b : Nat} (h : a ≤ b) : (2 : Int) ^ a ≤ 2 ^ b := by
  have := Nat.pow_le_pow_right (n := 2) (by decide) h
  exact_mod_cast this
/-- The bounds of a quotient. -/
theorem div_lt {m a b : Int} (hb : 0 < b) (h : m < a * b) : m / b < a := Int.ediv_lt_of_lt_mul hb h
theorem le_div {m a b : Int} (hb : 0 < b) (h : a * b ≤ m) : a ≤ m / b := (Int.le_ediv_iff_mul_le hb).2 h
/-- A length is that of a number cut behind. -/
theorem len_cut {A r : Int} {L t : Nat} (h : IsLen A L) (r0 : 0 ≤ r) (r1 : r < 2 ^ t) : IsLen (A * 2 ^ t + r) (L + t) := by
  obtain ⟨h1, h2, h3⟩ := h
  have ht := p2_pos t
  refine ⟨by omega, ?_, ?_⟩
  · have e : L + t - 1 = (L - 1) + t := by omega
    rw [e, p2_add]
    have := Int.mul_le_mul_of_nonneg_right h2 (Int.le_of_lt ht)
    omega
  · rw [p2_add]
    have : (A + 1) * 2 ^ t ≤ 2 ^ L * 2 ^ t := Int.mul_le_mul_of_nonneg_right (by omega) (Int.le_of_lt ht)
    rw [Int.add_mul, Int.one_mul] at this
    omega
/-- Rounding what is cut behind, the cut told by `more`. -/
theorem rq_cut {A r : Int} {s t : Nat} (more : Bool) (r0 : 0 ≤ r) (r1 : r < 2 ^ t) :
    rq (2 ^ (s + 1 + t)) (2 ^ (s + t)) (A * 2 ^ t + r) more = rq (2 ^ (s + 1)) (2 ^ s) A (decide (r ≠ 0) || more) := by
  have ht := p2_pos t
  have hs := p2_pos (s + 1)
  have hq : (A * 2 ^ t + r) / 2 ^ (s + 1 + t) = A / 2 ^ (s + 1) := by
    rw [p2_add, Int.mul_comm (2 ^ (s + 1)), ← Int.ediv_ediv_of_nonneg (Int.le_of_lt ht), Int.add_comm, Int.add_mul_ediv_right _ _ (by omega), Int.ediv_eq_zero_of_lt r0 r1, Int.zero_add]
  have hr : (A * 2 ^ t + r) % 2 ^ (s + 1 + t) = A % 2 ^ (s + 1) * 2 ^ t + r := by
    have e1 := Int.emod_add_mul_ediv (A * 2 ^ t + r) (2 ^ (s + 1 + t))
    have e2 := Int.emod_add_mul_ediv A (2 ^ (s + 1))
    rw [hq] at e1
    have e3 : A * 2 ^ t = (A % 2 ^ (s + 1) + 2 ^ (s + 1) * (A / 2 ^ (s + 1))) * 2 ^ t := by rw [e2]
    rw [Int.add_mul] at e3
    rw [p2_add] at e1 ⊢
    have e4 : 2 ^ (s + 1) * (A / 2 ^ (s + 1)) * 2 ^ t = 2 ^ (s + 1) * 2 ^ t * (A / 2 ^ (s + 1)) := by grind
    omega
  unfold rq
  rw [hq, hr, p2_add s t]
  generalize A % 2 ^ (s + 1) = a
  generalize A / 2 ^ (s + 1) = q
  have c1 : a * 2 ^ t + r > 2 ^ s * 2 ^ t ↔ (a > 2 ^ s ∨ (a = 2 ^ s ∧ r ≠ 0)) := by
    constructor
    · intro h
      rcases Int.lt_trichotomy a (2 ^ s) with c | c | c
      · have : (a + 1) * 2 ^ t ≤ 2 ^ s * 2 ^ t := Int.mul_le_mul_of_nonneg_right (by omega) (Int.le_of_lt ht)
        rw [Int.add_mul, Int.one_mul] at this
        omega
      · subst c
        exact Or.inr ⟨rfl, by omega⟩
      · exact Or.inl c
    · rintro (h | ⟨h, hn⟩)
      · have : (2 ^ s + 1) * 2 ^ t ≤ a * 2 ^ t := Int.mul_le_mul_of_nonneg_right (by omega) (Int.le_of_lt ht)
        rw [Int.add_mul, Int.one_mul] at this
        omega
      · subst h
        omega
  have c2 : a * 2 ^ t + r = 2 ^ s * 2 ^ t ↔ (a = 2 ^ s ∧ r = 0) := by
    constructor
    · intro h
      rcases Int.lt_trichotomy a (2 ^ s) with c | c | c
      · have : (a + 1) * 2 ^ t ≤ 2 ^ s * 2 ^ t := Int.mul_le_mul_of_nonneg_right (by omega) (Int.le_of_lt ht)
        rw [Int.add_mul, Int.one_mul] at this
        omega
      · subst c
        exact ⟨rfl, by omega⟩
      · have : (2 ^ s + 1) * 2 ^ t ≤ a * 2 ^ t := Int.mul_le_mul_of_nonneg_right (by omega) (Int.le_of_lt ht)
        rw [Int.add_mul, Int.one_mul] at this
        omega
    · rintro ⟨rfl, rfl⟩
      omega
  by_cases g : a > 2 ^ s
  · rw [if_pos (c1.2 (Or.inl g)), if_pos g]
  · by_cases g2 : a = 2 ^ s
    · by_cases g3 : r = 0
      · rw [if_neg (fun h => by rcases c1.1 h with h | h <;> omega), if_pos (c2.2 ⟨g2, g3⟩), if_neg g, if_pos g2]
        simp [g3]
      · rw [if_pos (c1.2 (Or.inr ⟨g2, g3⟩)), if_neg g, if_pos g2]
        simp [g3]
    · rw [if_neg (fun h => by rcases c1.1 h with h | h <;> omega), if_neg (fun h => g2 (c2.1 h).1), if_neg g, if_neg g2]
/-- The bits that a rounding leaves. -/
def kr (m s : Int) (more : Bool) : Int := if s ≤ 0 then m * 2 ^ (-s).toNat else rq (2 ^ s.toNat) (2 ^ (s.toNat - 1)) m more
/-- A float without its sign, from m 2^e of length L. -/
def code (p : Nat) (L0 T : Int) (L : Nat) (m e : Int) (more : Bool) : Int :=
  min ((max ((L : Int) - 1 + e - p) L0 - L0) * 2 ^ p + kr m (max ((L : Int) - 1 + e - p) L0 - e) more) (T * 2 ^ p)
theorem code_cut {p : Nat} {L0 T : Int} {L t : Nat} {A r e : Int} (more : Bool) (r0 : 0 ≤ r) (r1 : r < 2 ^ t) (hs : p + 1 < L) :
    code p L0 T (L + t) (A * 2 ^ t + r) e more = code p L0 T L A (e + t) (decide (r ≠ 0) || more) := by
  unfold code
  have e1 : (((L + t : Nat) : Int) - 1 + e - p) = ((L : Int) - 1 + (e + t) - p) := by omega
  rw [e1]
  have h1 : (L : Int) - 1 + (e + t) - p ≤ max ((L : Int) - 1 + (e + t) - p) L0 := by omega
  generalize max ((L : Int) - 1 + (e + t) - p) L0 = q at h1 ⊢
  obtain ⟨s, hs'⟩ : ∃ s : Nat, q - (e + t) = ((s + 1 : Nat) : Int) := ⟨(q - (e + t)).toNat - 1, by omega⟩
  have e2 : q - e = ((s + 1 + t : Nat) : Int) := by omega
  have : kr (A * 2 ^ t + r) (q - e) more = kr A (q - (e + t)) (decide (r ≠ 0) || more) := by
    unfold kr
    rw [e2, hs', if_neg (by omega), if_neg (by omega), Int.toNat_natCast, Int.toNat_natCast]
    have e3 : s + 1 + t - 1 = s + t := by omega
    rw [e3, Nat.add_sub_cancel]
    exact rq_cut more r0 r1
  rw [this]
theorem rq_bd {d h R : Int} (more : Bool) : R / d ≤ rq d h R more ∧ rq d h R more ≤ R / d + 1 := by
  unfold rq
  repeat' split
  all_goals omega
/-- What is left has at most p + 1 bits, or one more and is a power. -/
theorem kr_bd {p L : Nat} {m e q : Int} (more : Bool) (hm : IsLen m L) (h1 : (L : Int) - 1 + e - p ≤ q) : 0 ≤ kr m (q - e) more ∧ kr m (q - e) more ≤ 2 ^ (p + 1) ∧ (q = (L : Int) - 1 + e - p → 2 ^ p ≤ kr m (q - e) more) := by
  obtain ⟨l1, l2, l3⟩ := hm
  have m0 : 0 < m := by have := p2_pos (L - 1); omega
  unfold kr
  by_cases c : q - e ≤ 0
  · rw [if_pos c]
    obtain ⟨s, hs⟩ : ∃ s : Nat, -(q - e) = s := ⟨(-(q - e)).toNat, by omega⟩
    rw [hs, Int.toNat_natCast]
    have ps := p2_pos s
    refine ⟨Int.mul_nonneg (by omega) (by omega), ?_, fun hq => ?_⟩
    · have e1 : (2 : Int) ^ L * 2 ^ s ≤ 2 ^ (p + 1) := by rw [← p2_add]; exact p2_le (by omega)
      have := Int.mul_le_mul_of_nonneg_right (Int.le_of_lt l3) (Int.le_of_lt ps)
      omega
    · have e1 : (2 : Int) ^ (L - 1) * 2 ^ s = 2 ^ p := by rw [← p2_add]; congr 1; omega
      have := Int.mul_le_mul_of_nonneg_right l2 (Int.le_of_lt ps)
      omega
  · rw [if_neg c]
    obtain ⟨s, hs⟩ : ∃ s : Nat, q - e = s := ⟨(q - e).toNat, by omega⟩
    rw [hs, Int.toNat_natCast]
    have ps := p2_pos s
    have hb := rq_bd (d := 2 ^ s) (h := 2 ^ (s - 1)) (R := m) more
    have d0 : 0 ≤ m / 2 ^ s := Int.ediv_nonneg (by omega) (by omega)
    refine ⟨by omega, ?_, fun hq => ?_⟩
    · have : m / 2 ^ s < 2 ^ (p + 1) := div_lt ps (by rw [← p2_add]; have := p2_le (a := L) (b := p + 1 + s) (by omega); omega)
      omega
    · have : 2 ^ p ≤ m / 2 ^ s := le_div ps (by rw [← p2_add]; have := p2_le (a := p + s) (b := L - 1) (by omega); omega)
      omega
/-- A number `k` is nearest to X / V, an even one of two. -/
def Near (k X V : Int) : Prop := 2 * (X - k * V) ≤ V ∧ 2 * (k * V - X) ≤ V ∧ (2 * (X - k * V) = V → k % 2 = 0) ∧ (2 * (k * V - X) = V → k % 2 = 0)
theorem near_eq {k X V : Int} (hV : 0 < V) (h : X = k * V) : Near k X V := by
  unfold Near
  rw [← h]
  exact ⟨by omega, by omega, fun _ => by omega, fun _ => by omega⟩
theorem near_scale {k X V : Int} (A : Int) (hA : 0 < A) (h : Near k (X * A) (V * A)) : Near k X V := by
  unfold Near at *
  have e : k * (V * A) = k * V * A := by rw [Int.mul_assoc]
  rw [e] at h
  generalize k * V = W at h ⊢
  obtain ⟨h1, h2, h3, h4⟩ := h
  have c : ∀ a b : Int, a * A ≤ b * A → a ≤ b := fun a b hh => Int.le_of_mul_le_mul_right hh hA
  have e1 : 2 * (X * A - W * A) = (2 * (X - W)) * A := by grind
  have e2 : 2 * (W * A - X * A) = (2 * (W - X)) * A := by grind
  rw [e1] at h1 h3
  rw [e2] at h2 h4
  exact ⟨c _ _ h1, c _ _ h2, fun g => h3 (by rw [g]), fun g => h4 (by rw [g])⟩
theorem near_up {k X V : Int} (A : Int) (hA : 0 < A) (h : Near k X V) : Near k (X * A) (V * A) := by
  unfold Near at *
  have e : k * (V * A) = k * V * A := by rw [Int.mul_assoc]
  rw [e]
  generalize k * V = W at h ⊢
  obtain ⟨h1, h2, h3, h4⟩ := h
  have c : ∀ a b : Int, a ≤ b → a * A ≤ b * A := fun a b hh => Int.mul_le_mul_of_nonneg_right hh (Int.le_of_lt hA)
  have c2 : ∀ a b : Int, a * A = b * A → a = b := fun a b hh => Int.eq_of_mul_eq_mul_right (by omega) hh
  have e1 : 2 * (X * A - W * A) = (2 * (X - W)) * A := by grind
  have e2 : 2 * (W * A - X * A) = (2 * (W - X)) * A := by grind
  rw [e1, e2]
  exact ⟨c _ _ h1, c _ _ h2, fun g => h3 (c2 _ _ g), fun g => h4 (c2 _ _ g)⟩
theorem near_rq {m Y r : Int} (s : Nat) (hY : 0 < Y) (r0 : 0 ≤ r) (r1 : r < Y) : Near (rq (2 ^ (s + 1)) (2 ^ s) m (decide (r ≠ 0))) (m * Y + r) (2 ^ (s + 1) * Y) := by
  have hs := p2_pos s
  have e1 := Int.emod_add_mul_ediv m (2 ^ (s + 1))
  have a0 := Int.emod_nonneg m (b := 2 ^ (s + 1)) (by have := p2_pos (s + 1); omega)
  have a1 := Int.emod_lt_of_pos m (b := 2 ^ (s + 1)) (p2_pos _)
  unfold rq
  rw [p2_succ] at e1 a0 a1 ⊢
  generalize m % (2 * 2 ^ s) = a at e1 a0 a1 ⊢
  generalize m / (2 * 2 ^ s) = q at e1 ⊢
  generalize (2 : Int) ^ s = h at hs e1 a1 ⊢
  have em : m * Y = a * Y + 2 * (q * (h * Y)) := by rw [← e1]; grind
  have ek : q * (2 * h * Y) = 2 * (q * (h * Y)) := by grind
  have ek1 : (q + 1) * (2 * h * Y) = 2 * (q * (h * Y)) + 2 * (h * Y) := by grind
  have ev : 2 * h * Y = 2 * (h * Y) := by grind
  unfold Near
  by_cases c : a > h
  · rw [if_pos c, em, ek1, ev]
    have : (h + 1) * Y ≤ a * Y := Int.mul_le_mul_of_nonneg_right (by omega) (by omega)
    have e2 : (h + 1) * Y = h * Y + Y := by grind
    have : a * Y ≤ (2 * h - 1) * Y := Int.mul_le_mul_of_nonneg_right (by omega) (by omega)
    have e3 : (2 * h - 1) * Y = 2 * (h * Y) - Y := by grind
    have : 0 < h * Y := Int.mul_pos hs hY
    exact ⟨by omega, by omega, fun _ => by omega, fun _ => by omega⟩
  · rw [if_neg c]
    by_cases d : a = h
    · subst d
      rw [if_pos rfl]
      have : 0 < a * Y := Int.mul_pos hs hY
      by_cases z : r = 0
      · subst z
        rw [if_neg (by simp)]
        by_cases o : q % 2 = 1
        · rw [if_pos o, em, ek1, ev]
          exact ⟨by omega, by omega, fun _ => by omega, fun _ => by omega⟩
        · rw [if_neg o, em, ek, ev]
          exact ⟨by omega, by omega, fun _ => by omega, fun _ => by omega⟩
      · rw [if_pos (by simpa using z), em, ek1, ev]
        have hh : Y ≤ a * Y := by
          have := Int.mul_le_mul_of_nonneg_right (show 1 ≤ a by omega) (Int.le_of_lt hY)
          omega
        exact ⟨by omega, by omega, fun _ => by omega, fun _ => by omega⟩
    · rw [if_neg d, em, ek, ev]
      have : a * Y ≤ (h - 1) * Y := Int.mul_le_mul_of_nonneg_right (by omega) (by omega)
      have e3 : (h - 1) * Y = h * Y - Y := by grind
      have : 0 ≤ a * Y := Int.mul_nonneg a0 (by omega)
      exact ⟨by omega, by omega, fun _ => by omega, fun _ => by omega⟩
/-- What is rounded exactly told is near: m 2^e in parts of 2^-c. -/
theorem near_kr {m e q : Int} (c : Int) (he : 0 ≤ e + c) (hq : 0 ≤ q + c) : Near (kr m (q - e) false) (m * 2 ^ (e + c).toNat) (2 ^ (q + c).toNat) := by
  unfold kr
  by_cases h : q - e ≤ 0
  · rw [if_pos h]
    refine near_eq (p2_pos _) ?_
    rw [Int.mul_assoc, ← p2_add]
    congr 2
    omega
  · rw [if_neg h]
    obtain ⟨s, hs⟩ : ∃ s : Nat, q - e = ((s + 1 : Nat) : Int) := ⟨(q - e).toNat - 1, by omega⟩
    rw [hs, Int.toNat_natCast, Nat.add_sub_cancel]
    have := near_up (2 ^ (e + c).toNat) (p2_pos _) (near_rq (m := m) (Y := 1) (r := 0) s (by omega) (by omega) (by omega))
    have e1 : (m * 1 + 0) = m := by omega
    have e2 : 2 ^ (s + 1) * 1 * 2 ^ (e + c).toNat = (2 : Int) ^ (q + c).toNat := by
      rw [Int.mul_one, ← p2_add]
      congr 1
      omega
    rw [e1, e2] at this
    simpa using this
def exv (h : Int) : Int := if h / 1024 = 0 then h else (h % 1024 + 1024) * 2 ^ (h / 1024 - 1).toNat
def ab (n : Int) : Int := if n < 0 then -n else n
/-- `v` is no further from X / B than `w`, and where both are as near the code `c` is even. -/
def Beats (X B v w c : Int) : Prop := ab (X - v * B) ≤ ab (X - w * B) ∧ (ab (X - v * B) = ab (X - w * B) → c % 2 = 0)
theorem exv_low {c : Int} (h0 : 0 ≤ c) (h1 : c < 1024) : exv c = c := by
  unfold exv
  rw [if_pos (by omega)]
theorem exv_high {c f : Int} {n : Nat} (h : c = n * 1024 + 1024 + f) (f0 : 0 ≤ f) (f1 : f < 1024) : exv c = (f + 1024) * 2 ^ n := by
  unfold exv
  rw [if_neg (by omega)]
  have e1 : c % 1024 = f := by omega
  have e2 : (c / 1024 - 1).toNat = n := by omega
  rw [e1, e2]
theorem exv_code {k : Int} {n : Nat} (k0 : 0 ≤ k) (k1 : k ≤ 2048) (hn : 0 < n → 1024 ≤ k) : exv (n * 1024 + k) = k * 2 ^ n := by
  by_cases c : k < 1024
  · have : n = 0 := by omega
    subst this
    rw [exv_low (by omega) (by omega)]
    simp
  · by_cases d : k < 2048
    · rw [exv_high (n := n) (f := k - 1024) (by omega) (by omega) (by omega)]
      congr 1
      omega
    · have : k = 2048 := by omega
      subst this
      rw [exv_high (n := n + 1) (f := 0) (by omega) (by omega) (by omega), p2_succ]
      omega
theorem beats_up {k X B : Int} {n : Nat} (k0 : 0 ≤ k) (k1 : k ≤ 2048) (hn : 0 < n → 1024 ≤ k) (hB : 0 < B) (h : Near k X (2 ^ n * B)) :
    Beats X B (exv (n * 1024 + k)) (exv (n * 1024 + k + 1)) (n * 1024 + k) := by
  rw [exv_code k0 k1 hn]
  have hW : 0 < 2 ^ n * B := Int.mul_pos (p2_pos _) hB
  by_cases c : k < 2048
  · have e : exv (n * 1024 + k + 1) = (k + 1) * 2 ^ n := by
      rw [Int.add_assoc]
      exact exv_code (by omega) (by omega) (fun hh => by have := hn hh; omega)
    rw [e]
    unfold Beats Near at *
    have e1 : k * 2 ^ n * B = k * (2 ^ n * B) := by rw [Int.mul_assoc]
    have e2 : (k + 1) * 2 ^ n * B = k * (2 ^ n * B) + 2 ^ n * B := by grind
    rw [e1, e2]
    generalize k * (2 ^ n * B) = V at h ⊢
    generalize 2 ^ n * B = W at h hW ⊢
    obtain ⟨h1, h2, h3, h4⟩ := h
    unfold ab
    refine ⟨by split <;> split <;> omega, fun hh => ?_⟩
    have : 2 * (X - V) = W := by revert hh; split <;> split <;> omega
    have := h3 this
    omega
  · have hk : k = 2048 := by omega
    subst hk
    have e : exv (n * 1024 + 2048 + 1) = 1025 * 2 ^ (n + 1) := by
      rw [exv_high (n := n + 1) (f := 1) (by omega) (by omega) (by omega), show (1 + 1024 : Int) = 1025 by decide]
    rw [e]
    unfold Beats Near at *
    have e1 : 2048 * 2 ^ n * B = 2048 * (2 ^ n * B) := by rw [Int.mul_assoc]
    have e2 : 1025 * 2 ^ (n + 1) * B = 2048 * (2 ^ n * B) + 2 * (2 ^ n * B) := by rw [p2_succ]; grind
    rw [e1, e2]
    generalize 2048 * (2 ^ n * B) = V at h ⊢
    generalize 2 ^ n * B = W at h hW ⊢
    obtain ⟨h1, h2, h3, h4⟩ := h
    unfold ab
    exact ⟨by split <;> split <;> omega, fun hh => by omega⟩
theorem beats_down {k X B : Int} {n : Nat} (k0 : 0 ≤ k) (k1 : k ≤ 2048) (hn : 0 < n → 1024 ≤ k) (hB : 0 < B) (h : Near k X (2 ^ n * B)) (hX : 0 < n → 1024 * (2 ^ n * B) ≤ X) (hc : 1 ≤ n * 1024 + k) :
    Beats X B (exv (n * 1024 + k)) (exv (n * 1024 + k - 1)) (n * 1024 + k) := by
  rw [exv_code k0 k1 hn]
  have hW : 0 < 2 ^ n * B := Int.mul_pos (p2_pos _) hB
  by_cases c : 0 < n ∧ k = 1024
  · obtain ⟨c1, rfl⟩ := c
    obtain ⟨j, rfl⟩ : ∃ j, n = j + 1 := ⟨n - 1, by omega⟩
    have e : exv (((j + 1 : Nat) : Int) * 1024 + 1024 - 1) = 2047 * 2 ^ j := by
      rw [exv_high (n := j) (f := 1023) (by omega) (by omega) (by omega), show (1023 + 1024 : Int) = 2047 by decide]
    rw [e]
    replace hX := hX c1
    unfold Beats Near at *
    have e1 : 1024 * 2 ^ (j + 1) * B = 1024 * (2 ^ (j + 1) * B) := by rw [Int.mul_assoc]
    have e2 : 2047 * 2 ^ j * B * 2 = 2047 * (2 ^ (j + 1) * B) := by
      rw [p2_succ]
      generalize (2 : Int) ^ j = a
      rw [Int.mul_assoc 2047, Int.mul_assoc 2047, Int.mul_comm (a * B) 2, Int.mul_assoc 2 a B]
    rw [e1]
    generalize 2047 * 2 ^ j * B = V at e2 ⊢
    generalize 2 ^ (j + 1) * B = W at h hW hX e2 ⊢
    obtain ⟨h1, h2, h3, h4⟩ := h
    obtain ⟨Q, hQ⟩ : ∃ Q, Q = 1024 * W := ⟨_, rfl⟩
    rw [← hQ] at h1 h2 h3 h4 hX ⊢
    have e3 : 2 * V = 2 * Q - W := by
      clear h1 h2 h3 h4 hX e e1 hn hc k0 k1 c1 hB hW
      grind
    clear h3 h4 e e1 hn hc k0 k1 c1 e2 hQ
    unfold ab
    exact ⟨by split <;> split <;> omega, fun hh => by omega⟩
  · have e : exv (n * 1024 + k - 1) = (k - 1) * 2 ^ n := by
      have e0 : (n : Int) * 1024 + k - 1 = n * 1024 + (k - 1) := by omega
      rw [e0]
      exact exv_code (by omega) (by omega) (fun hh => by have := hn hh; omega)
    rw [e]
    unfold Beats Near at *
    have e1 : k * 2 ^ n * B = k * (2 ^ n * B) := by rw [Int.mul_assoc]
    have e2 : (k - 1) * 2 ^ n * B = k * (2 ^ n * B) - 2 ^ n * B := by grind
    rw [e1, e2]
    generalize k * (2 ^ n * B) = V at h ⊢
    generalize 2 ^ n * B = W at h hW ⊢
    obtain ⟨h1, h2, h3, h4⟩ := h
    unfold ab
    refine ⟨by split <;> split <;> omega, fun hh => ?_⟩
    have : 2 * (V - X) = W := by revert hh; split <;> split <;> omega
    have := h4 this
    omega
/-- Half a step beyond the greatest one at least. -/
theorem far_out {k X B : Int} {n : Nat} (k0 : 0 ≤ k) (k1 : k ≤ 2048) (hB : 0 < B) (h : Near k X (2 ^ n * B)) (hX : 0 < n → 1024 * (2 ^ n * B) ≤ X) (hc : 31744 ≤ n * 1024 + k) : 1099243192320 * B ≤ X := by
  have hn : 29 ≤ n := by omega
  by_cases c : n = 29
  · subst c
    have hk : k = 2048 := by omega
    subst hk
    unfold Near at h
    have e : (2 : Int) ^ 29 = 536870912 := by decide
    rw [e] at h
    omega
  · have h30 : (2 : Int) ^ 30 ≤ 2 ^ n := p2_le (by omega)
    have e : (2 : Int) ^ 30 = 1073741824 := by decide
    rw [e] at h30
    have := Int.mul_le_mul_of_nonneg_right h30 (Int.le_of_lt hB)
    have := hX (by omega)
    omega
theorem exv_nonneg {c : Int} (h0 : 0 ≤ c) : 0 ≤ exv c := by
  unfold exv
  split
  · exact h0
  · exact Int.mul_nonneg (by omega) (Int.le_of_lt (p2_pos _))
theorem exv_succ {k : Int} {n : Nat} (k0 : 0 ≤ k) (k1 : k ≤ 2048) (hn : 0 < n → 1024 ≤ k) : exv (n * 1024 + k + 1) ≤ (k + 2) * 2 ^ n := by
  have hp := p2_pos n
  by_cases c : k < 2048
  · have e : exv (n * 1024 + k + 1) = (k + 1) * 2 ^ n := by
      rw [Int.add_assoc]
      exact exv_code (by omega) (by omega) (fun hh => by have := hn hh; omega)
    rw [e]
    exact Int.mul_le_mul_of_nonneg_right (by omega) (by omega)
  · have hk : k = 2048 := by omega
    subst hk
    rw [exv_high (n := n + 1) (f := 1) (by omega) (by omega) (by omega), show (1 + 1024 : Int) = 1025 by decide, p2_succ]
    generalize (2 : Int) ^ n = a at hp ⊢
    omega
theorem exv_pred {k : Int} {n : Nat} (k0 : 0 ≤ k) (k1 : k ≤ 2048) (hn : 0 < n → 1024 ≤ k) (hc : 1 ≤ n * 1024 + k) : exv (n * 1024 + k - 1) ≤ k * 2 ^ n := by
  have hp := p2_pos n
  by_cases c : 0 < n ∧ k = 1024
  · obtain ⟨c1, rfl⟩ := c
    obtain ⟨j, rfl⟩ : ∃ j, n = j + 1 := ⟨n - 1, by omega⟩
    rw [exv_high (n := j) (f := 1023) (by omega) (by omega) (by omega), show (1023 + 1024 : Int) = 2047 by decide, p2_succ]
    have hp := p2_pos j
    generalize (2 : Int) ^ j = a at hp ⊢
    clear hc hn k0 k1 c1
    omega
  · have e : exv (n * 1024 + k - 1) = (k - 1) * 2 ^ n := by
      have e0 : (n : Int) * 1024 + k - 1 = n * 1024 + (k - 1) := by omega
      rw [e0]
      exact exv_code (by omega) (by omega) (fun hh => by have := hn hh; omega)
    rw [e]
    exact Int.mul_le_mul_of_nonneg_right (by omega) (by omega)
/-- The code `c` of a half, without its sign, is that of the nearest one to X / B (in parts of 2^-24). -/
structure NearOut (X B c : Int) : Prop where
  lo : 0 ≤ c
  hi : c ≤ 31744
  up : c < 31744 → Beats X B (exv c) (exv (c + 1)) c
  down : c < 31744 → 1 ≤ c → Beats X B (exv c) (exv (c - 1)) c
  zero : c = 0 → 2 * X ≤ B
  v0 : 0 ≤ exv c * B
  v1 : c < 31744 → 1024 * (exv c * B) ≤ 1025 * X + 1024 * B
  v2 : c < 31744 → 0 ≤ exv (c + 1) * B ∧ 1024 * (exv (c + 1) * B) ≤ 1027 * X + 4096 * B
  v3 : c < 31744 → 1 ≤ c → 0 ≤ exv (c - 1) * B ∧ exv (c - 1) * B ≤ exv c * B
  far : c = 31744 → 1099243192320 * B ≤ X
theorem nearOut {k X B : Int} {n : Nat} (k0 : 0 ≤ k) (k1 : k ≤ 2048) (hn : 0 < n → 1024 ≤ k) (hB : 0 < B) (h0 : 0 ≤ X) (h : Near k X (2 ^ n * B)) (hX : 0 < n → 1024 * (2 ^ n * B) ≤ X) :
    NearOut X B (min (n * 1024 + k) 31744) := by
  have hWX : 1024 * (2 ^ n * B) ≤ X + 1024 * B := by
    by_cases c : n = 0
    · subst c
      omega
    · have := hX (by omega)
      omega
  have hW : 0 < 2 ^ n * B := Int.mul_pos (p2_pos _) hB
  by_cases c : n * 1024 + k < 31744
  · have e : min (n * 1024 + k) 31744 = n * 1024 + k := by omega
    rw [e]
    have ev := exv_code k0 k1 hn
    have e1 : exv (n * 1024 + k) * B = k * (2 ^ n * B) := by rw [ev, Int.mul_assoc]
    have hN := h
    unfold Near at hN
    have hkW : 0 ≤ k * (2 ^ n * B) := Int.mul_nonneg k0 (by omega)
    refine ⟨by omega, by omega, fun _ => beats_up k0 k1 hn hB h, fun _ hc => beats_down k0 k1 hn hB h hX hc, fun hc => ?_, by rw [e1]; exact hkW, fun _ => ?_, fun _ => ⟨?_, ?_⟩, fun _ hc => ⟨?_, ?_⟩, fun hc => by omega⟩
    · have : n = 0 := by omega
      subst this
      have : k = 0 := by omega
      subst this
      simp at hN
      omega
    · rw [e1]
      obtain ⟨_, g, _, _⟩ := hN
      generalize k * (2 ^ n * B) = V at g ⊢
      generalize 2 ^ n * B = W at g hWX ⊢
      omega
    · exact Int.mul_nonneg (exv_nonneg (by omega)) (by omega)
    · have hs := Int.mul_le_mul_of_nonneg_right (exv_succ k0 k1 hn) (Int.le_of_lt hB)
      have e2 : (k + 2) * 2 ^ n * B = k * (2 ^ n * B) + 2 * (2 ^ n * B) := by grind
      rw [e2] at hs
      obtain ⟨_, g, _, _⟩ := hN
      generalize k * (2 ^ n * B) = V at g hs
      generalize 2 ^ n * B = W at g hWX hs
      generalize exv (n * 1024 + k + 1) * B = Z at hs ⊢
      clear ev e1 hX hn
      omega
    · exact Int.mul_nonneg (exv_nonneg (by omega)) (by omega)
    · rw [ev]
      exact Int.mul_le_mul_of_nonneg_right (exv_pred k0 k1 hn hc) (Int.le_of_lt hB)
  · have e : min (n * 1024 + k) 31744 = 31744 := by omega
    rw [e]
    exact ⟨by omega, by omega, fun h => by omega, fun h => by omega, fun h => by omega, Int.mul_nonneg (exv_nonneg (by omega)) (by omega), fun h => by omega, fun h => by omega, fun h => by omega, fun _ => far_out k0 k1 hB h hX (by omega)⟩
theorem code_near {L : Nat} {m e X B : Int} {more : Bool} (hm : IsLen m L) (hB : 0 < B) (h0 : 0 ≤ X)
    (h : ∀ q, q = max ((L : Int) - 1 + e - 10) (-24) → Near (kr m (q - e) more) X (2 ^ (q + 24).toNat * B) ∧ (-24 < q → 1024 * (2 ^ (q + 24).toNat * B) ≤ X)) :
    NearOut X B (code 10 (-24) 31 L m e more) := by
  unfold code
  have h1 := h _ rfl
  have hb := kr_bd (p := 10) (e := e) (q := max ((L : Int) - 1 + e - 10) (-24)) more hm (by omega)
  have hq : -24 < max ((L : Int) - 1 + e - 10) (-24) → max ((L : Int) - 1 + e - 10) (-24) = (L : Int) - 1 + e - 10 := by omega
  have hq0 : -24 ≤ max ((L : Int) - 1 + e - 10) (-24) := by omega
  have e10 : ((10 : Nat) : Int) = 10 := rfl
  rw [e10] at hb ⊢
  generalize max ((L : Int) - 1 + e - 10) (-24) = q at *
  obtain ⟨n, hn⟩ : ∃ n : Nat, q + 24 = n := ⟨(q + 24).toNat, by omega⟩
  rw [hn, Int.toNat_natCast] at h1
  have e1 : q - -24 = n := by omega
  rw [e1]
  rw [show (2 : Int) ^ (10 + 1) = 2048 by decide, show (2 : Int) ^ 10 = 1024 by decide] at hb
  rw [show (2 : Int) ^ 10 = 1024 by decide]
  exact nearOut hb.1 hb.2.1 (fun hn' => hb.2.2 (hq (by omega))) hB h0 h1.1 (fun hn' => h1.2 (by omega))
theorem exact_near {L b : Nat} {m e : Int} (hm : IsLen m L) (he : 0 ≤ e + 24 + b) : NearOut (m * 2 ^ (e + 24 + b).toNat) (2 ^ b) (code 10 (-24) 31 L m e false) := by
  have m0 : 0 < m := by
    have := hm.2.1
    have := p2_pos (L - 1)
    omega
  refine code_near hm (p2_pos b) (Int.mul_nonneg (by omega) (Int.le_of_lt (p2_pos _))) (fun q hq => ?_)
  have hq0 : -24 ≤ q := by omega
  have e1 : (2 : Int) ^ (q + 24).toNat * 2 ^ b = 2 ^ (q + (24 + b)).toNat := by
    rw [← p2_add]
    congr 1
    omega
  have e2 : (e + 24 + b).toNat = (e + (24 + b)).toNat := by omega
  rw [e1, e2]
  refine ⟨near_kr (24 + b) (by omega) (by omega), fun h => ?_⟩
  have e3 : (1024 : Int) * 2 ^ (q + (24 + b)).toNat = 2 ^ (L - 1) * 2 ^ (e + (24 + b)).toNat := by
    rw [show (1024 : Int) = 2 ^ 10 by decide, ← p2_add, ← p2_add]
    congr 1
    have := hm.1
    omega
  rw [e3]
  exact Int.mul_le_mul_of_nonneg_right hm.2.1 (Int.le_of_lt (p2_pos _))
/-- A quotient, cut: X1 = m Y + r. -/
theorem quot_near {L a : Nat} {m e r Y ea eb : Int} (hm : IsLen m L) (hL : 12 ≤ L) (hY : 0 < Y) (r0 : 0 ≤ r) (r1 : r < Y) (ha : -24 ≤ ea) (hb : -24 ≤ eb) (he : e = ea - a - eb) {x : Int} (hx : x * 2 ^ a = m * Y + r) (x0 : 0 ≤ x) :
    NearOut (x * 2 ^ (ea + 24).toNat * 16777216) (Y * 2 ^ (eb + 24).toNat) (code 10 (-24) 31 L m e (decide (r ≠ 0))) := by
  have m0 : 0 < m := by
    have := hm.2.1
    have := p2_pos (L - 1)
    omega
  have hX0 : 0 ≤ x * 2 ^ (ea + 24).toNat * 16777216 := Int.mul_nonneg (Int.mul_nonneg x0 (Int.le_of_lt (p2_pos _))) (by omega)
  refine code_near hm (Int.mul_pos hY (p2_pos _)) hX0 (fun q hq => ?_)
  obtain ⟨s, hs⟩ : ∃ s : Nat, q - e = ((s + 1 : Nat) : Int) := ⟨(q - e).toNat - 1, by omega⟩
  have k1 : kr m (q - e) (decide (r ≠ 0)) = rq (2 ^ (s + 1)) (2 ^ s) m (decide (r ≠ 0)) := by
    unfold kr
    rw [hs, if_neg (by omega), Int.toNat_natCast, Nat.add_sub_cancel]
  rw [k1]
  have eX : x * 2 ^ (ea + 24).toNat * 16777216 * 2 ^ a = (m * Y + r) * 2 ^ (ea + 48).toNat := by
    rw [← hx, show (16777216 : Int) = 2 ^ 24 by decide]
    have : (2 : Int) ^ (ea + 48).toNat = 2 ^ (ea + 24).toNat * 2 ^ 24 := by
      rw [← p2_add]
      congr 1
      omega
    rw [this]
    grind
  have eV : 2 ^ (q + 24).toNat * (Y * 2 ^ (eb + 24).toNat) * 2 ^ a = 2 ^ (s + 1) * Y * 2 ^ (ea + 48).toNat := by
    have e1 : (2 : Int) ^ (q + 24).toNat * 2 ^ (eb + 24).toNat * 2 ^ a = 2 ^ (s + 1) * 2 ^ (ea + 48).toNat := by
      rw [← p2_add, ← p2_add, ← p2_add]
      congr 1
      omega
    calc 2 ^ (q + 24).toNat * (Y * 2 ^ (eb + 24).toNat) * 2 ^ a = Y * (2 ^ (q + 24).toNat * 2 ^ (eb + 24).toNat * 2 ^ a) := by grind
      _ = Y * (2 ^ (s + 1) * 2 ^ (ea + 48).toNat) := by rw [e1]
      _ = _ := by grind
  refine ⟨near_scale (2 ^ a) (p2_pos a) ?_, fun h => ?_⟩
  · rw [eX, eV]
    exact near_up _ (p2_pos _) (near_rq s hY r0 r1)
  · have h2 : 1024 * (2 ^ (s + 1) * Y) ≤ m * Y + r := by
      have e3 : (1024 : Int) * 2 ^ (s + 1) = 2 ^ (L - 1) := by
        rw [show (1024 : Int) = 2 ^ 10 by decide, ← p2_add]
        congr 1
        omega
      have := Int.mul_le_mul_of_nonneg_right hm.2.1 (Int.le_of_lt hY)
      rw [← e3, Int.mul_assoc] at this
      omega
    have h3 := Int.mul_le_mul_of_nonneg_right h2 (Int.le_of_lt (p2_pos (ea + 48).toNat))
    rw [← eX, Int.mul_assoc 1024, ← eV, ← Int.mul_assoc 1024] at h3
    exact Int.le_of_mul_le_mul_right h3 (p2_pos a)
end Go.Proofs.Ytdoflfifnkpacaa.FA
