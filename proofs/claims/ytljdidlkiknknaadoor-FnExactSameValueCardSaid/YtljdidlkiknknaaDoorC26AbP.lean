/-
  What a call does, told without addresses: a state, steps, and that the code follows them.
-/
import Derived.Test.YtljdidlkiknknaaDoorC26Abh2
namespace Go.Proofs.YtljdidlkiknknaaDoor.AB
open Go Go.RowKit Go.Proofs.YtljdidlkiknknaaDoorW.PrintWords Go.Proofs.YtljdidlkiknknaaDoorW.PrintMore
set_option linter.unusedSimpArgs false
set_option linter.unusedVariables false
theorem w64 {n : Int} (h1 : -9223372036854775808 ≤ n) (h2 : n < 9223372036854775808) : IntKind.i64.wrap n = n := IntWalk.i64_in _ (by omega)
/-- x is met on the way from a up. -/
inductive Hit (u : Int → Int) (x : Int) : Int → Prop
  | here (h : 0 ≤ x) : Hit u x x
  | step {a : Int} (h : 0 ≤ a) (hne : a ≠ x) (h' : Hit u x (u a)) : Hit u x a
inductive Dep (u : Int → Int) : Int → Nat → Prop
  | neg {a : Int} (h : a < 0) : Dep u a 0
  | step {a : Int} {d : Nat} (h : 0 ≤ a) (h' : Dep u (u a) d) : Dep u a (d + 1)
theorem Dep.uniq {u : Int → Int} {a : Int} {d d' : Nat} (h : Dep u a d) (h' : Dep u a d') : d = d' := by
  induction h generalizing d' with
  | neg h => cases h' with
    | neg => rfl
    | step h2 _ => omega
  | step h _ ih => cases h' with
    | neg h2 => omega
    | step _ h3 => rw [ih h3]
def Blw (u : Int → Int) (k : Int) : Prop := ∀ j, 0 ≤ j → j < k → u j < j
theorem Hit.le {u : Int → Int} {x a k : Int} (h : Hit u x a) (hb : Blw u k) (ha : a < k) : 0 ≤ x ∧ x ≤ a := by
  induction h with
  | here h => exact ⟨h, Int.le_refl _⟩
  | step h hne h' ih =>
    have := hb _ h ha
    have := ih (by omega)
    omega
def UpOk (u : Int → Int) (k : Int) : Prop := (k = 0 → u k = -1) ∧ (k ≠ 0 → Hit u (u k) (k - 1))
theorem UpOk.lt {u : Int → Int} {k : Int} (h : UpOk u k) (hk : 0 ≤ k) (hb : Blw u k) : u k < k ∧ -1 ≤ u k ∧ (k ≠ 0 → 0 ≤ u k) := by
  by_cases h0 : k = 0
  · have := h.1 h0
    omega
  · have := (h.2 h0).le hb (by omega)
    omega
theorem UpOk.blw {u : Int → Int} : ∀ (n : Nat), (∀ j : Int, 0 ≤ j → j < n → UpOk u j) → Blw u n
  | 0, _ => fun j h1 h2 => by omega
  | n + 1, h => by
    have ih := UpOk.blw n fun j h1 h2 => h j h1 (by omega)
    intro j h1 h2
    by_cases hj : j < n
    · exact ih j h1 hj
    · obtain rfl : j = (n : Int) := by omega
      exact ((h _ h1 h2).lt h1 ih).1
/-- The places from i on, m of them, whose parent is k. -/
def pf (u : Int → Int) (k : Int) : Nat → Nat → List Int
  | 0, _ => []
  | m + 1, i => if u i = k then (i : Int) :: pf u k m (i + 1) else pf u k m (i + 1)
theorem pf_add (u : Int → Int) (k : Int) : ∀ (m m' i : Nat), pf u k (m + m') i = pf u k m i ++ pf u k m' (i + m)
  | 0, m', i => by simp [pf]
  | m + 1, m', i => by
    rw [show m + 1 + m' = (m + m') + 1 by omega, pf, pf, pf_add u k m m' (i + 1), show i + 1 + m = i + (m + 1) by omega]
    split <;> simp
theorem pf_mem {u : Int → Int} {k : Int} : ∀ {m i : Nat} {x : Int}, x ∈ pf u k m i → ∃ j : Nat, x = j ∧ i ≤ j ∧ j < i + m ∧ u j = k
  | 0, i, x, h => by simp [pf] at h
  | m + 1, i, x, h => by
    rw [pf] at h
    split at h
    · rename_i he
      rcases List.mem_cons.mp h with rfl | h
      · exact ⟨i, rfl, Nat.le_refl _, by omega, he⟩
      · obtain ⟨j, h1, h2, h3, h4⟩ := pf_mem h
        exact ⟨j, h1, by omega, by omega, h4⟩
    · obtain ⟨j, h1, h2, h3, h4⟩ := pf_mem h
      exact ⟨j, h1, by omega, by omega, h4⟩
theorem pf_none {u : Int → Int} {k : Int} {m i : Nat} (h : ∀ j : Nat, i ≤ j → j < i + m → u j ≠ k) : pf u k m i = [] := by
  cases hp : pf u k m i with
  | nil => rfl
  | cons x l =>
    obtain ⟨j, -, h2, h3, h4⟩ := pf_mem (u := u) (k := k) (m := m) (i := i) (x := x) (by rw [hp]; simp)
    exact absurd h4 (h j h2 h3)
theorem pf_len (u : Int → Int) (k : Int) : ∀ (m i : Nat), (pf u k m i).length ≤ m
  | 0, _ => Nat.le_refl _
  | m + 1, i => by
    rw [pf]
    have := pf_len u k m (i + 1)
    split <;> simp <;> omega
/-- What stands below k is not k's part. -/
theorem pf_all {u : Int → Int} {n : Nat} (hb : Blw u n) (k : Nat) (hk : k < n) : pf u k n 0 = pf u k (n - (k + 1)) (k + 1) := by
  have := pf_add u k (k + 1) (n - (k + 1)) 0
  rw [show k + 1 + (n - (k + 1)) = n by omega, Nat.zero_add] at this
  rw [this, pf_none fun j _ h2 => by have := hb j (by omega) (by omega); omega]
  rfl
end Go.Proofs.YtljdidlkiknknaaDoor.AB
namespace Go.Proofs.YtljdidlkiknknaaDoor.AB
open Go Go.RowKit Go.Proofs.YtljdidlkiknknaaDoorW.PrintWords Go.Proofs.YtljdidlkiknknaaDoorW.PrintMore
set_option linter.unusedSimpArgs false
set_option linter.unusedVariables false
theorem inR_t {i : Int} {n : Nat} (h0 : 0 ≤ i) (h1 : i < n) : inR i n = true := inR_iff.mpr ⟨h0, h1⟩
theorem okAp_t {n b : Nat} (h : n * b ≤ 140737488355328) : okAp n b = true := by simpa [okAp] using h
def upT (l : List TN) : Int → Int := fun i => (l.getD i.toNat default).up
theorem sParts (N : Nat) (l : List TN) (k : Int) (hl : l.length ≤ 1000) : ∀ (m n i : Nat) (out : List Int), i + m = l.length → m < n → out.length ≤ i → l11Parts.L0 N l k n (i : Int) out = some (out ++ pf (upT l) k m i)
  | 0, n, i, out, h, hn, ho => by
    obtain ⟨n, rfl⟩ : ∃ n', n = n' + 1 := ⟨n - 1, by omega⟩
    rw [l11Parts.L0]
    simp [pf, show ¬ ((i : Int) < (l.length : Int)) by omega]
  | m + 1, n, i, out, h, hn, ho => by
    obtain ⟨n, rfl⟩ : ∃ n', n = n' + 1 := ⟨n - 1, by omega⟩
    have hw : IntKind.i64.wrap ((i : Int) + 1) = ((i + 1 : Nat) : Int) := by rw [w64 (by omega) (by omega)]; rfl
    rw [l11Parts.L0, hw]
    have hd : decide ((i : Int) < ((l.map eTN).length : Int)) = true := by simp; omega
    have hi : inR (i : Int) l.length = true := inR_t (by omega) (by omega)
    simp only [hd, hi, cond_true]
    rw [pf]
    by_cases he : upT l i = k
    · have he2 : ((l.getD (i : Int).toNat default).up == k) = true := by simpa [upT] using he
      have hok : okAp (out.length + [(i : Int)].length) 8 = true := okAp_t (by simp; omega)
      simp only [he2, hok, cond_true]
      rw [if_pos he, sParts N l k hl m n (i + 1) _ (by omega) (by omega) (by simp; omega)]
      simp
    · have he2 : ((l.getD (i : Int).toNat default).up == k) = false := by simpa [upT] using he
      simp only [he2, cond_false]
      rw [if_neg he, sParts N l k hl m n (i + 1) _ (by omega) (by omega) (by omega)]
theorem sParts_eq (N : Nat) (l : List TN) (k : Nat) (hl : l.length ≤ 1000) (hk : k < l.length) (hN : l.length < N) : l11Parts.sem N l (k : Int) = some (pf (upT l) k (l.length - (k + 1)) (k + 1)) := by
  have hw : IntKind.i64.wrap ((k : Int) + 1) = ((k + 1 : Nat) : Int) := by rw [w64 (by omega) (by omega)]; rfl
  rw [l11Parts.sem, hw, sParts N l k hl (l.length - (k + 1)) N (k + 1) [] (by omega) (by omega) (by simp)]
  rfl
theorem sIn (N : Nat) (a lo hi : Int) : l1In.sem N a lo hi = some (decide (lo ≤ a) && decide (a ≤ hi)) := by
  rw [l1In.sem]
  by_cases h : lo ≤ a <;> simp [h]
theorem sL1 (N : Nat) (l : List TN) (k : Int) (k0 : Int → Option Bool) (hb : Blw (upT l) k) (hk : k < l.length) : ∀ (n : Nat) (a : Int), a < k → (a + 1).toNat + 1 ≤ n → ∃ b, (b = true ↔ Hit (upT l) (upT l k) a) ∧ sGoodType.L1 N l k k0 n false a = sGoodType.L2 N l k b k0 N 0 k
  | 0, a, _, h => by omega
  | n + 1, a, ha, hn => by
    rw [sGoodType.L1]
    by_cases h0 : 0 ≤ a
    · have hd : decide (a ≥ 0) = true := by simpa using h0
      have hi : inR a l.length = true := inR_t h0 (by omega)
      simp only [hd, hi, cond_true, Bool.not_false]
      by_cases he : a = upT l k
      · refine ⟨true, by simp; rw [← he]; exact .here h0, ?_⟩
        have he2 : (a == (l.getD k.toNat default).up) = true := by simpa [upT] using he
        rw [he2]
        obtain ⟨n, rfl⟩ : ∃ n', n = n' + 1 := ⟨n - 1, by omega⟩
        rw [sGoodType.L1]
        simp
      · have he2 : (a == (l.getD k.toNat default).up) = false := by simpa [upT] using he
        rw [he2]
        have hlt := hb a h0 ha
        obtain ⟨b, h1, h2⟩ := sL1 N l k k0 hb hk n (upT l a) (by omega) (by omega)
        refine ⟨b, h1.trans ⟨fun h => .step h0 he h, fun h => ?_⟩, h2⟩
        generalize hx : upT l k = x at h
        cases h with
        | here h => exact absurd hx.symm he
        | step _ _ h => exact h
    · refine ⟨false, ?_, ?_⟩
      · simp only [Bool.false_eq_true, false_iff]
        intro h
        have := h.le hb ha
        omega
      · have hd : decide (a ≥ 0) = false := by simp; omega
        simp only [hd, cond_false]
theorem sL2 (N : Nat) (l : List TN) (k : Int) (b : Bool) (k0 : Int → Option Bool) (hl : l.length ≤ 1000) (hb : Blw (upT l) (k + 1)) (hk : k < l.length) : ∀ (n : Nat) (a : Int) (c : Nat), a ≤ k → (a + 1).toNat + 1 ≤ n → (c : Int) + (a + 1).toNat ≤ 2000 → ∃ d, Dep (upT l) a d ∧ d ≤ (a + 1).toNat ∧ sGoodType.L2 N l k b k0 n (c : Int) a = sGoodType.L2 N l k b k0 1 ((c + d : Nat) : Int) (-1)
  | 0, a, c, _, h, _ => by omega
  | n + 1, a, c, ha, hn, hc => by
    by_cases h0 : 0 ≤ a
    · have hd : decide (a ≥ 0) = true := by simpa using h0
      have hi : inR a l.length = true := inR_t h0 (by omega)
      have hlt := hb a h0 (by omega)
      obtain ⟨d, h1, h2, h3⟩ := sL2 N l k b k0 hl hb hk n (upT l a) (c + 1) (by omega) (by omega) (by omega)
      refine ⟨d + 1, .step h0 h1, by omega, ?_⟩
      rw [sGoodType.L2]
      simp only [hd, hi, cond_true]
      rw [w64 (by omega) (by omega)]
      have : ((c + 1 : Nat) : Int) = (c : Int) + 1 := rfl
      rw [← this]
      rw [show c + (d + 1) = c + 1 + d by omega]
      exact h3
    · refine ⟨0, .neg (by omega), by omega, ?_⟩
      have hd : decide (a ≥ 0) = false := by simp; omega
      rw [sGoodType.L2, sGoodType.L2]
      simp only [hd, cond_false]
      rfl
def shp (k : Int) : Int × Int × Int × Int := (l11Shape.sem 0 k).getD (0, 0, 0, 0)
theorem sShape (N : Nat) (k : Int) : l11Shape.sem N k = some (shp k) := by
  unfold shp l11Shape.sem
  cases (k == 13) <;> cases (k == 17) <;> cases (k == 14) <;> cases (k == 15) <;> cases (k == 18) <;> cases (k == 16) <;> cases (k == 19) <;> cases (k == 20) <;> cases (k == 21) <;> rfl
structure GoodN (l : List TN) (j : Int) (parts : List Int) : Prop where
  up : UpOk (upT l) j
  kd : 1 ≤ (l.getD j.toNat default).kind ∧ (l.getD j.toNat default).kind ≤ 21
  dp : ∃ d, Dep (upT l) j d ∧ d ≤ 8
  pt : (shp (l.getD j.toNat default).kind).1 ≤ parts.length ∧ (parts.length : Int) ≤ (shp (l.getD j.toNat default).kind).2.1
  nn : (shp (l.getD j.toNat default).kind).2.2.1 ≤ (l.getD j.toNat default).n ∧ (l.getD j.toNat default).n ≤ (shp (l.getD j.toNat default).kind).2.2.2
def partsT (l : List TN) (j : Nat) : List Int := pf (upT l) j (l.length - (j + 1)) (j + 1)
theorem sRest (N : Nat) (l : List TN) (k : Nat) (b : Bool) (k0 : Int → Option Bool) (d : Nat) (hl : l.length ≤ 1000) (hk : k < l.length) (hN : l.length < N) : sGoodType.L2 N l k b k0 1 (d : Int) (-1) =
    bif b && decide (d ≤ 8) && (decide ((shp (l.getD k default).kind).1 ≤ (partsT l k).length) && decide (((partsT l k).length : Int) ≤ (shp (l.getD k default).kind).2.1)) && (decide ((shp (l.getD k default).kind).2.2.1 ≤ (l.getD k default).n) && decide ((l.getD k default).n ≤ (shp (l.getD k default).kind).2.2.2)) then k0 ((k + 1 : Nat) : Int) else some false := by
  rw [sGoodType.L2]
  have hp := sParts_eq N l k hl hk hN
  have hw : IntKind.i64.wrap ((k : Int) + 1) = ((k + 1 : Nat) : Int) := by rw [w64 (by omega) (by omega)]; rfl
  simp only [show decide ((-1 : Int) ≥ 0) = false from rfl, cond_false, sShape, Option.bind_some, sIn, hp, List.length_map, Int.toNat_natCast, hw]
  rw [show pf (upT l) (k : Int) (l.length - (k + 1)) (k + 1) = partsT l k from rfl]
  cases b
  · rfl
  · by_cases h8 : d ≤ 8
    · simp only [show decide ((d : Int) > 8) = false by simp; omega, show decide (d ≤ 8) = true by simpa using h8, Bool.not_true, cond_false, Bool.true_and]
      cases (decide ((shp (l.getD k default).kind).1 ≤ ↑(partsT l k).length) && decide (↑(partsT l k).length ≤ (shp (l.getD k default).kind).2.1)) <;> cases (decide ((shp (l.getD k default).kind).2.2.1 ≤ (l.getD k default).n) && decide ((l.getD k default).n ≤ (shp (l.getD k default).kind).2.2.2)) <;> rfl
    · simp only [show decide ((d : Int) > 8) = true by simp; omega, show decide (d ≤ 8) = false by simpa using h8, Bool.not_true, cond_false, cond_true, Bool.true_and, Bool.false_and]
theorem sL0 (N : Nat) (l : List TN) (hl : l.length ≤ 1000) (hN : l.length + 1 < N) : ∀ (m n k : Nat), k + m = l.length → m < n → (∀ j : Int, 0 ≤ j → j < k → UpOk (upT l) j) → ∃ b, sGoodType.L0 N l n (k : Int) = some b ∧ (b = true ↔ ∀ j : Nat, k ≤ j → j < l.length → GoodN l j (partsT l j))
  | 0, n, k, h, hn, hv => by
    obtain ⟨n, rfl⟩ : ∃ n', n = n' + 1 := ⟨n - 1, by omega⟩
    refine ⟨true, ?_, by simp; intro j h1 h2; omega⟩
    rw [sGoodType.L0]
    simp [show ¬ ((k : Int) < (l.length : Int)) by omega]
  | m + 1, n, k, h, hn, hv => by
    obtain ⟨n, rfl⟩ : ∃ n', n = n' + 1 := ⟨n - 1, by omega⟩
    have hblw := UpOk.blw k hv
    rw [sGoodType.L0]
    have hd : decide ((k : Int) < ((l.map eTN).length : Int)) = true := by simp; omega
    have hi : inR (k : Int) l.length = true := inR_t (by omega) (by omega)
    have hwm : IntKind.i64.wrap ((k : Int) - 1) = (k : Int) - 1 := w64 (by omega) (by omega)
    simp only [hd, hi, cond_true, sIn, Option.bind_some, hwm, Int.toNat_natCast]
    have hgu : ∀ x, (l.getD k default).up = x ↔ upT l k = x := fun x => by simp [upT]
    -- a node that is not well placed
    have bad : ∀ {P : Prop}, ¬ UpOk (upT l) k → (false = true ↔ ∀ j : Nat, k ≤ j → j < l.length → GoodN l j (partsT l j)) := by
      intro _ h1
      simp only [Bool.false_eq_true, false_iff]
      intro h2
      exact h1 (h2 k (Nat.le_refl _) (by omega)).up
    have badk : ¬ (1 ≤ (l.getD k default).kind ∧ (l.getD k default).kind ≤ 21) → (false = true ↔ ∀ j : Nat, k ≤ j → j < l.length → GoodN l j (partsT l j)) := by
      intro h1
      simp only [Bool.false_eq_true, false_iff]
      intro h2
      have := (h2 k (Nat.le_refl _) (by omega)).kd
      simp only [Int.toNat_natCast] at this
      exact h1 this
    by_cases hu : UpOk (upT l) k
    · have hlt := hu.lt (by omega) hblw
      have hup : (l.getD k default).up = upT l k := by simp [upT]
      have c1 : (!(((k : Int) == 0) == ((l.getD k default).up == -1))) = false := by
        rw [hup]
        by_cases h0 : (k : Int) = 0
        · have := hu.1 h0
          rw [this, h0]
          rfl
        · have := hlt.2.2 h0
          have h1 : ((k : Int) == 0) = false := by simpa using h0
          have h2 : (upT l k == -1) = false := by simp; omega
          rw [h1, h2]
          rfl
      have c2 : (decide ((-1 : Int) ≤ (l.getD k default).up) && decide ((l.getD k default).up ≤ (k : Int) - 1)) = true := by
        rw [hup]
        simp
        omega
      simp only [c1, c2, Bool.not_true, cond_false]
      by_cases hkd : 1 ≤ (l.getD k default).kind ∧ (l.getD k default).kind ≤ 21
      · have c3 : (decide ((1 : Int) ≤ (l.getD k default).kind) && decide ((l.getD k default).kind ≤ 21)) = true := by simpa using hkd
        simp only [c3, Bool.not_true, cond_false]
        have hblw' : Blw (upT l) ((k : Int) + 1) := fun j h1 h2 => by
          by_cases hj : j < k
          · exact hblw j h1 hj
          · obtain rfl : j = (k : Int) := by omega
            exact hlt.1
        obtain ⟨b, hb1, hb2⟩ : ∃ b, b = true ∧ sGoodType.L1 N l k (sGoodType.L0 N l n) N ((k : Int) == 0) ((k : Int) - 1) = sGoodType.L2 N l k b (sGoodType.L0 N l n) N 0 k := by
          by_cases h0 : (k : Int) = 0
          · refine ⟨true, rfl, ?_⟩
            have h1 : ((k : Int) == 0) = true := by simpa using h0
            rw [h1]
            obtain ⟨N', rfl⟩ : ∃ n', N = n' + 1 := ⟨N - 1, by omega⟩
            rw [sGoodType.L1]
            simp [show ¬ ((k : Int) - 1 ≥ 0) by omega]
          · have h1 : ((k : Int) == 0) = false := by simpa using h0
            rw [h1]
            obtain ⟨b, h2, h3⟩ := sL1 N l k (sGoodType.L0 N l n) hblw (by omega) N ((k : Int) - 1) (by omega) (by omega)
            exact ⟨b, h2.mpr (hu.2 h0), h3⟩
        subst hb1
        rw [hb2]
        obtain ⟨d, hd1, hd2, hd3⟩ := sL2 N l k true (sGoodType.L0 N l n) hl hblw' (by omega) N k 0 (Int.le_refl _) (by omega) (by omega)
        rw [show ((0 : Nat) : Int) = 0 from rfl, Nat.zero_add] at hd3
        rw [hd3, sRest N l k true (sGoodType.L0 N l n) d hl (by omega) (by omega)]
        obtain ⟨b', hb1, hb2⟩ := sL0 N l hl hN m n (k + 1) (by omega) (by omega) (fun j h1 h2 => by
          by_cases hj : j < k
          · exact hv j h1 hj
          · obtain rfl : j = (k : Int) := by omega
            exact hu)
        rw [hb1]
        have hgood : ∀ P : Bool, (P = true ↔ (∃ d, Dep (upT l) k d ∧ d ≤ 8) ∧ ((shp (l.getD k default).kind).1 ≤ (partsT l k).length ∧ ((partsT l k).length : Int) ≤ (shp (l.getD k default).kind).2.1) ∧ ((shp (l.getD k default).kind).2.2.1 ≤ (l.getD k default).n ∧ (l.getD k default).n ≤ (shp (l.getD k default).kind).2.2.2)) →
            ∃ b, (bif P then some b' else some false) = some b ∧ (b = true ↔ ∀ j : Nat, k ≤ j → j < l.length → GoodN l j (partsT l j)) := by
          intro P hP
          cases P with
          | false =>
            refine ⟨false, rfl, ?_⟩
            simp only [Bool.false_eq_true, false_iff] at hP ⊢
            intro h2
            have h3 := h2 k (Nat.le_refl _) (by omega)
            exact hP ⟨h3.dp, by simpa using h3.pt, by simpa using h3.nn⟩
          | true =>
            refine ⟨b', rfl, hb2.trans ⟨fun h2 j h3 h4 => ?_, fun h2 j h3 h4 => h2 j (by omega) h4⟩⟩
            by_cases hj : j = k
            · subst hj
              have h5 := hP.mp rfl
              exact ⟨hu, by simpa using hkd, h5.1, by simpa using h5.2.1, by simpa using h5.2.2⟩
            · exact h2 j (by omega) h4
        refine hgood _ ?_
        simp only [Bool.true_and, Bool.and_eq_true, decide_eq_true_eq]
        constructor
        · rintro ⟨⟨h1, h2⟩, h3⟩
          exact ⟨⟨d, hd1, h1⟩, h2, h3⟩
        · rintro ⟨⟨d', h1, h1'⟩, h2, h3⟩
          have := h1.uniq hd1
          subst this
          exact ⟨⟨h1', h2⟩, h3⟩
      · have c3 : (decide ((1 : Int) ≤ (l.getD k default).kind) && decide ((l.getD k default).kind ≤ 21)) = false := by
          cases hc : (decide ((1 : Int) ≤ (l.getD k default).kind) && decide ((l.getD k default).kind ≤ 21)) with
          | false => rfl
          | true => exact absurd (by simpa using hc) hkd
        simp only [c3, Bool.not_false, cond_true]
        exact ⟨false, rfl, badk hkd⟩
    · have hup : (l.getD k default).up = upT l k := by simp [upT]
      cases c1 : (!(((k : Int) == 0) == ((l.getD k default).up == -1))) with
      | true => exact ⟨false, by simp, bad (P := True) hu⟩
      | false =>
        simp only [cond_false]
        cases c2 : (decide ((-1 : Int) ≤ (l.getD k default).up) && decide ((l.getD k default).up ≤ (k : Int) - 1)) with
        | false => exact ⟨false, by simp, bad (P := True) hu⟩
        | true =>
          simp only [Bool.not_true, cond_false]
          rw [hup] at c1 c2
          simp only [Bool.and_eq_true, decide_eq_true_eq] at c2
          have h0 : (k : Int) ≠ 0 := fun h0 => by
            refine hu ⟨fun _ => ?_, fun h => absurd h0 h⟩
            omega
          have hk1 : ((k : Int) == 0) = false := by simpa using h0
          rw [hk1] at c1 ⊢
          cases c3 : (decide ((1 : Int) ≤ (l.getD k default).kind) && decide ((l.getD k default).kind ≤ 21)) with
          | false => exact ⟨false, by simp, bad (P := True) hu⟩
          | true =>
            simp only [Bool.not_true, cond_false]
            obtain ⟨b, h2, h3⟩ := sL1 N l k (sGoodType.L0 N l n) hblw (by omega) N ((k : Int) - 1) (by omega) (by omega)
            have hbf : b = false := by
              cases b with
              | false => rfl
              | true => exact absurd ⟨fun h => absurd h h0, fun _ => h2.mp rfl⟩ hu
            subst hbf
            rw [h3]
            have hblw2 : Blw (upT l) ((k : Int) + 1) := fun j h1 h2 => by
              by_cases hj : j < k
              · exact hblw j h1 hj
              · obtain rfl : j = (k : Int) := by omega
                omega
            obtain ⟨d, hd1, hd2, hd3⟩ := sL2 N l k false (sGoodType.L0 N l n) hl hblw2 (by omega) N k 0 (Int.le_refl _) (by omega) (by omega)
            rw [show ((0 : Nat) : Int) = 0 from rfl, Nat.zero_add] at hd3
            rw [hd3, sRest N l k false (sGoodType.L0 N l n) d hl (by omega) (by omega)]
            exact ⟨false, by simp, bad (P := True) hu⟩
def GoodT (l : List TN) : Prop := (1 ≤ l.length ∧ l.length ≤ 40) ∧ ∀ j : Nat, j < l.length → GoodN l j (partsT l j)
theorem sGood (N : Nat) (l : List TN) (hN : 100 < N) : ∃ b, sGoodType.sem N l = some b ∧ (b = true ↔ GoodT l) := by
  rw [sGoodType.sem]
  simp only [sIn, Option.bind_some, List.length_map]
  cases c : (decide ((1 : Int) ≤ (l.length : Int)) && decide ((l.length : Int) ≤ 40)) with
  | false =>
    refine ⟨false, by simp, ?_⟩
    simp only [Bool.false_eq_true, false_iff]
    rintro ⟨h, -⟩
    have : (decide ((1 : Int) ≤ (l.length : Int)) && decide ((l.length : Int) ≤ 40)) = true := by simp; omega
    rw [this] at c
    cases c
  | true =>
    simp only [Bool.and_eq_true, decide_eq_true_eq] at c
    obtain ⟨b, h1, h2⟩ := sL0 N l (by omega) (by omega) l.length N 0 (by omega) (by omega) (fun j h1 h2 => by omega)
    refine ⟨b, by simpa using h1, h2.trans ⟨fun h => ⟨by omega, fun j hj => h j (Nat.zero_le _) hj⟩, fun h j _ hj => h.2 j hj⟩⟩
end Go.Proofs.YtljdidlkiknknaaDoor.AB
namespace Go.Proofs.YtljdidlkiknknaaDoor.AB
open Go Go.RowKit Go.Proofs.YtljdidlkiknknaaDoorW.PrintWords Go.Proofs.YtljdidlkiknknaaDoorW.PrintMore
set_option linter.unusedSimpArgs false
set_option linter.unusedVariables false
open PFnExactFitsType in
def uL (ups : List Int) : Int → Int := fun i => rd ups i
def kidsTo (u : Int → Int) (n i : Nat) : List (List Int) := (List.range n).map fun k : Nat => pf u (k : Int) i 0
theorem kidsTo_len (u : Int → Int) (n i : Nat) : (kidsTo u n i).length = n := by simp [kidsTo]
theorem kidsTo_get (u : Int → Int) (n i k : Nat) (hk : k < n) : (kidsTo u n i).getD k [] = pf u k i 0 := by simp [kidsTo, hk]
theorem kidsTo_skip (u : Int → Int) (n i : Nat) (h : ∀ k : Nat, u i ≠ k) : kidsTo u n (i + 1) = kidsTo u n i := by
  unfold kidsTo
  refine List.map_congr_left fun k _ => ?_
  rw [pf_add u k i 1 0, Nat.zero_add, pf, if_neg (h k), pf, List.append_nil]
theorem kidsTo_set (u : Int → Int) (n i x : Nat) (hx : u i = x) (hn : x < n) : kidsTo u n (i + 1) = (kidsTo u n i).set x ((kidsTo u n i).getD x [] ++ [(i : Int)]) := by
  apply List.ext_getElem?
  intro k
  by_cases hk : k < n
  · have h1 : (kidsTo u n (i + 1))[k]? = some (pf u k (i + 1) 0) := by simp [kidsTo, hk]
    have h2 : (kidsTo u n i)[k]? = some (pf u k i 0) := by simp [kidsTo, hk]
    rw [h1, pf_add u k i 1 0, Nat.zero_add, pf, pf]
    by_cases he : x = k
    · subst he
      rw [List.getElem?_set_self (by rw [kidsTo_len]; exact hk), kidsTo_get u n i x hk, if_pos hx]
    · rw [List.getElem?_set_ne he, h2, if_neg (by omega), List.append_nil]
  · rw [List.getElem?_eq_none (by rw [kidsTo_len]; omega), List.getElem?_eq_none (by rw [List.length_set, kidsTo_len]; omega)]
open PFnExactFitsType
theorem w64' {n : Int} (h1 : -9223372036854775808 ≤ n) (h2 : n < 9223372036854775808) : wrap64 n = n := by
  unfold wrap64
  omega
theorem kin1 (ups : List Int) (n i : Nat) (hn : ups.length = n) (hl : n ≤ 1000) (hi : i < n) (hb : Blw (uL ups) i) (r : List (List Int) × Bool) (x : Int) (hx : uL ups i = x)
    (hr : 0 ≤ x → x < i → ∃ K, ∀ k, K ≤ k → impl_kin.l0 k ups (kidsTo (uL ups) n (i + 1)) ups (n : Int) ((i + 1 : Nat) : Int) = some r) :
    ∀ (m : Nat) (a : Int), a < i → a < m → (Hit (uL ups) x a → ∃ K, ∀ k, K ≤ k → impl_kin.l1 k ups (kidsTo (uL ups) n i) (i : Int) x a ups (n : Int) (i : Int) = some r) ∧ (¬ Hit (uL ups) x a → ∃ K, ∀ k, K ≤ k → impl_kin.l1 k ups (kidsTo (uL ups) n i) (i : Int) x a ups (n : Int) (i : Int) = some ([], false))
  | 0, a, h1, h2 => by
    refine ⟨fun h => ?_, fun _ => ⟨1, fun k hk => ?_⟩⟩
    · have := h.le hb h1
      omega
    · obtain ⟨k, rfl⟩ : ∃ k', k = k' + 1 := ⟨k - 1, by omega⟩
      rw [impl_kin.l1, if_neg (by omega), if_pos (by omega)]
  | m + 1, a, h1, h2 => by
    by_cases h0 : 0 ≤ a
    · by_cases he : a = x
      · refine ⟨fun _ => ?_, fun h => absurd (by rw [he]; exact .here (by omega)) h⟩
        obtain ⟨K, hK⟩ := hr (by omega) (by omega)
        refine ⟨K + 1, fun k hk => ?_⟩
        obtain ⟨k, rfl⟩ : ∃ k', k = k' + 1 := ⟨k - 1, by omega⟩
        have hkl := kidsTo_len (uL ups) n i
        have hxn : x.toNat < n := by omega
        have hg : rd_L9 (kidsTo (uL ups) n i) x = pf (uL ups) x.toNat i 0 := by unfold rd_L9; exact kidsTo_get _ _ _ _ hxn
        have hpl := pf_len (uL ups) x.toNat i 0
        rw [impl_kin.l1, if_pos (by omega), if_pos he, if_neg (by omega), if_pos (by omega), if_pos (by rw [hkl]; omega), if_pos (by rw [hg]; omega), w64' (by omega) (by omega)]
        have hs := kidsTo_set (uL ups) n i x.toNat (by rw [hx]; omega) hxn
        rw [kidsTo_get _ _ _ _ hxn] at hs
        rw [hg, ← hs]
        exact hK k (by omega)
      · have hlt := hb a h0 h1
        obtain ⟨q1, q2⟩ := kin1 ups n i hn hl hi hb r x hx hr m (uL ups a) (by omega) (by omega)
        have hstep : Hit (uL ups) x a ↔ Hit (uL ups) x (uL ups a) := ⟨fun h => by
          cases h with
          | here h => exact absurd rfl he
          | step _ _ h => exact h, fun h => .step h0 he h⟩
        have hun : ∀ k, impl_kin.l1 (k + 1) ups (kidsTo (uL ups) n i) (i : Int) x a ups (n : Int) (i : Int) = impl_kin.l1 k ups (kidsTo (uL ups) n i) (i : Int) x (uL ups a) ups (n : Int) (i : Int) := fun k => by
          rw [impl_kin.l1, if_pos (by omega), if_neg he, if_pos h0, if_pos (by omega)]
          rfl
        refine ⟨fun h => ?_, fun h => ?_⟩
        · obtain ⟨K, hK⟩ := q1 (hstep.mp h)
          exact ⟨K + 1, fun k hk => by
            obtain ⟨k, rfl⟩ : ∃ k', k = k' + 1 := ⟨k - 1, by omega⟩
            rw [hun]
            exact hK k (by omega)⟩
        · obtain ⟨K, hK⟩ := q2 (fun h' => h (hstep.mpr h'))
          exact ⟨K + 1, fun k hk => by
            obtain ⟨k, rfl⟩ : ∃ k', k = k' + 1 := ⟨k - 1, by omega⟩
            rw [hun]
            exact hK k (by omega)⟩
    · refine ⟨fun h => ?_, fun _ => ⟨1, fun k hk => ?_⟩⟩
      · have := h.le hb h1
        omega
      · obtain ⟨k, rfl⟩ : ∃ k', k = k' + 1 := ⟨k - 1, by omega⟩
        rw [impl_kin.l1, if_neg (by omega), if_pos (by omega)]
theorem kin0 (ups : List Int) (n : Nat) (hn : ups.length = n) (hl : n ≤ 1000) : ∀ (m i : Nat), i + m = n → (∀ j : Int, 0 ≤ j → j < i → UpOk (uL ups) j) →
    ((∀ j : Nat, i ≤ j → j < n → UpOk (uL ups) j) → ∃ K, ∀ k, K ≤ k → impl_kin.l0 k ups (kidsTo (uL ups) n i) ups (n : Int) (i : Int) = some (kidsTo (uL ups) n n, true)) ∧
    (¬ (∀ j : Nat, i ≤ j → j < n → UpOk (uL ups) j) → ∃ K, ∀ k, K ≤ k → impl_kin.l0 k ups (kidsTo (uL ups) n i) ups (n : Int) (i : Int) = some ([], false))
  | 0, i, h, hv => by
    obtain rfl : i = n := by omega
    refine ⟨fun _ => ⟨1, fun k hk => ?_⟩, fun h2 => absurd (fun j h1 h3 => by omega) h2⟩
    obtain ⟨k, rfl⟩ : ∃ k', k = k' + 1 := ⟨k - 1, by omega⟩
    rw [impl_kin.l0, if_neg (by omega)]
  | m + 1, i, h, hv => by
    have hb := UpOk.blw i hv
    have hrd : rd ups (i : Int) = uL ups i := rfl
    have hopen : ∀ k, impl_kin.l0 (k + 1) ups (kidsTo (uL ups) n i) ups (n : Int) (i : Int) = if (i : Int) = 0 then (if uL ups i = -1 then impl_kin.l0 k ups (kidsTo (uL ups) n i) ups (n : Int) ((i + 1 : Nat) : Int) else some ([], false)) else impl_kin.l1 k ups (kidsTo (uL ups) n i) (i : Int) (uL ups i) ((i : Int) - 1) ups (n : Int) (i : Int) := fun k => by
      rw [impl_kin.l0, if_pos (by omega), if_pos (by omega), if_pos (by omega), w64' (by omega) (by omega), w64' (by omega) (by omega), hrd]
      rfl
    have ih := kin0 ups n hn hl m (i + 1) (by omega)
    have hall : UpOk (uL ups) i → ((∀ j : Nat, i ≤ j → j < n → UpOk (uL ups) j) ↔ ∀ j : Nat, i + 1 ≤ j → j < n → UpOk (uL ups) j) := fun hu => ⟨fun h j h1 h2 => h j (by omega) h2, fun h j h1 h2 => by
      by_cases hj : j = i
      · subst hj; exact hu
      · exact h j (by omega) h2⟩
    have hv' : UpOk (uL ups) i → ∀ j : Int, 0 ≤ j → j < ((i + 1 : Nat) : Int) → UpOk (uL ups) j := fun hu j h1 h2 => by
      by_cases hj : j < i
      · exact hv j h1 hj
      · obtain rfl : j = (i : Int) := by omega
        exact hu
    have up : ∀ {r : List (List Int) × Bool} {a : Nat → Option (List (List Int) × Bool)}, (∃ K, ∀ k, K ≤ k → a k = some r) → (∀ k, impl_kin.l0 (k + 1) ups (kidsTo (uL ups) n i) ups (n : Int) (i : Int) = a k) → ∃ K, ∀ k, K ≤ k → impl_kin.l0 k ups (kidsTo (uL ups) n i) ups (n : Int) (i : Int) = some r := by
      rintro r a ⟨K, hK⟩ he
      exact ⟨K + 1, fun k hk => by
        obtain ⟨k, rfl⟩ : ∃ k', k = k' + 1 := ⟨k - 1, by omega⟩
        rw [he]
        exact hK k (by omega)⟩
    by_cases h0 : (i : Int) = 0
    · by_cases h1 : uL ups i = -1
      · have hu : UpOk (uL ups) i := ⟨fun _ => h1, fun h => absurd h0 h⟩
        have hsk := kidsTo_skip (uL ups) n i (fun k => by omega)
        obtain ⟨q1, q2⟩ := ih (hv' hu)
        rw [hsk] at q1 q2
        have ho : ∀ k, impl_kin.l0 (k + 1) ups (kidsTo (uL ups) n i) ups (n : Int) (i : Int) = impl_kin.l0 k ups (kidsTo (uL ups) n i) ups (n : Int) ((i + 1 : Nat) : Int) := fun k => by rw [hopen, if_pos h0, if_pos h1]
        exact ⟨fun h => up (q1 ((hall hu).mp h)) ho, fun h => up (q2 (fun h' => h ((hall hu).mpr h'))) ho⟩
      · refine ⟨fun h => absurd ((h i (Nat.le_refl _) (by omega)).1 h0) h1, fun _ => ⟨1, fun k hk => ?_⟩⟩
        obtain ⟨k, rfl⟩ : ∃ k', k = k' + 1 := ⟨k - 1, by omega⟩
        rw [hopen, if_pos h0, if_neg h1]
    · have ho : ∀ k, impl_kin.l0 (k + 1) ups (kidsTo (uL ups) n i) ups (n : Int) (i : Int) = impl_kin.l1 k ups (kidsTo (uL ups) n i) (i : Int) (uL ups i) ((i : Int) - 1) ups (n : Int) (i : Int) := fun k => by rw [hopen, if_neg h0]
      by_cases hh : Hit (uL ups) (uL ups i) ((i : Int) - 1)
      · have hu : UpOk (uL ups) i := ⟨fun h => absurd h h0, fun _ => hh⟩
        obtain ⟨q1, q2⟩ := ih (hv' hu)
        refine ⟨fun h => up ((kin1 ups n i hn hl (by omega) hb _ _ rfl (fun _ _ => q1 ((hall hu).mp h)) i ((i : Int) - 1) (by omega) (by omega)).1 hh) ho, fun h => up ((kin1 ups n i hn hl (by omega) hb _ _ rfl (fun _ _ => q2 (fun h' => h ((hall hu).mpr h'))) i ((i : Int) - 1) (by omega) (by omega)).1 hh) ho⟩
      · refine ⟨fun h => absurd ((h i (Nat.le_refl _) (by omega)).2 h0) hh, fun _ => up ?_ ho⟩
        -- the way is not met: what follows is not asked
        have key : ∀ (m : Nat) (a : Int), a < i → a < m → ¬ Hit (uL ups) (uL ups i) a → ∃ K, ∀ k, K ≤ k → impl_kin.l1 k ups (kidsTo (uL ups) n i) (i : Int) (uL ups i) a ups (n : Int) (i : Int) = some ([], false) := by
          intro m
          induction m with
          | zero =>
            intro a h1 h2 _
            exact ⟨1, fun k hk => by
              obtain ⟨k, rfl⟩ : ∃ k', k = k' + 1 := ⟨k - 1, by omega⟩
              rw [impl_kin.l1, if_neg (by omega), if_pos (by omega)]⟩
          | succ m ihm =>
            intro a h1 h2 hn'
            by_cases ha : 0 ≤ a
            · have hne : a ≠ uL ups i := fun h => hn' (by rw [← h]; exact .here ha)
              have hlt := hb a ha h1
              obtain ⟨K, hK⟩ := ihm (uL ups a) (by omega) (by omega) (fun h => hn' (.step ha hne h))
              exact ⟨K + 1, fun k hk => by
                obtain ⟨k, rfl⟩ : ∃ k', k = k' + 1 := ⟨k - 1, by omega⟩
                rw [impl_kin.l1, if_pos (by omega), if_neg hne, if_pos ha, if_pos (by omega)]
                exact hK k (by omega)⟩
            · exact ⟨1, fun k hk => by
                obtain ⟨k, rfl⟩ : ∃ k', k = k' + 1 := ⟨k - 1, by omega⟩
                rw [impl_kin.l1, if_neg (by omega), if_pos (by omega)]⟩
        exact key i ((i : Int) - 1) (by omega) (by omega) hh
theorem kin_val (ups : List Int) (hl : ups.length ≤ 1000) : ∃ K, ∀ k, K ≤ k → ((∀ j : Nat, j < ups.length → UpOk (uL ups) j) → kin.sem k ups = some (kidsTo (uL ups) ups.length ups.length, true)) ∧ (¬ (∀ j : Nat, j < ups.length → UpOk (uL ups) j) → kin.sem k ups = some ([], false)) := by
  obtain ⟨q1, q2⟩ := kin0 ups ups.length rfl hl ups.length 0 (by omega) (fun j h1 h2 => by omega)
  have hrep : List.replicate ((ups.length : Int)).toNat ([] : List Int) = kidsTo (uL ups) ups.length 0 := by
    apply List.ext_getElem?
    intro k
    simp [kidsTo, pf]
    by_cases hk : k < ups.length
    · simp [hk]
    · simp [hk]
  have ho : ∀ k, kin.sem k ups = impl_kin.l0 k ups (kidsTo (uL ups) ups.length 0) ups (ups.length : Int) 0 := fun k => by
    unfold kin.sem impl_kin.f
    rw [if_pos (by omega), if_pos (by omega), hrep]
  by_cases h : ∀ j : Nat, j < ups.length → UpOk (uL ups) j
  · obtain ⟨K, hK⟩ := q1 fun j _ hj => h j hj
    exact ⟨K, fun k hk => ⟨fun _ => by rw [ho]; exact hK k hk, fun h' => absurd h h'⟩⟩
  · obtain ⟨K, hK⟩ := q2 fun h' => h fun j hj => h' j (Nat.zero_le _) hj
    exact ⟨K, fun k hk => ⟨fun h' => absurd h' h, fun _ => by rw [ho]; exact hK k hk⟩⟩
end Go.Proofs.YtljdidlkiknknaaDoor.AB
namespace Go.Proofs.YtljdidlkiknknaaDoor.AB
open Go Go.RowKit Go.Proofs.YtljdidlkiknknaaDoorW.PrintWords Go.Proofs.YtljdidlkiknknaaDoorW.PrintMore
set_option linter.unusedSimpArgs false
set_option linter.unusedVariables false
theorem nodeOk_val (N : Nat) (x : TN) (p : Int) : ∃ b, nodeOk.sem N x p = some b ∧ (b = true ↔ (1 ≤ x.kind ∧ x.kind ≤ 21) ∧ ((shp x.kind).1 ≤ p ∧ p ≤ (shp x.kind).2.1) ∧ ((shp x.kind).2.2.1 ≤ x.n ∧ x.n ≤ (shp x.kind).2.2.2)) := by
  obtain ⟨k, n, u⟩ := x
  unfold nodeOk.sem shp l11Shape.sem
  simp only
  by_cases h1 : k = 13
  · subst h1; by_cases hn : n = 0 <;> simp [hn] <;> first | omega | (intros; omega) | grind
  by_cases h2 : k = 17
  · subst h2; by_cases hn : n = 0 <;> simp [hn] <;> first | omega | (intros; omega) | grind
  by_cases h3 : k = 14
  · subst h3; by_cases hn : n = 0 <;> by_cases hp : 1 ≤ p <;> simp [hn, hp] <;> first | omega | (intros; omega) | grind
  by_cases h4 : k = 15
  · subst h4; by_cases hn : n = 0 <;> by_cases hp : 1 ≤ p <;> simp [hn, hp] <;> first | omega | (intros; omega) | grind
  by_cases h5 : k = 18
  · subst h5; by_cases hn : n = 0 <;> simp [hn] <;> first | omega | (intros; omega) | grind
  by_cases h6 : k = 16
  · subst h6; by_cases hn : 1 ≤ n <;> by_cases hn2 : n ≤ 32 <;> simp [hn, hn2] <;> first | omega | (intros; omega) | grind
  by_cases h7 : k = 19
  · subst h7; by_cases hn : 1 ≤ n <;> by_cases hn2 : n ≤ 300 <;> simp [hn, hn2] <;> first | omega | (intros; omega) | grind
  by_cases h8 : k = 20
  · subst h8; by_cases hn : 0 ≤ n <;> by_cases hn2 : n ≤ 9 <;> simp [hn, hn2] <;> first | omega | (intros; omega) | grind
  by_cases h9 : k = 21
  · subst h9; by_cases hn : 0 ≤ n <;> by_cases hn2 : n ≤ 9 <;> simp [hn, hn2] <;> first | omega | (intros; omega) | grind
  have e : ∀ c : Int, k ≠ c → (k == c) = false := fun c h => by simpa using h
  simp only [e _ h1, e _ h2, e _ h3, e _ h4, e _ h5, e _ h6, e _ h7, e _ h8, e _ h9, cond_false, Option.getD_some]
  by_cases ha : 1 ≤ k <;> by_cases hb : k ≤ 12 <;> by_cases hn : n = 0 <;> simp [ha, hb, hn] <;> first | omega | (intros; omega) | grind
theorem fill_set {α : Type} (xs : List α) (z : α) : ∀ (i m : Nat) (y : α), i + (m + 1) = xs.length → xs[i]? = some y → (xs.take i ++ List.replicate (m + 1) z).set i y = xs.take (i + 1) ++ List.replicate m z := by
  intro i m y h hy
  apply List.ext_getElem?
  intro j
  have hlen : (xs.take i).length = i := by simp; omega
  have hlen2 : (xs.take (i + 1)).length = i + 1 := by simp; omega
  by_cases hj : i = j
  · subst hj
    rw [List.getElem?_set_self (by simp; omega), List.getElem?_append_left (by omega), List.getElem?_take_of_lt (by omega), hy]
  · rw [List.getElem?_set_ne hj]
    by_cases hlt : j < i
    · rw [List.getElem?_append_left (by omega), List.getElem?_append_left (by omega), List.getElem?_take_of_lt hlt, List.getElem?_take_of_lt (by omega)]
    · rw [List.getElem?_append_right (by omega), List.getElem?_append_right (by omega), List.getElem?_replicate, List.getElem?_replicate, hlen, hlen2]
      by_cases hm : j - i < m + 1
      · rw [if_pos hm, if_pos (by omega)]
      · rw [if_neg hm, if_neg (by omega)]
theorem okMk_t {b n : Int} (h0 : 0 ≤ n) (h1 : b * n ≤ 281474976710656) : okMk b n = true := by simp [okMk]; exact ⟨h0, h1⟩
theorem uL_up (l : List TN) : uL (l.map TN.up) = upT l := by
  funext i
  unfold uL upT rd
  by_cases hi : i.toNat < l.length
  · simp [hi]
  · simp [List.getElem?_eq_none (show l.length ≤ i.toNat by omega)]
    rfl
theorem upK_of {n : Nat} : ∀ (l : List (List Int)) (i : Nat), (∀ (j : Nat) (ks : List Int), l[j]? = some ks → ∀ k ∈ ks, i + j < k.toNat ∧ k.toNat < n) → upK n i l = true
  | [], i, _ => rfl
  | x :: l, i, h => by
    simp only [upK, Bool.and_eq_true, List.all_eq_true, decide_eq_true_eq]
    refine ⟨fun k hk => ?_, upK_of l (i + 1) fun j ks hj k hk => ?_⟩
    · have := h 0 x rfl k hk
      omega
    · have := h (j + 1) ks (by simpa using hj) k hk
      omega
def nodesT (l : List TN) : List ND := (List.range l.length).map fun j => ⟨(l.getD j default).kind, (l.getD j default).n, partsT l j⟩
theorem nodesT_len (l : List TN) : (nodesT l).length = l.length := by simp [nodesT]
theorem nodesT_get (l : List TN) (j : Nat) (hj : j < l.length) : (nodesT l)[j]? = some ⟨(l.getD j default).kind, (l.getD j default).n, partsT l j⟩ := by simp [nodesT, hj]
theorem partsT_mem {l : List TN} {j : Nat} {k : Int} (h : k ∈ partsT l j) (hj : j < l.length) : j < k.toNat ∧ k.toNat < l.length ∧ 0 ≤ k := by
  obtain ⟨x, h1, h2, h3, -⟩ := pf_mem h
  omega
theorem nodesT_ok (l : List TN) : okND (nodesT l) = true := by
  unfold okND
  rw [nodesT_len]
  refine upK_of _ _ fun j ks hj k hk => ?_
  rw [List.getElem?_map] at hj
  by_cases h : j < l.length
  · rw [nodesT_get l j h] at hj
    obtain rfl := Option.some.inj hj
    have := partsT_mem hk h
    omega
  · rw [List.getElem?_eq_none (by rw [nodesT_len]; omega)] at hj
    cases hj
def treeT (l : List TN) (k : Nat) : Sh := (treesB 0 (nodesT l)).getD k default
theorem treeT_eq (l : List TN) (k : Nat) (hk : k < l.length) : treeT l k = ⟨(l.getD k default).kind, (l.getD k default).n, (partsT l k).map fun j => treeT l j.toNat⟩ := by
  have := treesB_get (nodesT_get l k hk) (i := 0) (fun j hj => by have := partsT_mem hj hk; omega)
  unfold treeT
  rw [List.getD_eq_getElem?_getD, this]
  rfl
theorem shL2 (N : Nat) (l : List TN) (i : Nat) (C : List ND) (y0 : List (List Int) × Bool) (k1 : Int → List ND → List Int → Option (Option Sh × Bool)) (ks : List Int) (hks : y0.1.getD i default = ks) (hC : C.length = l.length) (hi : i < l.length) (hl : l.length ≤ 1000) (hkl : ks.length ≤ 1000)
    (hkk : ∀ k ∈ ks, 0 ≤ k ∧ k < l.length) (D : List Int) : ∀ (m n j : Nat), j + m = ks.length → m < n → shapeOf.L2 N l (i : Int) C y0 k1 n (j : Int) D (ks.take j) = k1 ((i + 1 : Nat) : Int) (C.set i ⟨(l.getD i default).kind, (l.getD i default).n, ks⟩) D
  | 0, n, j, h, hn => by
    obtain ⟨n, rfl⟩ : ∃ n', n = n' + 1 := ⟨n - 1, by omega⟩
    rw [shapeOf.L2]
    simp only [Int.toNat_natCast, hks, List.length_map, show decide ((j : Int) < (ks.length : Int)) = false by simp; omega, cond_false]
    rw [w64 (by omega) (by omega), List.take_of_length_le (by omega)]
    rfl
  | m + 1, n, j, h, hn => by
    obtain ⟨n, rfl⟩ : ∃ n', n = n' + 1 := ⟨n - 1, by omega⟩
    have hjl : j < ks.length := by omega
    have hg : ks.getD j default = ks[j] := by simp [hjl]
    have hm := hkk ks[j] (List.getElem_mem hjl)
    rw [shapeOf.L2]
    simp only [Int.toNat_natCast, hks, List.length_map, show decide ((j : Int) < (ks.length : Int)) = true by simp; omega, cond_true, List.length_set, hC, hg]
    rw [inR_t (by omega) (by omega), inR_t (by omega) (by omega), inR_t (by omega) (by omega), okAp_t (by simp; omega), w64 (by omega) (by omega)]
    simp only [cond_true]
    have ht : ks.take j ++ [ks[j]] = ks.take (j + 1) := by rw [List.take_succ_eq_append_getElem hjl]
    rw [ht]
    exact shL2 N l i C y0 k1 ks hks hC hi hl hkl hkk D m n (j + 1) (by omega) (by omega)
structure Pass (l : List TN) (j : Nat) : Prop where
  dp : ∃ d, Dep (upT l) j d ∧ d ≤ 8
  nd : (1 ≤ (l.getD j default).kind ∧ (l.getD j default).kind ≤ 21) ∧ ((shp (l.getD j default).kind).1 ≤ (partsT l j).length ∧ ((partsT l j).length : Int) ≤ (shp (l.getD j default).kind).2.1) ∧ ((shp (l.getD j default).kind).2.2.1 ≤ (l.getD j default).n ∧ (l.getD j default).n ≤ (shp (l.getD j default).kind).2.2.2)
theorem shL1 (N : Nat) (l : List TN) (y0 : List (List Int) × Bool) (hl : l.length ≤ 40) (hl1 : 1 ≤ l.length) (hN : 100 < N) (hy : ∀ j : Nat, j < l.length → y0.1.getD j default = partsT l j) (hyl : y0.1.length = l.length) (hv : ∀ j : Nat, j < l.length → UpOk (upT l) j) :
    ∀ (m n i : Nat) (D : List Int), i + m = l.length → m < n → D.length = l.length → (∀ j : Nat, j < i → ∃ d : Nat, Dep (upT l) j d ∧ d ≤ 8 ∧ D.getD j default = d) →
    ((∀ j : Nat, i ≤ j → j < l.length → Pass l j) → shapeOf.L1 N l y0 n (i : Int) ((nodesT l).take i ++ List.replicate m ⟨0, 0, []⟩) D = some (some (treeT l 0), true)) ∧
    (¬ (∀ j : Nat, i ≤ j → j < l.length → Pass l j) → shapeOf.L1 N l y0 n (i : Int) ((nodesT l).take i ++ List.replicate m ⟨0, 0, []⟩) D = some (none, false))
  | 0, n, i, D, h, hn, hD, hd => by
    obtain ⟨n, rfl⟩ : ∃ n', n = n' + 1 := ⟨n - 1, by omega⟩
    refine ⟨fun _ => ?_, fun h2 => absurd (fun j h3 h4 => by omega) h2⟩
    rw [shapeOf.L1]
    have hC : (nodesT l).take i ++ List.replicate 0 (⟨0, 0, []⟩ : ND) = nodesT l := by simp [List.take_of_length_le (show (nodesT l).length ≤ i by rw [nodesT_len]; omega)]
    simp only [List.length_map, show decide ((i : Int) < (l.length : Int)) = false by simp; omega, cond_false, hC, nodesT_ok, cond_true]
    rw [inR_t (by omega) (by rw [treesB_len, nodesT_len]; omega)]
    rfl
  | m + 1, n, i, D, h, hn, hD, hd => by
    obtain ⟨n, rfl⟩ : ∃ n', n = n' + 1 := ⟨n - 1, by omega⟩
    have hil : i < l.length := by omega
    have hu := hv i hil
    have hblw := UpOk.blw l.length (fun j h1 h2 => by obtain ⟨k, rfl⟩ : ∃ k : Nat, j = k := ⟨j.toNat, by omega⟩; exact hv k (by omega))
    have hlt := hu.lt (by omega) (fun j h1 h2 => hblw j h1 (by omega))
    have hpk : ∀ k ∈ partsT l i, 0 ≤ k ∧ k < l.length := fun k hk => by have := partsT_mem hk hil; omega
    have hpl : (partsT l i).length ≤ 1000 := by have := pf_len (upT l) i (l.length - (i + 1)) (i + 1); unfold partsT; omega
    have hCl : ((nodesT l).take i ++ List.replicate (m + 1) (⟨0, 0, []⟩ : ND)).length = l.length := by simp [nodesT_len]; omega
    obtain ⟨b, hb1, hb2⟩ := nodeOk_val N (l.getD i default) ((partsT l i).length : Int)
    have hup : (l.getD i default).up = upT l i := by simp [upT]
    -- the depth
    obtain ⟨d, hd1, hd2, hd3⟩ : ∃ d : Nat, Dep (upT l) i d ∧ d ≤ 9 ∧ (if i = 0 then d = 1 else (D.set i 1).getD (upT l i).toNat default + 1 = (d : Int)) := by
      by_cases h0 : i = 0
      · subst h0
        have := hu.1 rfl
        exact ⟨1, .step (by omega) (by rw [this]; exact .neg (by omega)), by omega, by simp⟩
      · have h1 := hlt.2.2 (by omega)
        obtain ⟨d, h2, h3, h4⟩ := hd (upT l i).toNat (by omega)
        rw [show (((upT l i).toNat : Nat) : Int) = upT l i by omega] at h2
        refine ⟨d + 1, .step (by omega) h2, by omega, ?_⟩
        rw [if_neg h0, List.getD_eq_getElem?_getD, List.getElem?_set_ne (by omega), ← List.getD_eq_getElem?_getD, h4]
        rfl
    have hpass : Pass l i ↔ d ≤ 8 ∧ b = true := by
      constructor
      · rintro ⟨⟨d', h1, h2⟩, h3⟩
        have := h1.uniq hd1
        subst this
        exact ⟨h2, hb2.mpr h3⟩
      · rintro ⟨h1, h2⟩
        exact ⟨⟨d, hd1, h1⟩, hb2.mp h2⟩
    -- what follows
    have next : ∀ D' : List Int, D'.length = l.length → D'.getD i default = (d : Int) → (∀ j : Nat, j < i → D'.getD j default = D.getD j default) →
        ((∀ j : Nat, i ≤ j → j < l.length → Pass l j) → (bif decide (D'.getD i default > 8) then some (none, false) else bif inR (i : Int) y0.1.length then (nodeOk.sem N (l.getD i default) ((partsT l i).length : Int)).bind fun y1 => bif (!y1) then some (none, false) else bif inR (i : Int) ((nodesT l).take i ++ List.replicate (m + 1) (⟨0, 0, []⟩ : ND)).length then shapeOf.L2 N l (i : Int) ((nodesT l).take i ++ List.replicate (m + 1) ⟨0, 0, []⟩) y0 (shapeOf.L1 N l y0 n) N 0 D' [] else none else none) = some (some (treeT l 0), true)) ∧
        (¬ (∀ j : Nat, i ≤ j → j < l.length → Pass l j) → (bif decide (D'.getD i default > 8) then some (none, false) else bif inR (i : Int) y0.1.length then (nodeOk.sem N (l.getD i default) ((partsT l i).length : Int)).bind fun y1 => bif (!y1) then some (none, false) else bif inR (i : Int) ((nodesT l).take i ++ List.replicate (m + 1) (⟨0, 0, []⟩ : ND)).length then shapeOf.L2 N l (i : Int) ((nodesT l).take i ++ List.replicate (m + 1) ⟨0, 0, []⟩) y0 (shapeOf.L1 N l y0 n) N 0 D' [] else none else none) = some (none, false)) := by
      intro D' h1 h2 h3
      rw [h2]
      by_cases h8 : d ≤ 8
      · simp only [show decide ((d : Int) > 8) = false by simp; omega, cond_false, inR_t (show (0 : Int) ≤ i by omega) (show (i : Int) < y0.1.length by omega), cond_true, hb1, Option.bind_some]
        cases b with
        | false =>
          have : ¬ ∀ j : Nat, i ≤ j → j < l.length → Pass l j := fun h' => by
            have := (hpass.mp (h' i (Nat.le_refl _) hil)).2
            cases this
          exact ⟨fun h' => absurd h' this, fun _ => rfl⟩
        | true =>
          have hp := hpass.mpr ⟨h8, rfl⟩
          simp only [Bool.not_true, cond_false, inR_t (show (0 : Int) ≤ i by omega) (show (i : Int) < ((nodesT l).take i ++ List.replicate (m + 1) (⟨0, 0, []⟩ : ND)).length by rw [hCl]; omega), cond_true]
          have hq := shL2 N l i ((nodesT l).take i ++ List.replicate (m + 1) ⟨0, 0, []⟩) y0 (shapeOf.L1 N l y0 n) (partsT l i) (hy i hil) hCl hil (by omega) hpl hpk D' (partsT l i).length N 0 (by omega) (by have := pf_len (upT l) i (l.length - (i + 1)) (i + 1); unfold partsT; omega)
          rw [List.take_zero] at hq
          rw [show ((0 : Nat) : Int) = 0 from rfl] at hq
          rw [hq, fill_set (nodesT l) ⟨0, 0, []⟩ i m _ (by rw [nodesT_len]; omega) (nodesT_get l i hil)]
          obtain ⟨q1, q2⟩ := shL1 N l y0 hl hl1 hN hy hyl hv m n (i + 1) D' (by omega) (by omega) h1 (fun j hj => by
            by_cases hji : j = i
            · subst hji
              exact ⟨d, hd1, h8, h2⟩
            · rw [h3 j (by omega)]
              exact hd j (by omega))
          refine ⟨fun h' => q1 fun j h4 h5 => h' j (by omega) h5, fun h' => q2 fun h'' => h' fun j h4 h5 => ?_⟩
          by_cases hji : j = i
          · subst hji; exact hp
          · exact h'' j (by omega) h5
      · have : ¬ ∀ j : Nat, i ≤ j → j < l.length → Pass l j := fun h' => h8 (hpass.mp (h' i (Nat.le_refl _) hil)).1
        simp only [show decide ((d : Int) > 8) = true by simp; omega, cond_true]
        exact ⟨fun h' => absurd h' this, by simp⟩
    rw [shapeOf.L1]
    simp only [List.length_map, show decide ((i : Int) < (l.length : Int)) = true by simp; omega, cond_true, inR_t (show (0 : Int) ≤ i by omega) (show (i : Int) < l.length by omega), inR_t (show (0 : Int) ≤ i by omega) (show (i : Int) < D.length by omega), Int.toNat_natCast, List.length_set, hup, hy i hil]
    by_cases h0 : i = 0
    · subst h0
      rw [if_pos rfl] at hd3
      simp only [show decide (((0 : Nat) : Int) > 0) = false by simp, cond_false]
      exact next (D.set 0 1) (by simp [hD]) (by rw [hd3, List.getD_eq_getElem?_getD, List.getElem?_set_self (by omega)]; rfl) (fun j hj => by omega)
    · rw [if_neg h0] at hd3
      have h1 := hlt.2.2 (by omega)
      simp only [show decide ((i : Int) > 0) = true by simp; omega, cond_true, inR_t h1 (show upT l i < (D.length : Int) by omega)]
      rw [hd3, w64 (by omega) (by omega)]
      exact next ((D.set i 1).set i (d : Int)) (by simp [hD]) (by rw [List.getD_eq_getElem?_getD, List.getElem?_set_self (by simp; omega)]; rfl) (fun j hj => by rw [List.getD_eq_getElem?_getD, List.getElem?_set_ne (by omega), List.getElem?_set_ne (by omega), ← List.getD_eq_getElem?_getD])
theorem shL0 (N : Nat) (l : List TN) (hl : l.length ≤ 40) : ∀ (m n i : Nat), i + m = l.length → m < n → shapeOf.L0 N l n (i : Int) ((l.map TN.up).take i ++ List.replicate m 0) = shapeOf.L0 N l 1 (l.length : Int) (l.map TN.up)
  | 0, n, i, h, hn => by
    obtain ⟨n, rfl⟩ : ∃ n', n = n' + 1 := ⟨n - 1, by omega⟩
    have : (l.map TN.up).take i ++ List.replicate 0 0 = l.map TN.up := by simp [List.take_of_length_le (show (l.map TN.up).length ≤ i by simp; omega)]
    rw [this, shapeOf.L0, shapeOf.L0]
    simp only [List.length_map, show decide ((i : Int) < (l.length : Int)) = false by simp; omega, show decide ((l.length : Int) < (l.length : Int)) = false by simp, cond_false]
  | m + 1, n, i, h, hn => by
    obtain ⟨n, rfl⟩ : ∃ n', n = n' + 1 := ⟨n - 1, by omega⟩
    rw [shapeOf.L0]
    simp only [List.length_map, show decide ((i : Int) < (l.length : Int)) = true by simp; omega, cond_true, inR_t (show (0 : Int) ≤ i by omega) (show (i : Int) < l.length by omega)]
    rw [inR_t (by omega) (by simp; omega), w64 (by omega) (by omega)]
    simp only [cond_true, Int.toNat_natCast]
    rw [fill_set (l.map TN.up) 0 i m ((l.getD i default).up) (by simp; omega) (by simp [show i < l.length by omega])]
    exact shL0 N l hl m n (i + 1) (by omega) (by omega)
theorem goodT_iff (l : List TN) (hl : 1 ≤ l.length ∧ l.length ≤ 40) : GoodT l ↔ (∀ j : Nat, j < l.length → UpOk (upT l) j) ∧ ∀ j : Nat, j < l.length → Pass l j := by
  constructor
  · intro h
    refine ⟨fun j hj => (h.2 j hj).up, fun j hj => ?_⟩
    have := h.2 j hj
    exact ⟨this.dp, by simpa using this.kd, by simpa using this.pt, by simpa using this.nn⟩
  · intro h
    refine ⟨hl, fun j hj => ?_⟩
    have := h.2 j hj
    exact ⟨h.1 j hj, by simpa using this.nd.1, this.dp, by simpa using this.nd.2.1, by simpa using this.nd.2.2⟩
theorem shapeOf_val (l : List TN) : ∃ K, ∀ N, K ≤ N → (GoodT l → shapeOf.sem N l = some (some (treeT l 0), true)) ∧ (¬ GoodT l → shapeOf.sem N l = some (none, false)) := by
  by_cases hl : 1 ≤ l.length ∧ l.length ≤ 40
  · obtain ⟨K, hK⟩ := kin_val (l.map TN.up) (by simp; omega)
    refine ⟨K + 200, fun N hN => ?_⟩
    have hq := hK N (by omega)
    have hfill := shL0 N l hl.2 l.length N 0 (by omega) (by omega)
    rw [List.take_zero, List.nil_append, show ((0 : Nat) : Int) = 0 from rfl] at hfill
    have hopen : shapeOf.sem N l = shapeOf.L0 N l 1 (l.length : Int) (l.map TN.up) := by
      rw [shapeOf.sem]
      simp only [List.length_map, show decide ((l.length : Int) < 1) = false by simp; omega, show decide ((l.length : Int) > 40) = false by simp; omega, cond_false, okMk_t (show (0 : Int) ≤ (l.length : Int) by omega) (show (8 : Int) * (l.length : Int) ≤ 281474976710656 by omega), cond_true, Int.toNat_natCast]
      exact hfill
    rw [hopen, shapeOf.L0]
    simp only [List.length_map, show decide ((l.length : Int) < (l.length : Int)) = false by simp, cond_false]
    rw [uL_up, List.length_map] at hq
    rw [goodT_iff l hl]
    by_cases hu : ∀ j : Nat, j < l.length → UpOk (upT l) j
    · rw [hq.1 hu]
      have hblw := UpOk.blw l.length (fun j h1 h2 => by obtain ⟨k, rfl⟩ : ∃ k : Nat, j = k := ⟨j.toNat, by omega⟩; exact hu k (by omega))
      simp only [Option.bind_some, Bool.not_true, cond_false, okMk_t (show (0 : Int) ≤ (l.length : Int) by omega) (show (40 : Int) * (l.length : Int) ≤ 281474976710656 by omega), okMk_t (show (0 : Int) ≤ (l.length : Int) by omega) (show (8 : Int) * (l.length : Int) ≤ 281474976710656 by omega), cond_true, Int.toNat_natCast, List.length_replicate, show decide (0 < l.length) = true by simp; omega]
      obtain ⟨q1, q2⟩ := shL1 N l (kidsTo (upT l) l.length l.length, true) hl.2 hl.1 (by omega) (fun j hj => by
        show (kidsTo (upT l) l.length l.length).getD j default = _
        have := kidsTo_get (upT l) l.length l.length j hj
        rw [show (default : List Int) = [] from rfl, this]
        exact pf_all hblw j hj) (kidsTo_len _ _ _) hu l.length N 0 (List.replicate l.length 0) (by omega) (by omega) (by simp) (fun j hj => by omega)
      rw [List.take_zero, List.nil_append, show ((0 : Nat) : Int) = 0 from rfl] at q1 q2
      exact ⟨fun h => q1 fun j _ hj => h.2 j hj, fun h => q2 fun h' => h ⟨hu, fun j hj => h' j (Nat.zero_le _) hj⟩⟩
    · rw [hq.2 hu]
      exact ⟨fun h => absurd h.1 hu, fun _ => rfl⟩
  · refine ⟨0, fun N _ => ⟨fun h => absurd h.1 hl, fun _ => ?_⟩⟩
    rw [shapeOf.sem]
    simp only [List.length_map]
    by_cases h1 : l.length < 1
    · simp only [show decide ((l.length : Int) < 1) = true by simp; omega, cond_true]
    · simp only [show decide ((l.length : Int) < 1) = false by simp; omega, show decide ((l.length : Int) > 40) = true by simp; omega, cond_true, cond_false]
end Go.Proofs.YtljdidlkiknknaaDoor.AB
namespace Go.Proofs.YtljdidlkiknknaaDoor.AB
open Go Go.RowKit Go.Proofs.YtljdidlkiknknaaDoorW.PrintWords Go.Proofs.YtljdidlkiknknaaDoorW.PrintMore
set_option linter.unusedSimpArgs false
set_option linter.unusedVariables false
theorem treeL0 (N : Nat) (l : List TN) (k : Nat) (ys : List Int) (self : List TN → Int → Option Sh) (hl : ys.length ≤ 1000) (hs : ∀ y ∈ ys, self l y = some (treeT l y.toNat)) : ∀ (m n j : Nat), j + m = ys.length → m < n → l11Tree.L0 N l (k : Int) ys self n (j : Int) ((ys.take j).map fun y => treeT l y.toNat) = some ⟨(l.getD k default).kind, (l.getD k default).n, ys.map fun y => treeT l y.toNat⟩
  | 0, n, j, h, hn => by
    obtain ⟨n, rfl⟩ : ∃ n', n = n' + 1 := ⟨n - 1, by omega⟩
    rw [l11Tree.L0]
    simp only [List.length_map, show decide ((j : Int) < (ys.length : Int)) = false by simp; omega, cond_false, Int.toNat_natCast, List.take_of_length_le (show ys.length ≤ j by omega)]
  | m + 1, n, j, h, hn => by
    obtain ⟨n, rfl⟩ : ∃ n', n = n' + 1 := ⟨n - 1, by omega⟩
    have hj : j < ys.length := by omega
    have hg : ys.getD j default = ys[j] := by simp [hj]
    rw [l11Tree.L0]
    simp only [List.length_map, show decide ((j : Int) < (ys.length : Int)) = true by simp; omega, cond_true, inR_t (show (0 : Int) ≤ j by omega) (show (j : Int) < ys.length by omega), Int.toNat_natCast, hg, hs ys[j] (List.getElem_mem hj), Option.bind_some]
    rw [okAp_t (by simp; omega), w64 (by omega) (by omega)]
    simp only [cond_true]
    have ht : (ys.take j).map (fun y => treeT l y.toNat) ++ [treeT l ys[j].toNat] = (ys.take (j + 1)).map fun y => treeT l y.toNat := by rw [← List.take_append_getElem hj, List.map_append]; rfl
    rw [ht]
    exact treeL0 N l k ys self hl hs m n (j + 1) (by omega) (by omega)
theorem tree_val (l : List TN) (hl : l.length ≤ 40) : ∀ (m : Nat) (k N : Nat), k < l.length → l.length - k ≤ m → 100 + m ≤ N → l11Tree.sem N l (k : Int) = some (treeT l k)
  | 0, k, N, hk, hm, _ => by omega
  | m + 1, k, N, hk, hm, hN => by
    obtain ⟨N, rfl⟩ : ∃ n', N = n' + 1 := ⟨N - 1, by omega⟩
    have hp := sParts_eq N l k (by omega) hk (by omega)
    rw [l11Tree.sem]
    simp only [inR_t (show (0 : Int) ≤ k by omega) (show (k : Int) < l.length by omega), cond_true, hp, Option.bind_some]
    have hpl := pf_len (upT l) k (l.length - (k + 1)) (k + 1)
    have := treeL0 N l k (partsT l k) (l11Tree.sem N) (by unfold partsT; omega) (fun y hy => by
      have := partsT_mem hy hk
      have h1 := tree_val l hl m y.toNat N (by omega) (by omega) (by omega)
      rwa [show ((y.toNat : Nat) : Int) = y by omega] at h1) (partsT l k).length N 0 (by omega) (by unfold partsT; omega)
    rw [List.take_zero, List.map_nil, show ((0 : Nat) : Int) = 0 from rfl] at this
    rw [show pf (upT l) (k : Int) (l.length - (k + 1)) (k + 1) = partsT l k from rfl, this, ← treeT_eq l k hk]
def upV (l : List VN) : Int → Int := fun i => (l.getD i.toNat default).up
theorem vL1 (N : Nat) (l : List VN) (k : Int) (k0 : Int → Option Bool) (hb : Blw (upV l) k) (hk : k < l.length) (hl : l.length ≤ 1000000000) (hk0 : 0 ≤ k) : ∀ (n : Nat) (a : Int), a < k → (a + 1).toNat + 1 ≤ n → ∃ b, (b = true ↔ Hit (upV l) (upV l k) a) ∧ l12Shape.L1 N l k k0 n false a = bif b then k0 (k + 1) else some false
  | 0, a, _, h => by omega
  | n + 1, a, ha, hn => by
    rw [l12Shape.L1]
    have hw : IntKind.i64.wrap (k + 1) = k + 1 := w64 (by omega) (by omega)
    by_cases h0 : 0 ≤ a
    · have hd : decide (a ≥ 0) = true := by simpa using h0
      have hi : inR a l.length = true := inR_t h0 (by omega)
      simp only [hd, hi, cond_true, Bool.not_false]
      by_cases he : a = upV l k
      · refine ⟨true, by simp; rw [← he]; exact .here h0, ?_⟩
        have he2 : (a == (l.getD k.toNat default).up) = true := by simpa [upV] using he
        rw [he2]
        obtain ⟨n, rfl⟩ : ∃ n', n = n' + 1 := ⟨n - 1, by omega⟩
        rw [l12Shape.L1, hw]
        simp
      · have he2 : (a == (l.getD k.toNat default).up) = false := by simpa [upV] using he
        rw [he2]
        have hlt := hb a h0 ha
        obtain ⟨b, h1, h2⟩ := vL1 N l k k0 hb hk hl hk0 n (upV l a) (by omega) (by omega)
        refine ⟨b, h1.trans ⟨fun h => .step h0 he h, fun h => ?_⟩, h2⟩
        generalize hx : upV l k = x at h
        cases h with
        | here h => exact absurd hx.symm he
        | step _ _ h => exact h
    · refine ⟨false, ?_, ?_⟩
      · simp only [Bool.false_eq_true, false_iff]
        intro h
        have := h.le hb ha
        omega
      · have hd : decide (a ≥ 0) = false := by simp; omega
        simp only [hd, cond_false, Bool.not_false, cond_true]
theorem vL0 (N : Nat) (l : List VN) (hl : l.length ≤ 1000000000) (hN : l.length + 1 < N) : ∀ (m n k : Nat), k + m = l.length → m < n → (∀ j : Int, 0 ≤ j → j < k → UpOk (upV l) j) → ∃ b, l12Shape.L0 N l n (k : Int) = some b ∧ (b = true ↔ (∀ j : Nat, k ≤ j → j < l.length → UpOk (upV l) j) ∧ 1 ≤ l.length ∧ l.length ≤ 100)
  | 0, n, k, h, hn, hv => by
    obtain ⟨n, rfl⟩ : ∃ n', n = n' + 1 := ⟨n - 1, by omega⟩
    refine ⟨decide ((1 : Int) ≤ l.length) && decide ((l.length : Int) ≤ 100), ?_, ?_⟩
    · rw [l12Shape.L0]
      simp [show ¬ ((k : Int) < (l.length : Int)) by omega, sIn]
    · simp only [Bool.and_eq_true, decide_eq_true_eq]
      exact ⟨fun h1 => ⟨fun j h2 h3 => by omega, by omega, by omega⟩, fun h1 => ⟨by omega, by omega⟩⟩
  | m + 1, n, k, h, hn, hv => by
    obtain ⟨n, rfl⟩ : ∃ n', n = n' + 1 := ⟨n - 1, by omega⟩
    have hblw := UpOk.blw k hv
    rw [l12Shape.L0]
    have hwm : IntKind.i64.wrap ((k : Int) - 1) = (k : Int) - 1 := w64 (by omega) (by omega)
    simp only [List.length_map, show decide ((k : Int) < (l.length : Int)) = true by simp; omega, inR_t (show (0 : Int) ≤ k by omega) (show (k : Int) < l.length by omega), cond_true, sIn, Option.bind_some, hwm, Int.toNat_natCast]
    have hup : (l.getD k default).up = upV l k := by simp [upV]
    rw [hup]
    have bad : ¬ UpOk (upV l) k → (false = true ↔ (∀ j : Nat, k ≤ j → j < l.length → UpOk (upV l) j) ∧ 1 ≤ l.length ∧ l.length ≤ 100) := by
      intro h1
      simp only [Bool.false_eq_true, false_iff]
      intro h2
      exact h1 (h2.1 k (Nat.le_refl _) (by omega))
    by_cases hu : UpOk (upV l) k
    · have hlt := hu.lt (by omega) hblw
      have c1 : (!(((k : Int) == 0) == (upV l k == -1))) = false := by
        by_cases h0 : (k : Int) = 0
        · have := hu.1 h0
          rw [this, h0]
          rfl
        · have := hlt.2.2 h0
          have h1 : ((k : Int) == 0) = false := by simpa using h0
          have h2 : (upV l k == -1) = false := by simp; omega
          rw [h1, h2]
          rfl
      have c2 : (decide ((-1 : Int) ≤ upV l k) && decide (upV l k ≤ (k : Int) - 1)) = true := by simp; omega
      simp only [c1, c2, Bool.not_true, cond_false]
      obtain ⟨b', hb1, hb2⟩ := vL0 N l hl hN m n (k + 1) (by omega) (by omega) (fun j h1 h2 => by
        by_cases hj : j < k
        · exact hv j h1 hj
        · obtain rfl : j = (k : Int) := by omega
          exact hu)
      refine ⟨b', ?_, hb2.trans ⟨fun h2 => ⟨fun j h3 h4 => ?_, h2.2⟩, fun h2 => ⟨fun j h3 h4 => h2.1 j (by omega) h4, h2.2⟩⟩⟩
      · by_cases h0 : (k : Int) = 0
        · have h1 : ((k : Int) == 0) = true := by simpa using h0
          rw [h1]
          obtain ⟨N', hN'⟩ : ∃ n', N = n' + 1 := ⟨N - 1, by omega⟩
          rw [hN', l12Shape.L1, ← hN']
          rw [w64 (by omega) (by omega)]
          simp only [show decide ((k : Int) - 1 ≥ 0) = false by simp; omega, cond_false, Bool.not_true]
          exact hb1
        · have h1 : ((k : Int) == 0) = false := by simpa using h0
          rw [h1]
          obtain ⟨b, h2, h3⟩ := vL1 N l k (l12Shape.L0 N l n) hblw (by omega) hl (by omega) N ((k : Int) - 1) (by omega) (by omega)
          rw [h3, h2.mpr (hu.2 h0)]
          exact hb1
      · by_cases hj : j = k
        · subst hj; exact hu
        · exact h2.1 j (by omega) h4
    · cases c1 : (!(((k : Int) == 0) == (upV l k == -1))) with
      | true => exact ⟨false, by simp, bad hu⟩
      | false =>
        simp only [cond_false]
        cases c2 : (decide ((-1 : Int) ≤ upV l k) && decide (upV l k ≤ (k : Int) - 1)) with
        | false => exact ⟨false, by simp, bad hu⟩
        | true =>
          simp only [Bool.not_true, cond_false]
          simp only [Bool.and_eq_true, decide_eq_true_eq] at c2
          have h0 : (k : Int) ≠ 0 := fun h0 => by
            refine hu ⟨fun _ => ?_, fun h => absurd h0 h⟩
            omega
          have hk1 : ((k : Int) == 0) = false := by simpa using h0
          rw [hk1] at c1 ⊢
          obtain ⟨b, h2, h3⟩ := vL1 N l k (l12Shape.L0 N l n) hblw (by omega) hl (by omega) N ((k : Int) - 1) (by omega) (by omega)
          have hbf : b = false := by
            cases b with
            | false => rfl
            | true => exact absurd ⟨fun h => absurd h h0, fun _ => h2.mp rfl⟩ hu
          subst hbf
          rw [h3]
          exact ⟨false, rfl, bad hu⟩
def GoodV (l : List VN) : Prop := (1 ≤ l.length ∧ l.length ≤ 100) ∧ ∀ j : Nat, j < l.length → UpOk (upV l) j
theorem vGood (N : Nat) (l : List VN) (hl : l.length ≤ 1000000000) (hN : l.length + 1 < N) : ∃ b, l12Shape.sem N l = some b ∧ (b = true ↔ GoodV l) := by
  obtain ⟨b, h1, h2⟩ := vL0 N l hl hN l.length N 0 (by omega) (by omega) (fun j h1 h2 => by omega)
  rw [l12Shape.sem]
  exact ⟨b, h1, h2.trans ⟨fun h => ⟨h.2, fun j hj => h.1 j (Nat.zero_le _) hj⟩, fun h => ⟨fun j _ hj => h.2 j hj, h.1⟩⟩⟩
def partsV (l : List VN) (j : Nat) : List Int := pf (upV l) j (l.length - (j + 1)) (j + 1)
theorem uL_upV (l : List VN) : uL (l.map VN.up) = upV l := by
  funext i
  unfold uL upV rd
  by_cases hi : i.toNat < l.length
  · simp [hi]
  · simp [List.getElem?_eq_none (show l.length ≤ i.toNat by omega)]
    rfl
def nodesV (l : List VN) : List VD := (List.range l.length).map fun j => ⟨(l.getD j default).n, (l.getD j default).text, partsV l j⟩
theorem nodesV_len (l : List VN) : (nodesV l).length = l.length := by simp [nodesV]
theorem nodesV_get (l : List VN) (j : Nat) (hj : j < l.length) : (nodesV l)[j]? = some ⟨(l.getD j default).n, (l.getD j default).text, partsV l j⟩ := by simp [nodesV, hj]
theorem partsV_mem {l : List VN} {j : Nat} {k : Int} (h : k ∈ partsV l j) (hj : j < l.length) : j < k.toNat ∧ k.toNat < l.length ∧ 0 ≤ k := by
  obtain ⟨x, h1, h2, h3, -⟩ := pf_mem h
  omega
theorem nodesV_ok (l : List VN) : okVD (nodesV l) = true := by
  unfold okVD
  rw [nodesV_len]
  refine upK_of _ _ fun j ks hj k hk => ?_
  rw [List.getElem?_map] at hj
  by_cases h : j < l.length
  · rw [nodesV_get l j h] at hj
    obtain rfl := Option.some.inj hj
    have := partsV_mem hk h
    omega
  · rw [List.getElem?_eq_none (by rw [nodesV_len]; omega)] at hj
    cases hj
def treeV (l : List VN) (k : Nat) : Dt := (dtreesB 0 (nodesV l)).getD k default
theorem treeV_eq (l : List VN) (k : Nat) (hk : k < l.length) : treeV l k = ⟨(l.getD k default).n, (l.getD k default).text, (partsV l k).map fun j => treeV l j.toNat⟩ := by
  have := dtreesB_get (nodesV_get l k hk) (i := 0) (fun j hj => by have := partsV_mem hj hk; omega)
  unfold treeV
  rw [List.getD_eq_getElem?_getD, this]
  rfl
theorem daL2 (N : Nat) (l : List VN) (i : Nat) (C : List VD) (y0 : List (List Int) × Bool) (k1 : Int → List VD → Option (Option Dt × Bool)) (ks : List Int) (hks : y0.1.getD i default = ks) (hC : C.length = l.length) (hi : i < l.length) (hl : l.length ≤ 1000) (hkl : ks.length ≤ 1000)
    (hkk : ∀ k ∈ ks, 0 ≤ k ∧ k < l.length) : ∀ (m n j : Nat), j + m = ks.length → m < n → datumOf.L2 N l (i : Int) C y0 k1 n (j : Int) (ks.take j) = k1 ((i + 1 : Nat) : Int) (C.set i ⟨(l.getD i default).n, (l.getD i default).text, ks⟩)
  | 0, n, j, h, hn => by
    obtain ⟨n, rfl⟩ : ∃ n', n = n' + 1 := ⟨n - 1, by omega⟩
    rw [datumOf.L2]
    simp only [Int.toNat_natCast, hks, List.length_map, show decide ((j : Int) < (ks.length : Int)) = false by simp; omega, cond_false]
    rw [w64 (by omega) (by omega), List.take_of_length_le (by omega)]
    rfl
  | m + 1, n, j, h, hn => by
    obtain ⟨n, rfl⟩ : ∃ n', n = n' + 1 := ⟨n - 1, by omega⟩
    have hjl : j < ks.length := by omega
    have hg : ks.getD j default = ks[j] := by simp [hjl]
    have hm := hkk ks[j] (List.getElem_mem hjl)
    rw [datumOf.L2]
    simp only [Int.toNat_natCast, hks, List.length_map, show decide ((j : Int) < (ks.length : Int)) = true by simp; omega, cond_true, List.length_set, hC, hg]
    rw [inR_t (by omega) (by omega), inR_t (by omega) (by omega), inR_t (by omega) (by omega), okAp_t (by simp; omega), w64 (by omega) (by omega)]
    simp only [cond_true]
    have ht : ks.take j ++ [ks[j]] = ks.take (j + 1) := by rw [List.take_succ_eq_append_getElem hjl]
    rw [ht]
    exact daL2 N l i C y0 k1 ks hks hC hi hl hkl hkk m n (j + 1) (by omega) (by omega)
theorem daL1 (N : Nat) (l : List VN) (y0 : List (List Int) × Bool) (hl : l.length ≤ 100) (hl1 : 1 ≤ l.length) (hN : 200 < N) (hy : ∀ j : Nat, j < l.length → y0.1.getD j default = partsV l j) (hyl : y0.1.length = l.length) :
    ∀ (m n i : Nat), i + m = l.length → m < n → datumOf.L1 N l y0 n (i : Int) ((nodesV l).take i ++ List.replicate m ⟨0, ByteArray.empty, []⟩) = some (some (treeV l 0), true)
  | 0, n, i, h, hn => by
    obtain ⟨n, rfl⟩ : ∃ n', n = n' + 1 := ⟨n - 1, by omega⟩
    rw [datumOf.L1]
    have hC : (nodesV l).take i ++ List.replicate 0 (⟨0, ByteArray.empty, []⟩ : VD) = nodesV l := by simp [List.take_of_length_le (show (nodesV l).length ≤ i by rw [nodesV_len]; omega)]
    simp only [List.length_map, show decide ((i : Int) < (l.length : Int)) = false by simp; omega, cond_false, hC, nodesV_ok, cond_true]
    rw [inR_t (by omega) (by rw [dtreesB_len, nodesV_len]; omega)]
    rfl
  | m + 1, n, i, h, hn => by
    obtain ⟨n, rfl⟩ : ∃ n', n = n' + 1 := ⟨n - 1, by omega⟩
    have hil : i < l.length := by omega
    have hpk : ∀ k ∈ partsV l i, 0 ≤ k ∧ k < l.length := fun k hk => by have := partsV_mem hk hil; omega
    have hpl : (partsV l i).length ≤ 1000 := by have := pf_len (upV l) i (l.length - (i + 1)) (i + 1); unfold partsV; omega
    have hCl : ((nodesV l).take i ++ List.replicate (m + 1) (⟨0, ByteArray.empty, []⟩ : VD)).length = l.length := by simp [nodesV_len]; omega
    rw [datumOf.L1]
    simp only [List.length_map, show decide ((i : Int) < (l.length : Int)) = true by simp; omega, cond_true, inR_t (show (0 : Int) ≤ i by omega) (show (i : Int) < l.length by omega)]
    rw [inR_t (by omega) (by rw [hCl]; omega), inR_t (by omega) (by omega)]
    simp only [cond_true]
    have hq := daL2 N l i ((nodesV l).take i ++ List.replicate (m + 1) ⟨0, ByteArray.empty, []⟩) y0 (datumOf.L1 N l y0 n) (partsV l i) (hy i hil) hCl hil (by omega) hpl hpk (partsV l i).length N 0 (by omega) (by have := pf_len (upV l) i (l.length - (i + 1)) (i + 1); unfold partsV; omega)
    rw [List.take_zero, show ((0 : Nat) : Int) = 0 from rfl] at hq
    rw [hq, fill_set (nodesV l) ⟨0, ByteArray.empty, []⟩ i m _ (by rw [nodesV_len]; omega) (nodesV_get l i hil)]
    exact daL1 N l y0 hl hl1 hN hy hyl m n (i + 1) (by omega) (by omega)
theorem daL0 (N : Nat) (l : List VN) (hl : l.length ≤ 100) : ∀ (m n i : Nat), i + m = l.length → m < n → datumOf.L0 N l n (i : Int) ((l.map VN.up).take i ++ List.replicate m 0) = datumOf.L0 N l 1 (l.length : Int) (l.map VN.up)
  | 0, n, i, h, hn => by
    obtain ⟨n, rfl⟩ : ∃ n', n = n' + 1 := ⟨n - 1, by omega⟩
    have : (l.map VN.up).take i ++ List.replicate 0 0 = l.map VN.up := by simp [List.take_of_length_le (show (l.map VN.up).length ≤ i by simp; omega)]
    rw [this, datumOf.L0, datumOf.L0]
    simp only [List.length_map, show decide ((i : Int) < (l.length : Int)) = false by simp; omega, show decide ((l.length : Int) < (l.length : Int)) = false by simp, cond_false]
  | m + 1, n, i, h, hn => by
    obtain ⟨n, rfl⟩ : ∃ n', n = n' + 1 := ⟨n - 1, by omega⟩
    rw [datumOf.L0]
    simp only [List.length_map, show decide ((i : Int) < (l.length : Int)) = true by simp; omega, cond_true, inR_t (show (0 : Int) ≤ i by omega) (show (i : Int) < l.length by omega)]
    rw [inR_t (by omega) (by simp; omega), w64 (by omega) (by omega)]
    simp only [cond_true, Int.toNat_natCast]
    rw [fill_set (l.map VN.up) 0 i m ((l.getD i default).up) (by simp; omega) (by simp [show i < l.length by omega])]
    exact daL0 N l hl m n (i + 1) (by omega) (by omega)
theorem datumOf_val (l : List VN) : ∃ K, ∀ N, K ≤ N → (GoodV l → datumOf.sem N l = some (some (treeV l 0), true)) ∧ (¬ GoodV l → datumOf.sem N l = some (none, false)) := by
  by_cases hl : 1 ≤ l.length ∧ l.length ≤ 100
  · obtain ⟨K, hK⟩ := kin_val (l.map VN.up) (by simp; omega)
    refine ⟨K + 300, fun N hN => ?_⟩
    have hq := hK N (by omega)
    have hfill := daL0 N l hl.2 l.length N 0 (by omega) (by omega)
    rw [List.take_zero, List.nil_append, show ((0 : Nat) : Int) = 0 from rfl] at hfill
    have hopen : datumOf.sem N l = datumOf.L0 N l 1 (l.length : Int) (l.map VN.up) := by
      rw [datumOf.sem]
      simp only [List.length_map, show decide ((l.length : Int) < 1) = false by simp; omega, show decide ((l.length : Int) > 100) = false by simp; omega, cond_false, okMk_t (show (0 : Int) ≤ (l.length : Int) by omega) (show (8 : Int) * (l.length : Int) ≤ 281474976710656 by omega), cond_true, Int.toNat_natCast]
      exact hfill
    rw [hopen, datumOf.L0]
    simp only [List.length_map, show decide ((l.length : Int) < (l.length : Int)) = false by simp, cond_false]
    rw [uL_upV, List.length_map] at hq
    by_cases hu : ∀ j : Nat, j < l.length → UpOk (upV l) j
    · rw [hq.1 hu]
      have hblw := UpOk.blw l.length (fun j h1 h2 => by obtain ⟨k, rfl⟩ : ∃ k : Nat, j = k := ⟨j.toNat, by omega⟩; exact hu k (by omega))
      simp only [Option.bind_some, Bool.not_true, cond_false, okMk_t (show (0 : Int) ≤ (l.length : Int) by omega) (show (48 : Int) * (l.length : Int) ≤ 281474976710656 by omega), cond_true, Int.toNat_natCast, List.length_replicate, show decide (0 < l.length) = true by simp; omega]
      have q1 := daL1 N l (kidsTo (upV l) l.length l.length, true) hl.2 hl.1 (by omega) (fun j hj => by
        show (kidsTo (upV l) l.length l.length).getD j default = _
        have := kidsTo_get (upV l) l.length l.length j hj
        rw [show (default : List Int) = [] from rfl, this]
        exact pf_all hblw j hj) (kidsTo_len _ _ _) l.length N 0 (by omega) (by omega)
      rw [List.take_zero, List.nil_append, show ((0 : Nat) : Int) = 0 from rfl] at q1
      exact ⟨fun _ => q1, fun h => absurd ⟨hl, hu⟩ h⟩
    · rw [hq.2 hu]
      exact ⟨fun h => absurd h.2 hu, fun _ => rfl⟩
  · refine ⟨0, fun N _ => ⟨fun h => absurd h.1 hl, fun _ => ?_⟩⟩
    rw [datumOf.sem]
    simp only [List.length_map]
    by_cases h1 : l.length < 1
    · simp only [show decide ((l.length : Int) < 1) = true by simp; omega, cond_true]
    · simp only [show decide ((l.length : Int) < 1) = false by simp; omega, show decide ((l.length : Int) > 100) = true by simp; omega, cond_true, cond_false]
theorem dtreeL0 (N : Nat) (l : List VN) (k : Nat) (self : List VN → Int → Option Dt) (hl : l.length ≤ 1000) (hk : k < l.length) (hs : ∀ y : Nat, k < y → y < l.length → self l (y : Int) = some (treeV l y)) : ∀ (m n i : Nat) (out : List Int), i + m = l.length → m < n → k < i → out.length ≤ i → l12Tree.L0 N l (k : Int) self n (i : Int) (out.map fun y => treeV l y.toNat) = some ⟨(l.getD k default).n, (l.getD k default).text, (out ++ pf (upV l) k m i).map fun y => treeV l y.toNat⟩
  | 0, n, i, out, h, hn, hi, ho => by
    obtain ⟨n, rfl⟩ : ∃ n', n = n' + 1 := ⟨n - 1, by omega⟩
    rw [l12Tree.L0]
    simp only [List.length_map, show decide ((i : Int) < (l.length : Int)) = false by simp; omega, cond_false, Int.toNat_natCast, pf, List.append_nil]
  | m + 1, n, i, out, h, hn, hi, ho => by
    obtain ⟨n, rfl⟩ : ∃ n', n = n' + 1 := ⟨n - 1, by omega⟩
    rw [l12Tree.L0]
    have hup : (l.getD i default).up = upV l i := by simp [upV]
    simp only [List.length_map, show decide ((i : Int) < (l.length : Int)) = true by simp; omega, cond_true, inR_t (show (0 : Int) ≤ i by omega) (show (i : Int) < l.length by omega), Int.toNat_natCast, hup]
    rw [w64 (by omega) (by omega), pf]
    by_cases he : upV l i = k
    · have he2 : (upV l i == (k : Int)) = true := by simpa using he
      rw [if_pos he]
      simp only [he2, cond_true, hs i hi (by omega), Option.bind_some]
      rw [okAp_t (by simp; omega)]
      simp only [cond_true]
      have := dtreeL0 N l k self hl hk hs m n (i + 1) (out ++ [(i : Int)]) (by omega) (by omega) (by omega) (by simp; omega)
      rw [List.map_append, List.append_assoc] at this
      exact this
    · have he2 : (upV l i == (k : Int)) = false := by simpa using he
      rw [if_neg he]
      simp only [he2, cond_false]
      exact dtreeL0 N l k self hl hk hs m n (i + 1) out (by omega) (by omega) (by omega) (by omega)
theorem dtree_val (l : List VN) (hl : l.length ≤ 100) : ∀ (m : Nat) (k N : Nat), k < l.length → l.length - k ≤ m → 200 + m ≤ N → l12Tree.sem N l (k : Int) = some (treeV l k)
  | 0, k, N, hk, hm, _ => by omega
  | m + 1, k, N, hk, hm, hN => by
    obtain ⟨N, rfl⟩ : ∃ n', N = n' + 1 := ⟨N - 1, by omega⟩
    rw [l12Tree.sem]
    simp only [inR_t (show (0 : Int) ≤ k by omega) (show (k : Int) < l.length by omega), cond_true]
    rw [w64 (by omega) (by omega)]
    have := dtreeL0 N l k (l12Tree.sem N) (by omega) hk (fun y h1 h2 => dtree_val l hl m y N h2 (by omega) (by omega)) (l.length - (k + 1)) N (k + 1) [] (by omega) (by omega) (by omega) (by simp)
    rw [List.map_nil, List.nil_append] at this
    rw [show ((k : Int) + 1) = ((k + 1 : Nat) : Int) from rfl, this, treeV_eq l k hk]
    rfl
end Go.Proofs.YtljdidlkiknknaaDoor.AB
namespace Go.Proofs.YtljdidlkiknknaaDoor.AB
open Go Go.RowKit Go.Proofs.YtljdidlkiknknaaDoorW.PrintWords Go.Proofs.YtljdidlkiknknaaDoorW.PrintMore
set_option linter.unusedSimpArgs false
set_option linter.unusedVariables false
inductive WT : Sh → Prop
  | mk {kind n : Int} {kids : List Sh} (hk : 1 ≤ kind ∧ kind ≤ 21) (hp : (shp kind).1 ≤ kids.length ∧ (kids.length : Int) ≤ (shp kind).2.1) (hn : (shp kind).2.2.1 ≤ n ∧ n ≤ (shp kind).2.2.2) (h : ∀ k ∈ kids, WT k) : WT ⟨kind, n, kids⟩
inductive VT : Dt → Prop
  | mk {n : Int} {text : ByteArray} {kids : List Dt} (hn : -9223372036854775808 ≤ n ∧ n < 9223372036854775808) (hl : kids.length ≤ 1000) (h : ∀ k ∈ kids, VT k) : VT ⟨n, text, kids⟩
def allF (f : Sh → Dt → Bool) : List Sh → List Dt → Bool
  | a :: la, b :: lb => f a b && allF f la lb
  | _, _ => true
theorem sFitsL0 (N : Nat) (t : Sh) (v : Dt) (self : Sh → Dt → Option Bool) (f : Sh → Dt → Bool) (ys : List Sh) (hy : ys.length = v.kids.length) (hl : ys.length ≤ 1000) (hs : ∀ (j : Nat) (a : Sh) (b : Dt), ys[j]? = some a → v.kids[j]? = some b → self a b = some (f a b)) :
    ∀ (m n j : Nat), j + m = ys.length → m < n → l12Fits.L0 N t v self n ys (ys.length : Int) (j : Int) = some (allF f (ys.drop j) (v.kids.drop j))
  | 0, n, j, h, hn => by
    obtain ⟨n, rfl⟩ : ∃ n', n = n' + 1 := ⟨n - 1, by omega⟩
    rw [l12Fits.L0]
    simp only [show decide ((j : Int) < (ys.length : Int)) = false by simp; omega, cond_false]
    rw [List.drop_eq_nil_of_le (by omega)]
    rfl
  | m + 1, n, j, h, hn => by
    obtain ⟨n, rfl⟩ : ∃ n', n = n' + 1 := ⟨n - 1, by omega⟩
    have hj : j < ys.length := by omega
    have hj2 : j < v.kids.length := by omega
    rw [l12Fits.L0]
    have hg : ys.getD j default = ys[j] := by simp [hj]
    have hg2 : v.kids.getD j default = v.kids[j] := by simp [hj2]
    simp only [show decide ((j : Int) < (ys.length : Int)) = true by simp; omega, cond_true, inR_t (show (0 : Int) ≤ j by omega) (show (j : Int) < ys.length by omega), inR_t (show (0 : Int) ≤ j by omega) (show (j : Int) < v.kids.length by omega), Int.toNat_natCast, hg, hg2, hs j ys[j] v.kids[j] (List.getElem?_eq_getElem hj) (List.getElem?_eq_getElem hj2), Option.bind_some]
    rw [w64 (by omega) (by omega), List.drop_eq_getElem_cons hj, List.drop_eq_getElem_cons hj2, allF]
    have ih := sFitsL0 N t v self f ys hy hl hs m n (j + 1) (by omega) (by omega)
    rw [show ((j : Int) + 1) = ((j + 1 : Nat) : Int) from rfl, ih]
    cases f ys[j] v.kids[j] <;> rfl
theorem iFitsL0 (N : Nat) (t : Sh) (d : Dt) (self : Sh → Dt → Option Bool) (f : Sh → Dt → Bool) (hy : t.kids.length = d.kids.length) (hl : t.kids.length ≤ 1000) (hs : ∀ (j : Nat) (a : Sh) (b : Dt), t.kids[j]? = some a → d.kids[j]? = some b → self a b = some (f a b)) :
    ∀ (m n j : Nat), j + m = t.kids.length → m < n → fits.L0 N t d self n (j : Int) = some (allF f (t.kids.drop j) (d.kids.drop j))
  | 0, n, j, h, hn => by
    obtain ⟨n, rfl⟩ : ∃ n', n = n' + 1 := ⟨n - 1, by omega⟩
    rw [fits.L0]
    simp only [List.length_map, show decide ((j : Int) < (d.kids.length : Int)) = false by simp; omega, cond_false]
    rw [List.drop_eq_nil_of_le (by omega)]
    rfl
  | m + 1, n, j, h, hn => by
    obtain ⟨n, rfl⟩ : ∃ n', n = n' + 1 := ⟨n - 1, by omega⟩
    have hj : j < t.kids.length := by omega
    have hj2 : j < d.kids.length := by omega
    rw [fits.L0]
    have hg : t.kids.getD j default = t.kids[j] := by simp [hj]
    have hg2 : d.kids.getD j default = d.kids[j] := by simp [hj2]
    simp only [List.length_map, show decide ((j : Int) < (d.kids.length : Int)) = true by simp; omega, cond_true, inR_t (show (0 : Int) ≤ j by omega) (show (j : Int) < t.kids.length by omega), inR_t (show (0 : Int) ≤ j by omega) (show (j : Int) < d.kids.length by omega), Int.toNat_natCast, hg, hg2, hs j t.kids[j] d.kids[j] (List.getElem?_eq_getElem hj) (List.getElem?_eq_getElem hj2), Option.bind_some]
    rw [w64 (by omega) (by omega), List.drop_eq_getElem_cons hj, List.drop_eq_getElem_cons hj2, allF]
    have ih := iFitsL0 N t d self f hy hl hs m n (j + 1) (by omega) (by omega)
    rw [show ((j : Int) + 1) = ((j + 1 : Nat) : Int) from rfl, ih]
    cases f t.kids[j] d.kids[j] <;> rfl
theorem iAnyL0 (N : Nat) (slf : Sh → Dt → Option Bool) (f : Sh → Dt → Bool) (l : List Dt) (t : Sh) (t0 : Sh) (h0 : t.kids[0]? = some t0) (hl : l.length ≤ 1000) (hs : ∀ b ∈ l, slf t0 b = some (f t0 b)) :
    ∀ (m n j : Nat), j + m = l.length → m < n → ∃ x : Int, fitsIndex.L0 N slf l t n (j : Int) = some x ∧ (!decide (x ≥ 0)) = (l.drop j).all (f t0)
  | 0, n, j, h, hn => by
    obtain ⟨n, rfl⟩ : ∃ n', n = n' + 1 := ⟨n - 1, by omega⟩
    refine ⟨-1, ?_, ?_⟩
    · rw [fitsIndex.L0]
      simp only [List.length_map, show decide ((j : Int) < (l.length : Int)) = false by simp; omega, cond_false]
    · rw [List.drop_eq_nil_of_le (by omega)]
      rfl
  | m + 1, n, j, h, hn => by
    obtain ⟨n, rfl⟩ : ∃ n', n = n' + 1 := ⟨n - 1, by omega⟩
    have hj : j < l.length := by omega
    have hg : l.getD j default = l[j] := by simp [hj]
    have ht0 : 0 < t.kids.length := (List.getElem?_eq_some_iff.mp h0).1
    have hgt : t.kids.getD 0 default = t0 := by rw [List.getD_eq_getElem?_getD, h0]; rfl
    rw [List.drop_eq_getElem_cons hj, List.all_cons]
    have hopen : fitsIndex.L0 N slf l t (n + 1) (j : Int) = bif !(f t0 l[j]) then some (j : Int) else fitsIndex.L0 N slf l t n ((j + 1 : Nat) : Int) := by
      rw [fitsIndex.L0, fitsFn.sem]
      simp only [List.length_map, show decide ((j : Int) < (l.length : Int)) = true by simp; omega, cond_true, inR_t (show (0 : Int) ≤ j by omega) (show (j : Int) < l.length by omega), inR_t (show (0 : Int) ≤ 0 by omega) (show (0 : Int) < t.kids.length by omega), Int.toNat_natCast, hg, show (0 : Int).toNat = 0 from rfl, hgt, hs l[j] (List.getElem_mem hj), Option.bind_some]
      rw [w64 (by omega) (by omega)]
      rfl
    rw [hopen]
    cases hf : f t0 l[j] with
    | false =>
      refine ⟨(j : Int), rfl, ?_⟩
      simp
    | true =>
      obtain ⟨x, h1, h2⟩ := iAnyL0 N slf f l t t0 h0 hl hs m n (j + 1) (by omega) (by omega)
      exact ⟨x, h1, by rw [h2]; rfl⟩
theorem sKidsL0 (N : Nat) (t : Sh) (v : Dt) (t0 : Sh) (h0 : t.kids[0]? = some t0) (hl : v.kids.length ≤ 1000) : ∀ (m n j : Nat), j + m = v.kids.length → m < n → l12Kids.L0 N t v n (j : Int) (List.replicate j t0) = some (List.replicate v.kids.length t0)
  | 0, n, j, h, hn => by
    obtain ⟨n, rfl⟩ : ∃ n', n = n' + 1 := ⟨n - 1, by omega⟩
    rw [l12Kids.L0]
    simp only [List.length_map, show decide ((j : Int) < (v.kids.length : Int)) = false by simp; omega, cond_false]
    rw [show j = v.kids.length by omega]
  | m + 1, n, j, h, hn => by
    obtain ⟨n, rfl⟩ : ∃ n', n = n' + 1 := ⟨n - 1, by omega⟩
    have ht0 : 0 < t.kids.length := (List.getElem?_eq_some_iff.mp h0).1
    have hgt : t.kids.getD 0 default = t0 := by rw [List.getD_eq_getElem?_getD, h0]; rfl
    rw [l12Kids.L0]
    simp only [List.length_map, show decide ((j : Int) < (v.kids.length : Int)) = true by simp; omega, cond_true, inR_t (show (0 : Int) ≤ 0 by omega) (show (0 : Int) < t.kids.length by omega), show (0 : Int).toNat = 0 from rfl, hgt]
    rw [okAp_t (by simp; omega), w64 (by omega) (by omega)]
    simp only [cond_true]
    rw [show List.replicate j t0 ++ [t0] = List.replicate (j + 1) t0 from (List.replicate_succ' ..).symm]
    exact sKidsL0 N t v t0 h0 hl m n (j + 1) (by omega) (by omega)
theorem allF_rep (f : Sh → Dt → Bool) (t0 : Sh) : ∀ l : List Dt, allF f (List.replicate l.length t0) l = l.all (f t0)
  | [] => rfl
  | b :: l => by rw [List.length_cons, List.replicate_succ, allF, List.all_cons, allF_rep f t0 l]
def TextEq : Prop := ∀ s : ByteArray, ∃ K, ∀ N, K ≤ N → ∃ b y, textOk.sem N s = some b ∧ l2Decode.sem N s 1 = some y ∧ b = (y.2 && decide ((s.size : Int) ≤ 200))
def CanonEq : Prop := ∀ (N : Nat) (n : Int), 0 ≤ n → n < 4294967296 → ∃ b c, canonical.sem N (IntKind.u32.wrap n) = some c ∧ l12Canon.sem N n = some b ∧ (c == IntKind.u32.wrap n) = b
theorem common {α : Type} (P : α → Nat → Prop) : ∀ (l : List α), (∀ x ∈ l, ∃ K, ∀ N, K ≤ N → P x N) → ∃ K, ∀ N, K ≤ N → ∀ x ∈ l, P x N
  | [], _ => ⟨0, fun N _ x hx => by simp at hx⟩
  | a :: l, h => by
    obtain ⟨K1, h1⟩ := h a (by simp)
    obtain ⟨K2, h2⟩ := common P l fun x hx => h x (by simp [hx])
    exact ⟨max K1 K2, fun N hN x hx => by
      rcases List.mem_cons.mp hx with rfl | hx
      · exact h1 N (by omega)
      · exact h2 N (by omega) x hx⟩
end Go.Proofs.YtljdidlkiknknaaDoor.AB
