/-
  Plain laws behind GoodWorld: when a world is good.
-/
import Derived.Test.YtdoflfifnkpacaaC19WoL2
namespace Go.Proofs.Ytdoflfifnkpacaa.WO
open Go.RowKit Go.Proofs.YtdoflfifnkpacaaW.PrintWords Go.Proofs.YtdoflfifnkpacaaW.PrintLast Go.Proofs.YtdoflfifnkpacaaW.PrintMore
set_option linter.unusedSimpArgs false
set_option linter.unusedVariables false
def bw (h : S75) : Bool := h.f0 && !h.f3
def spH (p : Int) : List S75 → Int → List (Int × Int)
  | [], _ => []
  | h :: l, q => if bw h = true then (p, q) :: spH p l (q + 1) else spH p l (q + 1)
def spT : List S78 → Int → List (Int × Int)
  | [], _ => []
  | t :: B, p => spH p t.f0 0 ++ spT B (p + 1)
theorem spH_len (p : Int) : ∀ (l : List S75) (q : Int), (spH p l q).length = l.countP (fun h => h.f0 && !h.f3)
  | [], _ => rfl
  | h :: l, q => by
    have ih := spH_len p l (q + 1)
    unfold spH
    rw [List.countP_cons]
    by_cases c : bw h = true
    · rw [if_pos c, List.length_cons, ih, if_pos (show (h.f0 && !h.f3) = true from c)]
    · rw [if_neg c, ih, if_neg (show ¬ (h.f0 && !h.f3) = true from c)]
      rfl
theorem spT_len : ∀ (B : List S78) (p : Int), (spT B p).length = bor B
  | [], _ => rfl
  | t :: B, p => by
    unfold spT
    rw [List.length_append, spH_len, spT_len B, bor_cons]
theorem spH_mem (p : Int) (x : Int × Int) : ∀ (l : List S75) (q : Int), x ∈ spH p l q ↔ x.1 = p ∧ ∃ j : Nat, j < l.length ∧ x.2 = q + j ∧ bw (rd_T75 l j) = true
  | [], q => by simp [spH]
  | h :: l, q => by
    have ih := spH_mem p x l (q + 1)
    have step : (x.1 = p ∧ ∃ j : Nat, j < (h :: l).length ∧ x.2 = q + j ∧ bw (rd_T75 (h :: l) j) = true) ↔ (x = (p, q) ∧ bw h = true) ∨ (x.1 = p ∧ ∃ j : Nat, j < l.length ∧ x.2 = q + 1 + j ∧ bw (rd_T75 l j) = true) := by
      constructor
      · rintro ⟨a, j, b, c, d⟩
        cases j with
        | zero => exact .inl ⟨Prod.ext a (by simpa using c), d⟩
        | succ j =>
          refine .inr ⟨a, j, by simpa using b, by omega, ?_⟩
          rwa [rdT_cons] at d
      · rintro (⟨rfl, b⟩ | ⟨a, j, b, c, d⟩)
        · exact ⟨rfl, 0, by simp, by simp, b⟩
        · exact ⟨a, j + 1, by simpa using b, by omega, by rw [rdT_cons]; exact d⟩
    rw [step]
    unfold spH
    by_cases c : bw h = true
    · rw [if_pos c, List.mem_cons, ih]
      simp [c]
    · rw [if_neg c, ih]
      simp [c]
theorem rdB_cons (a : S78) (B : List S78) (j : Nat) : rd_T78 (a :: B) ((j + 1 : Nat) : Int) = rd_T78 B j := by
  simp only [rd_T78, Int.toNat_natCast, List.getD_cons_succ]
theorem spT_mem (x : Int × Int) : ∀ (B : List S78) (p : Int), x ∈ spT B p ↔ ∃ i j : Nat, i < B.length ∧ j < (rd_T78 B i).f0.length ∧ x = (p + i, (j : Int)) ∧ bw (rd_T75 (rd_T78 B i).f0 j) = true
  | [], p => by simp [spT]
  | t :: B, p => by
    have ih := spT_mem x B (p + 1)
    unfold spT
    rw [List.mem_append, spH_mem, ih]
    constructor
    · rintro (⟨a, j, b, c, d⟩ | ⟨i, j, a, b, c, d⟩)
      · exact ⟨0, j, by simp, b, Prod.ext (by simpa using a) (by simpa using c), d⟩
      · refine ⟨i + 1, j, by simpa using a, by rw [rdB_cons]; exact b, ?_, by rw [rdB_cons]; exact d⟩
        rw [c]
        refine Prod.ext ?_ rfl
        simp only
        omega
    · rintro ⟨i, j, a, b, c, d⟩
      cases i with
      | zero => exact .inl ⟨by rw [c]; simp, j, b, by rw [c]; simp, d⟩
      | succ i =>
        rw [rdB_cons] at b d
        refine .inr ⟨i, j, by simpa using a, b, ?_, d⟩
        rw [c]
        refine Prod.ext ?_ rfl
        simp only
        omega
theorem spH_nodup (p : Int) : ∀ (l : List S75) (q : Int), (spH p l q).Nodup
  | [], _ => List.nodup_nil
  | h :: l, q => by
    have ih := spH_nodup p l (q + 1)
    unfold spH
    by_cases c : bw h = true
    · rw [if_pos c]
      refine List.nodup_cons.mpr ⟨fun m => ?_, ih⟩
      obtain ⟨-, j, -, e, -⟩ := (spH_mem p _ l (q + 1)).mp m
      simp only at e
      omega
    · rw [if_neg c]
      exact ih
theorem spT_nodup : ∀ (B : List S78) (p : Int), (spT B p).Nodup
  | [], _ => List.nodup_nil
  | t :: B, p => by
    unfold spT
    refine List.nodup_append.mpr ⟨spH_nodup p _ _, spT_nodup B _, fun a ha b hb e => ?_⟩
    obtain ⟨h1, -⟩ := (spH_mem p _ _ _).mp ha
    obtain ⟨i, j, -, -, h2, -⟩ := (spT_mem _ _ _).mp hb
    rw [e, h2] at h1
    simp only at h1
    omega
def spot2 (l : S155) : Int × Int := (l.f2, l.f3)
theorem loans_nodup (B : List S78) : ∀ (C : List S155) (i : Int), loansA B C i → (C.map spot2).Nodup
  | [], _, _ => List.nodup_nil
  | l :: C, i, h => by
    refine List.nodup_cons.mpr ⟨fun m => ?_, loans_nodup B C (i + 1) h.2⟩
    obtain ⟨l', m1, m2⟩ := List.mem_map.mp m
    obtain ⟨j, -, j2⟩ := loansA_mem B C (i + 1) h.2 l' m1
    have s1 := j2.2.2.2.2.2.2
    have s2 := h.1.2.2.2.2.2.2
    simp only [spot2, Prod.mk.injEq] at m2
    rw [m2.1, m2.2, s2] at s1
    omega
theorem slotV_used (B : List S78) (p q : Int) (h : (slotV B p q).f0 = true) : 0 ≤ p ∧ p < B.length ∧ 0 ≤ q ∧ q < (rd_T78 B p).f0.length ∧ slotV B p q = rd_T75 (rd_T78 B p).f0 q := by
  unfold slotV at h ⊢
  by_cases c : 0 ≤ p ∧ p < B.length ∧ 0 ≤ q ∧ q < (rd_T78 B p).f0.length
  · rw [if_pos c]
    exact ⟨c.1, c.2.1, c.2.2.1, c.2.2.2, rfl⟩
  · rw [if_neg c] at h
    exact absurd h (by simp [z75])
theorem slotV_nat (B : List S78) (i j : Nat) (h1 : i < B.length) (h2 : j < (rd_T78 B i).f0.length) : slotV B i j = rd_T75 (rd_T78 B i).f0 j := by
  unfold slotV
  rw [if_pos ⟨by omega, by omega, by omega, by omega⟩]
theorem loans_sub (B : List S78) (C : List S155) (h : loansA B C 0) : ∀ x ∈ C.map spot2, x ∈ spT B 0 := by
  intro x hx
  obtain ⟨l, m1, rfl⟩ := List.mem_map.mp hx
  obtain ⟨j, -, j2⟩ := loansA_mem B C 0 h l m1
  obtain ⟨a1, a2, a3, a4, a5⟩ := slotV_used B l.f2 l.f3 j2.2.1
  refine (spT_mem _ _ _).mpr ⟨l.f2.toNat, l.f3.toNat, by omega, ?_, ?_, ?_⟩
  · rw [show ((l.f2.toNat : Nat) : Int) = l.f2 by omega]
    omega
  · unfold spot2
    refine Prod.ext ?_ ?_ <;> simp only <;> omega
  · rw [show ((l.f2.toNat : Nat) : Int) = l.f2 by omega, show ((l.f3.toNat : Nat) : Int) = l.f3 by omega, ← a5]
    have h1 := j2.2.1
    have h2 := j2.2.2.2.1
    simp [bw, h1, h2]
theorem sub_rev {α : Type} [DecidableEq α] (A B : List α) (hA : A.Nodup) (hs : ∀ x ∈ A, x ∈ B) (hB : B.length ≤ A.length) : ∀ x ∈ B, x ∈ A := fun x hx => Classical.byContradiction fun c => by
  have := sub_len (x :: A) B (List.nodup_cons.mpr ⟨c, hA⟩) (fun y hy => by
    rcases List.mem_cons.mp hy with rfl | hy
    · exact hx
    · exact hs y hy)
  simp only [List.length_cons] at this
  omega
theorem rdH0 (h : S75) (l : List S75) : rd_T75 (h :: l) 0 = h := rfl
theorem rdB0 (t : S78) (B : List S78) : rd_T78 (t :: B) 0 = t := rfl
theorem allH_iff (P : Int → S75 → Prop) : ∀ (l : List S75) (q : Int), allH P l q ↔ ∀ j : Nat, j < l.length → P (q + j) (rd_T75 l j)
  | [], q => by simp [allH]
  | h :: l, q => by
    simp only [allH]
    rw [allH_iff P l (q + 1)]
    constructor
    · rintro ⟨a, b⟩ j hj
      cases j with
      | zero => simpa [rdH0] using a
      | succ j =>
        have := b j (by simpa using hj)
        rw [rdT_cons, show q + ((j + 1 : Nat) : Int) = q + 1 + j by omega]
        exact this
    · intro a
      refine ⟨by simpa [rdH0] using a 0 (by simp), fun j hj => ?_⟩
      have := a (j + 1) (by simpa using hj)
      rwa [rdT_cons, show q + ((j + 1 : Nat) : Int) = q + 1 + j by omega] at this
theorem allT_iff (P : Int → Int → S75 → Prop) : ∀ (B : List S78) (p : Int), allT P B p ↔ ∀ i : Nat, i < B.length → ∀ j : Nat, j < (rd_T78 B i).f0.length → P (p + i) j (rd_T75 (rd_T78 B i).f0 j)
  | [], p => by simp [allT]
  | t :: B, p => by
    simp only [allT]
    rw [allT_iff P B (p + 1), allH_iff]
    constructor
    · rintro ⟨a, b⟩ i hi j hj
      cases i with
      | zero => simpa [rdB0] using a j hj
      | succ i =>
        rw [rdB_cons] at hj ⊢
        have := b i (by simpa using hi) j hj
        rwa [show p + ((i + 1 : Nat) : Int) = p + 1 + i by omega]
    · intro a
      refine ⟨fun j hj => by simpa [rdB0] using a 0 (by simp) j hj, fun i hi j hj => ?_⟩
      have := a (i + 1) (by simpa using hi) j (by rw [rdB_cons]; exact hj)
      rwa [rdB_cons, show p + ((i + 1 : Nat) : Int) = p + 1 + i by omega] at this
theorem bor_le : ∀ (B : List S78), (∀ t ∈ B, t.f0.length ≤ 40) → bor B ≤ B.length * 40
  | [], _ => by simp [bor]
  | t :: B, h => by
    have ih := bor_le B (fun x hx => h x (by simp [hx]))
    have h0 := h t (by simp)
    have hc : t.f0.countP (fun h => h.f0 && !h.f3) ≤ t.f0.length := List.countP_le_length
    rw [bor_cons, List.length_cons]
    omega
theorem cnt_zero (B : List S78) (C : List S155) (h : loansA B C 0) (p q : Int) (ho : (slotV B p q).f3 = false) : cnt C p q = 0 := by
  unfold cnt
  rw [List.countP_eq_zero]
  intro l hl
  obtain ⟨j, -, j2⟩ := loansA_mem B C 0 h l hl
  simp only [Bool.and_eq_true, beq_iff_eq]
  rintro ⟨rfl, rfl⟩
  have := j2.2.2.1
  rw [ho] at this
  exact absurd this (by simp)
/-- Both say the same of loans. -/
theorem loans_iff (B : List S78) (C : List S155) : LS B C ↔ LI B C := by
  unfold LS LI
  constructor
  · rintro ⟨a, b, c⟩
    refine ⟨a, (allT_iff _ _ _).mpr fun i hi j hj hu => ?_⟩
    have b1 := (allT_iff _ _ _).mp b i hi j hj hu
    have sv := slotV_nat B i j hi hj
    by_cases ho : (rd_T75 (rd_T78 B i).f0 j).f3 = true
    · unfold ownC at b1
      rw [if_pos ho] at b1
      exact ⟨b1, .inl ho⟩
    · unfold ownC at b1
      rw [if_neg ho] at b1
      have ho' : (rd_T75 (rd_T78 B i).f0 j).f3 = false := by simpa using ho
      have z := cnt_zero B C a i j (by rw [sv]; exact ho')
      refine ⟨by rw [b1, Int.zero_add, z]; rfl, .inr ?_⟩
      have m : ((0 : Int) + i, (j : Int)) ∈ spT B 0 := (spT_mem _ _ _).mpr ⟨i, j, hi, hj, rfl, by simp [bw, hu, ho']⟩
      have := sub_rev _ _ (loans_nodup B C 0 a) (loans_sub B C a) (by rw [spT_len, c, List.length_map]; exact Nat.le_refl _) _ m
      obtain ⟨l, m1, m2⟩ := List.mem_map.mp this
      simp only [spot2, Prod.mk.injEq] at m2
      exact ⟨l, m1, m2.1, m2.2⟩
  · rintro ⟨a, b⟩
    refine ⟨a, (allT_iff _ _ _).mpr fun i hi j hj hu => ?_, ?_⟩
    · have b1 := (allT_iff _ _ _).mp b i hi j hj hu
      have sv := slotV_nat B i j hi hj
      by_cases ho : (rd_T75 (rd_T78 B i).f0 j).f3 = true
      · unfold ownC
        rw [if_pos ho]
        exact b1.1
      · unfold ownC
        rw [if_neg ho]
        have ho' : (rd_T75 (rd_T78 B i).f0 j).f3 = false := by simpa using ho
        have z := cnt_zero B C a i j (by rw [sv]; exact ho')
        rw [b1.1, Int.zero_add, z]
        rfl
    · have h1 := sub_len _ _ (loans_nodup B C 0 a) (loans_sub B C a)
      have h2 := sub_len _ (C.map spot2) (spT_nodup B 0) (fun x hx => by
        obtain ⟨i, j, c1, c2, c3, c4⟩ := (spT_mem _ _ _).mp hx
        simp only [bw, Bool.and_eq_true, Bool.not_eq_true'] at c4
        have b1 := (allT_iff _ _ _).mp b i c1 j c2 c4.1
        rcases b1.2 with h | ⟨l, l1, l2, l3⟩
        · rw [c4.2] at h
          exact absurd h (by simp)
        · exact List.mem_map.mpr ⟨l, l1, by rw [c3]; exact Prod.ext l2 l3⟩)
      rw [spT_len, List.length_map] at h1 h2
      omega
theorem loans_few (B : List S78) (C : List S155) (hB : B.length ≤ 5) (hS : ∀ t ∈ B, t.f0.length ≤ 40) (h : LS B C) : C.length ≤ 200 := by
  have := bor_le B hS
  have := h.2.2
  omega
end Go.Proofs.Ytdoflfifnkpacaa.WO
