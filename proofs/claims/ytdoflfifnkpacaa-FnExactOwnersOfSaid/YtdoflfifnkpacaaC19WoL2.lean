/-
  Plain laws behind GoodWorld: when a world is good.
-/
import Derived.Test.YtdoflfifnkpacaaC19WoL1
import Derived.Test.YtdoflfifnkpacaaC19WOx10
namespace Go.Proofs.Ytdoflfifnkpacaa.WO
open Go.RowKit Go.Proofs.YtdoflfifnkpacaaW.PrintWords Go.Proofs.YtdoflfifnkpacaaW.PrintLast Go.Proofs.YtdoflfifnkpacaaW.PrintMore
set_option linter.unusedSimpArgs false
set_option linter.unusedVariables false
theorem fi_shift {β : Type} (k : Int × Int) : ∀ (l : List ((Int × Int) × β)) (i j : Nat), (fi k i l).map (·.2) = (fi k j l).map (·.2)
  | [], _, _ => rfl
  | e :: l, i, j => by
    unfold fi
    by_cases c : (k.1 == e.1.1 && k.2 == e.1.2) = true
    · rw [if_pos c, if_pos c]
      rfl
    · rw [if_neg c, if_neg c]
      exact fi_shift k l _ _
theorem lk_nil' {β : Type} (k : Int × Int) (d : β) : lk k d [] = d := rfl
theorem lk_cons' {β : Type} (k : Int × Int) (d : β) (e : (Int × Int) × β) (l : List ((Int × Int) × β)) : lk k d (e :: l) = if k = e.1 then e.2 else lk k d l := by
  have hc : (k.1 == e.1.1 && k.2 == e.1.2) = true ↔ k = e.1 := by
    simp only [Bool.and_eq_true, beq_iff_eq]
    exact ⟨fun x => Prod.ext x.1 x.2, fun x => by rw [x]; exact ⟨rfl, rfl⟩⟩
  unfold lk
  conv => lhs; unfold fi
  by_cases c : k = e.1
  · rw [if_pos (hc.mpr c), if_pos c]
    rfl
  · rw [if_neg (fun x => c (hc.mp x)), if_neg c, fi_shift k l _ 0]
theorem lk_ins' {β : Type} (k : Int × Int) (x : β) (k' : Int × Int) (d : β) : ∀ l : List ((Int × Int) × β), lk k' d (ins k x l) = if k' = k then x else lk k' d l
  | [] => by
    unfold ins
    rw [lk_cons']
  | e :: l => by
    have hc : (k.1 == e.1.1 && k.2 == e.1.2) = true ↔ k = e.1 := by
      simp only [Bool.and_eq_true, beq_iff_eq]
      exact ⟨fun x => Prod.ext x.1 x.2, fun x => by rw [x]; exact ⟨rfl, rfl⟩⟩
    unfold ins
    by_cases c : k = e.1
    · rw [if_pos (hc.mpr c), lk_cons', lk_cons', ← c]
      by_cases g : k' = k
      · rw [if_pos g, if_pos g]
      · rw [if_neg g, if_neg g, if_neg g]
    · rw [if_neg (fun x => c (hc.mp x)), lk_cons', lk_cons', lk_ins' k x k' d l]
      by_cases g : k' = k
      · rw [if_pos g, if_pos g, if_neg (fun z => c (g.symm.trans z))]
      · rw [if_neg g, if_neg g]
theorem im_slot (T : List S67) (B : List S78) (C : List S155) (E : List Int) (p q : Int) : impl_World_slot.f T B C E p q = some ((slotV B p q).f0, (slotV B p q).f1, (slotV B p q).f2, (slotV B p q).f3, (slotV B p q).f4, (slotV B p q).f5, (slotV B p q).f0) := by
  unfold impl_World_slot.f slotV
  by_cases h1 : p < 0
  · rw [if_pos h1, if_neg (by omega)]
    rfl
  rw [if_neg h1]
  by_cases h2 : p ≥ (B.length : Int)
  · rw [if_pos h2, if_neg (by omega)]
    rfl
  rw [if_neg h2]
  by_cases h3 : q < 0
  · rw [if_pos h3, if_neg (by omega)]
    rfl
  rw [if_neg h3, if_pos (by omega), if_pos (by omega)]
  by_cases h4 : q ≥ ((rd_T78 B p).f0.length : Int)
  · rw [if_pos h4, if_neg (by omega)]
    rfl
  rw [if_neg h4, if_pos (by omega), if_pos (by omega), if_pos ⟨by omega, by omega, by omega, by omega⟩]
def lendI (L : List ((Int × Int) × Int)) (Bm : List ((Int × Int) × Bool)) (p q : Int) (h : S75) : Prop := h.f0 = true → h.f4 = lk (p, q) 0 L ∧ (h.f3 = true ∨ lk (p, q) false Bm = true)
theorem im_H (p : Int) (L : List ((Int × Int) × Int)) (Bm : List ((Int × Int) × Bool)) (K : Bool) : ∀ (l : List S75) (q : Int), loanH p L Bm K l q = true ↔ allH (lendI L Bm p) l q ∧ K = true
  | [], q => by simp [loanH, allH]
  | h :: l, q => by
    have ih := im_H p L Bm K l (q + 1)
    simp only [loanH, allH]
    rw [show lendI L Bm p q h ↔ (h.f0 = true → h.f4 = lk (p, q) 0 L ∧ (h.f3 = true ∨ lk (p, q) false Bm = true)) from Iff.rfl]
    by_cases c0 : h.f0 = true
    · rw [if_pos c0]
      by_cases c1 : (h.f4 != lk (p, q) 0 L) = true
      · rw [if_pos c1]
        simp only [bne_iff_ne, ne_eq] at c1
        simp [c0, c1]
      · rw [if_neg c1]
        have c1' : h.f4 = lk (p, q) 0 L := by simpa using c1
        by_cases c2 : h.f3 = true
        · rw [if_pos c2, ih]
          simp [c1', c2, lendI]
        · rw [if_neg c2]
          by_cases c3 : lk (p, q) false Bm = true
          · rw [if_pos c3, ih]
            simp [c1', c3, lendI]
          · rw [if_neg c3]
            simp [c0, c2, c3]
    · rw [if_neg c0, ih]
      simp [c0, lendI]
theorem im_T (L : List ((Int × Int) × Int)) (Bm : List ((Int × Int) × Bool)) : ∀ (B : List S78) (p : Int), loanT L Bm B p = true ↔ allT (lendI L Bm) B p
  | [], p => by simp [loanT, allT]
  | t :: B, p => by
    simp only [loanT, allT]
    rw [im_H, im_T L Bm B (p + 1)]
theorem loansA_app (B : List S78) : ∀ (C D : List S155) (i : Int), loansA B (C ++ D) i ↔ loansA B C i ∧ loansA B D (i + C.length)
  | [], D, i => by simp [loansA]
  | l :: C, D, i => by
    simp only [List.cons_append, loansA, List.length_cons]
    rw [loansA_app B C D (i + 1), show i + 1 + (C.length : Int) = i + ((C.length + 1 : Nat) : Int) by omega, and_assoc]
theorem loansA_mem (B : List S78) : ∀ (C : List S155) (i : Int), loansA B C i → ∀ l ∈ C, ∃ j : Nat, j < C.length ∧ loanOk B (i + j) l
  | [], _, _, _, h => by simp at h
  | a :: C, i, h, l, hl => by
    rcases List.mem_cons.mp hl with rfl | hl
    · exact ⟨0, by simp, by simpa using h.1⟩
    · obtain ⟨j, h1, h2⟩ := loansA_mem B C (i + 1) h.2 l hl
      exact ⟨j + 1, by simp; omega, by rw [show i + ((j + 1 : Nat) : Int) = i + 1 + j by omega]; exact h2⟩
def lendC (C : List S155) (p q : Int) (h : S75) : Prop := h.f0 = true → h.f4 = (cnt C p q : Int) ∧ (h.f3 = true ∨ ∃ l ∈ C, l.f2 = p ∧ l.f3 = q)
theorem allH_congr {P Q : Int → S75 → Prop} (e : ∀ q h, P q h ↔ Q q h) : ∀ (l : List S75) (q : Int), allH P l q ↔ allH Q l q
  | [], _ => Iff.rfl
  | h :: l, q => by simp only [allH]; rw [e, allH_congr e l]
theorem allT_congr {P Q : Int → Int → S75 → Prop} (e : ∀ p q h, P p q h ↔ Q p q h) : ∀ (B : List S78) (p : Int), allT P B p ↔ allT Q B p
  | [], _ => Iff.rfl
  | t :: B, p => by simp only [allT]; rw [allH_congr (e p), allT_congr e B]
theorem cnt_snoc (C : List S155) (l : S155) (p q : Int) : cnt (C ++ [l]) p q = cnt C p q + if (p, q) = (l.f0, l.f1) then 1 else 0 := by
  unfold cnt
  rw [List.countP_append, List.countP_cons, List.countP_nil]
  by_cases h1 : l.f0 = p <;> by_cases h2 : l.f1 = q <;> simp [h1, h2] <;> first | done | (intro; omega) | omega | skip
  all_goals (first | done | (rw [if_neg (fun x => h1 x.1.symm)]) | (rw [if_neg (fun x => h2 x.2.symm)]) | (intro e; exact absurd e.symm ‹_›))
theorem im_C (T : List S67) (B : List S78) (C : List S155) (E : List Int) (hC : C.length ≤ 1048576) : ∀ (suf pre : List S155) (L : List ((Int × Int) × Int)) (Bm : List ((Int × Int) × Bool)), C = pre ++ suf → loansA B pre 0 →
    (∀ p q, lk (p, q) 0 L = (cnt pre p q : Int)) → (∀ p q, lk (p, q) false Bm = true ↔ ∃ l ∈ pre, l.f2 = p ∧ l.f3 = q) →
    ∃ b, loanC T B C E suf (pre.length : Int) L Bm = some b ∧ (b = true ↔ loansA B suf (pre.length : Int) ∧ allT (lendC C) B 0)
  | [], pre, L, Bm, e, hp, hL, hB => by
    refine ⟨loanT L Bm B 0, rfl, ?_⟩
    rw [im_T]
    simp only [loansA, true_and]
    simp only [List.append_nil] at e
    refine allT_congr (fun p q h => ?_) B 0
    unfold lendI lendC
    rw [hL, hB, e]
  | l :: suf, pre, L, Bm, e, hp, hL, hB => by
    have e' : C = (pre ++ [l]) ++ suf := by simp [e]
    have hlen : pre.length < C.length := by rw [e]; simp
    have hq : ((pre.length : Int) + 1) = ((pre ++ [l]).length : Int) := by simp
    simp only [loanC, im_slot, Option.bind_some, loansA]
    have no : ∀ {c : Prop} [Decidable c] {g : Option Bool} (hc : c) (hn : ¬ loanOk B (pre.length : Int) l), ∃ b, (if c then some false else g) = some b ∧ (b = true ↔ (loanOk B (pre.length : Int) l ∧ loansA B suf ((pre.length : Int) + 1)) ∧ allT (lendC C) B 0) := by
      intro c _ g hc hn
      exact ⟨false, by rw [if_pos hc], by simp [hn]⟩
    have no' : ∀ {c : Prop} [Decidable c] {g : Option Bool} (hc : ¬ c) (hn : ¬ loanOk B (pre.length : Int) l), ∃ b, (if c then g else some false) = some b ∧ (b = true ↔ (loanOk B (pre.length : Int) l ∧ loansA B suf ((pre.length : Int) + 1)) ∧ allT (lendC C) B 0) := by
      intro c _ g hc hn
      exact ⟨false, by rw [if_neg hc], by simp [hn]⟩
    by_cases a1 : (slotV B l.f0 l.f1).f0 = true
    case neg => exact no' a1 (fun z => a1 z.1)
    rw [if_pos a1]
    by_cases a2 : (slotV B l.f2 l.f3).f0 = true
    case neg => exact no' a2 (fun z => a2 z.2.1)
    rw [if_pos a2]
    by_cases a3 : (slotV B l.f0 l.f1).f3 = true
    case neg => exact no' a3 (fun z => a3 z.2.2.1)
    rw [if_pos a3]
    by_cases a4 : (slotV B l.f2 l.f3).f3 = true
    · refine no a4 (fun z => ?_)
      have := z.2.2.2.1
      rw [a4] at this
      exact absurd this (by simp)
    rw [if_neg a4]
    by_cases ad : lk (l.f2, l.f3) false Bm = true
    · refine no ad (fun z => ?_)
      obtain ⟨l', m1, m2, m3⟩ := (hB l.f2 l.f3).mp ad
      obtain ⟨j, j1, j2⟩ := loansA_mem B pre 0 hp l' m1
      have s1 := j2.2.2.2.2.2.2
      have s2 := z.2.2.2.2.2.2
      rw [m2, m3, s2] at s1
      omega
    rw [if_neg ad]
    by_cases a5 : ((slotV B l.f0 l.f1).f1 != (slotV B l.f2 l.f3).f1) = true
    · exact no a5 (fun z => by simp [z.2.2.2.2.1] at a5)
    rw [if_neg a5]
    by_cases a6 : ((slotV B l.f0 l.f1).f2 != (slotV B l.f2 l.f3).f2) = true
    · exact no a6 (fun z => by simp [z.2.2.2.2.2.1] at a6)
    rw [if_neg a6]
    by_cases a7 : ((slotV B l.f2 l.f3).f5 != (pre.length : Int) + 1) = true
    · exact no a7 (fun z => by simp [z.2.2.2.2.2.2] at a7)
    rw [if_neg a7]
    have ok : loanOk B (pre.length : Int) l := ⟨a1, a2, a3, by simpa using a4, by simpa using a5, by simpa using a6, by simpa using a7⟩
    have hcl := cnt_le pre l.f0 l.f1
    obtain ⟨b, h1, h2⟩ := im_C T B C E hC suf (pre ++ [l]) (ins (l.f0, l.f1) (wrap64 (lk (l.f0, l.f1) 0 L + 1)) L) (ins (l.f2, l.f3) true Bm) e' ((loansA_app B pre [l] 0).mpr ⟨hp, by rw [Int.zero_add]; exact ⟨ok, trivial⟩⟩)
      (fun p q => by
        rw [lk_ins', hL, cnt_snoc, wrap_in (by omega) (by omega)]
        by_cases c : (p, q) = (l.f0, l.f1)
        · rw [if_pos c, if_pos c]
          simp only [Prod.mk.injEq] at c
          rw [c.1, c.2]
          omega
        · rw [if_neg c, if_neg c, hL]
          omega)
      (fun p q => by
        rw [lk_ins']
        by_cases c : (p, q) = (l.f2, l.f3)
        · rw [if_pos c]
          simp only [Prod.mk.injEq] at c
          simp only [true_iff]
          exact ⟨l, by simp, c.1.symm, c.2.symm⟩
        · rw [if_neg c, hB]
          constructor
          · rintro ⟨x, x1, x2⟩
            exact ⟨x, by simp [x1], x2⟩
          · rintro ⟨x, x1, x2, x3⟩
            rcases List.mem_append.mp x1 with x1 | x1
            · exact ⟨x, x1, x2, x3⟩
            · simp only [List.mem_singleton] at x1
              subst x1
              exact absurd (by rw [x2, x3]) c)
    refine ⟨b, by rw [hq]; exact h1, h2.trans ?_⟩
    rw [← hq]
    simp [ok]
/-- What the program says of loans. -/
def LI (B : List S78) (C : List S155) : Prop := loansA B C 0 ∧ allT (lendC C) B 0
theorem impl_loans (T : List S67) (B : List S78) (C : List S155) (E : List Int) (hC : C.length ≤ 1048576) : ∃ b, impl_World_loansOk.f T B C E = some b ∧ (b = true ↔ LI B C) :=
  im_C T B C E hC C [] [] [] rfl trivial (fun p q => by simp [lk_nil', cnt]) (fun p q => by simp [lk_nil'])
end Go.Proofs.Ytdoflfifnkpacaa.WO
