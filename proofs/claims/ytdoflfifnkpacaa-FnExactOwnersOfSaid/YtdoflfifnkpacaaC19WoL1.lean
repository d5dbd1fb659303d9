/-
  Plain laws behind GoodWorld: when a world is good.
-/
import Derived.Test.YtdoflfifnkpacaaC19WoEv
import Derived.Test.YtdoflfifnkpacaaC19WOx5
import Derived.Test.YtdoflfifnkpacaaC19WOx9
namespace Go.Proofs.Ytdoflfifnkpacaa.WO
open Go.RowKit Go.Proofs.YtdoflfifnkpacaaW.PrintWords Go.Proofs.YtdoflfifnkpacaaW.PrintLast Go.Proofs.YtdoflfifnkpacaaW.PrintMore
set_option linter.unusedSimpArgs false
set_option linter.unusedVariables false
theorem EvB.ite {c : Prop} [Decidable c] {g : Nat → Option Bool} {P : Prop} (h1 : c → EvB g P) (h2 : ¬ c → ¬ P) : EvB (fun k => if c then g k else some false) P := by
  by_cases h : c
  · refine EvB.eq (fun k => ?_) (h1 h)
    rw [if_pos h]
  · refine EvB.eq (g := fun _ => some false) (fun k => ?_) (EvB.no (h2 h))
    rw [if_neg h]
theorem EvB.iteN {c : Prop} [Decidable c] {g : Nat → Option Bool} {P : Prop} (h1 : c → ¬ P) (h2 : ¬ c → EvB g P) : EvB (fun k => if c then some false else g k) P := by
  by_cases h : c
  · refine EvB.eq (g := fun _ => some false) (fun k => ?_) (EvB.no (h1 h))
    rw [if_pos h]
  · refine EvB.eq (fun k => ?_) (h2 h)
    rw [if_neg h]
theorem rdL {pre suf : List S155} {h : S155} : rd_T155 (pre ++ h :: suf) (pre.length : Int) = h := by
  simp [rd_T155]
theorem rdB {pre suf : List S78} {h : S78} : rd_T78 (pre ++ h :: suf) (pre.length : Int) = h := by
  simp [rd_T78]
theorem rdH {pre suf : List S75} {h : S75} : rd_T75 (pre ++ h :: suf) (pre.length : Int) = h := by
  simp [rd_T75]
def slotV (B : List S78) (p q : Int) : S75 := if 0 ≤ p ∧ p < B.length ∧ 0 ≤ q ∧ q < (rd_T78 B p).f0.length then rd_T75 (rd_T78 B p).f0 q else z75
def loanOk (B : List S78) (i : Int) (l : S155) : Prop := (slotV B l.f0 l.f1).f0 = true ∧ (slotV B l.f2 l.f3).f0 = true ∧ (slotV B l.f0 l.f1).f3 = true ∧ (slotV B l.f2 l.f3).f3 = false ∧ (slotV B l.f0 l.f1).f1 = (slotV B l.f2 l.f3).f1 ∧ (slotV B l.f0 l.f1).f2 = (slotV B l.f2 l.f3).f2 ∧ (slotV B l.f2 l.f3).f5 = i + 1
def loansA (B : List S78) : List S155 → Int → Prop
  | [], _ => True
  | l :: C, i => loanOk B i l ∧ loansA B C (i + 1)
def allH (P : Int → S75 → Prop) : List S75 → Int → Prop
  | [], _ => True
  | h :: l, q => P q h ∧ allH P l (q + 1)
def allT (P : Int → Int → S75 → Prop) : List S78 → Int → Prop
  | [], _ => True
  | t :: B, p => allH (P p) t.f0 0 ∧ allT P B (p + 1)
def cnt (C : List S155) (p q : Int) : Nat := C.countP (fun l => l.f0 == p && l.f1 == q)
def bor (B : List S78) : Nat := (B.map fun t => t.f0.countP (fun h => h.f0 && !h.f3)).sum
def ownC (h : S75) (C : List S155) (p q : Int) : Int := if h.f3 = true then (cnt C p q : Int) else 0
def lendS (C : List S155) (p q : Int) (h : S75) : Prop := h.f0 = true → h.f4 = ownC h C p q
theorem cnt_cons (l : S155) (C : List S155) (p q : Int) : cnt (l :: C) p q = cnt C p q + if l.f0 = p ∧ l.f1 = q then 1 else 0 := by
  unfold cnt
  rw [List.countP_cons]
  by_cases h1 : l.f0 = p <;> by_cases h2 : l.f1 = q <;> simp [h1, h2]
theorem ownC_nil (h : S75) (p q : Int) : ownC h [] p q = 0 := by
  unfold ownC cnt
  simp
theorem ownC_cons (h : S75) (l : S155) (C : List S155) (p q : Int) : ownC h (l :: C) p q = ownC h C p q + if h.f3 = true ∧ l.f0 = p ∧ l.f1 = q then 1 else 0 := by
  unfold ownC
  rw [cnt_cons]
  by_cases ho : h.f3 = true <;> by_cases h1 : l.f0 = p <;> by_cases h2 : l.f1 = q <;> simp [ho, h1, h2]
theorem cnt_le (C : List S155) (p q : Int) : cnt C p q ≤ C.length := List.countP_le_length
theorem lo_l3 (T : List S67) (B : List S78) (C : List S155) (E : List Int) (hC : C.length ≤ 140737488351232) (b p q : Int) (X : List S78) (xl xp : Int) (H : List S75) (hl hq : Int) (h : S75) (P : Prop) :
    ∀ (suf pre : List S155) (n : Nat), C = pre ++ suf → n ≤ pre.length →
    (h.f4 = (n : Int) + ownC h suf p q → EvB (fun k => spec_l16Loans.l2 k (if h.f3 = true then b else wrap64 (b + 1)) p X xl xp H hl (wrap64 (hq + 1)) T B C E) P) →
    (h.f4 ≠ (n : Int) + ownC h suf p q → ¬ P) →
    EvB (fun k => spec_l16Loans.l3 k b p q (n : Int) X xl xp H hl hq C (C.length : Int) (pre.length : Int) T B C E h.f0 h.f1 h.f2 h.f3 h.f4 h.f5) P
  | [], pre, n, e, hn, h1, h2 => by
    rw [ownC_nil, Int.add_zero] at h1 h2
    by_cases ho : h.f3 = true
    · rw [if_pos ho] at h1
      refine EvB.step (fun k => ?_) (EvB.ite (c := h.f4 = (n : Int)) h1 h2)
      simp only [spec_l16Loans.l3]
      rw [if_neg (by rw [e]; simp), if_pos ho]
    · rw [if_neg ho] at h1
      refine EvB.step (fun k => ?_) (EvB.ite (c := h.f4 = (n : Int)) h1 h2)
      simp only [spec_l16Loans.l3]
      rw [if_neg (by rw [e]; simp), if_neg ho]
  | l :: suf, pre, n, e, hn, h1, h2 => by
    have hlen : pre.length < C.length := by rw [e]; simp
    have hrd : rd_T155 C (pre.length : Int) = l := by rw [e]; exact rdL
    have hw : wrap64 ((pre.length : Int) + 1) = ((pre ++ [l]).length : Int) := by rw [wrap_in (by omega) (by omega)]; simp
    have hn1 : wrap64 ((n : Int) + 1) = ((n + 1 : Nat) : Int) := by rw [wrap_in (by omega) (by omega)]; simp
    have e' : C = (pre ++ [l]) ++ suf := by simp [e]
    rw [ownC_cons] at h1 h2
    by_cases c : h.f3 = true ∧ l.f0 = p ∧ l.f1 = q
    · rw [if_pos c] at h1 h2
      have ih := lo_l3 T B C E hC b p q X xl xp H hl hq h P suf (pre ++ [l]) (n + 1) e' (by simp; omega) (fun x => h1 (by omega)) (fun x => h2 (by omega))
      refine EvB.step (fun k => ?_) ih
      simp only [spec_l16Loans.l3]
      rw [if_pos (by omega), if_pos (by omega), if_pos (by omega), if_pos c.1, hrd, if_pos c.2.1, if_pos c.2.2, hw, hn1]
    · rw [if_neg c, Int.add_zero] at h1 h2
      refine EvB.step (fun k => ?_) (lo_l3 T B C E hC b p q X xl xp H hl hq h P suf (pre ++ [l]) n e' (by simp; omega) h1 h2)
      simp only [spec_l16Loans.l3]
      rw [if_pos (by omega), if_pos (by omega), if_pos (by omega), hrd, hw]
      by_cases ho : h.f3 = true
      · rw [if_pos ho]
        by_cases c1 : l.f0 = p
        · rw [if_pos c1, if_neg (fun c2 => c ⟨ho, c1, c2⟩)]
        · rw [if_neg c1]
      · rw [if_neg ho]
theorem lo_l2 (T : List S67) (B : List S78) (C : List S155) (E : List Int) (hC : C.length ≤ 140737488351232) (p : Int) (X : List S78) (xl xp : Int) (H : List S75) (hH : H.length ≤ 140737488351232) (Q : Nat → Prop) :
    ∀ (suf pre : List S75) (b : Nat), H = pre ++ suf → b + suf.length ≤ 9223372036854775806 →
    EvB (fun k => spec_l16Loans.l1 k ((b + suf.countP (fun h => h.f0 && !h.f3) : Nat) : Int) X xl (wrap64 (xp + 1)) T B C E) (Q (b + suf.countP (fun h => h.f0 && !h.f3))) →
    EvB (fun k => spec_l16Loans.l2 k (b : Int) p X xl xp H (H.length : Int) (pre.length : Int) T B C E) (allH (lendS C p) suf (pre.length : Int) ∧ Q (b + suf.countP (fun h => h.f0 && !h.f3)))
  | [], pre, b, e, hb, h1 => by
    refine EvB.step (fun k => ?_) (h1.iff ?_)
    · simp only [spec_l16Loans.l2, List.countP_nil, Nat.add_zero]
      rw [if_neg (by rw [e]; simp)]
    · simp [allH]
  | h :: suf, pre, b, e, hb, h1 => by
    have hlen : pre.length < H.length := by rw [e]; simp
    have hrd : rd_T75 H (pre.length : Int) = h := by rw [e]; exact rdH
    have hw : wrap64 ((pre.length : Int) + 1) = ((pre ++ [h]).length : Int) := by rw [wrap_in (by omega) (by omega)]; simp
    have e' : H = (pre ++ [h]) ++ suf := by simp [e]
    have hp : ((pre.length : Int) + 1) = ((pre ++ [h]).length : Int) := by simp
    simp only [List.length_cons] at hb
    have hb1 : wrap64 ((b : Int) + 1) = ((b + 1 : Nat) : Int) := by rw [wrap_in (by omega) (by omega)]; simp
    simp only [allH]
    rw [hp]
    rw [List.countP_cons] at h1 ⊢
    by_cases hu : h.f0 = true
    · have hl0 : lendS C p (pre.length : Int) h ↔ h.f4 = ((0 : Nat) : Int) + ownC h C p (pre.length : Int) := by
        unfold lendS
        simp [hu]
      refine EvB.step (fun k => ?_) (lo_l3 T B C E hC b p (pre.length : Int) X xl xp H (H.length : Int) (pre.length : Int) h _ C [] 0 rfl (Nat.zero_le _) (fun x => ?_) (fun x y => x (hl0.mp y.1.1)))
      · simp only [spec_l16Loans.l2]
        rw [if_pos (by omega), if_pos (by omega), if_pos (by omega), hrd, if_pos hu]
        simp
      · rw [hw]
        by_cases ho : h.f3 = true
        · simp only [hu, ho, Bool.not_true, Bool.and_false, Bool.false_eq_true, if_false, Nat.add_zero] at h1 ⊢
          refine (lo_l2 T B C E hC p X xl xp H hH Q suf (pre ++ [h]) b e' (by omega) h1).iff ?_
          have := hl0.mpr x
          simp [this]
        · simp only [ho, if_false] at h1 ⊢
          have ho' : h.f3 = false := by simpa using ho
          simp only [hu, ho', Bool.not_false, Bool.and_self, Bool.false_eq_true, if_false, if_true] at h1 ⊢
          rw [hb1]
          rw [show b + (suf.countP (fun h => h.f0 && !h.f3) + 1) = (b + 1) + suf.countP (fun h => h.f0 && !h.f3) by omega] at h1 ⊢
          refine (lo_l2 T B C E hC p X xl xp H hH Q suf (pre ++ [h]) (b + 1) e' (by omega) h1).iff ?_
          have := hl0.mpr x
          simp [this]
    · have hu' : h.f0 = false := by simpa using hu
      simp only [hu', Bool.false_and, Bool.false_eq_true, if_false, Nat.add_zero] at h1 ⊢
      refine EvB.step (fun k => ?_) ((lo_l2 T B C E hC p X xl xp H hH Q suf (pre ++ [h]) b e' (by omega) h1).iff ?_)
      · simp only [spec_l16Loans.l2]
        rw [if_pos (by omega), if_pos (by omega), if_pos (by omega), hrd, if_neg hu, hw]
      · simp [lendS, hu']
theorem bor_cons (t : S78) (B : List S78) : bor (t :: B) = t.f0.countP (fun h => h.f0 && !h.f3) + bor B := by
  simp [bor]
theorem lo_l1 (T : List S67) (B : List S78) (hB : B.length ≤ 140737488351232) (hS : ∀ t ∈ B, t.f0.length ≤ 1048576) (C : List S155) (E : List Int) (hC : C.length ≤ 140737488351232) :
    ∀ (suf pre : List S78) (b : Nat), B = pre ++ suf → b ≤ pre.length * 1048576 → B.length ≤ 1048576 →
    EvB (fun k => spec_l16Loans.l1 k (b : Int) B (B.length : Int) (pre.length : Int) T B C E) (allT (lendS C) suf (pre.length : Int) ∧ b + bor suf = C.length)
  | [], pre, b, e, hb, hl => by
    refine EvB.step (g := fun _ => some ((b : Int) == (C.length : Int))) (fun k => ?_) ⟨(b : Int) == (C.length : Int), by simp [allT, bor]; omega, Ev.const _⟩
    simp only [spec_l16Loans.l1]
    rw [if_neg (by rw [e]; simp)]
  | t :: suf, pre, b, e, hb, hl => by
    have hlen : pre.length < B.length := by rw [e]; simp
    have hrd : rd_T78 B (pre.length : Int) = t := by rw [e]; exact rdB
    have hw : wrap64 ((pre.length : Int) + 1) = ((pre ++ [t]).length : Int) := by rw [wrap_in (by omega) (by omega)]; simp
    have e' : B = (pre ++ [t]) ++ suf := by simp [e]
    have hp : ((pre.length : Int) + 1) = ((pre ++ [t]).length : Int) := by simp
    have ht : t.f0.length ≤ 1048576 := hS t (by rw [e]; simp)
    have hc : t.f0.countP (fun h => h.f0 && !h.f3) ≤ t.f0.length := List.countP_le_length
    have ih := lo_l1 T B hB hS C E hC suf (pre ++ [t]) (b + t.f0.countP (fun h => h.f0 && !h.f3)) e' (by simp; omega) hl
    refine EvB.step (fun k => ?_) ((lo_l2 T B C E hC (pre.length : Int) B (B.length : Int) (pre.length : Int) t.f0 (by omega) (fun n => allT (lendS C) suf ((pre ++ [t]).length : Int) ∧ n + bor suf = C.length) t.f0 [] b rfl (by omega) (by rw [hw]; exact ih)).iff ?_)
    · simp only [spec_l16Loans.l1]
      rw [if_pos (by omega), if_pos (by omega), if_pos (by omega), hrd]
      simp
    · simp only [allT, bor_cons, hp]
      simp only [List.length_nil, Int.natCast_zero]
      rw [Nat.add_assoc]
      constructor
      · rintro ⟨a, c, d⟩
        exact ⟨⟨a, c⟩, d⟩
      · rintro ⟨⟨a, c⟩, d⟩
        exact ⟨a, c, d⟩
theorem in_len (x : Int) (n : Nat) (hn : n ≤ 140737488351232) : spec_l1In.f x 0 (wrap64 ((n : Int) - 1)) = some (decide (0 ≤ x ∧ x < n)) := by
  have hw : wrap64 ((n : Int) - 1) = (n : Int) - 1 := by unfold wrap64; omega
  unfold spec_l1In.f
  rw [hw]
  by_cases h : x ≥ 0
  · rw [if_pos h]
    congr 1
    rw [decide_eq_decide]
    omega
  · rw [if_neg h]
    congr 1
    symm
    rw [decide_eq_false_iff_not]
    omega
def slotT (S : List S75) (q : Int) : S75 := if 0 ≤ q ∧ q < S.length then rd_T75 S q else z75
theorem used_eq (S : List S75) (F : List Int) (q : Int) (hS : S.length ≤ 140737488351232) : spec_l16Used.f S F q = some ((slotT S q).f0, (slotT S q).f1, (slotT S q).f2, (slotT S q).f3, (slotT S q).f4, (slotT S q).f5, (slotT S q).f0) := by
  unfold spec_l16Used.f slotT
  rw [in_len q S.length hS, Option.bind_some]
  by_cases h : 0 ≤ q ∧ q < S.length
  · rw [if_pos (by simpa using h), if_pos h.1, if_pos h.2, if_pos h]
  · rw [if_neg (by simpa using h), if_neg h]
    rfl
theorem slotV_in (B : List S78) (p q : Int) (h : 0 ≤ p ∧ p < B.length) : slotV B p q = slotT (rd_T78 B p).f0 q := by
  unfold slotV slotT
  by_cases g : 0 ≤ q ∧ q < (rd_T78 B p).f0.length
  · rw [if_pos g, if_pos ⟨h.1, h.2, g.1, g.2⟩]
  · rw [if_neg g, if_neg (fun x => g ⟨x.2.2.1, x.2.2.2⟩)]
theorem slotV_out (B : List S78) (p q : Int) (h : ¬ (0 ≤ p ∧ p < B.length)) : slotV B p q = z75 := by
  unfold slotV
  rw [if_neg (fun x => h ⟨x.1, x.2.1⟩)]
theorem rdB_mem (B : List S78) (p : Int) (h : 0 ≤ p ∧ p < B.length) : rd_T78 B p ∈ B := by
  unfold rd_T78
  rw [List.getD_eq_getElem?_getD, List.getElem?_eq_getElem (show p.toNat < B.length by omega)]
  exact List.getElem_mem _
theorem lo_l0 (T : List S67) (B : List S78) (hB : B.length ≤ 1048576) (hS : ∀ t ∈ B, t.f0.length ≤ 1048576) (C : List S155) (E : List Int) (hC : C.length ≤ 140737488351232) :
    ∀ (suf pre : List S155), C = pre ++ suf →
    EvB (fun k => spec_l16Loans.l0 k C (C.length : Int) (pre.length : Int) T B C E) (loansA B suf (pre.length : Int) ∧ allT (lendS C) B 0 ∧ bor B = C.length)
  | [], pre, e => by
    refine EvB.step (fun k => ?_) ((lo_l1 T B (by omega) hS C E hC B [] 0 rfl (Nat.zero_le _) hB).iff ?_)
    · simp only [spec_l16Loans.l0]
      rw [if_neg (by rw [e]; simp)]
      rfl
    · simp [loansA]
  | l :: suf, pre, e => by
    have hlen : pre.length < C.length := by rw [e]; simp
    have hrd : rd_T155 C (pre.length : Int) = l := by rw [e]; exact rdL
    have hw : wrap64 ((pre.length : Int) + 1) = ((pre ++ [l]).length : Int) := by rw [wrap_in (by omega) (by omega)]; simp
    have hw1 : wrap64 ((pre.length : Int) + 1) = (pre.length : Int) + 1 := wrap_in (by omega) (by omega)
    have e' : C = (pre ++ [l]) ++ suf := by simp [e]
    have hp : ((pre.length : Int) + 1) = ((pre ++ [l]).length : Int) := by simp
    have ih := lo_l0 T B hB hS C E hC suf (pre ++ [l]) e'
    simp only [loansA]
    by_cases g0 : 0 ≤ l.f0 ∧ l.f0 < B.length
    · by_cases g2 : 0 ≤ l.f2 ∧ l.f2 < B.length
      · refine EvB.step (g := fun k => spec_l16Loans.j1 k (pre.length : Int) C (C.length : Int) (pre.length : Int) false T B C E l.f0 l.f1 l.f2 l.f3) (fun k => ?_) ?_
        · simp only [spec_l16Loans.l0]
          rw [if_pos (by omega), if_pos (by omega), if_pos (by omega), hrd, in_len _ _ (by omega), Option.bind_some, if_pos (by simpa using g0), in_len _ _ (by omega), Option.bind_some]
          simp [g2]
        · have hs0 := hS _ (rdB_mem B l.f0 g0)
          have hs2 := hS _ (rdB_mem B l.f2 g2)
          have v0 := slotV_in B l.f0 l.f1 g0
          have v2 := slotV_in B l.f2 l.f3 g2
          unfold loanOk
          rw [v0, v2]
          generalize hx : slotT (rd_T78 B l.f0).f0 l.f1 = x
          generalize hy : slotT (rd_T78 B l.f2).f0 l.f3 = y
          refine EvB.step (g := fun k => if x.f0 = true then (if y.f0 = true then (if x.f3 = true then (if y.f3 = true then some false else (if x.f1 = y.f1 then (if x.f2 = y.f2 then (if y.f5 = (pre.length : Int) + 1 then spec_l16Loans.l0 k C (C.length : Int) ((pre ++ [l]).length : Int) T B C E else some false) else some false) else some false)) else some false) else some false) else some false) (fun k => ?_) ?_
          · simp only [spec_l16Loans.j1]
            rw [if_neg (by simp), if_pos g0.1, if_pos g0.2, used_eq _ _ _ (by omega), Option.bind_some, if_pos g2.1, if_pos g2.2, used_eq _ _ _ (by omega), Option.bind_some, hx, hy, ← hw, hw1]
          · refine EvB.ite (fun a1 => EvB.ite (fun a2 => EvB.ite (fun a3 => EvB.iteN (fun a4 z => ?_) (fun a4 => EvB.ite (fun a5 => EvB.ite (fun a6 => EvB.ite (fun a7 => ih.iff ?_) (fun a7 z => a7 z.1.1.2.2.2.2.2.2)) (fun a6 z => a6 z.1.1.2.2.2.2.2.1)) (fun a5 z => a5 z.1.1.2.2.2.2.1))) (fun a3 z => a3 z.1.1.2.2.1)) (fun a2 z => a2 z.1.1.2.1)) (fun a1 z => a1 z.1.1.1)
            · have := z.1.1.2.2.2.1
              rw [a4] at this
              exact absurd this (by simp)
            · rw [← hp]
              have a4' : y.f3 = false := by simpa using a4
              simp [a1, a2, a3, a4', a5, a6, a7]
      · refine EvB.step (g := fun k => spec_l16Loans.j1 k (pre.length : Int) C (C.length : Int) (pre.length : Int) true T B C E l.f0 l.f1 l.f2 l.f3) (fun k => ?_) (EvB.step (g := fun _ => some false) (fun k => ?_) (EvB.no (fun x => ?_)))
        · simp only [spec_l16Loans.l0]
          rw [if_pos (by omega), if_pos (by omega), if_pos (by omega), hrd, in_len _ _ (by omega), Option.bind_some, if_pos (by simpa using g0), in_len _ _ (by omega), Option.bind_some]
          rw [show decide (0 ≤ l.f2 ∧ l.f2 < (B.length : Int)) = false from decide_eq_false g2]
          rfl
        · simp [spec_l16Loans.j1]
        · have := x.1.1.2.1
          rw [slotV_out B _ _ g2] at this
          exact absurd this (by simp [z75])
    · refine EvB.step (g := fun k => spec_l16Loans.j1 k (pre.length : Int) C (C.length : Int) (pre.length : Int) true T B C E l.f0 l.f1 l.f2 l.f3) (fun k => ?_) (EvB.step (g := fun _ => some false) (fun k => ?_) (EvB.no (fun x => ?_)))
      · simp only [spec_l16Loans.l0]
        rw [if_pos (by omega), if_pos (by omega), if_pos (by omega), hrd, in_len _ _ (by omega), Option.bind_some, if_neg (by simpa using g0)]
      · simp [spec_l16Loans.j1]
      · have := x.1.1.1
        rw [slotV_out B _ _ g0] at this
        exact absurd this (by simp [z75])
/-- What the reference says of loans. -/
def LS (B : List S78) (C : List S155) : Prop := loansA B C 0 ∧ allT (lendS C) B 0 ∧ bor B = C.length
theorem spec_loans (T : List S67) (B : List S78) (hB : B.length ≤ 1048576) (hS : ∀ t ∈ B, t.f0.length ≤ 1048576) (C : List S155) (E : List Int) (hC : C.length ≤ 140737488351232) : EvB (fun k => spec_l16Loans.f k T B C E) (LS B C) :=
  lo_l0 T B hB hS C E hC C [] rfl
end Go.Proofs.Ytdoflfifnkpacaa.WO
