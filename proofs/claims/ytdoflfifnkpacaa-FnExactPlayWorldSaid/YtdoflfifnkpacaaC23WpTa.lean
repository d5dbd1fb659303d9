/-
  The functions of worlds: what they compute, and the laws of it.
-/
import Derived.StillTailTactics
import Derived.Lib.Hide
import Derived.Test.YtdoflfifnkpacaaC23WpPw
import Derived.Test.YtdoflfifnkpacaaC23Open
import Derived.Test.YtdoflfifnkpacaaC23Reads
namespace Go.Proofs.Ytdoflfifnkpacaa.WP
open Go Go.RowKit Go.Proofs.YtdoflfifnkpacaaW.PrintWords Go.Proofs.YtdoflfifnkpacaaW.PrintLast Go.Proofs.YtdoflfifnkpacaaW.PrintMore
attribute [local go_sem] max2_int min2_int max_two min_two max_three min_three max_four min_four
set_option linter.unusedVariables false
set_option linter.unusedSimpArgs false
/-- From some fuel on the answer is `r`. -/
def Ev {α : Type} (g : Nat → Option α) (r : α) : Prop := ∃ K, ∀ k, K ≤ k → g k = some r
theorem Ev.const {α : Type} (r : α) : Ev (fun _ => some r) r := ⟨0, fun _ _ => rfl⟩
theorem Ev.of {α : Type} {o : Option α} {r : α} (h : o = some r) : Ev (fun _ => o) r := ⟨0, fun _ _ => h⟩
theorem Ev.bind {α β : Type} {g : Nat → Option α} {h : Nat → α → Option β} {a : α} {r : β} (h1 : Ev g a) (h2 : Ev (fun k => h k a) r) : Ev (fun k => (g k).bind (h k)) r := by
  obtain ⟨K1, h1⟩ := h1
  obtain ⟨K2, h2⟩ := h2
  refine ⟨max K1 K2, fun k hk => ?_⟩
  show (g k).bind (h k) = _
  rw [h1 k (by omega)]
  exact h2 k (by omega)
theorem Ev.pos {α : Type} {c : Prop} [Decidable c] {g h : Nat → Option α} {r : α} (hc : c) (h1 : Ev g r) : Ev (fun k => if c then g k else h k) r := by
  obtain ⟨K, h1⟩ := h1
  exact ⟨K, fun k hk => by show (if c then g k else h k) = _; rw [if_pos hc]; exact h1 k hk⟩
theorem Ev.neg {α : Type} {c : Prop} [Decidable c] {g h : Nat → Option α} {r : α} (hc : ¬ c) (h1 : Ev h r) : Ev (fun k => if c then g k else h k) r := by
  obtain ⟨K, h1⟩ := h1
  exact ⟨K, fun k hk => by show (if c then g k else h k) = _; rw [if_neg hc]; exact h1 k hk⟩
theorem Ev.step {α : Type} {g g' : Nat → Option α} {r : α} (h : ∀ k, g' (k + 1) = g k) (h1 : Ev g r) : Ev g' r := by
  obtain ⟨K, h1⟩ := h1
  refine ⟨K + 1, fun k hk => ?_⟩
  obtain ⟨k, rfl⟩ : ∃ m, k = m + 1 := ⟨k - 1, by omega⟩
  rw [h]
  exact h1 k (by omega)
theorem Ev.eq {α : Type} {g g' : Nat → Option α} {r : α} (h : ∀ k, g' k = g k) (h1 : Ev g r) : Ev g' r := by
  obtain ⟨K, h1⟩ := h1
  exact ⟨K, fun k hk => by rw [h]; exact h1 k hk⟩
/-- From some fuel on the answer is the truth of `P`. -/
def EvB (g : Nat → Option Bool) (P : Prop) : Prop := ∃ b, (b = true ↔ P) ∧ Ev g b
theorem EvB.iff {g : Nat → Option Bool} {P Q : Prop} (h : EvB g P) (e : P ↔ Q) : EvB g Q := by
  obtain ⟨b, hb, hg⟩ := h
  exact ⟨b, hb.trans e, hg⟩
theorem EvB.step {g g' : Nat → Option Bool} {P : Prop} (h : ∀ k, g' (k + 1) = g k) (h1 : EvB g P) : EvB g' P := by
  obtain ⟨b, hb, hg⟩ := h1
  exact ⟨b, hb, hg.step h⟩
theorem EvB.eq {g g' : Nat → Option Bool} {P : Prop} (h : ∀ k, g' k = g k) (h1 : EvB g P) : EvB g' P := by
  obtain ⟨b, hb, hg⟩ := h1
  exact ⟨b, hb, hg.eq h⟩
theorem EvB.no {P : Prop} (h : ¬ P) : EvB (fun _ => some false) P := ⟨false, by simp [h], Ev.const _⟩
theorem wrap_in {x : Int} (h0 : 0 ≤ x) (h : x ≤ 9223372036854775807) : wrap64 x = x := by
  unfold wrap64
  omega
def isz (h : S75) : Bool := !h.f0 && (h.f1 == 0 && (h.f2 == 0 && (!h.f3 && (h.f4 == 0 && h.f5 == 0))))
theorem rdT {pre suf : List S75} {h : S75} : rd_T75 (pre ++ h :: suf) (pre.length : Int) = h := by
  simp [rd_T75]
theorem rdI {pre suf : List Int} {h : Int} : rd (pre ++ h :: suf) (pre.length : Int) = h := by
  simp [rd]
def hok (h : S75) : Bool := h.f0 && (decide (0 ≤ h.f1 ∧ h.f1 ≤ 9) && (decide (0 ≤ h.f2 ∧ h.f2 ≤ 1000000) && (decide (0 ≤ h.f4 ∧ h.f4 ≤ 1000) && (decide (0 ≤ h.f5 ∧ h.f5 ≤ 1000) && (h.f3 == (h.f5 == 0))))))
theorem spec_hok (h : S75) : spec_l15Handle.f h.f0 h.f1 h.f2 h.f3 h.f4 h.f5 = some (hok h) := by
  obtain ⟨a, b, c, d, e, f⟩ := h
  unfold spec_l15Handle.f spec_l1In.f hok
  cases a
  · simp
  · by_cases h1 : b ≥ 0 <;> by_cases h2 : b ≤ 9 <;> by_cases h3 : c ≥ 0 <;> by_cases h4 : c ≤ 1000000 <;> by_cases h5 : e ≥ 0 <;> by_cases h6 : e ≤ 1000 <;> by_cases h7 : f ≥ 0 <;> by_cases h8 : f ≤ 1000 <;> simp [*] <;> omega
def slotOk (h : S75) : Prop := (h.f0 = true → hok h = true) ∧ (h.f0 = false → isz h = true)
theorem isz_eq (h : S75) : ((h.f0) || (!((h.f1) == 0) || (!((h.f2) == 0) || ((h.f3) || (!((h.f4) == 0) || (!((h.f5) == 0))))))) = !isz h := by
  unfold isz
  simp only [Bool.not_and, Bool.not_not]
/-- What the reference's GoodTable says. -/
def GS (S : List S75) (F : List Int) : Prop := (∀ h ∈ S, slotOk h) ∧ (∀ n ∈ F, 0 ≤ n ∧ n < S.length ∧ (rd_T75 S n).f0 = false) ∧ F.Nodup ∧ S.length ≤ 40 ∧ F.length = S.countP (fun h => !h.f0)
theorem take_pre {α : Type} (pre suf : List α) : (pre ++ suf).take ((pre.length : Int)).toNat = pre := by
  simp
theorem spec_l2 (S : List S75) (F : List Int) (hF : F.length ≤ 140737488351232) (c n : Int) (x41 : List Int) (x42 x43 : Int) (P : Prop) : ∀ (suf pre : List Int), (pre ++ suf).length ≤ 140737488351232 → n ∉ pre →
    (n ∉ pre ++ suf → EvB (fun k => spec_GoodTable.l1 k c x41 x42 (wrap64 (x43 + 1)) S F) P) → (n ∈ pre ++ suf → ¬ P) → EvB (fun k => spec_GoodTable.l2 k c n x41 x42 x43 (pre ++ suf) ((pre ++ suf).length : Int) (pre.length : Int) S F) P
  | [], pre, hl, hn, h1, h2 => by
    refine EvB.step (g := fun k => spec_GoodTable.l1 k c x41 x42 (wrap64 (x43 + 1)) S F) (fun k => ?_) (h1 (by simpa using hn))
    simp [spec_GoodTable.l2]
  | a :: suf, pre, hl, hn, h1, h2 => by
    simp only [List.length_append, List.length_cons] at hl
    by_cases e : a = n
    · refine EvB.step (g := fun _ => some false) (fun k => ?_) (EvB.no (h2 (by simp [e])))
      simp only [spec_GoodTable.l2]
      rw [if_pos (by simp; omega), if_pos (by omega), if_pos (by simp; omega), rdI, if_pos e]
    · have ih := spec_l2 S F hF c n x41 x42 x43 P suf (pre ++ [a]) (by simp; omega) (by simpa [hn] using fun x => e x.symm) (by simpa using h1) (by simpa using h2)
      refine EvB.step (fun k => ?_) ih
      simp only [spec_GoodTable.l2]
      rw [if_pos (by simp; omega), if_pos (by omega), if_pos (by simp; omega), rdI, if_neg e, wrap_in (by omega) (by omega)]
      simp
theorem spec_l1 (S : List S75) (hS : S.length ≤ 140737488351232) (F : List Int) (hF : F.length ≤ 140737488351232) (c : Int) : ∀ (suf pre : List Int), F = pre ++ suf →
    EvB (fun k => spec_GoodTable.l1 k c F (F.length : Int) (pre.length : Int) S F) ((∀ n ∈ suf, 0 ≤ n ∧ n < S.length ∧ (rd_T75 S n).f0 = false ∧ n ∉ pre) ∧ suf.Nodup ∧ S.length ≤ 40 ∧ (F.length : Int) = c)
  | [], pre, e => by
    by_cases h : (S.length : Int) ≤ 40
    · refine EvB.step (g := fun _ => some ((F.length : Int) == c)) (fun k => ?_) ⟨(F.length : Int) == c, by simp; omega, Ev.const _⟩
      simp only [spec_GoodTable.l1]
      rw [if_neg (by rw [e]; simp), if_pos h]
    · refine EvB.step (g := fun _ => some false) (fun k => ?_) (EvB.no (by rintro ⟨-, -, x, -⟩; omega))
      simp only [spec_GoodTable.l1]
      rw [if_neg (by rw [e]; simp), if_neg h]
  | n :: suf, pre, e => by
    have hlen : pre.length < F.length := by rw [e]; simp
    have hrd : rd F (pre.length : Int) = n := by rw [e]; exact rdI
    have ih := spec_l1 S hS F hF c suf (pre ++ [n]) (by simp [e])
    have hw : wrap64 ((pre.length : Int) + 1) = ((pre ++ [n]).length : Int) := by rw [wrap_in (by omega) (by omega)]; simp
    by_cases hr : 0 ≤ n ∧ n < S.length
    · by_cases hu : (rd_T75 S n).f0 = true
      · refine EvB.step (g := fun k => spec_GoodTable.j2 k c (pre.length : Int) n F (F.length : Int) (pre.length : Int) ((rd_T75 S n).f0) S F) (fun k => ?_) ?_
        · simp only [spec_GoodTable.l1]
          rw [if_pos (by omega), if_pos (by omega), if_pos (by omega), hrd]
          unfold spec_l1In.f
          rw [if_pos (by omega), wrap64, Option.bind_some, if_pos (by simp; omega), if_pos hr.1, if_pos hr.2]
        · refine EvB.step (g := fun _ => some false) (fun k => ?_) (EvB.no (fun x => by have := (x.1 n (by simp)).2.2.1; rw [hu] at this; exact absurd this (by simp)))
          simp only [spec_GoodTable.j2]
          rw [if_pos hu]
      · have hu' : (rd_T75 S n).f0 = false := by simpa using hu
        refine EvB.step (g := fun k => spec_GoodTable.j2 k c (pre.length : Int) n F (F.length : Int) (pre.length : Int) ((rd_T75 S n).f0) S F) (fun k => ?_) ?_
        · simp only [spec_GoodTable.l1]
          rw [if_pos (by omega), if_pos (by omega), if_pos (by omega), hrd]
          unfold spec_l1In.f
          rw [if_pos (by omega), wrap64, Option.bind_some, if_pos (by simp; omega), if_pos hr.1, if_pos hr.2]
        · have ht : F.take ((pre.length : Int)).toNat = pre := by rw [e]; exact take_pre _ _
          refine EvB.step (g := fun k => spec_GoodTable.l2 k c n F (F.length : Int) (pre.length : Int) ([] ++ pre) (([] ++ pre).length : Int) (([] : List Int).length : Int) S F) (fun k => ?_) ?_
          · simp only [spec_GoodTable.j2]
            rw [if_neg (by simp [hu']), if_pos (by omega), if_pos (by omega), ht]
            rfl
          · refine spec_l2 S F hF c n _ _ _ _ pre [] (by simp; omega) (by simp) (fun hn => ?_) (fun hn x => (x.1 n (by simp)).2.2.2 (by simpa using hn))
            rw [hw]
            refine ih.iff ?_
            simp only [List.nil_append] at hn
            constructor
            · rintro ⟨a, b, c, d⟩
              refine ⟨fun m hm => ?_, ?_, c, d⟩
              · rcases List.mem_cons.mp hm with rfl | hm
                · exact ⟨hr.1, hr.2, hu', hn⟩
                · obtain ⟨a1, a2, a3, a4⟩ := a m hm
                  exact ⟨a1, a2, a3, fun z => a4 (by simp [z])⟩
              · exact List.nodup_cons.mpr ⟨fun z => (a n z).2.2.2 (by simp), b⟩
            · rintro ⟨a, b, c, d⟩
              refine ⟨fun m hm => ?_, (List.nodup_cons.mp b).2, c, d⟩
              obtain ⟨a1, a2, a3, a4⟩ := a m (by simp [hm])
              refine ⟨a1, a2, a3, fun z => ?_⟩
              rcases List.mem_append.mp z with z | z
              · exact a4 z
              · simp only [List.mem_singleton] at z
                subst z
                exact (List.nodup_cons.mp b).1 hm
    · refine EvB.step (g := fun k => spec_GoodTable.j2 k c (pre.length : Int) n F (F.length : Int) (pre.length : Int) true S F) (fun k => ?_) ?_
      · simp only [spec_GoodTable.l1]
        rw [if_pos (by omega), if_pos (by omega), if_pos (by omega), hrd]
        unfold spec_l1In.f wrap64
        by_cases g : n ≥ 0
        · rw [if_pos g, Option.bind_some, if_neg (by simp; omega)]
        · rw [if_neg g, Option.bind_some, if_neg (by simp)]
      · refine EvB.step (g := fun _ => some false) (fun k => ?_) (EvB.no (fun x => hr ⟨(x.1 n (by simp)).1, (x.1 n (by simp)).2.1⟩))
        simp [spec_GoodTable.j2]
theorem spec_l0 (S : List S75) (hS : S.length ≤ 140737488351232) (F : List Int) (hF : F.length ≤ 140737488351232) : ∀ (suf pre : List S75) (c : Nat), c ≤ pre.length → S = pre ++ suf →
    EvB (fun k => spec_GoodTable.l0 k (c : Int) S (S.length : Int) (pre.length : Int) S F) ((∀ h ∈ suf, slotOk h) ∧ (∀ n ∈ F, 0 ≤ n ∧ n < S.length ∧ (rd_T75 S n).f0 = false) ∧ F.Nodup ∧ S.length ≤ 40 ∧ F.length = c + suf.countP (fun h => !h.f0))
  | [], pre, c, hc, e => by
    refine EvB.step (g := fun k => spec_GoodTable.l1 k (c : Int) F (F.length : Int) (([] : List Int).length : Int) S F) (fun k => ?_) ((spec_l1 S hS F hF c F [] rfl).iff ?_)
    · simp only [spec_GoodTable.l0]
      rw [if_neg (by rw [e]; simp)]
      rfl
    · simp
      intro _ _ _
      omega
  | h :: suf, pre, c, hc, e => by
    have hlen : pre.length < S.length := by rw [e]; simp
    have hrd : rd_T75 S (pre.length : Int) = h := by rw [e]; exact rdT
    have hw : wrap64 ((pre.length : Int) + 1) = ((pre ++ [h]).length : Int) := by rw [wrap_in (by omega) (by omega)]; simp
    have hw2 : wrap64 ((c : Int) + 1) = ((c + 1 : Nat) : Int) := by rw [wrap_in (by omega) (by omega)]; simp
    by_cases hu : h.f0 = true
    · by_cases hk : hok h = true
      · refine EvB.step (fun k => ?_) ((spec_l0 S hS F hF suf (pre ++ [h]) c (by simp; omega) (by simp [e])).iff ?_)
        · simp only [spec_GoodTable.l0]
          rw [if_pos (by omega), if_pos (by omega), if_pos (by omega), hrd, if_pos hu, if_pos hu, spec_hok, Option.bind_some, if_pos hk, hw]
        · simp [hu, slotOk, hk]
      · refine EvB.step (g := fun _ => some false) (fun k => ?_) (EvB.no (fun x => hk ((x.1 h (by simp)).1 hu)))
        simp only [spec_GoodTable.l0]
        rw [if_pos (by omega), if_pos (by omega), if_pos (by omega), hrd, if_pos hu, if_pos hu, spec_hok, Option.bind_some, if_neg hk]
    · have hu' : h.f0 = false := by simpa using hu
      by_cases hz : isz h = true
      · refine EvB.step (fun k => ?_) ((spec_l0 S hS F hF suf (pre ++ [h]) (c + 1) (by simp; omega) (by simp [e])).iff ?_)
        · simp only [spec_GoodTable.l0]
          rw [if_pos (by omega), if_pos (by omega), if_pos (by omega), hrd, if_neg hu, if_neg hu, isz_eq, if_neg (by simp [hz]), hw, hw2]
        · simp [hu', slotOk, hz]
          intro _ _ _ _
          omega
      · refine EvB.step (g := fun _ => some false) (fun k => ?_) (EvB.no (fun x => hz ((x.1 h (by simp)).2 hu')))
        simp only [spec_GoodTable.l0]
        rw [if_pos (by omega), if_pos (by omega), if_pos (by omega), hrd, if_neg hu, if_neg hu, isz_eq, if_pos (by simp [hz])]
theorem spec_good (S : List S75) (hS : S.length ≤ 140737488351232) (F : List Int) (hF : F.length ≤ 140737488351232) : EvB (fun k => spec_GoodTable.f k S F) (GS S F) := by
  refine EvB.eq (fun k => ?_) ((spec_l0 S hS F hF S [] 0 (Nat.zero_le _) rfl).iff (by simp [GS]))
  rfl
def slotT (S : List S75) (q : Int) : S75 := if 0 ≤ q ∧ q < S.length then rd_T75 S q else z75
def slotV (B : List S78) (p q : Int) : S75 := if 0 ≤ p then slotT (rd_T78 B p).f0 q else z75
theorem slotT_in {S : List S75} {q : Int} (h : (slotT S q).f0 = true) : 0 ≤ q ∧ q < S.length := by
  unfold slotT at h
  by_cases c : 0 ≤ q ∧ q < S.length
  · exact c
  · rw [if_neg c] at h
    exact absurd h (by decide)
theorem slotT_at {S : List S75} {q : Int} (h0 : 0 ≤ q) (h1 : q < S.length) : slotT S q = rd_T75 S q := if_pos ⟨h0, h1⟩
theorem rdT78_out {B : List S78} {p : Int} (h : (B.length : Int) ≤ p) : rd_T78 B p = z78 := by
  unfold rd_T78
  rw [List.getD_eq_getElem?_getD, List.getElem?_eq_none (by omega), Option.getD_none]
theorem slotV_in {B : List S78} {p q : Int} (h : (slotV B p q).f0 = true) : 0 ≤ p ∧ p < B.length ∧ 0 ≤ q ∧ q < (rd_T78 B p).f0.length := by
  unfold slotV at h
  by_cases c : 0 ≤ p
  · rw [if_pos c] at h
    have hq := slotT_in h
    refine ⟨c, ?_, hq.1, hq.2⟩
    refine Classical.byContradiction fun d => ?_
    rw [rdT78_out (by omega)] at hq
    simp [z78] at hq
    omega
  · rw [if_neg c] at h
    exact absurd h (by decide)
theorem slotV_at {B : List S78} {p : Int} (h0 : 0 ≤ p) (q : Int) : slotV B p q = slotT (rd_T78 B p).f0 q := if_pos h0
theorem slotT_set {S : List S75} {a : Int} (h0 : 0 ≤ a) (h1 : a < S.length) (h : S75) (q : Int) : slotT (S.set a.toNat h) q = if q = a then h else slotT S q := by
  unfold slotT rd_T75
  simp only [List.length_set]
  by_cases e : q = a
  · subst e
    rw [if_pos ⟨h0, h1⟩, if_pos rfl, List.getD_eq_getElem?_getD, List.getElem?_set_self (by omega), Option.getD_some]
  · rw [if_neg e]
    by_cases c : 0 ≤ q ∧ q < S.length
    · rw [if_pos c, if_pos c, List.getD_eq_getElem?_getD, List.getElem?_set_ne (by omega), ← List.getD_eq_getElem?_getD]
    · rw [if_neg c, if_neg c]
theorem slotT_push (S : List S75) (h : S75) (q : Int) : slotT (S ++ [h]) q = if q = S.length then h else slotT S q := by
  unfold slotT rd_T75
  simp only [List.length_append, List.length_singleton]
  by_cases e : q = S.length
  · subst e
    rw [if_pos ⟨by omega, by omega⟩, if_pos rfl, List.getD_eq_getElem?_getD, Int.toNat_natCast, List.getElem?_concat_length, Option.getD_some]
  · rw [if_neg e]
    by_cases c : 0 ≤ q ∧ q < S.length
    · rw [if_pos ⟨c.1, by omega⟩, if_pos c, List.getD_eq_getElem?_getD, List.getElem?_append_left (by omega), ← List.getD_eq_getElem?_getD]
    · rw [if_neg (by omega), if_neg c]
theorem rdT78_set {B : List S78} {p : Int} (h0 : 0 ≤ p) (h1 : p < B.length) (t : S78) (p' : Int) (h2 : 0 ≤ p') : rd_T78 (B.set p.toNat t) p' = if p' = p then t else rd_T78 B p' := by
  unfold rd_T78
  by_cases e : p' = p
  · subst e
    rw [if_pos rfl, List.getD_eq_getElem?_getD, List.getElem?_set_self (by omega), Option.getD_some]
  · rw [if_neg e, List.getD_eq_getElem?_getD, List.getElem?_set_ne (by omega), ← List.getD_eq_getElem?_getD]
theorem slotV_set {B : List S78} {p : Int} (h0 : 0 ≤ p) (h1 : p < B.length) {t : S78} {a : Int} {h : S75} (hs : ∀ q, slotT t.f0 q = if q = a then h else slotT (rd_T78 B p).f0 q) (p' q' : Int) : slotV (B.set p.toNat t) p' q' = if p' = p ∧ q' = a then h else slotV B p' q' := by
  unfold slotV
  by_cases c : 0 ≤ p'
  · rw [if_pos c, if_pos c, rdT78_set h0 h1 t p' c]
    by_cases e : p' = p
    · subst e
      rw [if_pos rfl, hs]
      by_cases d : q' = a
      · rw [if_pos d, if_pos ⟨rfl, d⟩]
      · rw [if_neg d, if_neg (fun x => d x.2)]
    · rw [if_neg e, if_neg (fun x => e x.1)]
  · rw [if_neg c, if_neg c, if_neg (fun x => by omega)]
theorem mem_rd {B : List S78} {p : Int} (h0 : 0 ≤ p) (h1 : p < B.length) : rd_T78 B p ∈ B := by
  unfold rd_T78
  rw [List.getD_eq_getElem?_getD, List.getElem?_eq_getElem (by omega), Option.getD_some]
  exact List.getElem_mem _
theorem mem_slot {S : List S75} {q : Int} (h0 : 0 ≤ q) (h1 : q < S.length) : rd_T75 S q ∈ S := by
  unfold rd_T75
  rw [List.getD_eq_getElem?_getD, List.getElem?_eq_getElem (by omega), Option.getD_some]
  exact List.getElem_mem _
theorem gs_len {S : List S75} {F : List Int} (h : GS S F) : S.length ≤ 40 ∧ F.length ≤ 40 := by
  obtain ⟨_, _, _, h1, h2⟩ := h
  have := List.countP_le_length (p := fun h : S75 => !h.f0) (l := S)
  omega
theorem own_some (S : List S75) (F : List Int) (hS : S.length ≤ 40) (hF : F.length ≤ 40) : spec_l15Own.f S F = some (S, F) := own15 S F (by omega) (by omega)
theorem good_true {S : List S75} {F : List Int} (h : GS S F) : Ev (fun k => spec_GoodTable.f k S F) true := by
  obtain ⟨g1, g2⟩ := gs_len h
  obtain ⟨b, hb, hg⟩ := spec_good S (by omega) F (by omega)
  rw [hb.mpr h] at hg
  exact hg
theorem spec_full (S : List S75) (F : List Int) : spec_l16Full.f S F = some (fullR S F) := by
  unfold spec_l16Full.f fullR
  by_cases h : (F.length : Int) = 0
  · rw [if_pos h, decide_eq_true h, Bool.true_and]
    by_cases e : (S.length : Int) = 40 <;> simp [e]
  · rw [if_neg h, decide_eq_false h, Bool.false_and]
theorem findR_ok {S : List S75} {a r : Int} (h : (findR S a r).2 = 0) : 0 ≤ a ∧ a < S.length ∧ (slotT S a).f0 = true ∧ (slotT S a).f1 = r ∧ (findR S a r).1 = slotT S a ∧ rd_T75 S a = slotT S a := by
  unfold findR at h ⊢
  by_cases c0 : a < 0
  · rw [if_pos c0] at h
    exact absurd h (by simp)
  rw [if_neg c0] at h ⊢
  by_cases c1 : a ≥ (S.length : Int)
  · rw [if_pos c1] at h
    exact absurd h (by simp)
  rw [if_neg c1] at h ⊢
  have e := slotT_at (S := S) (q := a) (by omega) (by omega)
  rw [e]
  by_cases c2 : (rd_T75 S a).f0 = true
  · rw [if_pos c2] at h ⊢
    by_cases c3 : (rd_T75 S a).f1 = r
    · rw [if_pos c3]
      exact ⟨by omega, by omega, c2, c3, rfl, rfl⟩
    · rw [if_neg c3] at h
      exact absurd h (by simp)
  · rw [if_neg c2] at h
    exact absurd h (by simp)
def findT (S : List S75) (a r : Int) : Bool × Int × Int × Bool × Int × Int × Int := ((findR S a r).1.f0, (findR S a r).1.f1, (findR S a r).1.f2, (findR S a r).1.f3, (findR S a r).1.f4, (findR S a r).1.f5, (findR S a r).2)
theorem find_of {S : List S75} {a r : Int} (h0 : 0 ≤ a) (h1 : a < S.length) (hu : (slotT S a).f0 = true) (hr : (slotT S a).f1 = r) : findR S a r = (slotT S a, 0) := by
  unfold findR
  have e := slotT_at (S := S) (q := a) (by omega) (by omega)
  rw [e] at hu hr ⊢
  rw [if_neg (by omega), if_neg (by omega), if_pos hu, if_pos hr]
theorem spec_find (S : List S75) (hS : S.length ≤ 40) (F : List Int) (a r : Int) : Ev (fun k => spec_l15Find.f k S F a r) (findT S a r) := by
  unfold spec_l15Find.f
  have hw : wrap64 ((S.length : Int) - 1) = (S.length : Int) - 1 := by
    unfold wrap64
    omega
  refine Ev.bind (a := inB a 0 ((S.length : Int) - 1)) (Ev.of (by rw [hw]; exact l1In_f _ _ _)) ?_
  unfold findT findR
  by_cases c0 : a < 0
  · have hb : inB a 0 ((S.length : Int) - 1) = false := by unfold inB; rw [decide_eq_false (by omega), Bool.false_and]
    rw [hb, if_pos c0]
    refine Ev.neg (by simp) (Ev.step (g := fun _ => some _) (fun k => ?_) (Ev.const _))
    simp only [spec_l15Find.j0]
    rw [if_pos trivial]
    rfl
  by_cases c1 : a ≥ (S.length : Int)
  · have hb : inB a 0 ((S.length : Int) - 1) = false := by unfold inB; rw [decide_eq_false (p := a ≤ _) (by omega), Bool.and_false]
    rw [hb, if_neg c0, if_pos c1]
    refine Ev.neg (by simp) (Ev.step (g := fun _ => some _) (fun k => ?_) (Ev.const _))
    simp only [spec_l15Find.j0]
    rw [if_pos trivial]
    rfl
  have hb : inB a 0 ((S.length : Int) - 1) = true := by unfold inB; rw [decide_eq_true (by omega), decide_eq_true (by omega)]; rfl
  rw [hb, if_neg c0, if_neg c1]
  refine Ev.pos rfl (Ev.pos (by omega) (Ev.pos (by omega) (Ev.step (g := fun _ => some _) (fun k => ?_) (Ev.const _))))
  simp only [spec_l15Find.j0]
  by_cases c2 : (rd_T75 S a).f0 = true
  · rw [if_neg (by simp [c2]), if_pos (by omega), if_pos (by omega), if_pos c2]
    by_cases c3 : (rd_T75 S a).f1 = r
    · rw [if_pos c3, if_pos c3]
    · rw [if_neg c3, if_neg c3]
      rfl
  · rw [if_pos (by simpa using c2), if_neg c2]
    rfl
theorem hok_lends {h : S75} (c : hok h = true) : h.f0 = true ∧ 0 ≤ h.f1 ∧ h.f1 ≤ 9 ∧ 0 ≤ h.f2 ∧ h.f2 ≤ 1000000 ∧ 0 ≤ h.f4 ∧ h.f4 ≤ 1000 ∧ 0 ≤ h.f5 ∧ h.f5 ≤ 1000 ∧ (h.f3 = true ↔ h.f5 = 0) := by
  unfold hok at c
  simp only [Bool.and_eq_true, decide_eq_true_eq, beq_iff_eq] at c
  obtain ⟨c0, ⟨c1, c2⟩, ⟨c3, c4⟩, ⟨c5, c6⟩, ⟨c7, c8⟩, c9⟩ := c
  refine ⟨c0, c1, c2, c3, c4, c5, c6, c7, c8, ?_⟩
  rw [c9, beq_iff_eq]
theorem hok_mk {h : S75} (c0 : h.f0 = true) (c1 : 0 ≤ h.f1) (c2 : h.f1 ≤ 9) (c3 : 0 ≤ h.f2) (c4 : h.f2 ≤ 1000000) (c5 : 0 ≤ h.f4) (c6 : h.f4 ≤ 1000) (c7 : 0 ≤ h.f5) (c8 : h.f5 ≤ 1000) (c9 : h.f3 = true ↔ h.f5 = 0) : hok h = true := by
  unfold hok
  have : h.f3 = (h.f5 == 0) := by
    by_cases e : h.f5 = 0
    · rw [c9.mpr e, e]; rfl
    · have h3 : h.f3 = false := by
        cases q : h.f3 with
        | false => rfl
        | true => exact absurd (c9.mp q) e
      rw [h3]
      symm
      simpa using e
  simp only [Bool.and_eq_true, decide_eq_true_eq, beq_iff_eq]
  exact ⟨c0, ⟨c1, c2⟩, ⟨c3, c4⟩, ⟨c5, c6⟩, ⟨c7, c8⟩, this⟩
theorem gs_slot {S : List S75} {F : List Int} (g : GS S F) {a : Int} (h : (slotT S a).f0 = true) : hok (slotT S a) = true := by
  obtain ⟨h0, h1⟩ := slotT_in h
  rw [slotT_at h0 h1] at h ⊢
  exact (g.1 _ (mem_slot h0 h1)).1 h
theorem rd_set_other {S : List S75} {a : Int} (h0 : 0 ≤ a) (h1 : a < S.length) (h : S75) {n : Int} (n0 : 0 ≤ n) (n1 : n < S.length) : rd_T75 (S.set a.toNat h) n = if n = a then h else rd_T75 S n := by
  have := slotT_set h0 h1 h n
  rwa [slotT_at n0 (by simpa using n1), slotT_at n0 n1] at this
theorem mem_set_or {α : Type} {l : List α} {i : Nat} {x y : α} (h : y ∈ l.set i x) : y = x ∨ y ∈ l := by
  rcases List.mem_or_eq_of_mem_set h with h | h
  · exact .inr h
  · exact .inl h
theorem countP_setI {S : List S75} {a : Int} (h0 : 0 ≤ a) (h1 : a < S.length) (h : S75) : (S.set a.toNat h).countP (fun h => !h.f0) + (if (rd_T75 S a).f0 = true then 0 else 1) = S.countP (fun h => !h.f0) + (if h.f0 = true then 0 else 1) := by
  have hl : a.toNat < S.length := by omega
  have hr : rd_T75 S a = S[a.toNat] := by
    unfold rd_T75
    rw [List.getD_eq_getElem?_getD, List.getElem?_eq_getElem hl, Option.getD_some]
  rw [List.countP_set hl, hr]
  have hp : (S[a.toNat]).f0 = false → 0 < S.countP (fun h => !h.f0) := fun c => List.countP_pos_iff.mpr ⟨_, List.getElem_mem hl, by simp [c]⟩
  generalize S.countP (fun h => !h.f0) = n at hp ⊢
  cases e : (S[a.toNat]).f0
  · have := hp e
    cases e2 : h.f0 <;> simp <;> omega
  · cases e2 : h.f0 <;> simp
/-- A slot that is used becomes another that is used. -/
theorem GS_put {S : List S75} {F : List Int} (g : GS S F) {a : Int} (hu : (slotT S a).f0 = true) {h : S75} (hh : hok h = true) : GS (S.set a.toNat h) F := by
  obtain ⟨h0, h1⟩ := slotT_in hu
  obtain ⟨g1, g2, g3, g4, g5⟩ := g
  have hf := (hok_lends hh).1
  rw [slotT_at h0 h1] at hu
  refine ⟨fun x hx => ?_, fun n hn => ?_, g3, by simpa using g4, ?_⟩
  · rcases mem_set_or hx with rfl | hx
    · exact ⟨fun _ => hh, fun c => by rw [hf] at c; simp at c⟩
    · exact g1 x hx
  · obtain ⟨n0, n1, n2⟩ := g2 n hn
    refine ⟨n0, by simpa using n1, ?_⟩
    rw [rd_set_other h0 h1 h n0 n1, if_neg]
    · exact n2
    · rintro rfl
      rw [n2] at hu
      simp at hu
  · have := countP_setI h0 h1 h
    rw [if_pos hu, if_pos hf] at this
    omega
theorem GS_drop {S : List S75} {F : List Int} (g : GS S F) {a : Int} (hu : (slotT S a).f0 = true) : GS (S.set a.toNat z75) (F ++ [a]) := by
  obtain ⟨h0, h1⟩ := slotT_in hu
  obtain ⟨g1, g2, g3, g4, g5⟩ := g
  rw [slotT_at h0 h1] at hu
  have ha : a ∉ F := fun c => by
    have := (g2 a c).2.2
    rw [this] at hu
    simp at hu
  refine ⟨fun x hx => ?_, fun n hn => ?_, ?_, by simpa using g4, ?_⟩
  · rcases mem_set_or hx with rfl | hx
    · exact ⟨fun c => absurd c (by decide), fun _ => rfl⟩
    · exact g1 x hx
  · rcases List.mem_append.mp hn with hn | hn
    · obtain ⟨n0, n1, n2⟩ := g2 n hn
      refine ⟨n0, by simpa using n1, ?_⟩
      rw [rd_set_other h0 h1 _ n0 n1, if_neg]
      · exact n2
      · intro z
        exact ha (z ▸ hn)
    · simp only [List.mem_singleton] at hn
      subst hn
      refine ⟨h0, by simpa using h1, ?_⟩
      rw [rd_set_other h0 h1 _ h0 h1, if_pos rfl]
      rfl
  · rw [List.nodup_append]
    refine ⟨g3, by simp, fun x hx y hy => ?_⟩
    simp only [List.mem_singleton] at hy
    rintro rfl
    exact ha (hy ▸ hx)
  · have := countP_setI h0 h1 z75
    rw [if_pos hu, if_neg (by decide)] at this
    simp
    omega
theorem last_in {S : List S75} {F : List Int} (g : GS S F) (hF : 0 < F.length) : rd F ((F.length : Int) - 1) ∈ F ∧ 0 ≤ rd F ((F.length : Int) - 1) ∧ rd F ((F.length : Int) - 1) < S.length ∧ (rd_T75 S (rd F ((F.length : Int) - 1))).f0 = false := by
  have hm : rd F ((F.length : Int) - 1) ∈ F := by
    unfold rd
    have e : ((F.length : Int) - 1).toNat = F.length - 1 := by omega
    rw [e, List.getD_eq_getElem?_getD, List.getElem?_eq_getElem (by omega), Option.getD_some]
    exact List.getElem_mem _
  exact ⟨hm, g.2.1 _ hm⟩
theorem last_split {F : List Int} (hF : 0 < F.length) : F = F.take (F.length - 1) ++ [rd F ((F.length : Int) - 1)] := by
  have e : ((F.length : Int) - 1).toNat = F.length - 1 := by omega
  unfold rd
  rw [e, List.getD_eq_getElem?_getD, List.getElem?_eq_getElem (by omega), Option.getD_some, List.take_append_getElem (show F.length - 1 < F.length by omega), show F.length - 1 + 1 = F.length by omega, List.take_length]
/-- What is put into a table with room. -/
theorem add_ok {S : List S75} {F : List Int} (g : GS S F) {h : S75} (hh : hok h = true) (hl : h.f4 = 0) (hf : fullR S F = false) :
    ∃ S' F' a, addR S F h = some (S', F', a) ∧ GS S' F' ∧ 0 ≤ a ∧ (slotT S a).f0 = false ∧ (∀ q, slotT S' q = if q = a then h else slotT S q) ∧ Ev (fun k => spec_NewHandle.f k S F h.f0 h.f1 h.f2 h.f3 h.f4 h.f5) (S', F', a, 0) := by
  obtain ⟨l1, l2⟩ := gs_len g
  have hu := (hok_lends hh).1
  by_cases e : 0 < F.length
  · obtain ⟨hm, i1, i2, i3⟩ := last_in g e
    refine ⟨S.set (rd F ((F.length : Int) - 1)).toNat h, F.take (F.length - 1), rd F ((F.length : Int) - 1), ?_, ?_, i1, ?_, fun q => slotT_set i1 i2 h q, ?_⟩
    · unfold addR
      rw [if_pos (by omega), if_pos i1, if_pos i2]
    · obtain ⟨g1, g2, g3, g4, g5⟩ := g
      have hs := last_split e
      generalize hx : rd F ((F.length : Int) - 1) = x at *
      generalize hF' : F.take (F.length - 1) = F' at *
      have hnd := g3
      rw [hs, List.nodup_append] at hnd
      refine ⟨fun y hy => ?_, fun n hn => ?_, hnd.1, by simpa using g4, ?_⟩
      · rcases mem_set_or hy with rfl | hy
        · exact ⟨fun _ => hh, fun c => by rw [hu] at c; simp at c⟩
        · exact g1 y hy
      · have hn' : n ∈ F := by rw [hs]; simp [hn]
        obtain ⟨n0, n1, n2⟩ := g2 n hn'
        refine ⟨n0, by simpa using n1, ?_⟩
        rw [rd_set_other i1 i2 _ n0 n1, if_neg]
        · exact n2
        · rintro rfl
          exact hnd.2.2 n hn n (by simp) rfl
      · have := countP_setI i1 i2 h
        rw [if_neg (by simp [i3]), if_pos hu] at this
        have hl := congrArg List.length hs
        simp at hl
        omega
    · rw [slotT_at i1 i2]
      exact i3
    · unfold spec_NewHandle.f
      refine Ev.bind (good_true g) (Ev.pos rfl (Ev.bind (Ev.of (own_some S F l1 l2)) (Ev.bind (Ev.of (spec_hok h)) (Ev.pos hh (Ev.step (g := fun _ => some _) (fun k => ?_) (Ev.const _))))))
      simp only [spec_NewHandle.j0]
      have w1 : wrap64 ((F.length : Int) - 1) = (F.length : Int) - 1 := wrap_in (by omega) (by omega)
      rw [w1, if_neg (by simp [hl]), if_pos (by omega), if_pos (by omega), if_pos (by omega), if_pos (by omega), if_pos i1, if_pos i2, show ((F.length : Int) - 1).toNat = F.length - 1 by omega]
  · have e0 : F = [] := List.eq_nil_of_length_eq_zero (by omega)
    subst e0
    have hS : S.length ≠ 40 := by
      intro c
      unfold fullR at hf
      rw [c] at hf
      exact absurd hf (by decide)
    refine ⟨S ++ [h], [], (S.length : Int), ?_, ?_, by omega, ?_, fun q => slotT_push S h q, ?_⟩
    · unfold addR
      rw [if_neg (by simp), if_pos (by omega)]
    · obtain ⟨g1, g2, g3, g4, g5⟩ := g
      refine ⟨fun y hy => ?_, by simp, g3, by simp; omega, ?_⟩
      · rcases List.mem_append.mp hy with hy | hy
        · exact g1 y hy
        · simp only [List.mem_singleton] at hy
          subst hy
          exact ⟨fun _ => hh, fun c => by rw [hu] at c; simp at c⟩
      · rw [List.countP_append, ← g5]
        simp [hu]
    · unfold slotT
      rw [if_neg (by omega)]
      rfl
    · unfold spec_NewHandle.f
      refine Ev.bind (good_true g) (Ev.pos rfl (Ev.bind (Ev.of (own_some S [] l1 l2)) (Ev.bind (Ev.of (spec_hok h)) (Ev.pos hh (Ev.step (g := fun _ => some _) (fun k => ?_) (Ev.const _))))))
      simp only [spec_NewHandle.j0]
      rw [if_neg (by simp [hl]), if_neg (by simp), if_neg (by omega), if_pos (by omega)]
      simp only [Option.bind_some]
      have w1 : wrap64 (((S ++ [h]).length : Int) - 1) = (S.length : Int) := by
        rw [wrap_in (by simp) (by simp; omega)]
        simp
      rw [show (⟨h.f0, h.f1, h.f2, h.f3, h.f4, h.f5⟩ : S75) = h from rfl, w1]
theorem drop_ok {S : List S75} {F : List Int} (g : GS S F) {a r : Int} (hu : (slotT S a).f0 = true) (hr : (slotT S a).f1 = r) (hl : (slotT S a).f4 = 0) :
    dropR S F a = some (S.set a.toNat z75, F ++ [a]) ∧ GS (S.set a.toNat z75) (F ++ [a]) ∧ (∀ q, slotT (S.set a.toNat z75) q = if q = a then z75 else slotT S q) ∧ Ev (fun k => spec_DropHandle.f k S F a r) (S.set a.toNat z75, F ++ [a], (slotT S a).f0, (slotT S a).f1, (slotT S a).f2, (slotT S a).f3, (slotT S a).f4, (slotT S a).f5, 0) ∧
    ((slotT S a).f3 = true → Ev (fun k => spec_MoveHandle.f k S F a r) (S.set a.toNat z75, F ++ [a], (slotT S a).f0, (slotT S a).f1, (slotT S a).f2, (slotT S a).f3, (slotT S a).f4, (slotT S a).f5, 0)) := by
  obtain ⟨l1, l2⟩ := gs_len g
  obtain ⟨h0, h1⟩ := slotT_in hu
  have hfd := spec_find S l1 F a r
  have hfr := find_of h0 h1 hu hr
  refine ⟨?_, GS_drop g hu, fun q => slotT_set h0 h1 z75 q, ?_, fun ho => ?_⟩
  · unfold dropR
    rw [if_pos h0, if_pos h1, if_pos (by omega)]
  · unfold spec_DropHandle.f spec_l15Out.f
    refine Ev.bind (a := (S.set a.toNat z75, F ++ [a], (slotT S a).f0, (slotT S a).f1, (slotT S a).f2, (slotT S a).f3, (slotT S a).f4, (slotT S a).f5, 0)) (Ev.bind (good_true g) (Ev.pos rfl (Ev.bind (Ev.of (own_some S F l1 l2)) (Ev.bind hfd ?_)))) (Ev.const _)
    unfold findT
    rw [hfr]
    refine Ev.pos rfl (Ev.neg (by simp) (Ev.step (g := fun _ => some _) (fun k => ?_) (Ev.const _)))
    simp only [spec_l15Out.j0]
    rw [if_neg (by simp), if_pos hl, if_pos h0, if_pos h1, if_pos (by omega)]
    rfl
  · unfold spec_MoveHandle.f spec_l15Out.f
    refine Ev.bind (a := (S.set a.toNat z75, F ++ [a], (slotT S a).f0, (slotT S a).f1, (slotT S a).f2, (slotT S a).f3, (slotT S a).f4, (slotT S a).f5, 0)) (Ev.bind (good_true g) (Ev.pos rfl (Ev.bind (Ev.of (own_some S F l1 l2)) (Ev.bind hfd ?_)))) (Ev.const _)
    unfold findT
    rw [hfr]
    refine Ev.pos rfl (Ev.pos rfl (Ev.step (g := fun _ => some _) (fun k => ?_) (Ev.const _)))
    simp only [spec_l15Out.j0]
    rw [if_neg (by simp [ho]), if_pos hl, if_pos h0, if_pos h1, if_pos (by omega)]
    rfl
def cnt (C : List S155) (p q : Int) : Nat := C.countP (fun l => l.f0 == p && l.f1 == q)
theorem cnt_app (C : List S155) (l : S155) (p q : Int) : cnt (C ++ [l]) p q = cnt C p q + if l.f0 = p ∧ l.f1 = q then 1 else 0 := by
  unfold cnt
  rw [List.countP_append, List.countP_singleton]
  by_cases h1 : l.f0 = p <;> by_cases h2 : l.f1 = q <;> simp [h1, h2]
theorem cnt_le (C : List S155) (p q : Int) : cnt C p q ≤ C.length := List.countP_le_length
/-- A loan's handle and its borrow. -/
def LK (B : List S78) (i : Int) (x : S155) : Prop := (slotV B x.f0 x.f1).f0 = true ∧ (slotV B x.f0 x.f1).f3 = true ∧ (slotV B x.f2 x.f3).f0 = true ∧ (slotV B x.f2 x.f3).f3 = false ∧ (slotV B x.f2 x.f3).f5 = i + 1
structure JL (T : List S67) (B : List S78) (C : List S155) : Prop where
  g : ∀ t ∈ B, GS t.f0 t.f1
  bl : B.length ≤ 5
  tl : T.length ≤ 40
  cl : C.length ≤ 300
  r : ∀ p q, (slotV B p q).f0 = true → (slotV B p q).f3 = true → (slotV B p q).f2 < T.length
  l : ∀ i : Nat, i < C.length → LK B i (rd_T155 C i)
  n : ∀ p q, (slotV B p q).f0 = true → (slotV B p q).f4 = if (slotV B p q).f3 = true then (cnt C p q : Int) else 0
theorem rdC (C : List S155) (i : Nat) (h : i < C.length) : rd_T155 C i = C[i] := by
  unfold rd_T155
  rw [Int.toNat_natCast, List.getD_eq_getElem?_getD, List.getElem?_eq_getElem h, Option.getD_some]
/-- No loan's handle lies at a place that is unused or not lent. -/
theorem cnt_zero {B : List S78} {C : List S155} {p q : Int} (hl : ∀ i : Nat, i < C.length → LK B i (rd_T155 C i)) (h : (slotV B p q).f0 = false) : cnt C p q = 0 := by
  unfold cnt
  rw [List.countP_eq_zero]
  intro x hx c
  simp only [Bool.and_eq_true, beq_iff_eq] at c
  obtain ⟨i, hi, rfl⟩ := List.mem_iff_getElem.mp hx
  have := (hl i hi).1
  rw [rdC C i hi, c.1, c.2, h] at this
  simp at this
theorem cnt_no {C : List S155} {p q : Int} (h : cnt C p q = 0) (i : Nat) (hi : i < C.length) : ¬ ((rd_T155 C i).f0 = p ∧ (rd_T155 C i).f1 = q) := by
  unfold cnt at h
  rw [List.countP_eq_zero] at h
  have := h _ (List.getElem_mem hi)
  rw [rdC C i hi]
  simpa using this
/-- What one slot's change leaves of a loan. -/
theorem LK.put {B B' : List S78} {i : Int} {x : S155} (h : LK B i x) {p a : Int} {y : S75} (hs : ∀ p' q', slotV B' p' q' = if p' = p ∧ q' = a then y else slotV B p' q')
    (h0 : x.f0 = p ∧ x.f1 = a → y.f0 = true ∧ y.f3 = true) (h1 : ¬ (x.f2 = p ∧ x.f3 = a)) : LK B' i x := by
  unfold LK at h ⊢
  rw [hs x.f2 x.f3, if_neg h1, hs x.f0 x.f1]
  by_cases c : x.f0 = p ∧ x.f1 = a
  · rw [if_pos c]
    exact ⟨(h0 c).1, (h0 c).2, h.2.2⟩
  · rw [if_neg c]
    exact h
theorem LK.other {B B' : List S78} {i : Int} {x : S155} (h : LK B i x) {p a : Int} {y : S75} (hs : ∀ p' q', slotV B' p' q' = if p' = p ∧ q' = a then y else slotV B p' q') (hu : (slotV B p a).f0 = false) : LK B' i x := by
  refine h.put hs (fun c => ?_) (fun c => ?_)
  · have := h.1
    rw [c.1, c.2, hu] at this
    simp at this
  · have := h.2.2.1
    rw [c.1, c.2, hu] at this
    simp at this
theorem g_set {B : List S78} (hg : ∀ t ∈ B, GS t.f0 t.f1) (p : Int) {t : S78} (ht : GS t.f0 t.f1) : ∀ x ∈ B.set p.toNat t, GS x.f0 x.f1 := by
  intro x hx
  rcases mem_set_or hx with rfl | hx
  · exact ht
  · exact hg x hx
/-- An own handle that nobody has been lent is put at an unused place. -/
theorem JL.put_own {T : List S67} {B : List S78} {C : List S155} (J : JL T B C) {p a : Int} (h0 : 0 ≤ p) (h1 : p < B.length) {t : S78} (ht : GS t.f0 t.f1) {h : S75} (hs : ∀ q, slotT t.f0 q = if q = a then h else slotT (rd_T78 B p).f0 q) (hu : (slotT (rd_T78 B p).f0 a).f0 = false) (h3 : h.f3 = true) (h4 : h.f4 = 0) (h2 : h.f2 < T.length) : JL T (B.set p.toNat t) C := by
  have hv := slotV_set h0 h1 hs
  have hu' : (slotV B p a).f0 = false := by rw [slotV_at h0]; exact hu
  refine ⟨g_set J.g p ht, by simpa using J.bl, J.tl, J.cl, fun p' q' c d => ?_, fun i hi => (J.l i hi).other hv hu', fun p' q' c => ?_⟩
  · rw [hv] at c d ⊢
    by_cases e : p' = p ∧ q' = a
    · rw [if_pos e]; exact h2
    · rw [if_neg e] at c d ⊢; exact J.r p' q' c d
  · rw [hv] at c ⊢
    by_cases e : p' = p ∧ q' = a
    · rw [if_pos e, h4, if_pos h3, e.1, e.2, cnt_zero J.l hu']
      rfl
    · rw [if_neg e] at c ⊢
      exact J.n p' q' c
/-- A handle that is not lent, and is no borrow, is taken out. -/
theorem JL.take {T : List S67} {B : List S78} {C : List S155} (J : JL T B C) {p a : Int} (h0 : 0 ≤ p) (h1 : p < B.length) {t : S78} (ht : GS t.f0 t.f1) (hs : ∀ q, slotT t.f0 q = if q = a then z75 else slotT (rd_T78 B p).f0 q) (hu : (slotT (rd_T78 B p).f0 a).f0 = true) (h3 : (slotT (rd_T78 B p).f0 a).f3 = true) (h4 : (slotT (rd_T78 B p).f0 a).f4 = 0) : JL T (B.set p.toNat t) C := by
  have hv := slotV_set h0 h1 hs
  rw [← slotV_at h0] at hu h3 h4
  have hc : cnt C p a = 0 := by
    have := J.n p a hu
    rw [if_pos h3, h4] at this
    omega
  refine ⟨g_set J.g p ht, by simpa using J.bl, J.tl, J.cl, fun p' q' c d => ?_, fun i hi => ?_, fun p' q' c => ?_⟩
  · rw [hv] at c d ⊢
    by_cases e : p' = p ∧ q' = a
    · rw [if_pos e] at c; exact absurd c (by decide)
    · rw [if_neg e] at c d ⊢; exact J.r p' q' c d
  · refine (J.l i hi).put hv (fun c => absurd c (cnt_no hc i hi)) (fun c => ?_)
    have := (J.l i hi).2.2.2.1
    rw [c.1, c.2, h3] at this
    simp at this
  · rw [hv] at c ⊢
    by_cases e : p' = p ∧ q' = a
    · rw [if_pos e] at c; exact absurd c (by decide)
    · rw [if_neg e] at c ⊢; exact J.n p' q' c
theorem JL.things {T T' : List S67} {B : List S78} {C : List S155} (J : JL T B C) (h : T.length ≤ T'.length) (h' : T'.length ≤ 40) : JL T' B C :=
  ⟨J.g, J.bl, h', J.cl, fun p q c d => by have := J.r p q c d; omega, J.l, J.n⟩
/-- What the acts of the model and of the reference tell of the same world. -/
structure Same (T : List S67) (B : List S78) (C : List S155) (E : List Int) (m : Option (List S67 × List S78 × List S155 × List Int × Int × Int)) (s : Nat → Option (List S67 × List S78 × List S155 × List Int × Int × Int)) : Prop where
  out : ∃ T' B' C' E' told code, m = some (T', B', C', E', told, code) ∧ Ev s (T', B', C', E', told, code) ∧ JL T' B' C' ∧ B'.length = B.length ∧ C'.length ≤ C.length + 1 ∧ E'.length ≤ E.length + 1 ∧ (code ≠ 0 → T' = T ∧ B' = B ∧ C' = C ∧ E' = E)
theorem Same.no {T : List S67} {B : List S78} {C : List S155} {E : List Int} (J : JL T B C) (code : Int) {m : Option (List S67 × List S78 × List S155 × List Int × Int × Int)} {s : Nat → Option (List S67 × List S78 × List S155 × List Int × Int × Int)} (hm : m = some (T, B, C, E, 0, code)) (hs : Ev s (T, B, C, E, 0, code)) : Same T B C E m s :=
  ⟨T, B, C, E, 0, code, hm, hs, J, rfl, by omega, by omega, fun _ => ⟨rfl, rfl, rfl, rfl⟩⟩
theorem Ev.of_eq {α : Type} {g g' : Nat → Option α} {r : α} (h1 : Ev g r) (h : g' = g) : Ev g' r := h ▸ h1
theorem inB_eq (a lo hi : Int) : inB a lo hi = decide (lo ≤ a ∧ a ≤ hi) := by
  unfold inB
  by_cases h1 : lo ≤ a <;> by_cases h2 : a ≤ hi <;> simp [h1, h2]
theorem inB_t {a lo hi : Int} (h1 : lo ≤ a) (h2 : a ≤ hi) : inB a lo hi = true := by rw [inB_eq, decide_eq_true ⟨h1, h2⟩]
theorem inB_f {a lo hi : Int} (h : ¬ (lo ≤ a ∧ a ≤ hi)) : inB a lo hi = false := by rw [inB_eq, decide_eq_false h]
/-- A thing is made. -/
theorem make_both {T : List S67} {B : List S78} {C : List S155} {E : List Int} (J : JL T B C) {part : Int} (h0 : 0 ≤ part) (h1 : part < B.length) (n : Int) :
    Same T B C E ((createR T B part n).bind fun r => some (r.1, r.2.1, C, E, r.2.2.1, r.2.2.2)) (fun k => (sMake k T B part n).bind fun q => some (q.1, q.2.1, C, E, q.2.2.1, q.2.2.2)) := by
  have tl := J.tl
  by_cases c1 : 0 ≤ n ∧ n ≤ 9
  rotate_left
  · refine Same.no J 1 ?_ ?_
    · unfold createR
      by_cases d : n < 0
      · rw [if_pos d]; rfl
      · rw [if_neg d, if_pos (by omega)]; rfl
    · refine Ev.bind (a := (T, B, 0, 1)) ?_ (Ev.const _)
      unfold sMake
      exact Ev.pos (inB_f c1) (Ev.const _)
  have q1 : createR T B part n = if (T.length : Int) = 40 then some (T, B, 0, 5) else (if fullR (rd_T78 B part).f0 (rd_T78 B part).f1 = true then some (T, B, 0, 5) else
    (addR (rd_T78 B part).f0 (rd_T78 B part).f1 ⟨true, n, (T.length : Int), true, 0, 0⟩).bind fun r => some (T ++ [⟨n, true⟩], B.set part.toNat ⟨r.1, r.2.1⟩, r.2.2, 0)) := by
    unfold createR
    rw [if_neg (by omega), if_neg (by omega), if_neg (by omega), if_neg (by omega), if_pos (by omega)]
  have q2 : ∀ r, Ev (fun k => if (T.length : Int) = 40 then some (T, B, 0, 5) else (spec_l16Full.f (rd_T78 B part).f0 (rd_T78 B part).f1).bind fun fl => if fl = true then some (T, B, 0, 5) else
      (spec_NewHandle.f k (rd_T78 B part).f0 (rd_T78 B part).f1 true n (T.length : Int) true 0 0).bind fun r => some (T ++ [⟨n, true⟩], B.set part.toNat ⟨r.1, r.2.1⟩, r.2.2.1, 0)) r → Ev (fun k => sMake k T B part n) r := by
    intro r hr
    refine hr.of_eq (funext fun k => ?_)
    unfold sMake
    rw [if_neg (by rw [inB_t c1.1 c1.2]; simp)]
    by_cases e : (T.length : Int) = 40
    · rw [if_pos e, if_pos e]
    · rw [if_neg e, if_neg e, if_neg (by omega), if_neg (by omega)]
      simp only [show T.length < 1048576 by omega, if_true]
  by_cases e : (T.length : Int) = 40
  · refine Same.no J 5 ?_ (Ev.bind (q2 _ (Ev.pos e (Ev.const _))) (Ev.const _))
    rw [q1, if_pos e]
    rfl
  have gt := J.g _ (mem_rd h0 h1)
  cases hf : fullR (rd_T78 B part).f0 (rd_T78 B part).f1 with
  | true =>
    refine Same.no J 5 ?_ (Ev.bind (q2 _ (Ev.neg e (Ev.bind (Ev.of (spec_full _ _)) (Ev.pos hf (Ev.const _))))) (Ev.const _))
    rw [q1, if_neg e, if_pos hf]
    rfl
  | false =>
    have hh : hok ⟨true, n, (T.length : Int), true, 0, 0⟩ = true := hok_mk rfl c1.1 c1.2 (show (0 : Int) ≤ (T.length : Int) by omega) (show (T.length : Int) ≤ 1000000 by omega) (Int.le_refl 0) (show (0 : Int) ≤ 1000 by decide) (Int.le_refl 0) (show (0 : Int) ≤ 1000 by decide) ⟨fun _ => rfl, fun _ => rfl⟩
    obtain ⟨S', F', a, r1, r2, r3, r4, r5, r6⟩ := add_ok gt hh rfl hf
    refine ⟨T ++ [⟨n, true⟩], B.set part.toNat ⟨S', F'⟩, C, E, a, 0, ?_, ?_, ?_, by simp, by omega, by omega, fun c => absurd rfl c⟩
    · rw [q1, if_neg e, if_neg (by rw [hf]; simp), r1]
      rfl
    · exact Ev.bind (q2 _ (Ev.neg e (Ev.bind (Ev.of (spec_full _ _)) (Ev.neg (by rw [hf]; simp) (Ev.bind r6 (Ev.const _)))))) (Ev.const _)
    · have J' : JL (T ++ [⟨n, true⟩]) B C := J.things (by simp) (by simp; omega)
      exact J'.put_own h0 h1 (t := ⟨S', F'⟩) r2 r5 r4 rfl rfl (show (T.length : Int) < ((T ++ [(⟨n, true⟩ : S67)]).length : Int) by rw [List.length_append, List.length_singleton]; omega)
/-- The last loan is ended. -/
theorem end_both {T : List S67} {B : List S78} {C : List S155} {E : List Int} (J : JL T B C) (hC : C.length ≠ 0) :
    Same T B C E ((endR B C).bind fun r => some (T, r.1, r.2.1, E, r.2.2, 0)) (fun k => (sEnd k B C).bind fun q => some (T, q.1, q.2.1, E, q.2.2.1, q.2.2.2)) := by
  have hm : ((C.length : Int) - 1) = ((C.length - 1 : Nat) : Int) := by omega
  have L := J.l (C.length - 1) (by omega)
  have hC' : C = C.take (C.length - 1) ++ [rd_T155 C ((C.length - 1 : Nat) : Int)] := by
    rw [rdC C _ (by omega), List.take_append_getElem (show C.length - 1 < C.length by omega), show C.length - 1 + 1 = C.length by omega, List.take_length]
  have hl' : (C.take (C.length - 1)).length = C.length - 1 := by simp
  generalize hx : rd_T155 C ((C.length - 1 : Nat) : Int) = x at *
  obtain ⟨L1, L2, L3, L4, L5⟩ := L
  have i1 := slotV_in L1
  have i2 := slotV_in L3
  have hgt := J.g _ (mem_rd i2.1 i2.2.1)
  have L3' := L3
  have L4' := L4
  rw [slotV_at i2.1] at L3' L4'
  have hl4 : (slotT (rd_T78 B x.f2).f0 x.f3).f4 = 0 := by
    have := J.n x.f2 x.f3 L3
    rw [if_neg (by rw [L4]; simp), slotV_at i2.1] at this
    exact this
  obtain ⟨d1, d2, d3, d4, -⟩ := drop_ok hgt L3' rfl hl4
  -- the tables behind the drop
  have hv := slotV_set i2.1 i2.2.1 (t := ⟨(rd_T78 B x.f2).f0.set x.f3.toNat z75, (rd_T78 B x.f2).f1 ++ [x.f3]⟩) d3
  have hg1 := g_set J.g x.f2 (t := ⟨(rd_T78 B x.f2).f0.set x.f3.toNat z75, (rd_T78 B x.f2).f1 ++ [x.f3]⟩) d2
  have hB1 : (B.set x.f2.toNat (⟨(rd_T78 B x.f2).f0.set x.f3.toNat z75, (rd_T78 B x.f2).f1 ++ [x.f3]⟩ : S78)).length = B.length := by simp
  generalize hB1e : B.set x.f2.toNat (⟨(rd_T78 B x.f2).f0.set x.f3.toNat z75, (rd_T78 B x.f2).f1 ++ [x.f3]⟩ : S78) = B1 at *
  have hne : ¬ (x.f0 = x.f2 ∧ x.f1 = x.f3) := fun c => by
    rw [c.1, c.2, L4] at L2
    simp at L2
  have e1 : slotV B1 x.f0 x.f1 = slotV B x.f0 x.f1 := by rw [hv, if_neg hne]
  have M1 : (slotV B1 x.f0 x.f1).f0 = true := by rw [e1]; exact L1
  have i3 := slotV_in M1
  have hs0 : rd_T75 (rd_T78 B1 x.f0).f0 x.f1 = slotV B x.f0 x.f1 := by
    rw [← e1, slotV_at i3.1, slotT_at i3.2.2.1 i3.2.2.2]
  have hs1 : rd_T75 (rd_T78 B x.f2).f0 x.f3 = slotV B x.f2 x.f3 := by
    rw [slotV_at i2.1, slotT_at i2.2.2.1 i2.2.2.2]
  have hn0 := J.n x.f0 x.f1 L1
  rw [if_pos L2] at hn0
  have hc1 : 1 ≤ cnt C x.f0 x.f1 := by
    rw [hC', cnt_app, if_pos ⟨rfl, rfl⟩]
    omega
  have hcl := cnt_le C x.f0 x.f1
  have J4 := J.cl
  have hw : wrap64 ((slotV B x.f0 x.f1).f4 - 1) = (slotV B x.f0 x.f1).f4 - 1 := wrap_in (by omega) (by omega)
  -- the handle that was lent
  have hok0 : hok (slotV B x.f0 x.f1) = true := by
    have := gs_slot (J.g _ (mem_rd i1.1 i1.2.1)) (a := x.f1) (by rw [← slotV_at i1.1]; exact L1)
    rwa [← slotV_at i1.1] at this
  obtain ⟨k0, k1, k2, k3, k4, k5, k6, k7, k8, k9⟩ := hok_lends hok0
  have hgB := hg1 _ (mem_rd i3.1 i3.2.1)
  have hput := GS_put hgB (a := x.f1) (h := { slotV B x.f0 x.f1 with f4 := (slotV B x.f0 x.f1).f4 - 1 }) (by rw [← slotV_at i3.1]; exact M1) (hok_mk k0 k1 k2 k3 k4 (by simp; omega) (by simp; omega) k7 k8 k9)
  have hv2 := slotV_set i3.1 i3.2.1 (t := ⟨(rd_T78 B1 x.f0).f0.set x.f1.toNat { slotV B x.f0 x.f1 with f4 := (slotV B x.f0 x.f1).f4 - 1 }, (rd_T78 B1 x.f0).f1⟩) (fun q => slotT_set i3.2.2.1 i3.2.2.2 { slotV B x.f0 x.f1 with f4 := (slotV B x.f0 x.f1).f4 - 1 } q)
  have hg2 := g_set hg1 x.f0 (t := ⟨(rd_T78 B1 x.f0).f0.set x.f1.toNat { slotV B x.f0 x.f1 with f4 := (slotV B x.f0 x.f1).f4 - 1 }, (rd_T78 B1 x.f0).f1⟩) hput
  have hB2 : (B1.set x.f0.toNat (⟨(rd_T78 B1 x.f0).f0.set x.f1.toNat { slotV B x.f0 x.f1 with f4 := (slotV B x.f0 x.f1).f4 - 1 }, (rd_T78 B1 x.f0).f1⟩ : S78)).length = B.length := by simp [hB1]
  refine ⟨T, B1.set x.f0.toNat ⟨(rd_T78 B1 x.f0).f0.set x.f1.toNat { slotV B x.f0 x.f1 with f4 := (slotV B x.f0 x.f1).f4 - 1 }, (rd_T78 B1 x.f0).f1⟩, C.take (C.length - 1), E, (slotV B x.f2 x.f3).f2, 0, ?_, ?_, ?_, hB2, by omega, by omega, fun c => absurd rfl c⟩
  · unfold endR
    dsimp only
    rw [if_neg hC, hm, hx, if_neg (by omega), if_neg (by omega), if_neg (by omega), if_neg (by omega), d1]
    simp only [Option.bind_some]
    rw [hB1e, if_neg (by omega), if_neg (by omega), if_neg (by omega), if_neg (by omega), hs0, hs1, hw]
    rfl
  · refine Ev.bind (a := (B1.set x.f0.toNat ⟨(rd_T78 B1 x.f0).f0.set x.f1.toNat { slotV B x.f0 x.f1 with f4 := (slotV B x.f0 x.f1).f4 - 1 }, (rd_T78 B1 x.f0).f1⟩, C.take (C.length - 1), (slotV B x.f2 x.f3).f2, 0)) ?_ (Ev.const _)
    unfold sEnd
    dsimp only
    rw [hm, hx]
    refine Ev.neg hC (Ev.neg (by omega) (Ev.neg (by omega) (Ev.neg (by omega) (Ev.neg (by omega) ?_))))
    rw [hs1]
    have d4' := d4
    rw [← slotV_at i2.1] at d4'
    refine Ev.bind d4' ?_
    dsimp only
    rw [hB1e]
    refine Ev.neg (by omega) (Ev.neg (by omega) (Ev.neg (by omega) (Ev.neg (by omega) ?_)))
    rw [hs0, hw]
    exact Ev.const _
  · refine ⟨hg2, by rw [hB2]; exact J.bl, J.tl, by omega, fun p q c d => ?_, fun i hi => ?_, fun p q c => ?_⟩
    · rw [hv2] at c d ⊢
      by_cases e : p = x.f0 ∧ q = x.f1
      · rw [if_pos e]
        exact J.r _ _ L1 L2
      · rw [if_neg e] at c d ⊢
        rw [hv] at c d ⊢
        by_cases e' : p = x.f2 ∧ q = x.f3
        · rw [if_pos e'] at c; exact absurd c (by decide)
        · rw [if_neg e'] at c d ⊢; exact J.r p q c d
    · rw [hl'] at hi
      have hr : rd_T155 (C.take (C.length - 1)) i = rd_T155 C i := by
        rw [rdC _ i (by omega), rdC C i (by omega), List.getElem_take]
      rw [hr]
      have Li := J.l i (by omega)
      have L' : LK B1 i (rd_T155 C i) := Li.put hv (fun c => by
        have := Li.2.1
        rw [c.1, c.2, L4] at this
        simp at this) (fun c => by
        have := Li.2.2.2.2
        rw [c.1, c.2, L5] at this
        omega)
      refine L'.put hv2 (fun c => ⟨k0, L2⟩) (fun c => ?_)
      have := L'.2.2.2.1
      rw [c.1, c.2, e1, L2] at this
      simp at this
    · rw [hv2] at c ⊢
      have hcp : cnt C p q = cnt (C.take (C.length - 1)) p q + if x.f0 = p ∧ x.f1 = q then 1 else 0 := by
        conv => lhs; rw [hC']
        exact cnt_app _ _ _ _
      by_cases e : p = x.f0 ∧ q = x.f1
      · rw [if_pos e]
        rw [e.1, e.2, if_pos ⟨rfl, rfl⟩] at hcp
        dsimp only
        rw [if_pos L2, e.1, e.2]
        omega
      · rw [if_neg e] at c ⊢
        rw [hv] at c ⊢
        rw [if_neg (fun z => e ⟨z.1.symm, z.2.symm⟩)] at hcp
        by_cases e' : p = x.f2 ∧ q = x.f3
        · rw [if_pos e'] at c; exact absurd c (by decide)
        · rw [if_neg e'] at c ⊢
          rw [J.n p q c, hcp]
          rfl
theorem Same.re {T : List S67} {B : List S78} {C : List S155} {E : List Int} {m m' : Option (List S67 × List S78 × List S155 × List Int × Int × Int)} {s s' : Nat → Option (List S67 × List S78 × List S155 × List Int × Int × Int)} (h : Same T B C E m s) (hm : m' = m) (hs : ∀ r, Ev s r → Ev s' r) : Same T B C E m' s' := by
  obtain ⟨T', B', C', E', told, code, h1, h2, h3⟩ := h.out
  exact ⟨T', B', C', E', told, code, hm.trans h1, hs _ h2, h3⟩
theorem let_both {T : List S67} {B : List S78} {C : List S155} {E : List Int} (J : JL T B C) (hE : E.length < 1000000) {part : Int} (h0 : 0 ≤ part) (h1 : part < B.length) (at_ n : Int) : Same T B C E (letR T B C E part at_ n) (fun k => sDrop k T B C E part at_ n) := by
  have gt := J.g _ (mem_rd h0 h1)
  have hfd := spec_find _ (gs_len gt).1 (rd_T78 B part).f1 at_ n
  have s0 : ∀ r, Ev (fun k => if (findT (rd_T78 B part).f0 at_ n).2.2.2.2.2.2 = 0 then (if (findT (rd_T78 B part).f0 at_ n).2.2.2.1 = true then (if (findT (rd_T78 B part).f0 at_ n).2.2.2.2.1 = 0 then
        (spec_DropHandle.f k (rd_T78 B part).f0 (rd_T78 B part).f1 at_ n).bind fun d =>
          if (findT (rd_T78 B part).f0 at_ n).2.2.1 < 0 then none else if (findT (rd_T78 B part).f0 at_ n).2.2.1 ≥ (T.length : Int) then none else if E.length < 1048576 then
          some (T.set (findT (rd_T78 B part).f0 at_ n).2.2.1.toNat { rd_T67 T (findT (rd_T78 B part).f0 at_ n).2.2.1 with f1 := false }, B.set part.toNat ⟨d.1, d.2.1⟩, C, E ++ [(findT (rd_T78 B part).f0 at_ n).2.2.1], (findT (rd_T78 B part).f0 at_ n).2.2.1, 0) else none
      else some (T, B, C, E, 0, 4))
      else (if (findT (rd_T78 B part).f0 at_ n).2.2.2.2.2.1 = (C.length : Int) then (sEnd k B C).bind fun q => some (T, q.1, q.2.1, E, q.2.2.1, q.2.2.2) else some (T, B, C, E, 0, 4)))
    else some (T, B, C, E, 0, (findT (rd_T78 B part).f0 at_ n).2.2.2.2.2.2)) r → Ev (fun k => sDrop k T B C E part at_ n) r := by
    intro r hr
    unfold sDrop
    exact Ev.neg (by omega) (Ev.neg (by omega) (Ev.bind hfd hr))
  have m0 : letR T B C E part at_ n = (if (findR (rd_T78 B part).f0 at_ n).2 = 0 then (if (findR (rd_T78 B part).f0 at_ n).1.f3 = true then
      (if (findR (rd_T78 B part).f0 at_ n).1.f4 = 0 then (dropR (rd_T78 B part).f0 (rd_T78 B part).f1 at_).bind fun d =>
        (if (findR (rd_T78 B part).f0 at_ n).1.f2 < 0 then none else (if (findR (rd_T78 B part).f0 at_ n).1.f2 ≥ (T.length : Int) then none else (if E.length < 1048576 then
          some (T.set (findR (rd_T78 B part).f0 at_ n).1.f2.toNat { rd_T67 T (findR (rd_T78 B part).f0 at_ n).1.f2 with f1 := false }, B.set part.toNat ⟨d.1, d.2⟩, C, E ++ [(findR (rd_T78 B part).f0 at_ n).1.f2], (findR (rd_T78 B part).f0 at_ n).1.f2, 0) else none)))
      else some (T, B, C, E, 0, 4)) else (if (findR (rd_T78 B part).f0 at_ n).1.f5 = (C.length : Int) then (endR B C).bind fun r => some (T, r.1, r.2.1, E, r.2.2, 0) else some (T, B, C, E, 0, 4)))
    else some (T, B, C, E, 0, (findR (rd_T78 B part).f0 at_ n).2)) := by
    unfold letR
    rw [if_neg (by omega), if_neg (by omega)]
  unfold findT at s0
  dsimp only at s0
  by_cases c : (findR (rd_T78 B part).f0 at_ n).2 = 0
  rotate_left
  · exact Same.no J _ (by rw [m0, if_neg c]) (s0 _ (Ev.neg c (Ev.const _)))
  obtain ⟨a0, a1, hu, hr, hf, -⟩ := findR_ok c
  rw [hf] at m0 s0
  have hk := gs_slot gt hu
  obtain ⟨k0, k1, k2, k3, k4, k5, k6, k7, k8, k9⟩ := hok_lends hk
  by_cases ho : (slotT (rd_T78 B part).f0 at_).f3 = true
  · by_cases hz : (slotT (rd_T78 B part).f0 at_).f4 = 0
    · obtain ⟨d1, d2, d3, d4, -⟩ := drop_ok gt hu hr hz
      have hJr : (slotT (rd_T78 B part).f0 at_).f2 < T.length := by
        have := J.r part at_ (by rw [slotV_at h0]; exact hu) (by rw [slotV_at h0]; exact ho)
        rwa [slotV_at h0] at this
      refine ⟨_, _, _, _, _, _, ?_, s0 _ (Ev.pos c (Ev.pos ho (Ev.pos hz (Ev.bind d4 (Ev.neg (by omega) (Ev.neg (by omega) (Ev.pos (by omega) (Ev.const _)))))))), ?_, ?_, ?_, ?_, fun z => absurd rfl z⟩
      · rw [m0, if_pos c, if_pos ho, if_pos hz, d1]
        simp only [Option.bind_some]
        rw [if_neg (by omega), if_neg (by omega), if_pos (by omega)]
      · exact (J.take h0 h1 (t := ⟨(rd_T78 B part).f0.set at_.toNat z75, (rd_T78 B part).f1 ++ [at_]⟩) d2 d3 hu ho hz).things (by simp) (by have := J.tl; simpa using this)
      · simp
      · omega
      · simp
    · exact Same.no J 4 (by rw [m0, if_pos c, if_pos ho, if_neg hz]) (s0 _ (Ev.pos c (Ev.pos ho (Ev.neg hz (Ev.const _)))))
  · by_cases hz : (slotT (rd_T78 B part).f0 at_).f5 = (C.length : Int)
    · have hC : C.length ≠ 0 := fun z => ho (k9.mpr (by omega))
      exact (end_both (E := E) J hC).re (by rw [m0, if_pos c, if_neg ho, if_pos hz]) (fun r hr => s0 _ (Ev.pos c (Ev.neg ho (Ev.pos hz hr))))
    · exact Same.no J 4 (by rw [m0, if_pos c, if_neg ho, if_neg hz]) (s0 _ (Ev.pos c (Ev.neg ho (Ev.neg hz (Ev.const _)))))
theorem give_both {T : List S67} {B : List S78} {C : List S155} {E : List Int} (J : JL T B C) {part to_ : Int} (h0 : 0 ≤ part) (h1 : part < B.length) (g0 : 0 ≤ to_) (g1 : to_ < B.length) (hne : to_ ≠ part) (at_ n : Int) {s : Nat → Option (List S67 × List S78 × List S155 × List Int × Int × Int)}
    (hs : ∀ r, Ev (fun k => if (findR (rd_T78 B part).f0 at_ n).2 = 0 then (if (findR (rd_T78 B part).f0 at_ n).1.f3 = true then (if (findR (rd_T78 B part).f0 at_ n).1.f4 ≠ 0 then some (T, B, C, E, 0, 4) else
      if fullR (rd_T78 B to_).f0 (rd_T78 B to_).f1 = true then some (T, B, C, E, 0, 5) else (sGive k B part at_ to_ n).bind fun q => some (T, q.1, C, E, q.2, 0))
      else some (T, B, C, E, 0, 6)) else some (T, B, C, E, 0, (findR (rd_T78 B part).f0 at_ n).2)) r → Ev s r) : Same T B C E ((giveR B part at_ to_ n).bind fun r => some (T, r.1, C, E, r.2.1, r.2.2)) s := by
  have gt := J.g _ (mem_rd h0 h1)
  have m0 : giveR B part at_ to_ n = (if (findR (rd_T78 B part).f0 at_ n).2 = 0 then (if (findR (rd_T78 B part).f0 at_ n).1.f3 = true then (if (findR (rd_T78 B part).f0 at_ n).1.f4 = 0 then (if fullR (rd_T78 B to_).f0 (rd_T78 B to_).f1 = true then some (B, 0, 5) else
      ((dropR (rd_T78 B part).f0 (rd_T78 B part).f1 at_).bind fun d => (addR (rd_T78 (B.set part.toNat ⟨d.1, d.2⟩) to_).f0 (rd_T78 (B.set part.toNat ⟨d.1, d.2⟩) to_).f1 (findR (rd_T78 B part).f0 at_ n).1).bind fun r => some ((B.set part.toNat ⟨d.1, d.2⟩).set to_.toNat ⟨r.1, r.2.1⟩, r.2.2, 0)))
      else some (B, 0, 4)) else some (B, 0, 6)) else some (B, 0, (findR (rd_T78 B part).f0 at_ n).2)) := by
    unfold giveR
    rw [if_neg (by omega), if_neg (by omega), if_neg (by omega), if_neg (by omega)]
  by_cases c : (findR (rd_T78 B part).f0 at_ n).2 = 0
  rotate_left
  · exact Same.no J _ (by rw [m0, if_neg c]; rfl) (hs _ (Ev.neg c (Ev.const _)))
  obtain ⟨a0, a1, hu, hr, hf, -⟩ := findR_ok c
  rw [hf] at m0 hs
  have hk := gs_slot gt hu
  by_cases ho : (slotT (rd_T78 B part).f0 at_).f3 = true
  rotate_left
  · exact Same.no J 6 (by rw [m0, if_pos c, if_neg ho]; rfl) (hs _ (Ev.pos c (Ev.neg ho (Ev.const _))))
  by_cases hz : (slotT (rd_T78 B part).f0 at_).f4 = 0
  rotate_left
  · exact Same.no J 4 (by rw [m0, if_pos c, if_pos ho, if_neg hz]; rfl) (hs _ (Ev.pos c (Ev.pos ho (Ev.pos hz (Ev.const _)))))
  cases hfl : fullR (rd_T78 B to_).f0 (rd_T78 B to_).f1 with
  | true => exact Same.no J 5 (by rw [m0, if_pos c, if_pos ho, if_pos hz, if_pos hfl]; rfl) (hs _ (Ev.pos c (Ev.pos ho (Ev.neg (by simp [hz]) (Ev.pos hfl (Ev.const _))))))
  | false =>
    obtain ⟨d1, d2, d3, d4, d5⟩ := drop_ok gt hu hr hz
    have J1 := J.take h0 h1 (t := ⟨(rd_T78 B part).f0.set at_.toNat z75, (rd_T78 B part).f1 ++ [at_]⟩) d2 d3 hu ho hz
    have hrd := rdT78_set h0 h1 (⟨(rd_T78 B part).f0.set at_.toNat z75, (rd_T78 B part).f1 ++ [at_]⟩ : S78) to_ g0
    rw [if_neg hne] at hrd
    have hJr : (slotT (rd_T78 B part).f0 at_).f2 < T.length := by
      have := J.r part at_ (by rw [slotV_at h0]; exact hu) (by rw [slotV_at h0]; exact ho)
      rwa [slotV_at h0] at this
    generalize hx : slotT (rd_T78 B part).f0 at_ = x at *
    obtain ⟨S', F', a, r1, r2, r3, r4, r5, r6⟩ := add_ok (J.g _ (mem_rd g0 g1)) hk hz hfl
    rw [← hrd] at r1 r4 r5 r6
    refine ⟨T, (B.set part.toNat ⟨(rd_T78 B part).f0.set at_.toNat z75, (rd_T78 B part).f1 ++ [at_]⟩).set to_.toNat ⟨S', F'⟩, C, E, a, 0, ?_, hs _ (Ev.pos c (Ev.pos ho (Ev.neg (by simp [hz]) (Ev.neg (by rw [hfl]; simp) (Ev.bind (a := ((B.set part.toNat ⟨(rd_T78 B part).f0.set at_.toNat z75, (rd_T78 B part).f1 ++ [at_]⟩).set to_.toNat ⟨S', F'⟩, a)) ?_ (Ev.const _)))))), ?_, by simp, by omega, by omega, fun z => absurd rfl z⟩
    · rw [m0, if_pos c, if_pos ho, if_pos hz, if_neg (by rw [hfl]; simp), d1]
      simp only [Option.bind_some]
      rw [r1]
      rfl
    · unfold sGive
      refine Ev.bind (d5 ho) ?_
      dsimp only
      exact Ev.bind r6 (Ev.const _)
    · exact J1.put_own g0 (by simpa using g1) (t := ⟨S', F'⟩) r2 r5 r4 ho hz hJr
theorem lend_both {T : List S67} {B : List S78} {C : List S155} {E : List Int} (J : JL T B C) (hC : C.length < 300) {part to_ : Int} (h0 : 0 ≤ part) (h1 : part < B.length) (g0 : 0 ≤ to_) (g1 : to_ < B.length) (hne : to_ ≠ part) (at_ n : Int) {s : Nat → Option (List S67 × List S78 × List S155 × List Int × Int × Int)}
    (hs : ∀ r, Ev (fun k => if (findR (rd_T78 B part).f0 at_ n).2 = 0 then (if (findR (rd_T78 B part).f0 at_ n).1.f3 = true then (
      if fullR (rd_T78 B to_).f0 (rd_T78 B to_).f1 = true then some (T, B, C, E, 0, 5) else (sLend k B C part at_ to_ (findR (rd_T78 B part).f0 at_ n).1.f1 (findR (rd_T78 B part).f0 at_ n).1.f2).bind fun q => some (T, q.1, q.2.1, E, q.2.2, 0))
      else some (T, B, C, E, 0, 6)) else some (T, B, C, E, 0, (findR (rd_T78 B part).f0 at_ n).2)) r → Ev s r) : Same T B C E ((lendR B C part at_ to_ n).bind fun r => some (T, r.1, r.2.1, E, r.2.2.1, r.2.2.2)) s := by
  have gt := J.g _ (mem_rd h0 h1)
  have m0 : lendR B C part at_ to_ n = (if (findR (rd_T78 B part).f0 at_ n).2 = 0 then (if (findR (rd_T78 B part).f0 at_ n).1.f3 = true then (if fullR (rd_T78 B to_).f0 (rd_T78 B to_).f1 = true then some (B, C, 0, 5) else (if at_ < 0 then none else (if at_ ≥ ((rd_T78 B part).f0.length : Int) then none else (if C.length < 1048576 then
      ((addR (rd_T78 (lentB B part at_) to_).f0 (rd_T78 (lentB B part at_) to_).f1 ⟨true, (findR (rd_T78 B part).f0 at_ n).1.f1, (findR (rd_T78 B part).f0 at_ n).1.f2, false, 0, (C.length : Int) + 1⟩).bind fun r =>
        some ((lentB B part at_).set to_.toNat ⟨r.1, r.2.1⟩, C ++ [⟨part, at_, to_, r.2.2⟩], r.2.2, 0)) else none))))
      else some (B, C, 0, 6)) else some (B, C, 0, (findR (rd_T78 B part).f0 at_ n).2)) := by
    unfold lendR lentB
    rw [if_neg (by omega), if_neg (by omega), if_neg (by omega), if_neg (by omega)]
  by_cases c : (findR (rd_T78 B part).f0 at_ n).2 = 0
  rotate_left
  · exact Same.no J _ (by rw [m0, if_neg c]; rfl) (hs _ (Ev.neg c (Ev.const _)))
  obtain ⟨a0, a1, hu, hr, hf, hrd0⟩ := findR_ok c
  rw [hf] at m0 hs
  have hk := gs_slot gt hu
  by_cases ho : (slotT (rd_T78 B part).f0 at_).f3 = true
  rotate_left
  · exact Same.no J 6 (by rw [m0, if_pos c, if_neg ho]; rfl) (hs _ (Ev.pos c (Ev.neg ho (Ev.const _))))
  cases hfl : fullR (rd_T78 B to_).f0 (rd_T78 B to_).f1 with
  | true => exact Same.no J 5 (by rw [m0, if_pos c, if_pos ho, if_pos hfl]; rfl) (hs _ (Ev.pos c (Ev.pos ho (Ev.pos hfl (Ev.const _)))))
  | false =>
    obtain ⟨k0, k1, k2, k3, k4, k5, k6, k7, k8, k9⟩ := hok_lends hk
    have hn0 := J.n part at_ (by rw [slotV_at h0]; exact hu)
    rw [slotV_at h0, if_pos ho] at hn0
    have hcl := cnt_le C part at_
    have hw : wrap64 ((slotT (rd_T78 B part).f0 at_).f4 + 1) = (slotT (rd_T78 B part).f0 at_).f4 + 1 := wrap_in (by omega) (by omega)
    have hL : lentB B part at_ = B.set part.toNat ⟨(rd_T78 B part).f0.set at_.toNat { slotT (rd_T78 B part).f0 at_ with f4 := (slotT (rd_T78 B part).f0 at_).f4 + 1 }, (rd_T78 B part).f1⟩ := by
      unfold lentB
      rw [hrd0, hw]
    have hput := GS_put gt hu (h := { slotT (rd_T78 B part).f0 at_ with f4 := (slotT (rd_T78 B part).f0 at_).f4 + 1 }) (hok_mk k0 k1 k2 k3 k4 (show (0 : Int) ≤ (slotT (rd_T78 B part).f0 at_).f4 + 1 by omega) (show (slotT (rd_T78 B part).f0 at_).f4 + 1 ≤ (1000 : Int) by omega) k7 k8 k9)
    have hv := slotV_set h0 h1 (t := ⟨(rd_T78 B part).f0.set at_.toNat { slotT (rd_T78 B part).f0 at_ with f4 := (slotT (rd_T78 B part).f0 at_).f4 + 1 }, (rd_T78 B part).f1⟩) (fun q => slotT_set a0 a1 { slotT (rd_T78 B part).f0 at_ with f4 := (slotT (rd_T78 B part).f0 at_).f4 + 1 } q)
    have hg1 := g_set J.g part (t := ⟨(rd_T78 B part).f0.set at_.toNat { slotT (rd_T78 B part).f0 at_ with f4 := (slotT (rd_T78 B part).f0 at_).f4 + 1 }, (rd_T78 B part).f1⟩) hput
    have hrd := rdT78_set h0 h1 (⟨(rd_T78 B part).f0.set at_.toNat { slotT (rd_T78 B part).f0 at_ with f4 := (slotT (rd_T78 B part).f0 at_).f4 + 1 }, (rd_T78 B part).f1⟩ : S78) to_ g0
    rw [if_neg hne] at hrd
    rw [← hL] at hv hg1 hrd
    have hl1 : (lentB B part at_).length = B.length := by rw [hL]; simp
    generalize hB1 : lentB B part at_ = B1 at *
    have hVs : slotV B part at_ = slotT (rd_T78 B part).f0 at_ := slotV_at h0 at_
    generalize hx : slotT (rd_T78 B part).f0 at_ = x at *
    have hb : hok ⟨true, x.f1, x.f2, false, 0, (C.length : Int) + 1⟩ = true := hok_mk rfl k1 k2 k3 k4 (Int.le_refl 0) (show (0 : Int) ≤ 1000 by decide) (show (0 : Int) ≤ (C.length : Int) + 1 by omega) (show (C.length : Int) + 1 ≤ 1000 by omega) ⟨fun z => absurd z (show ¬ (false = true) by simp), fun z => absurd (show (C.length : Int) + 1 = 0 from z) (by omega)⟩
    obtain ⟨S', F', a, r1, r2, r3, r4, r5, r6⟩ := add_ok (J.g _ (mem_rd g0 g1)) hb rfl hfl
    rw [← hrd] at r1 r4 r5 r6
    have hv2 := slotV_set g0 (by omega) (t := ⟨S', F'⟩) r5
    have hun : (slotV B1 to_ a).f0 = false := by rw [slotV_at g0]; exact r4
    have hcn : (C ++ [(⟨part, at_, to_, a⟩ : S155)]).length = C.length + 1 := by simp
    refine ⟨T, B1.set to_.toNat ⟨S', F'⟩, C ++ [⟨part, at_, to_, a⟩], E, a, 0, ?_, hs _ (Ev.pos c (Ev.pos ho (Ev.neg (by rw [hfl]; simp) (Ev.bind (a := (B1.set to_.toNat ⟨S', F'⟩, C ++ [⟨part, at_, to_, a⟩], a)) ?_ (Ev.const _))))), ?_, by simp [hl1], by omega, by omega, fun z => absurd rfl z⟩
    · rw [m0, if_pos c, if_pos ho, if_neg (by rw [hfl]; simp), if_neg (by omega), if_neg (by omega), if_pos (by omega), r1]
      rfl
    · unfold sLend
      rw [hB1]
      refine Ev.neg (by omega) (Ev.neg (by omega) (Ev.pos (by omega) ?_))
      exact Ev.bind r6 (Ev.const _)
    · refine ⟨g_set hg1 to_ r2, by have := J.bl; simp [hl1]; omega, J.tl, by omega, fun p q cc d => ?_, fun i hi => ?_, fun p q cc => ?_⟩
      · rw [hv2] at cc d ⊢
        by_cases e : p = to_ ∧ q = a
        · rw [if_pos e] at d
          exact absurd d (by simp)
        · rw [if_neg e] at cc d ⊢
          rw [hv] at cc d ⊢
          by_cases e' : p = part ∧ q = at_
          · rw [if_pos e']
            have := J.r part at_ (by rw [hVs]; exact hu) (by rw [hVs]; exact ho)
            rw [hVs] at this
            exact this
          · rw [if_neg e'] at cc d ⊢
            exact J.r p q cc d
      · rw [hcn] at hi
        by_cases hi' : i < C.length
        · have hrc : rd_T155 (C ++ [(⟨part, at_, to_, a⟩ : S155)]) i = rd_T155 C i := by
            rw [rdC _ i (by omega), rdC C i hi', List.getElem_append_left hi']
          rw [hrc]
          have Li := J.l i hi'
          refine (Li.put hv (fun z => ⟨hu, ho⟩) (fun z => ?_)).other hv2 hun
          have := Li.2.2.2.1
          rw [z.1, z.2, hVs, ho] at this
          simp at this
        · have hi2 : i = C.length := by omega
          subst hi2
          have hrc : rd_T155 (C ++ [(⟨part, at_, to_, a⟩ : S155)]) (C.length : Nat) = ⟨part, at_, to_, a⟩ := by
            rw [rdC _ _ (by omega)]
            simp
          rw [hrc]
          unfold LK
          dsimp only
          rw [hv2 to_ a, if_pos ⟨rfl, rfl⟩, hv2 part at_, if_neg (fun z => hne z.1.symm), hv, if_pos ⟨rfl, rfl⟩]
          exact ⟨hu, ho, rfl, rfl, rfl⟩
      · rw [hv2] at cc ⊢
        rw [cnt_app]
        by_cases e : p = to_ ∧ q = a
        · rw [if_pos e]
          rfl
        · rw [if_neg e] at cc ⊢
          rw [hv] at cc ⊢
          by_cases e' : p = part ∧ q = at_
          · rw [if_pos e', e'.1, e'.2]
            dsimp only
            rw [if_pos ho, if_pos ⟨rfl, rfl⟩]
            omega
          · rw [if_neg e'] at cc ⊢
            have hz0 : (if part = p ∧ at_ = q then 1 else 0) = 0 := if_neg (fun z => e' ⟨z.1.symm, z.2.symm⟩)
            rw [hz0, J.n p q cc]
            rfl
/-- An act of the model is the reference's. -/
theorem act_both {T : List S67} {B : List S78} {C : List S155} {E : List Int} (J : JL T B C) (hC : C.length < 300) (hE : E.length < 1000000) (kind part at_ to_ n : Int) : Same T B C E (actR T B C E kind part at_ to_ n) (fun k => sDo k T B C E kind part at_ to_ n) := by
  by_cases c5 : kind = 5
  · by_cases hC0 : C.length = 0
    · refine Same.no J 2 (by unfold actR; rw [if_pos c5, if_pos hC0]) ?_
      unfold sDo
      refine Ev.pos c5 (Ev.bind (a := (B, C, 0, 2)) ?_ (Ev.const _))
      unfold sEnd
      exact Ev.pos hC0 (Ev.const _)
    · refine (end_both (E := E) J hC0).re (by unfold actR; rw [if_pos c5, if_neg hC0]) (fun r hr => ?_)
      unfold sDo
      exact Ev.pos c5 hr
  by_cases hp : 0 ≤ part ∧ part < B.length
  rotate_left
  · refine Same.no J 1 ?_ ?_
    · unfold actR
      rw [if_neg c5]
      by_cases d : part < 0
      · rw [if_pos d]
      · rw [if_neg d, if_pos (by omega)]
    · unfold sDo
      refine Ev.neg c5 ?_
      by_cases d : 1 ≤ kind ∧ kind ≤ 4
      · exact Ev.neg (by rw [inB_t d.1 d.2]; simp) (Ev.pos (inB_f (by omega)) (Ev.const _))
      · exact Ev.pos (inB_f d) (Ev.const _)
  obtain ⟨p0, p1⟩ := hp
  have hpi : ¬ inB part 0 ((B.length : Int) - 1) = false := by rw [inB_t p0 (by omega)]; simp
  by_cases c1 : kind = 1
  · refine (make_both (E := E) J p0 p1 n).re ?_ (fun r hr => ?_)
    · unfold actR
      rw [if_neg c5, if_neg (by omega), if_neg (by omega), if_pos c1]
    · unfold sDo
      exact Ev.neg c5 (Ev.neg (by rw [inB_t (by omega) (by omega)]; simp) (Ev.neg hpi (Ev.pos c1 hr)))
  by_cases c4 : kind = 4
  · refine (let_both J hE p0 p1 at_ n).re ?_ (fun r hr => ?_)
    · unfold actR
      rw [if_neg c5, if_neg (by omega), if_neg (by omega), if_neg c1, if_pos c4]
    · unfold sDo
      exact Ev.neg c5 (Ev.neg (by rw [inB_t (by omega) (by omega)]; simp) (Ev.neg hpi (Ev.neg c1 (Ev.pos c4 hr))))
  by_cases c23 : kind = 2 ∨ kind = 3
  rotate_left
  · refine Same.no J 1 ?_ ?_
    · unfold actR
      rw [if_neg c5, if_neg (by omega), if_neg (by omega), if_neg c1, if_neg c4, if_neg c23]
    · unfold sDo
      exact Ev.neg c5 (Ev.pos (inB_f (by omega)) (Ev.const _))
  have hki : ¬ inB kind 1 4 = false := by rw [inB_t (by omega) (by omega)]; simp
  have m0 : actR T B C E kind part at_ to_ n = (if to_ < 0 then some (T, B, C, E, 0, 1) else (if to_ ≥ (B.length : Int) then some (T, B, C, E, 0, 1) else (if to_ = part then some (T, B, C, E, 0, 1) else
      (if kind = 2 then (giveR B part at_ to_ n).bind fun r => some (T, r.1, C, E, r.2.1, r.2.2) else (lendR B C part at_ to_ n).bind fun r => some (T, r.1, r.2.1, E, r.2.2.1, r.2.2.2))))) := by
    unfold actR
    rw [if_neg c5, if_neg (by omega), if_neg (by omega), if_neg c1, if_neg c4, if_pos c23]
  by_cases ht : 0 ≤ to_ ∧ to_ < B.length
  rotate_left
  · refine Same.no J 1 ?_ ?_
    · rw [m0]
      by_cases d : to_ < 0
      · rw [if_pos d]
      · rw [if_neg d, if_pos (by omega)]
    · unfold sDo
      exact Ev.neg c5 (Ev.neg hki (Ev.neg hpi (Ev.neg c1 (Ev.neg c4 (Ev.pos (inB_f (by omega)) (Ev.const _))))))
  obtain ⟨t0, t1⟩ := ht
  have hti : ¬ inB to_ 0 ((B.length : Int) - 1) = false := by rw [inB_t t0 (by omega)]; simp
  rw [if_neg (by omega), if_neg (by omega)] at m0
  by_cases hne : to_ = part
  · refine Same.no J 1 (by rw [m0, if_pos hne]) ?_
    unfold sDo
    exact Ev.neg c5 (Ev.neg hki (Ev.neg hpi (Ev.neg c1 (Ev.neg c4 (Ev.neg hti (Ev.pos hne (Ev.const _)))))))
  rw [if_neg hne] at m0
  have hfd := spec_find _ (gs_len (J.g _ (mem_rd p0 p1))).1 (rd_T78 B part).f1 at_ n
  have s0 : ∀ r, Ev (fun k => if (findR (rd_T78 B part).f0 at_ n).2 = 0 then (if (findR (rd_T78 B part).f0 at_ n).1.f3 = true then (if kind = 2 ∧ (findR (rd_T78 B part).f0 at_ n).1.f4 ≠ 0 then some (T, B, C, E, 0, 4) else
      if fullR (rd_T78 B to_).f0 (rd_T78 B to_).f1 = true then some (T, B, C, E, 0, 5) else
        if kind = 2 then (sGive k B part at_ to_ n).bind fun q => some (T, q.1, C, E, q.2, 0) else (sLend k B C part at_ to_ (findR (rd_T78 B part).f0 at_ n).1.f1 (findR (rd_T78 B part).f0 at_ n).1.f2).bind fun q => some (T, q.1, q.2.1, E, q.2.2, 0))
      else some (T, B, C, E, 0, 6)) else some (T, B, C, E, 0, (findR (rd_T78 B part).f0 at_ n).2)) r → Ev (fun k => sDo k T B C E kind part at_ to_ n) r := by
    intro r hr
    unfold sDo
    refine Ev.neg c5 (Ev.neg hki (Ev.neg hpi (Ev.neg c1 (Ev.neg c4 (Ev.neg hti (Ev.neg hne (Ev.bind hfd ?_)))))))
    simp only [spec_full, Option.bind_some]
    exact hr
  by_cases c2 : kind = 2
  · refine (give_both (E := E) J p0 p1 t0 t1 hne at_ n (fun r hr => s0 r ?_)).re (by rw [m0, if_pos c2]) (fun r hr => hr)
    refine hr.of_eq (funext fun k => ?_)
    rw [if_pos c2]
    simp only [c2, true_and]
  · refine (lend_both (E := E) J hC p0 p1 t0 t1 hne at_ n (fun r hr => s0 r ?_)).re (by rw [m0, if_neg c2]) (fun r hr => hr)
    refine hr.of_eq (funext fun k => ?_)
    rw [if_neg c2]
    simp only [c2, false_and, if_false]
theorem to_gen {α β : Type} (c : α → β) (z : β) (rda : List α → Int → α) (hrd : ∀ (pre suf : List α) (x : α), rda (pre ++ x :: suf) (pre.length : Int) = x) (g : α → Nat → Option β) (l0 : Nat → List α → List β → Int → Option (List β))
    (h1 : ∀ k l acc (i : Int), ¬ i < (l.length : Int) → l0 (k + 1) l acc i = some acc)
    (h2 : ∀ k l acc (i : Int), i < (l.length : Int) → 0 ≤ i → i < (acc.length : Int) → l0 (k + 1) l acc i = (g (rda l i) k).bind fun y => l0 k l (acc.set i.toNat y) (wrap64 (i + 1))) :
    ∀ (suf pre : List α), (pre ++ suf).length ≤ 140737488351232 → (∀ x ∈ suf, Ev (g x) (c x)) → Ev (fun k => l0 k (pre ++ suf) (pre.map c ++ List.replicate suf.length z) (pre.length : Int)) ((pre ++ suf).map c)
  | [], pre, hl, hx => by
    refine Ev.step (g := fun _ => some ((pre ++ []).map c)) (fun k => ?_) (Ev.const _)
    rw [h1 _ _ _ _ (by simp)]
    simp
  | x :: suf, pre, hl, hx => by
    simp only [List.length_append, List.length_cons] at hl
    have ih := to_gen c z rda hrd g l0 h1 h2 suf (pre ++ [x]) (by simp; omega) (fun y hy => hx y (by simp [hy]))
    refine Ev.step (g := fun k => (g x k).bind fun y => l0 k (pre ++ x :: suf) ((pre.map c ++ List.replicate (x :: suf).length z).set ((pre.length : Int)).toNat y) (((pre ++ [x]).length : Nat) : Int)) (fun k => ?_) (Ev.bind (hx x (by simp)) ?_)
    · rw [h2 _ _ _ _ (by simp; omega) (by omega) (by simp; omega), hrd, wrap_in (by omega) (by omega)]
      simp
    · have hs : (pre.map c ++ List.replicate (x :: suf).length z).set ((pre.length : Int)).toNat (c x) = (pre ++ [x]).map c ++ List.replicate suf.length z := by
        rw [List.length_cons, List.replicate_succ]
        simp [List.set_append]
      rw [hs]
      simpa using ih
theorem eq_gen {α : Type} (rda : List α → Int → α) (q : α → Nat → Option Bool) (l : List α) (l0 : Nat → Int → Option Bool) (hl : l.length ≤ 140737488351232)
    (h1 : ∀ k (i : Int), ¬ i < (l.length : Int) → l0 (k + 1) i = some true)
    (h2 : ∀ k (i : Int), i < (l.length : Int) → 0 ≤ i → l0 (k + 1) i = (q (rda l i) k).bind fun t => if t = true then l0 k (wrap64 (i + 1)) else some false) (hx : ∀ x, Ev (q x) true) (d : Nat) : ∀ (i : Nat), i ≤ l.length → l.length - i = d → Ev (fun k => l0 k (i : Int)) true := by
  induction d with
  | zero =>
    intro i hi e
    refine Ev.step (g := fun _ => some true) (fun k => ?_) (Ev.const _)
    exact h1 _ _ (by omega)
  | succ d ih =>
    intro i hi e
    have := ih (i + 1) (by omega) (by omega)
    refine Ev.step (g := fun k => (q (rda l i) k).bind fun t => if t = true then l0 k ((i + 1 : Nat) : Int) else some false) (fun k => ?_) (Ev.bind (hx _) ?_)
    · rw [h2 _ _ (by omega) (by omega), wrap_in (by omega) (by omega)]
      rfl
    · exact Ev.pos rfl this
theorem eqIntS_ev (l : List Int) (h : l.length ≤ 140737488351232) : Ev (fun k => laws_eqIntS.f k l l) true := by
  have := eq_gen rd (fun _ _ => some true) l (fun k i => laws_eqIntS.l0 k l l i) h (fun k i c => by simp only [laws_eqIntS.l0]; rw [if_neg c]) (fun k i a b => by simp only [laws_eqIntS.l0]; rw [if_pos a, if_pos b, if_pos a, if_pos trivial]; rfl) (fun _ => Ev.const _) l.length 0 (Nat.zero_le _) (Nat.sub_zero _)
  refine Ev.eq (fun k => ?_) this
  unfold laws_eqIntS.f
  rw [if_pos rfl]
  rfl
theorem eqThingS_ev (l : List S67) (h : l.length ≤ 140737488351232) : Ev (fun k => laws_eqThingS.f k l l) true := by
  have := eq_gen rd_T67 (fun x _ => laws_eqThing.f x.f0 x.f1 x.f0 x.f1) l (fun k i => laws_eqThingS.l0 k l l i) h (fun k i c => by simp only [laws_eqThingS.l0]; rw [if_neg c]) (fun k i a b => by simp only [laws_eqThingS.l0]; rw [if_pos a, if_pos b, if_pos a]) (fun x => Ev.of (by unfold laws_eqThing.f; simp)) l.length 0 (Nat.zero_le _) (Nat.sub_zero _)
  refine Ev.eq (fun k => ?_) this
  unfold laws_eqThingS.f
  rw [if_pos rfl]
  rfl
theorem eqLoanS_ev (l : List S155) (h : l.length ≤ 140737488351232) : Ev (fun k => laws_eqLoanS.f k l l) true := by
  have := eq_gen rd_T155 (fun x _ => laws_eqLoan.f x.f0 x.f1 x.f2 x.f3 x.f0 x.f1 x.f2 x.f3) l (fun k i => laws_eqLoanS.l0 k l l i) h (fun k i c => by simp only [laws_eqLoanS.l0]; rw [if_neg c]) (fun k i a b => by simp only [laws_eqLoanS.l0]; rw [if_pos a, if_pos b, if_pos a]) (fun x => Ev.of (by unfold laws_eqLoan.f; simp)) l.length 0 (Nat.zero_le _) (Nat.sub_zero _)
  refine Ev.eq (fun k => ?_) this
  unfold laws_eqLoanS.f
  rw [if_pos rfl]
  rfl
theorem eqHandleS_ev (l : List S75) (h : l.length ≤ 140737488351232) : Ev (fun k => laws_eqHandleS.f k l l) true := by
  have := eq_gen rd_T75 (fun x _ => laws_eqHandle.f x.f0 x.f1 x.f2 x.f3 x.f4 x.f5 x.f0 x.f1 x.f2 x.f3 x.f4 x.f5) l (fun k i => laws_eqHandleS.l0 k l l i) h (fun k i c => by simp only [laws_eqHandleS.l0]; rw [if_neg c]) (fun k i a b => by simp only [laws_eqHandleS.l0]; rw [if_pos a, if_pos b, if_pos a]) (fun x => Ev.of (by unfold laws_eqHandle.f; simp)) l.length 0 (Nat.zero_le _) (Nat.sub_zero _)
  refine Ev.eq (fun k => ?_) this
  unfold laws_eqHandleS.f
  rw [if_pos rfl]
  rfl
theorem eqTable_ev (S : List S75) (F : List Int) (h : S.length ≤ 140737488351232) (h' : F.length ≤ 140737488351232) : Ev (fun k => laws_eqTable.f k S F S F) true := by
  unfold laws_eqTable.f
  exact Ev.bind (eqHandleS_ev S h) (Ev.pos rfl (Ev.bind (eqIntS_ev F h') (Ev.pos rfl (Ev.const _))))
theorem eq_genT {α : Type} (rda : List α → Int → α) (q : α → Nat → Option Bool) (l : List α) (l0 : Nat → Int → Option Bool) (hl : l.length ≤ 140737488351232)
    (h1 : ∀ k (i : Int), ¬ i < (l.length : Int) → l0 (k + 1) i = some true)
    (h2 : ∀ k (i : Int), i < (l.length : Int) → 0 ≤ i → l0 (k + 1) i = (q (rda l i) k).bind fun t => if t = true then l0 k (wrap64 (i + 1)) else some false) (hx : ∀ i : Nat, i < l.length → Ev (q (rda l i)) true) (d : Nat) : ∀ (i : Nat), i ≤ l.length → l.length - i = d → Ev (fun k => l0 k (i : Int)) true := by
  induction d with
  | zero =>
    intro i hi e
    refine Ev.step (g := fun _ => some true) (fun k => ?_) (Ev.const _)
    exact h1 _ _ (by omega)
  | succ d ih =>
    intro i hi e
    have := ih (i + 1) (by omega) (by omega)
    refine Ev.step (g := fun k => (q (rda l i) k).bind fun t => if t = true then l0 k ((i + 1 : Nat) : Int) else some false) (fun k => ?_) (Ev.bind (hx i (by omega)) ?_)
    · rw [h2 _ _ (by omega) (by omega), wrap_in (by omega) (by omega)]
      rfl
    · exact Ev.pos rfl this
theorem eqTableS_ev (l : List S78) (h : l.length ≤ 140737488351232) (hS : ∀ t ∈ l, t.f0.length ≤ 140737488351232 ∧ t.f1.length ≤ 140737488351232) : Ev (fun k => laws_eqTableS.f k l l) true := by
  have := eq_genT rd_T78 (fun t k => laws_eqTable.f k t.f0 t.f1 t.f0 t.f1) l (fun k i => laws_eqTableS.l0 k l l i) h (fun k i c => by simp only [laws_eqTableS.l0]; rw [if_neg c]) (fun k i a b => by simp only [laws_eqTableS.l0]; rw [if_pos a, if_pos b, if_pos a]) (fun i hi => by
    have := hS _ (mem_rd (B := l) (p := (i : Int)) (by omega) (by omega))
    exact eqTable_ev _ _ this.1 this.2) l.length 0 (Nat.zero_le _) (Nat.sub_zero _)
  refine Ev.eq (fun k => ?_) this
  unfold laws_eqTableS.f
  rw [if_pos rfl]
  rfl
theorem eqWorld_ev (T : List S67) (B : List S78) (C : List S155) (E : List Int) (hT : T.length ≤ 1048576) (hB : B.length ≤ 1048576) (hS : ∀ t ∈ B, t.f0.length ≤ 1048576 ∧ t.f1.length ≤ 1048576) (hC : C.length ≤ 1048576) (hE : E.length ≤ 1048576) : Ev (fun k => laws_eqWorld.f k T B C E T B C E) true := by
  unfold laws_eqWorld.f
  exact Ev.bind (eqThingS_ev T (by omega)) (Ev.pos rfl (Ev.bind (eqTableS_ev B (by omega) (fun t ht => by have := hS t ht; omega)) (Ev.pos rfl (Ev.bind (eqLoanS_ev C (by omega)) (Ev.pos rfl (Ev.bind (eqIntS_ev E (by omega)) (Ev.pos rfl (Ev.const _))))))))
theorem eqActS_ev (l : List S69) (h : l.length ≤ 140737488351232) : Ev (fun k => laws_eqActS.f k l l) true := by
  have := eq_gen rd_T69 (fun x _ => laws_eqAct.f x.f0 x.f1 x.f2 x.f3 x.f4 x.f0 x.f1 x.f2 x.f3 x.f4) l (fun k i => laws_eqActS.l0 k l l i) h (fun k i c => by simp only [laws_eqActS.l0]; rw [if_neg c]) (fun k i a b => by simp only [laws_eqActS.l0]; rw [if_pos a, if_pos b, if_pos a]) (fun x => Ev.of (by unfold laws_eqAct.f; simp)) l.length 0 (Nat.zero_le _) (Nat.sub_zero _)
  refine Ev.eq (fun k => ?_) this
  unfold laws_eqActS.f
  rw [if_pos rfl]
  rfl
def cAc (x : S86) : S69 := ⟨x.f0, x.f1, x.f2, x.f3, x.f4⟩
theorem toActS_ev (l : List S86) (h : l.length ≤ 1048576) : Ev (fun k => laws_toActS.f k l) (l.map cAc) := by
  refine Ev.eq (fun k => ?_) (to_gen cAc z69 rd_T86 (fun pre suf x => by simp [rd_T86]) (fun x _ => some (cAc x)) laws_toActS.l0 (fun k l acc i h => by simp only [laws_toActS.l0]; rw [if_neg h]) (fun k l acc i a b c => by simp only [laws_toActS.l0]; rw [if_pos a, if_pos b]; unfold laws_toAct.f; simp only [Option.bind_some]; rw [if_pos c]; rfl) l [] (by simp; omega) (fun _ _ => Ev.const _))
  unfold laws_toActS.f
  rw [if_pos (by omega), if_pos (by omega)]
  simp
theorem nx_in {x : Int} (h0 : 0 ≤ x) (h : x < 9223372036854775807) : nx x = x + 1 := wrap_in (by omega) (by omega)
theorem mkF_in (nxt : Int → Int) (c : Nat) (hn : ∀ x, 0 ≤ x → x ≤ 1152921504606846976 → nxt x = x + c) : ∀ (n : Nat) (x : Int), 0 ≤ x → x + c * n ≤ 1152921504606846976 → mkF nxt n x = x + c * n
  | 0, x, _, _ => by simp [mkF]
  | n + 1, x, h0, h => by
    rw [Int.natCast_add, Int.mul_add] at h
    have hc : 0 ≤ (c : Int) * n := Int.mul_nonneg (by omega) (by omega)
    rw [mkF, hn x h0 (by omega), mkF_in nxt c hn n (x + c) (by omega) (by omega), Int.natCast_add, Int.mul_add]
    omega
theorem held_gen {α : Type} (mk : Int → α) (nxt : Int → Int) (rda : List α → Int → α) (hrd : ∀ (pre suf : List α) (x : α), rda (pre ++ x :: suf) (pre.length : Int) = x) (l0 : Nat → List α → Int → Int → Option Int) (h1 : ∀ k l x (i : Int), ¬ i < (l.length : Int) → l0 (k + 1) l x i = some x)
    (h2 : ∀ k l x (i : Int), i < (l.length : Int) → 0 ≤ i → rda l i = mk x → l0 (k + 1) l x i = l0 k l (nxt x) (wrap64 (i + 1))) : ∀ (n : Nat) (pre : List α) (x : Int), pre.length + n ≤ 140737488351232 → Ev (fun k => l0 k (pre ++ mkL mk nxt n x) x (pre.length : Int)) (mkF nxt n x)
  | 0, pre, x, hl => by
    refine Ev.step (g := fun _ => some x) (fun k => ?_) (Ev.const _)
    exact h1 _ _ _ _ (by simp [mkL])
  | n + 1, pre, x, hl => by
    have ih := held_gen mk nxt rda hrd l0 h1 h2 n (pre ++ [mk x]) (nxt x) (by simp; omega)
    refine Ev.step (g := fun k => l0 k ((pre ++ [mk x]) ++ mkL mk nxt n (nxt x)) (nxt x) (((pre ++ [mk x]).length : Nat) : Int)) (fun k => ?_) ih
    show l0 (k + 1) (pre ++ mk x :: mkL mk nxt n (nxt x)) x (pre.length : Int) = _
    rw [h2 _ _ _ _ (by simp; omega) (by omega) (hrd _ _ _), wrap_in (x := (pre.length : Int) + 1) (by omega) (by omega)]
    simp
theorem nx2_in (x : Int) (h0 : 0 ≤ x) (h : x ≤ 1152921504606846976) : nx2 x = x + (2 : Nat) := by
  unfold nx2
  rw [nx_in (x := x) (by omega) (by omega), nx_in (by omega) (by omega)]
  omega
theorem nx1_in (x : Int) (h0 : 0 ≤ x) (h : x ≤ 1152921504606846976) : nx x = x + (1 : Nat) := by
  rw [nx_in (x := x) (by omega) (by omega)]
  omega
theorem nx4_in (x : Int) (h0 : 0 ≤ x) (h : x ≤ 1152921504606846976) : nx4 x = x + (4 : Nat) := by
  unfold nx4
  rw [nx_in (x := x) (by omega) (by omega), nx_in (x := x + 1) (by omega) (by omega), nx_in (x := x + 1 + 1) (by omega) (by omega), nx_in (by omega) (by omega)]
  omega
theorem nx5_in (x : Int) (h0 : 0 ≤ x) (h : x ≤ 1152921504606846976) : nx5 x = x + (5 : Nat) := by
  unfold nx5
  rw [nx_in (x := x) (by omega) (by omega), nx_in (x := x + 1) (by omega) (by omega), nx_in (x := x + 1 + 1) (by omega) (by omega), nx_in (x := x + 1 + 1 + 1) (by omega) (by omega), nx_in (by omega) (by omega)]
  omega
theorem nx6_in (x : Int) (h0 : 0 ≤ x) (h : x ≤ 1152921504606846976) : nx6 x = x + (6 : Nat) := by
  unfold nx6
  rw [nx_in (x := x) (by omega) (by omega), nx_in (x := x + 1) (by omega) (by omega), nx_in (x := x + 1 + 1) (by omega) (by omega), nx_in (x := x + 1 + 1 + 1) (by omega) (by omega), nx_in (x := x + 1 + 1 + 1 + 1) (by omega) (by omega), nx_in (by omega) (by omega)]
  omega
theorem markTh_ev (l : List S67) (x : Int) (h : l.length ≤ 140737488351232) : Ev (fun k => laws_markThingS.f k l x) (mkF nx2 l.length x, mkL mkTh nx2 l.length x) := Ev.const _
theorem markHa_ev (l : List S75) (x : Int) (h : l.length ≤ 140737488351232) : Ev (fun k => laws_markHandleS.f k l x) (mkF nx6 l.length x, mkL mkHa nx6 l.length x) := Ev.const _
theorem markLo_ev (l : List S155) (x : Int) (h : l.length ≤ 140737488351232) : Ev (fun k => laws_markLoanS.f k l x) (mkF nx4 l.length x, mkL mkLo nx4 l.length x) := Ev.const _
theorem markAc_ev (l : List S69) (x : Int) (h : l.length ≤ 140737488351232) : Ev (fun k => laws_markActS.f k l x) (mkF nx5 l.length x, mkL mkAc nx5 l.length x) := Ev.const _
theorem markI_ev (l : List Int) (x : Int) (h : l.length ≤ 140737488351232) : Ev (fun k => laws_markIntS.f k l x) (mkF nx l.length x, mkL (fun x => x) nx l.length x) := Ev.const _
theorem heldTh_ev (n : Nat) (x : Int) (h : n ≤ 140737488351232) : Ev (fun k => laws_heldThingS.f k (mkL mkTh nx2 n x) x) (mkF nx2 n x) :=
  held_gen mkTh nx2 rd_T67 (fun pre suf x => by simp [rd_T67]) laws_heldThingS.l0 (fun k l x i c => by simp only [laws_heldThingS.l0]; rw [if_neg c]) (fun k l x i a b c => by simp only [laws_heldThingS.l0]; rw [if_pos a, if_pos b, c]; simp [mkTh, nx, nx2]) n [] x (by simpa using h)
theorem heldHa_ev (n : Nat) (x : Int) (h : n ≤ 140737488351232) : Ev (fun k => laws_heldHandleS.f k (mkL mkHa nx6 n x) x) (mkF nx6 n x) :=
  held_gen mkHa nx6 rd_T75 (fun pre suf x => by simp [rd_T75]) laws_heldHandleS.l0 (fun k l x i c => by simp only [laws_heldHandleS.l0]; rw [if_neg c]) (fun k l x i a b c => by simp only [laws_heldHandleS.l0]; rw [if_pos a, if_pos b, c]; simp [mkHa, nx, nx6]) n [] x (by simpa using h)
theorem heldLo_ev (n : Nat) (x : Int) (h : n ≤ 140737488351232) : Ev (fun k => laws_heldLoanS.f k (mkL mkLo nx4 n x) x) (mkF nx4 n x) :=
  held_gen mkLo nx4 rd_T155 (fun pre suf x => by simp [rd_T155]) laws_heldLoanS.l0 (fun k l x i c => by simp only [laws_heldLoanS.l0]; rw [if_neg c]) (fun k l x i a b c => by simp only [laws_heldLoanS.l0]; rw [if_pos a, if_pos b, c]; simp [mkLo, nx, nx4]) n [] x (by simpa using h)
theorem heldI_ev (n : Nat) (x : Int) (h : n ≤ 140737488351232) : Ev (fun k => laws_heldIntS.f k (mkL (fun x => x) nx n x) x) (mkF nx n x) :=
  held_gen (fun x => x) nx rd (fun pre suf x => by simp [rd]) laws_heldIntS.l0 (fun k l x i c => by simp only [laws_heldIntS.l0]; rw [if_neg c]) (fun k l x i a b c => by simp only [laws_heldIntS.l0]; rw [if_pos a, if_pos b, c]; simp [nx]) n [] x (by simpa using h)
def tabsE : List S78 → Int → Int
  | [], x => x
  | t :: B, x => tabsE B (mkF nx t.f1.length (mkF nx6 t.f0.length x))
def tabsM : List S78 → Int → List S78
  | [], _ => []
  | t :: B, x => ⟨mkL mkHa nx6 t.f0.length x, mkL (fun x => x) nx t.f1.length (mkF nx6 t.f0.length x)⟩ :: tabsM B (mkF nx t.f1.length (mkF nx6 t.f0.length x))
def small (B : List S78) : Prop := ∀ t ∈ B, t.f0.length ≤ 40 ∧ t.f1.length ≤ 40
theorem markTabs_ev : ∀ (B : List S78) (x : Int), small B → Ev (fun k => markTabs k B x) (tabsM B x, tabsE B x)
  | [], x, _ => Ev.const _
  | t :: B, x, h => by
    have ht := h t (by simp)
    exact Ev.bind (markHa_ev t.f0 x (by omega)) (Ev.bind (markI_ev t.f1 _ (by omega)) (Ev.bind (markTabs_ev B _ (fun u hu => h u (by simp [hu]))) (Ev.const _)))
theorem tab_in (t : S78) (x : Int) (h : t.f0.length ≤ 40 ∧ t.f1.length ≤ 40) (h0 : 0 ≤ x) (h1 : x ≤ 1000000) : 0 ≤ mkF nx6 t.f0.length x ∧ 0 ≤ mkF nx t.f1.length (mkF nx6 t.f0.length x) ∧ mkF nx t.f1.length (mkF nx6 t.f0.length x) ≤ x + 280 := by
  have g1 := mkF_in nx6 6 nx6_in t.f0.length x h0 (by omega)
  have g2 := mkF_in nx 1 nx1_in t.f1.length (mkF nx6 t.f0.length x) (by omega) (by omega)
  omega
theorem tabsE_in : ∀ (B : List S78) (x : Int), small B → 0 ≤ x → x + 280 * (B.length : Int) ≤ 1000000 → 0 ≤ tabsE B x ∧ tabsE B x ≤ x + 280 * (B.length : Int)
  | [], x, _, h0, h1 => by simp [tabsE, h0]
  | t :: B, x, h, h0, h1 => by
    rw [List.length_cons] at h1 ⊢
    obtain ⟨a, b, c⟩ := tab_in t x (h t (by simp)) h0 (by omega)
    have := tabsE_in B (mkF nx t.f1.length (mkF nx6 t.f0.length x)) (fun u hu => h u (by simp [hu])) b (by omega)
    unfold tabsE
    omega
theorem heldTabs_ev : ∀ (B : List S78) (pre : List S78) (x : Int), small B → pre.length + B.length ≤ 140737488351232 → 0 ≤ x → x + 280 * (B.length : Int) ≤ 1000000 → Ev (fun k => laws_heldTableS.l0 k (pre ++ tabsM B x) x (pre.length : Int)) (tabsE B x)
  | [], pre, x, h, hl, h0, h1 => by
    refine Ev.step (g := fun _ => some x) (fun k => ?_) (Ev.const _)
    simp only [laws_heldTableS.l0]
    rw [if_neg (by simp [tabsM])]
  | t :: B, pre, x, h, hl, h0, h1 => by
    rw [List.length_cons] at h1 hl
    have ht := h t (by simp)
    obtain ⟨a, b, c⟩ := tab_in t x ht h0 (by omega)
    have ih := heldTabs_ev B (pre ++ [⟨mkL mkHa nx6 t.f0.length x, mkL (fun x => x) nx t.f1.length (mkF nx6 t.f0.length x)⟩]) (mkF nx t.f1.length (mkF nx6 t.f0.length x)) (fun u hu => h u (by simp [hu])) (by simp; omega) b (by omega)
    have e : (pre ++ [(⟨mkL mkHa nx6 t.f0.length x, mkL (fun x => x) nx t.f1.length (mkF nx6 t.f0.length x)⟩ : S78)]) ++ tabsM B (mkF nx t.f1.length (mkF nx6 t.f0.length x)) = pre ++ tabsM (t :: B) x := by simp [tabsM]
    rw [e] at ih
    have hrd : rd_T78 (pre ++ tabsM (t :: B) x) (pre.length : Int) = ⟨mkL mkHa nx6 t.f0.length x, mkL (fun x => x) nx t.f1.length (mkF nx6 t.f0.length x)⟩ := by simp [rd_T78, tabsM]
    refine Ev.step (g := fun k => (laws_heldHandleS.f k (mkL mkHa nx6 t.f0.length x) x).bind fun t479 => (if t479 < 0 then (some (-1)) else ((laws_heldIntS.f k (mkL (fun x => x) nx t.f1.length (mkF nx6 t.f0.length x)) t479).bind fun t481 => (if t481 < 0 then (some (-1)) else (laws_heldTableS.l0 k (pre ++ tabsM (t :: B) x) t481 ((pre.length : Int) + 1)))))) (fun k => ?_) ?_
    · simp only [laws_heldTableS.l0]
      rw [if_pos (by simp [tabsM]; omega), if_pos (by omega), hrd, wrap_in (x := (pre.length : Int) + 1) (by omega) (by omega)]
    · refine Ev.bind (heldHa_ev _ x (by omega)) (Ev.neg (by omega) (Ev.bind (heldI_ev _ _ (by omega)) (Ev.neg (by omega) ?_)))
      refine ih.of_eq (funext fun k => ?_)
      simp
theorem heldW_ev (T : List S67) (B : List S78) (C : List S155) (E : List Int) (hT : T.length ≤ 40) (hB : B.length ≤ 5) (hs : small B) (hC : C.length ≤ 300) (hE : E.length ≤ 1000) :
    Ev (fun k => laws_heldWorld.f k (mkL mkTh nx2 T.length 1) (tabsM B (mkF nx2 T.length 1)) (mkL mkLo nx4 C.length (tabsE B (mkF nx2 T.length 1))) (mkL (fun x => x) nx E.length (mkF nx4 C.length (tabsE B (mkF nx2 T.length 1)))) 1) (mkF nx E.length (mkF nx4 C.length (tabsE B (mkF nx2 T.length 1)))) ∧
    0 ≤ mkF nx E.length (mkF nx4 C.length (tabsE B (mkF nx2 T.length 1))) ∧ mkF nx E.length (mkF nx4 C.length (tabsE B (mkF nx2 T.length 1))) ≤ 100000 := by
  have a1 := mkF_in nx2 2 nx2_in T.length 1 (by omega) (by omega)
  have a2 := tabsE_in B (mkF nx2 T.length 1) hs (by omega) (by omega)
  have a3 := mkF_in nx4 4 nx4_in C.length (tabsE B (mkF nx2 T.length 1)) (by omega) (by omega)
  have a4 := mkF_in nx 1 nx1_in E.length (mkF nx4 C.length (tabsE B (mkF nx2 T.length 1))) (by omega) (by omega)
  refine ⟨?_, by omega, by omega⟩
  unfold laws_heldWorld.f
  refine Ev.bind (heldTh_ev _ 1 (by omega)) (Ev.neg (by omega) (Ev.bind (a := tabsE B (mkF nx2 T.length 1)) ?_ (Ev.neg (by omega) (Ev.bind (heldLo_ev _ _ (by omega)) (Ev.neg (by omega) (Ev.bind (heldI_ev _ _ (by omega)) (Ev.neg (by omega) (Ev.const _))))))))
  exact heldTabs_ev B [] _ hs (by simp; omega) (by omega) (by omega)
theorem own_ev {T : List S67} {B : List S78} {C : List S155} {E : List Int} (J : JL T B C) (hE : E.length ≤ 1000000) : Ev (fun k => spec_l16Own.f k T B C E) (T, B, C, E) := by
  refine ⟨B.length + 1, fun k hk => own16 k T B C E (by omega) ?_ ?_ ?_ (by omega) (fun t ht => ?_)⟩
  · have := J.tl; omega
  · have := J.bl; omega
  · have := J.cl; omega
  · have := gs_len (J.g t ht)
    omega
theorem play_ev : ∀ (l : List S69) (T : List S67) (B : List S78) (C : List S155) (E : List Int), JL T B C → C.length + l.length ≤ 300 → E.length + l.length ≤ 1000 →
    ∃ T' B' C' E' cs, playG l T B C E = some (T', B', C', E', cs) ∧ Ev (fun k => sPlayG k l T B C E) (T', B', C', E', cs) ∧ JL T' B' C' ∧ B'.length = B.length ∧ E'.length ≤ E.length + l.length ∧ cs.length = l.length
  | [], T, B, C, E, J, hC, hE => ⟨T, B, C, E, [], rfl, Ev.const _, J, rfl, by simp, rfl⟩
  | a :: l, T, B, C, E, J, hC, hE => by
    rw [List.length_cons] at hC hE
    obtain ⟨T1, B1, C1, E1, told, code, h1, h2, h3, h4, h5, h6, h7⟩ := (act_both (E := E) J (by omega) (by omega) a.f0 a.f1 a.f2 a.f3 a.f4).out
    by_cases hc : code = 0
    · obtain ⟨T2, B2, C2, E2, cs, p1, p2, p3, p4, p5, p6⟩ := play_ev l T1 B1 C1 E1 h3 (by omega) (by omega)
      refine ⟨T2, B2, C2, E2, code :: cs, ?_, ?_, p3, p4.trans h4, by rw [List.length_cons]; omega, by simp [p6]⟩
      · unfold playG
        rw [h1]
        simp only [Option.bind_some]
        rw [p1]
        rfl
      · unfold sPlayG
        refine Ev.bind (own_ev J (by omega)) (Ev.bind h2 (Ev.bind (a := (T2, B2, C2, E2, cs)) ?_ (Ev.const _)))
        exact Ev.pos hc p2
    · obtain ⟨rfl, rfl, rfl, rfl⟩ := h7 hc
      obtain ⟨T2, B2, C2, E2, cs, p1, p2, p3, p4, p5, p6⟩ := play_ev l T1 B1 C1 E1 J (by omega) (by omega)
      refine ⟨T2, B2, C2, E2, code :: cs, ?_, ?_, p3, p4, by rw [List.length_cons]; omega, by simp [p6]⟩
      · unfold playG
        rw [h1]
        simp only [Option.bind_some]
        rw [p1]
        rfl
      · unfold sPlayG
        refine Ev.bind (own_ev J (by omega)) (Ev.bind h2 (Ev.bind (a := (T2, B2, C2, E2, cs)) ?_ (Ev.const _)))
        exact Ev.neg hc p2
theorem gs_nil : GS [] [] := ⟨by simp, by simp, List.nodup_nil, by simp, by simp⟩
theorem new_JL (n : Int) (h : 1 ≤ n ∧ n ≤ 5) : JL [] (newB n) [] := by
  unfold newB
  rw [if_pos h]
  have hu : ∀ p q, ¬ (slotV (List.replicate n.toNat z78) p q).f0 = true := by
    intro p q c
    have i := slotV_in c
    have hm := mem_rd (B := List.replicate n.toNat z78) i.1 i.2.1
    rw [List.mem_replicate] at hm
    rw [hm.2] at i
    have := i.2.2
    simp only [z78, List.length_nil] at this
    omega
  refine ⟨fun t ht => ?_, by simp; omega, by simp, by simp, fun p q c => absurd c (hu p q), fun i hi => by simp at hi, fun p q c => absurd c (hu p q)⟩
  rw [List.mem_replicate] at ht
  rw [ht.2]
  exact gs_nil
/-- The plays of both are the same, and small. -/
theorem play_both (n : Int) (l : List S69) : ∃ T B C E cs ok, playR n l = some (T, B, C, E, cs, ok) ∧ Ev (fun k => sPlay k n l) (T, B, C, E, cs, ok) ∧ T.length ≤ 40 ∧ B.length ≤ 5 ∧ small B ∧ C.length ≤ 300 ∧ E.length ≤ 1000 ∧ cs.length ≤ 100 := by
  unfold playR sPlay
  by_cases h : 1 ≤ n ∧ n ≤ 5
  rotate_left
  · exact ⟨[], [], [], [], [], false, if_neg h, Ev.neg h (Ev.const _), by simp, by simp, fun t ht => by simp at ht, by simp, by simp, by simp⟩
  by_cases hl : (l.length : Int) > 100
  · exact ⟨[], [], [], [], [], false, by rw [if_pos h, if_pos hl], Ev.pos h (Ev.pos hl (Ev.const _)), by simp, by simp, fun t ht => by simp at ht, by simp, by simp, by simp⟩
  obtain ⟨T, B, C, E, cs, p1, p2, p3, p4, p5, p6⟩ := play_ev l [] (newB n) [] [] (new_JL n h) (by simp; omega) (by simp; omega)
  simp only [List.length_nil, Nat.zero_add] at p5
  refine ⟨T, B, C, E, cs, true, ?_, Ev.pos h (Ev.neg hl (Ev.bind p2 (Ev.bind (own_ev (E := E) p3 (by omega)) (Ev.const _)))), p3.tl, p3.bl, fun t ht => gs_len (p3.g t ht), p3.cl, by omega, by omega⟩
  rw [if_pos h, if_neg hl, p1]
  rfl
theorem sz_cases (l : List S86) (h : l.length ≤ 140737488351232) : ∃ t, laws_szActS.f l 1048576 = some t ∧ (¬ t < 0 → l.length ≤ 1048576) := by
  unfold laws_szActS.f
  have hw : wrap64 (1048576 - (l.length : Int)) = 1048576 - (l.length : Int) := by
    unfold wrap64
    omega
  rw [hw]
  by_cases c : 1048576 - (l.length : Int) < 0
  · exact ⟨-1, if_pos c, fun z => absurd (by decide) z⟩
  · exact ⟨_, if_neg c, fun _ => by omega⟩
/-- The law holds of every number and every list of acts. -/
theorem law_PlayWorld (n : Int) (A0 : Option Addr) (c0 : Nat) (l : List S86) (w : World) (hr0 : Kd.C k86 w A0 l.length l) (hc0 : l.length ≤ c0) (hl : l.length ≤ 140737488351232) :
    Calls Try.prog 9 #[.int .i64 n, .slice A0 l.length c0] w fun e w' => e = .returned (.bool true) ∧ Below w.heap.size w w' := by
  obtain ⟨t, hsz, ht⟩ := sz_cases l hl
  by_cases hs : t < 0
  · exact walk_PlayWorld_big n A0 c0 l t w hr0 hc0 hsz hs
  have hl2 := ht hs
  obtain ⟨Kto, hto⟩ := toActS_ev l hl2
  obtain ⟨T, B, C, E, cs, ok, him, ⟨Ksp, hsp⟩, b1, b2, b3, b4, b5, b6⟩ := play_both n (l.map cAc)
  have hml : (l.map cAc).length ≤ 1048576 := by rw [List.length_map]; exact hl2
  obtain ⟨Keq, heq⟩ := eqWorld_ev T B C E (by omega) (by omega) (fun t ht => by have := b3 t ht; omega) (by omega) (by omega)
  obtain ⟨Kei, hei⟩ := eqIntS_ev cs (by omega)
  obtain ⟨Kea, hea⟩ := eqActS_ev (l.map cAc) (by omega)
  obtain ⟨Kma, hma⟩ := markAc_ev (l.map cAc) 1 (by omega)
  obtain ⟨Km2, hm2⟩ := markTh_ev T 1 (by omega)
  obtain ⟨Km3, hm3⟩ := markTabs_ev B (mkF nx2 T.length 1) b3
  obtain ⟨Km4, hm4⟩ := markLo_ev C (tabsE B (mkF nx2 T.length 1)) (by omega)
  obtain ⟨Km5, hm5⟩ := markI_ev E (mkF nx4 C.length (tabsE B (mkF nx2 T.length 1))) (by omega)
  obtain ⟨Km6, hm6⟩ := markI_ev cs (mkF nx E.length (mkF nx4 C.length (tabsE B (mkF nx2 T.length 1)))) (by omega)
  obtain ⟨⟨Kh1, hh1⟩, hn4, hn4'⟩ := heldW_ev T B C E b1 b2 b3 b4 b5
  obtain ⟨Kh2, hh2⟩ := heldI_ev cs.length (mkF nx E.length (mkF nx4 C.length (tabsE B (mkF nx2 T.length 1)))) (by omega)
  have g1 := mkF_in nx5 5 nx5_in (l.map cAc).length 1 (by omega) (by omega)
  have g2 := mkF_in nx 1 nx1_in cs.length (mkF nx E.length (mkF nx4 C.length (tabsE B (mkF nx2 T.length 1)))) hn4 (by omega)
  obtain ⟨k, e1, e2, e3, e4, e5, e6, e7, e8, e9, e10, e11, e12, e13⟩ : ∃ k, Kto ≤ k ∧ Ksp ≤ k ∧ Keq ≤ k ∧ Kei ≤ k ∧ Kea ≤ k ∧ Kma ≤ k ∧ Km2 ≤ k ∧ Km3 ≤ k ∧ Km4 ≤ k ∧ Km5 ≤ k ∧ Km6 ≤ k ∧ Kh1 ≤ k ∧ Kh2 ≤ k :=
    ⟨Kto + Ksp + Keq + Kei + Kea + Kma + Km2 + Km3 + Km4 + Km5 + Km6 + Kh1 + Kh2, by omega, by omega, by omega, by omega, by omega, by omega, by omega, by omega, by omega, by omega, by omega, by omega, by omega⟩
  exact walk_PlayWorld n A0 c0 l t k _ _ T _ B _ C _ E _ cs _ ok _ _ _ _ _ _ w hr0 hc0 hsz hs (hto k e1) (hsp k e2) him (heq k e3) (hei k e4) (hea k e5) (hma k e6) (by omega) (hm2 k e7) (hm3 k e8) (hm4 k e9) (hm5 k e10) (hm6 k e11) (hh1 k e12) (hh2 k e13) (by omega) (by omega)
theorem C_of {α : Type} (d : Kd α) {W : World} {a : Option Addr} {len : Nat} {R : List Value → Prop} {Q : α → Prop} (hl : len ≤ 9223372036854775807)
    (h : 0 < len → ∃ ad, a = some ad ∧ ∀ i, i < len → ∃ c : List Value, c.length = d.sz ∧ R c ∧ ∀ j u, c[j]? = some u → W.cell? (ad.add (i * d.sz + j)) = some u)
    (ho : ∀ c, R c → ∃ x, d.K W x c ∧ Q x) : ∃ xs : List α, xs.length = len ∧ Kd.C d W a len xs ∧ ∀ x ∈ xs, Q x := by
  rcases Nat.eq_zero_or_pos len with e | e
  · subst e
    exact ⟨[], rfl, ⟨rfl, by omega, fun n => absurd n (by omega)⟩, fun x hx => by simp at hx⟩
  · obtain ⟨ad, rfl, hc⟩ := h e
    obtain ⟨xs, h1, h2⟩ := Op.pick (Q := fun i x => ∃ c : List Value, c.length = d.sz ∧ d.K W x c ∧ Q x ∧ ∀ j u, c[j]? = some u → W.cell? (ad.add (i * d.sz + j)) = some u) (fun i hi => by
      obtain ⟨c, c1, c2, c3⟩ := hc i hi
      obtain ⟨x, x1, x2⟩ := ho c c2
      exact ⟨x, c, c1, x1, x2, c3⟩)
    refine ⟨xs, h1, ⟨h1, hl, fun _ => ⟨ad, rfl, fun j p hj => ?_⟩⟩, fun x hx => ?_⟩
    · obtain ⟨c, c1, c2, _, c3⟩ := h2 j p hj
      exact ⟨c, c1, c2, c3⟩
    · obtain ⟨i, hi⟩ := List.mem_iff_getElem?.1 hx
      obtain ⟨_, _, _, q, _⟩ := h2 i x hi
      exact q
theorem slice80 {W : World} {a : Option Addr} {l c : Nat} (h : Op.R80 W [.slice a l c]) : ∃ xs : List S86, xs.length = l ∧ Kd.C k86 W a l xs ∧ l ≤ c ∧ xs.length * 40 ≤ 140737488351232 ∧ ∀ x ∈ xs, True := by
  obtain ⟨_, _, _, e, h1, h2, h3, h4⟩ := h
  simp only [List.cons.injEq, Value.slice.injEq, and_true] at e
  obtain ⟨rfl, rfl, rfl⟩ := e
  obtain ⟨xs, x1, x2, x3⟩ := C_of k86 (R := Op.R86 W) (Q := fun _ => True) (by omega) h4 (fun c hc => by
    obtain ⟨a0, a1, a2, a3, a4, rfl, _, _, _, _, _⟩ := hc
    exact ⟨⟨a0, a1, a2, a3, a4⟩, k86_mk W ⟨a0, a1, a2, a3, a4⟩, trivial⟩)
  exact ⟨xs, x1, x2, h1, by rw [x1]; exact h3, x3⟩
theorem walked_FnExactPlayWorld (n : Int) (A0 : Option Addr) (c0 : Nat) (l : List S86) (w : World) (hr0 : Kd.C k86 w A0 l.length l) (hc0 : l.length ≤ c0) (hl : l.length * 40 ≤ 140737488351232) :
    Calls Try.prog 9 #[.int .i64 n, .slice A0 l.length c0] w fun e w' => e = .returned (.bool true) ∧ Below w.heap.size w w' := law_PlayWorld n A0 c0 l w hr0 hc0 (by omega)
end Go.Proofs.Ytdoflfifnkpacaa.WP
