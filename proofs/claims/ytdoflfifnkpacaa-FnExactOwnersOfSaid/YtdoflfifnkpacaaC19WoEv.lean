/-
  Plain laws behind GoodWorld: when a world is good.
-/
import Derived.Test.YtdoflfifnkpacaaC19WOx3
import Derived.Test.YtdoflfifnkpacaaC19WOx8
namespace Go.Proofs.Ytdoflfifnkpacaa.WO
open Go.RowKit Go.Proofs.YtdoflfifnkpacaaW.PrintWords Go.Proofs.YtdoflfifnkpacaaW.PrintLast Go.Proofs.YtdoflfifnkpacaaW.PrintMore
set_option linter.unusedSimpArgs false
set_option linter.unusedVariables false
/-- From some fuel on the answer is `r`. -/
def Ev {α : Type} (g : Nat → Option α) (r : α) : Prop := ∃ K, ∀ k, K ≤ k → g k = some r
theorem Ev.const {α : Type} (r : α) : Ev (fun _ => some r) r := ⟨0, fun _ _ => rfl⟩
theorem Ev.bind {α β : Type} {g : Nat → Option α} {h : Nat → α → Option β} {a : α} {r : β} (h1 : Ev g a) (h2 : Ev (fun k => h k a) r) : Ev (fun k => (g k).bind (h k)) r := by
  obtain ⟨K1, h1⟩ := h1
  obtain ⟨K2, h2⟩ := h2
  refine ⟨max K1 K2, fun k hk => ?_⟩
  show (g k).bind (h k) = _
  rw [h1 k (by omega)]
  exact h2 k (by omega)
theorem Ev.pos {α : Type} {c : Prop} [Decidable c] {g h : Nat → Option α} {r : α} (hc : c) (h1 : Ev g r) : Ev (fun k => if c then g k else h k) r := by
  obtain ⟨K, h1⟩ := h1
  exact ⟨K, fun k hk => by show (if c then g k else h k) = _; rw [if_pos hc]; exact h1 k hk⟩
theorem Ev.neg {α : Type} {c : Prop} [Decidable c] {g h : Nat → Option α} {r : α} (hc : ¬ c) (h1 : Ev h r) : Ev (fun k => if c then g k else h k) r := by
  obtain ⟨K, h1⟩ := h1
  exact ⟨K, fun k hk => by show (if c then g k else h k) = _; rw [if_neg hc]; exact h1 k hk⟩
theorem Ev.step {α : Type} {g g' : Nat → Option α} {r : α} (h : ∀ k, g' (k + 1) = g k) (h1 : Ev g r) : Ev g' r := by
  obtain ⟨K, h1⟩ := h1
  refine ⟨K + 1, fun k hk => ?_⟩
  obtain ⟨k, rfl⟩ : ∃ m, k = m + 1 := ⟨k - 1, by omega⟩
  rw [h]
  exact h1 k (by omega)
theorem Ev.eq {α : Type} {g g' : Nat → Option α} {r : α} (h : ∀ k, g' k = g k) (h1 : Ev g r) : Ev g' r := by
  obtain ⟨K, h1⟩ := h1
  exact ⟨K, fun k hk => by rw [h]; exact h1 k hk⟩
/-- From some fuel on the answer is the truth of `P`. -/
def EvB (g : Nat → Option Bool) (P : Prop) : Prop := ∃ b, (b = true ↔ P) ∧ Ev g b
theorem EvB.iff {g : Nat → Option Bool} {P Q : Prop} (h : EvB g P) (e : P ↔ Q) : EvB g Q := by
  obtain ⟨b, hb, hg⟩ := h
  exact ⟨b, hb.trans e, hg⟩
theorem EvB.step {g g' : Nat → Option Bool} {P : Prop} (h : ∀ k, g' (k + 1) = g k) (h1 : EvB g P) : EvB g' P := by
  obtain ⟨b, hb, hg⟩ := h1
  exact ⟨b, hb, hg.step h⟩
theorem EvB.eq {g g' : Nat → Option Bool} {P : Prop} (h : ∀ k, g' k = g k) (h1 : EvB g P) : EvB g' P := by
  obtain ⟨b, hb, hg⟩ := h1
  exact ⟨b, hb, hg.eq h⟩
theorem EvB.no {P : Prop} (h : ¬ P) : EvB (fun _ => some false) P := ⟨false, by simp [h], Ev.const _⟩
theorem EvB.yes {P : Prop} (h : P) : EvB (fun _ => some true) P := ⟨true, by simp [h], Ev.const _⟩
theorem EvB.both {g h : Nat → Option Bool} {P : Prop} (h1 : EvB g P) (h2 : EvB h P) : ∃ b, (b = true ↔ P) ∧ Ev g b ∧ Ev h b := by
  obtain ⟨b, hb, hg⟩ := h1
  obtain ⟨c, hc, hh⟩ := h2
  refine ⟨b, hb, hg, ?_⟩
  have : b = c := by
    cases b <;> cases c <;> simp_all
  exact this ▸ hh
theorem wrap_in {x : Int} (h0 : 0 ≤ x) (h : x ≤ 9223372036854775807) : wrap64 x = x := by
  unfold wrap64
  omega
theorem sub_len {α : Type} [DecidableEq α] : ∀ (A B : List α), A.Nodup → (∀ x ∈ A, x ∈ B) → A.length ≤ B.length
  | [], _, _, _ => Nat.zero_le _
  | a :: A, B, hn, hs => by
    have hA := sub_len A (B.erase a) (List.nodup_cons.mp hn).2 (fun x hx => by
      have hne : x ≠ a := fun e => (List.nodup_cons.mp hn).1 (e ▸ hx)
      exact (List.mem_erase_of_ne hne).mpr (hs x (List.mem_cons_of_mem _ hx)))
    have ha : a ∈ B := hs a (List.mem_cons_self ..)
    rw [List.length_erase_of_mem ha] at hA
    have := List.length_pos_of_mem ha
    simp only [List.length_cons]
    omega
theorem rdT {pre suf : List S75} {h : S75} : rd_T75 (pre ++ h :: suf) (pre.length : Int) = h := by
  simp [rd_T75]
theorem rdI {pre suf : List Int} {h : Int} : rd (pre ++ h :: suf) (pre.length : Int) = h := by
  simp [rd]
def hok (h : S75) : Bool := h.f0 && (decide (0 ≤ h.f1 ∧ h.f1 ≤ 9) && (decide (0 ≤ h.f2 ∧ h.f2 ≤ 1000000) && (decide (0 ≤ h.f4 ∧ h.f4 ≤ 1000) && (decide (0 ≤ h.f5 ∧ h.f5 ≤ 1000) && (h.f3 == (h.f5 == 0))))))
theorem spec_hok (h : S75) : spec_l15Handle.f h.f0 h.f1 h.f2 h.f3 h.f4 h.f5 = some (hok h) := by
  obtain ⟨a, b, c, d, e, f⟩ := h
  unfold spec_l15Handle.f spec_l1In.f hok
  cases a
  · simp
  · by_cases h1 : b ≥ 0 <;> by_cases h2 : b ≤ 9 <;> by_cases h3 : c ≥ 0 <;> by_cases h4 : c ≤ 1000000 <;> by_cases h5 : e ≥ 0 <;> by_cases h6 : e ≤ 1000 <;> by_cases h7 : f ≥ 0 <;> by_cases h8 : f ≤ 1000 <;> simp [*] <;> omega
theorem impl_hok (h : S75) (k : Nat) : impl_Handle_sound.f (k + 1) h.f0 h.f1 h.f2 h.f3 h.f4 h.f5 = some (hok h) := by
  obtain ⟨a, b, c, d, e, f⟩ := h
  unfold impl_Handle_sound.f hok
  simp only [impl_Handle_sound.j0]
  cases a
  · simp
  · by_cases h1 : b < 0
    · simp [h1]; omega
    by_cases h2 : b > 9
    · simp [h1, h2]; omega
    by_cases h3 : c < 0
    · simp [h1, h2, h3]; omega
    by_cases h4 : c > 1000000
    · simp [h1, h2, h3, h4]; omega
    by_cases h5 : e < 0
    · simp [h1, h2, h3, h4, h5]; omega
    by_cases h6 : e > 1000
    · simp [h1, h2, h3, h4, h5, h6]; omega
    have g1 : 0 ≤ b := by omega
    have g2 : b ≤ 9 := by omega
    have g3 : 0 ≤ c := by omega
    have g4 : c ≤ 1000000 := by omega
    have g5 : 0 ≤ e := by omega
    have g6 : e ≤ 1000 := by omega
    simp only [h1, h2, h3, h4, h5, h6, if_true, if_false, decide_false, g1, g2, g3, g4, g5, g6, Bool.false_eq_true, Bool.true_and, and_self, decide_true]
    cases d
    · by_cases h7 : f ≥ 1
      · by_cases h8 : f ≤ 1000
        · simp [h7, h8]; omega
        · simp [h7, h8]
      · simp [h7]; omega
    · by_cases h7 : f = 0
      · simp [h7]
      · simp [h7]
def slotOk (h : S75) : Prop := (h.f0 = true → hok h = true) ∧ (h.f0 = false → isz h = true)
theorem isz_eq (h : S75) : ((h.f0) || (!((h.f1) == 0) || (!((h.f2) == 0) || ((h.f3) || (!((h.f4) == 0) || (!((h.f5) == 0))))))) = !isz h := by
  unfold isz
  simp only [Bool.not_and, Bool.not_not]
/-- What the reference's GoodTable says. -/
def GS (S : List S75) (F : List Int) : Prop := (∀ h ∈ S, slotOk h) ∧ (∀ n ∈ F, 0 ≤ n ∧ n < S.length ∧ (rd_T75 S n).f0 = false) ∧ F.Nodup ∧ S.length ≤ 40 ∧ F.length = S.countP (fun h => !h.f0)
theorem take_pre {α : Type} (pre suf : List α) : (pre ++ suf).take ((pre.length : Int)).toNat = pre := by
  simp
theorem spec_l2 (S : List S75) (F : List Int) (hF : F.length ≤ 140737488351232) (c n : Int) (x41 : List Int) (x42 x43 : Int) (P : Prop) : ∀ (suf pre : List Int), (pre ++ suf).length ≤ 140737488351232 → n ∉ pre →
    (n ∉ pre ++ suf → EvB (fun k => spec_GoodTable.l1 k c x41 x42 (wrap64 (x43 + 1)) S F) P) → (n ∈ pre ++ suf → ¬ P) → EvB (fun k => spec_GoodTable.l2 k c n x41 x42 x43 (pre ++ suf) ((pre ++ suf).length : Int) (pre.length : Int) S F) P
  | [], pre, hl, hn, h1, h2 => by
    refine EvB.step (g := fun k => spec_GoodTable.l1 k c x41 x42 (wrap64 (x43 + 1)) S F) (fun k => ?_) (h1 (by simpa using hn))
    simp [spec_GoodTable.l2]
  | a :: suf, pre, hl, hn, h1, h2 => by
    simp only [List.length_append, List.length_cons] at hl
    by_cases e : a = n
    · refine EvB.step (g := fun _ => some false) (fun k => ?_) (EvB.no (h2 (by simp [e])))
      simp only [spec_GoodTable.l2]
      rw [if_pos (by simp; omega), if_pos (by omega), if_pos (by simp; omega), rdI, if_pos e]
    · have ih := spec_l2 S F hF c n x41 x42 x43 P suf (pre ++ [a]) (by simp; omega) (by simpa [hn] using fun x => e x.symm) (by simpa using h1) (by simpa using h2)
      refine EvB.step (fun k => ?_) ih
      simp only [spec_GoodTable.l2]
      rw [if_pos (by simp; omega), if_pos (by omega), if_pos (by simp; omega), rdI, if_neg e, wrap_in (by omega) (by omega)]
      simp
theorem spec_l1 (S : List S75) (hS : S.length ≤ 140737488351232) (F : List Int) (hF : F.length ≤ 140737488351232) (c : Int) : ∀ (suf pre : List Int), F = pre ++ suf →
    EvB (fun k => spec_GoodTable.l1 k c F (F.length : Int) (pre.length : Int) S F) ((∀ n ∈ suf, 0 ≤ n ∧ n < S.length ∧ (rd_T75 S n).f0 = false ∧ n ∉ pre) ∧ suf.Nodup ∧ S.length ≤ 40 ∧ (F.length : Int) = c)
  | [], pre, e => by
    by_cases h : (S.length : Int) ≤ 40
    · refine EvB.step (g := fun _ => some ((F.length : Int) == c)) (fun k => ?_) ⟨(F.length : Int) == c, by simp; omega, Ev.const _⟩
      simp only [spec_GoodTable.l1]
      rw [if_neg (by rw [e]; simp), if_pos h]
    · refine EvB.step (g := fun _ => some false) (fun k => ?_) (EvB.no (by rintro ⟨-, -, x, -⟩; omega))
      simp only [spec_GoodTable.l1]
      rw [if_neg (by rw [e]; simp), if_neg h]
  | n :: suf, pre, e => by
    have hlen : pre.length < F.length := by rw [e]; simp
    have hrd : rd F (pre.length : Int) = n := by rw [e]; exact rdI
    have ih := spec_l1 S hS F hF c suf (pre ++ [n]) (by simp [e])
    have hw : wrap64 ((pre.length : Int) + 1) = ((pre ++ [n]).length : Int) := by rw [wrap_in (by omega) (by omega)]; simp
    by_cases hr : 0 ≤ n ∧ n < S.length
    · by_cases hu : (rd_T75 S n).f0 = true
      · refine EvB.step (g := fun k => spec_GoodTable.j2 k c (pre.length : Int) n F (F.length : Int) (pre.length : Int) ((rd_T75 S n).f0) S F) (fun k => ?_) ?_
        · simp only [spec_GoodTable.l1]
          rw [if_pos (by omega), if_pos (by omega), if_pos (by omega), hrd]
          unfold spec_l1In.f
          rw [if_pos (by omega), wrap64, Option.bind_some, if_pos (by simp; omega), if_pos hr.1, if_pos hr.2]
        · refine EvB.step (g := fun _ => some false) (fun k => ?_) (EvB.no (fun x => by have := (x.1 n (by simp)).2.2.1; rw [hu] at this; exact absurd this (by simp)))
          simp only [spec_GoodTable.j2]
          rw [if_pos hu]
      · have hu' : (rd_T75 S n).f0 = false := by simpa using hu
        refine EvB.step (g := fun k => spec_GoodTable.j2 k c (pre.length : Int) n F (F.length : Int) (pre.length : Int) ((rd_T75 S n).f0) S F) (fun k => ?_) ?_
        · simp only [spec_GoodTable.l1]
          rw [if_pos (by omega), if_pos (by omega), if_pos (by omega), hrd]
          unfold spec_l1In.f
          rw [if_pos (by omega), wrap64, Option.bind_some, if_pos (by simp; omega), if_pos hr.1, if_pos hr.2]
        · have ht : F.take ((pre.length : Int)).toNat = pre := by rw [e]; exact take_pre _ _
          refine EvB.step (g := fun k => spec_GoodTable.l2 k c n F (F.length : Int) (pre.length : Int) ([] ++ pre) (([] ++ pre).length : Int) (([] : List Int).length : Int) S F) (fun k => ?_) ?_
          · simp only [spec_GoodTable.j2]
            rw [if_neg (by simp [hu']), if_pos (by omega), if_pos (by omega), ht]
            rfl
          · refine spec_l2 S F hF c n _ _ _ _ pre [] (by simp; omega) (by simp) (fun hn => ?_) (fun hn x => (x.1 n (by simp)).2.2.2 (by simpa using hn))
            rw [hw]
            refine ih.iff ?_
            simp only [List.nil_append] at hn
            constructor
            · rintro ⟨a, b, c, d⟩
              refine ⟨fun m hm => ?_, ?_, c, d⟩
              · rcases List.mem_cons.mp hm with rfl | hm
                · exact ⟨hr.1, hr.2, hu', hn⟩
                · obtain ⟨a1, a2, a3, a4⟩ := a m hm
                  exact ⟨a1, a2, a3, fun z => a4 (by simp [z])⟩
              · exact List.nodup_cons.mpr ⟨fun z => (a n z).2.2.2 (by simp), b⟩
            · rintro ⟨a, b, c, d⟩
              refine ⟨fun m hm => ?_, (List.nodup_cons.mp b).2, c, d⟩
              obtain ⟨a1, a2, a3, a4⟩ := a m (by simp [hm])
              refine ⟨a1, a2, a3, fun z => ?_⟩
              rcases List.mem_append.mp z with z | z
              · exact a4 z
              · simp only [List.mem_singleton] at z
                subst z
                exact (List.nodup_cons.mp b).1 hm
    · refine EvB.step (g := fun k => spec_GoodTable.j2 k c (pre.length : Int) n F (F.length : Int) (pre.length : Int) true S F) (fun k => ?_) ?_
      · simp only [spec_GoodTable.l1]
        rw [if_pos (by omega), if_pos (by omega), if_pos (by omega), hrd]
        unfold spec_l1In.f wrap64
        by_cases g : n ≥ 0
        · rw [if_pos g, Option.bind_some, if_neg (by simp; omega)]
        · rw [if_neg g, Option.bind_some, if_neg (by simp)]
      · refine EvB.step (g := fun _ => some false) (fun k => ?_) (EvB.no (fun x => hr ⟨(x.1 n (by simp)).1, (x.1 n (by simp)).2.1⟩))
        simp [spec_GoodTable.j2]
theorem spec_l0 (S : List S75) (hS : S.length ≤ 140737488351232) (F : List Int) (hF : F.length ≤ 140737488351232) : ∀ (suf pre : List S75) (c : Nat), c ≤ pre.length → S = pre ++ suf →
    EvB (fun k => spec_GoodTable.l0 k (c : Int) S (S.length : Int) (pre.length : Int) S F) ((∀ h ∈ suf, slotOk h) ∧ (∀ n ∈ F, 0 ≤ n ∧ n < S.length ∧ (rd_T75 S n).f0 = false) ∧ F.Nodup ∧ S.length ≤ 40 ∧ F.length = c + suf.countP (fun h => !h.f0))
  | [], pre, c, hc, e => by
    refine EvB.step (g := fun k => spec_GoodTable.l1 k (c : Int) F (F.length : Int) (([] : List Int).length : Int) S F) (fun k => ?_) ((spec_l1 S hS F hF c F [] rfl).iff ?_)
    · simp only [spec_GoodTable.l0]
      rw [if_neg (by rw [e]; simp)]
      rfl
    · simp
      intro _ _ _
      omega
  | h :: suf, pre, c, hc, e => by
    have hlen : pre.length < S.length := by rw [e]; simp
    have hrd : rd_T75 S (pre.length : Int) = h := by rw [e]; exact rdT
    have hw : wrap64 ((pre.length : Int) + 1) = ((pre ++ [h]).length : Int) := by rw [wrap_in (by omega) (by omega)]; simp
    have hw2 : wrap64 ((c : Int) + 1) = ((c + 1 : Nat) : Int) := by rw [wrap_in (by omega) (by omega)]; simp
    by_cases hu : h.f0 = true
    · by_cases hk : hok h = true
      · refine EvB.step (fun k => ?_) ((spec_l0 S hS F hF suf (pre ++ [h]) c (by simp; omega) (by simp [e])).iff ?_)
        · simp only [spec_GoodTable.l0]
          rw [if_pos (by omega), if_pos (by omega), if_pos (by omega), hrd, if_pos hu, if_pos hu, spec_hok, Option.bind_some, if_pos hk, hw]
        · simp [hu, slotOk, hk]
      · refine EvB.step (g := fun _ => some false) (fun k => ?_) (EvB.no (fun x => hk ((x.1 h (by simp)).1 hu)))
        simp only [spec_GoodTable.l0]
        rw [if_pos (by omega), if_pos (by omega), if_pos (by omega), hrd, if_pos hu, if_pos hu, spec_hok, Option.bind_some, if_neg hk]
    · have hu' : h.f0 = false := by simpa using hu
      by_cases hz : isz h = true
      · refine EvB.step (fun k => ?_) ((spec_l0 S hS F hF suf (pre ++ [h]) (c + 1) (by simp; omega) (by simp [e])).iff ?_)
        · simp only [spec_GoodTable.l0]
          rw [if_pos (by omega), if_pos (by omega), if_pos (by omega), hrd, if_neg hu, if_neg hu, isz_eq, if_neg (by simp [hz]), hw, hw2]
        · simp [hu', slotOk, hz]
          intro _ _ _ _
          omega
      · refine EvB.step (g := fun _ => some false) (fun k => ?_) (EvB.no (fun x => hz ((x.1 h (by simp)).2 hu')))
        simp only [spec_GoodTable.l0]
        rw [if_pos (by omega), if_pos (by omega), if_pos (by omega), hrd, if_neg hu, if_neg hu, isz_eq, if_pos (by simp [hz])]
theorem spec_good (S : List S75) (hS : S.length ≤ 140737488351232) (F : List Int) (hF : F.length ≤ 140737488351232) : EvB (fun k => spec_GoodTable.f k S F) (GS S F) := by
  refine EvB.eq (fun k => ?_) ((spec_l0 S hS F hF S [] 0 (Nat.zero_le _) rfl).iff (by simp [GS]))
  rfl
/-- What the program's GoodTable says. -/
def GI (S : List S75) (F : List Int) : Prop := S.length ≤ 40 ∧ F.length ≤ S.length ∧ (∀ n ∈ F, 0 ≤ n ∧ n < S.length) ∧ F.Nodup ∧ ∀ j : Nat, j < S.length → (((j : Int) ∈ F ↔ isz (rd_T75 S j) = true) ∧ ((j : Int) ∉ F → hok (rd_T75 S j) = true))
/-- With more than `d` fuel the answer is the truth of `P`, whatever the other fuel. -/
def EvQ (d : Nat) (g : Nat → Nat → Option Bool) (P : Prop) : Prop := ∃ b, (b = true ↔ P) ∧ ∀ q k, d < k → g q k = some b
theorem EvQ.iff {d : Nat} {g : Nat → Nat → Option Bool} {P Q : Prop} (h : EvQ d g P) (e : P ↔ Q) : EvQ d g Q := by
  obtain ⟨b, hb, hg⟩ := h
  exact ⟨b, hb.trans e, hg⟩
theorem EvQ.step {d : Nat} {g g' : Nat → Nat → Option Bool} {P : Prop} (h : ∀ q k, g' q (k + 1) = g q k) (h1 : EvQ d g P) : EvQ (d + 1) g' P := by
  obtain ⟨b, hb, hg⟩ := h1
  refine ⟨b, hb, fun q k hk => ?_⟩
  obtain ⟨k, rfl⟩ : ∃ m, k = m + 1 := ⟨k - 1, by omega⟩
  rw [h]
  exact hg q k (by omega)
theorem EvQ.base {g' : Nat → Nat → Option Bool} {P : Prop} (h : ∀ q k, g' q (k + 1) = some true) (h1 : P) : EvQ 0 g' P := by
  refine ⟨true, by simp [h1], fun q k hk => ?_⟩
  obtain ⟨k, rfl⟩ : ∃ m, k = m + 1 := ⟨k - 1, by omega⟩
  exact h q k
theorem EvQ.no {d : Nat} {P : Prop} (h : ¬ P) : EvQ d (fun _ _ => some false) P := ⟨false, by simp [h], fun _ _ _ => rfl⟩
theorem impl_l1 (S : List S75) (m : List Bool) (d : Nat) : ∀ (y : Nat), y ≤ S.length → S.length - y = d →
    EvQ d (fun q k => impl_GoodTable.l1 (q + 1) k S m y) (∀ j : Nat, y ≤ j → j < S.length → ((gb m j = true ↔ isz (rd_T75 S j) = true) ∧ (¬ gb m j = true → hok (rd_T75 S j) = true))) := by
  induction d with
  | zero =>
    intro y h1 h2
    refine EvQ.base (fun q k => ?_) (fun j a b => by omega)
    simp only [impl_GoodTable.l1]
    rw [if_neg (by omega)]
  | succ d ih =>
    intro y h1 h2
    have hlt : y < S.length := by omega
    have h := ih (y + 1) (by omega) (by omega)
    have split : (∀ j : Nat, y ≤ j → j < S.length → ((gb m j = true ↔ isz (rd_T75 S j) = true) ∧ (¬ gb m j = true → hok (rd_T75 S j) = true))) ↔ (((gb m y = true ↔ isz (rd_T75 S y) = true) ∧ (¬ gb m y = true → hok (rd_T75 S y) = true)) ∧ ∀ j : Nat, y + 1 ≤ j → j < S.length → ((gb m j = true ↔ isz (rd_T75 S j) = true) ∧ (¬ gb m j = true → hok (rd_T75 S j) = true))) := by
      constructor
      · exact fun a => ⟨a y (Nat.le_refl _) hlt, fun j b c => a j (by omega) c⟩
      · rintro ⟨a, b⟩ j c e
        by_cases g : j = y
        · exact g ▸ a
        · exact b j (by omega) e
    by_cases hm : gb m y = true
    · by_cases hz : isz (rd_T75 S y) = true
      · refine EvQ.step (fun q k => ?_) (h.iff (split.trans ⟨fun a => a.2, fun a => ⟨⟨by simp [hm, hz], fun n => absurd hm n⟩, a⟩⟩).symm)
        simp only [impl_GoodTable.l1]
        rw [if_pos (by omega), if_pos hm, if_pos hz]
        rfl
      · refine EvQ.step (g := fun _ _ => some false) (fun q k => ?_) (EvQ.no (fun a => hz ((split.mp a).1.1.mp hm)))
        simp only [impl_GoodTable.l1]
        rw [if_pos (by omega), if_pos hm, if_neg hz]
    · by_cases hz : isz (rd_T75 S y) = true
      · refine EvQ.step (g := fun _ _ => some false) (fun q k => ?_) (EvQ.no (fun a => hm ((split.mp a).1.1.mpr hz)))
        simp only [impl_GoodTable.l1]
        rw [if_pos (by omega), if_neg hm, if_pos hz]
      · by_cases hk : hok (rd_T75 S y) = true
        · refine EvQ.step (fun q k => ?_) (h.iff (split.trans ⟨fun a => a.2, fun a => ⟨⟨by simp [hm, hz], fun _ => hk⟩, a⟩⟩).symm)
          simp only [impl_GoodTable.l1]
          rw [if_pos (by omega), if_neg hm, if_neg hz, impl_hok, Option.bind_some, if_pos hk]
          rfl
        · refine EvQ.step (g := fun _ _ => some false) (fun q k => ?_) (EvQ.no (fun a => hk ((split.mp a).1.2 hm)))
          simp only [impl_GoodTable.l1]
          rw [if_pos (by omega), if_neg hm, if_neg hz, impl_hok, Option.bind_some, if_neg hk]
theorem gb_set (m : List Bool) (hm : m.length = 40) (n : Int) (h0 : 0 ≤ n) (h1 : n < 40) (j : Nat) : gb (m.set n.toNat true) j = true ↔ (gb m j = true ∨ (j : Int) = n) := by
  unfold gb
  simp only [Int.toNat_natCast, List.getD_eq_getElem?_getD, List.getElem?_set]
  by_cases e : n.toNat = j
  · rw [if_pos e, if_pos (by omega)]
    simp; omega
  · rw [if_neg e]
    constructor
    · exact Or.inl
    · rintro (a | a)
      · exact a
      · omega
theorem impl_l0 (S : List S75) (hS : S.length ≤ 40) (F : List Int) : ∀ (suf pre : List Int) (m : List Bool), m.length = 40 → (∀ j : Nat, gb m j = true ↔ (j : Int) ∈ pre) → F = pre ++ suf →
    EvQ suf.length (fun q k => impl_GoodTable.l0 (S.length + 1 + q) k S F m (pre.length : Int)) ((∀ n ∈ suf, 0 ≤ n ∧ n < S.length ∧ n ∉ pre) ∧ suf.Nodup ∧ ∀ j : Nat, j < S.length → (((j : Int) ∈ F ↔ isz (rd_T75 S j) = true) ∧ ((j : Int) ∉ F → hok (rd_T75 S j) = true)))
  | [], pre, m, hm, hg, e => by
    obtain ⟨b, hb, h⟩ := impl_l1 S m S.length 0 (Nat.zero_le _) (Nat.sub_zero _)
    refine ⟨b, hb.trans ?_, fun q k hk => ?_⟩
    · simp only [List.append_nil] at e
      subst e
      constructor
      · intro a
        refine ⟨by simp, List.nodup_nil, fun j hj => ?_⟩
        obtain ⟨a1, a2⟩ := a j (Nat.zero_le _) hj
        rw [hg] at a1 a2
        exact ⟨a1, a2⟩
      · rintro ⟨-, -, a⟩ j _ hj
        rw [hg]
        exact a j hj
    · obtain ⟨k, rfl⟩ : ∃ m, k = m + 1 := ⟨k - 1, by omega⟩
      simp only [impl_GoodTable.l0]
      rw [if_neg (by rw [e]; simp)]
      have := h (S.length + q) (S.length + q + 1) (by omega)
      simp only at this
      rw [show S.length + 1 + q = S.length + q + 1 by omega]
      exact this
  | n :: suf, pre, m, hm, hg, e => by
    have hlen : pre.length < F.length := by rw [e]; simp
    have hrd : rd F (pre.length : Int) = n := by rw [e]; exact rdI
    by_cases h0 : n < 0
    · refine EvQ.step (g := fun _ _ => some false) (fun q k => ?_) (EvQ.no (fun x => by have := (x.1 n (by simp)).1; omega))
      simp only [impl_GoodTable.l0]
      rw [if_pos (by omega), hrd, if_pos h0]
    by_cases h1 : n ≥ (S.length : Int)
    · refine EvQ.step (g := fun _ _ => some false) (fun q k => ?_) (EvQ.no (fun x => by have := (x.1 n (by simp)).2.1; omega))
      simp only [impl_GoodTable.l0]
      rw [if_pos (by omega), hrd, if_neg h0, if_pos h1]
    have hgn : gb m n = true ↔ n ∈ pre := by
      have := hg n.toNat
      rwa [show ((n.toNat : Nat) : Int) = n by omega] at this
    by_cases h2 : gb m n = true
    · refine EvQ.step (g := fun _ _ => some false) (fun q k => ?_) (EvQ.no (fun x => (x.1 n (by simp)).2.2 (hgn.mp h2)))
      simp only [impl_GoodTable.l0]
      rw [if_pos (by omega), hrd, if_neg h0, if_neg h1, if_pos h2]
    have ih := impl_l0 S hS F suf (pre ++ [n]) (m.set n.toNat true) (by simpa using hm) (fun j => by rw [gb_set m hm n (by omega) (by omega), hg]; simp) (by simp [e])
    refine EvQ.step (fun q k => ?_) (ih.iff ?_)
    · simp only [impl_GoodTable.l0]
      rw [if_pos (by omega), hrd, if_neg h0, if_neg h1, if_neg h2]
      simp
    · constructor
      · rintro ⟨a, b, c⟩
        refine ⟨fun x hx => ?_, List.nodup_cons.mpr ⟨fun z => (a n z).2.2 (by simp), b⟩, c⟩
        rcases List.mem_cons.mp hx with rfl | hx
        · exact ⟨by omega, by omega, fun z => h2 (hgn.mpr z)⟩
        · exact ⟨(a x hx).1, (a x hx).2.1, fun z => (a x hx).2.2 (by simp [z])⟩
      · rintro ⟨a, b, c⟩
        refine ⟨fun x hx => ⟨(a x (by simp [hx])).1, (a x (by simp [hx])).2.1, fun z => ?_⟩, (List.nodup_cons.mp b).2, c⟩
        rcases List.mem_append.mp z with z | z
        · exact (a x (by simp [hx])).2.2 z
        · simp only [List.mem_singleton] at z
          subst z
          exact (List.nodup_cons.mp b).1 hx
theorem gb_rep (n j : Nat) : ¬ gb (List.replicate n false) j = true := by
  unfold gb
  rw [List.getD_eq_getElem?_getD, List.getElem?_replicate]
  split <;> simp
theorem impl_good (S : List S75) (F : List Int) : EvB (fun k => impl_GoodTable.f k S F) (GI S F) := by
  unfold impl_GoodTable.f
  by_cases h1 : (S.length : Int) > 40
  · refine EvB.eq (g := fun _ => some false) (fun k => ?_) (EvB.no (fun x => by have := x.1; omega))
    rw [if_pos h1]
  by_cases h2 : (F.length : Int) > (S.length : Int)
  · refine EvB.eq (g := fun _ => some false) (fun k => ?_) (EvB.no (fun x => by have := x.2.1; omega))
    rw [if_neg h1, if_pos h2]
  obtain ⟨b, hb, h⟩ := impl_l0 S (by omega) F F [] (List.replicate 40 false) (by simp) (fun j => ⟨fun a => absurd a (gb_rep 40 j), fun a => by simp at a⟩) rfl
  refine ⟨b, hb.trans ?_, S.length + F.length + 2, fun k hk => ?_⟩
  · simp only [GI]
    constructor
    · rintro ⟨a, c, d⟩
      exact ⟨by omega, by omega, fun n hn => ⟨(a n hn).1, (a n hn).2.1⟩, c, d⟩
    · rintro ⟨-, -, a, c, d⟩
      exact ⟨fun n hn => ⟨(a n hn).1, (a n hn).2, by simp⟩, c, d⟩
  · show (if (S.length : Int) > 40 then some false else if (F.length : Int) > (S.length : Int) then some false else impl_GoodTable.l0 k k S F (List.replicate 40 false) 0) = some b
    rw [if_neg h1, if_neg h2]
    have := h (k - S.length - 1) k (by omega)
    simp only [show S.length + 1 + (k - S.length - 1) = k by omega] at this
    exact this
/-- The list of the places that are not used. -/
def unus (S : List S75) : List Int := ((List.range S.length).filter (fun (j : Nat) => !(rd_T75 S j).f0)).map (fun (j : Nat) => (j : Int))
theorem rdT_cons (a : S75) (S : List S75) (j : Nat) : rd_T75 (a :: S) ((j + 1 : Nat) : Int) = rd_T75 S j := by
  simp only [rd_T75, Int.toNat_natCast, List.getD_cons_succ]
theorem unus_len : ∀ (S : List S75), (unus S).length = S.countP (fun h => !h.f0)
  | [] => rfl
  | a :: S => by
    have h := unus_len S
    unfold unus at h ⊢
    simp only [List.length_map] at h ⊢
    rw [List.length_cons, List.range_succ_eq_map, List.filter_cons, List.countP_cons]
    have hz : rd_T75 (a :: S) ((0 : Nat) : Int) = a := rfl
    have hf : (List.filter (fun (j : Nat) => !(rd_T75 (a :: S) j).f0) (List.map Nat.succ (List.range S.length))).length = S.countP (fun h => !h.f0) := by
      rw [List.filter_map, List.length_map, ← h]
      congr 2
    rw [hz]
    by_cases c : (!a.f0) = true
    · rw [if_pos c, if_pos c, List.length_cons, hf]
    · rw [if_neg c, if_neg c, hf]
      rfl
theorem mem_unus (S : List S75) (n : Int) : n ∈ unus S ↔ 0 ≤ n ∧ n < S.length ∧ (rd_T75 S n).f0 = false := by
  unfold unus
  simp only [List.mem_map, List.mem_filter, List.mem_range, Bool.not_eq_true']
  constructor
  · rintro ⟨j, ⟨a, b⟩, rfl⟩
    exact ⟨by omega, by omega, b⟩
  · rintro ⟨a, b, c⟩
    refine ⟨n.toNat, ⟨by omega, ?_⟩, by omega⟩
    rwa [show ((n.toNat : Nat) : Int) = n by omega]
theorem unus_nodup (S : List S75) : (unus S).Nodup := by
  unfold unus
  refine List.Pairwise.map _ (fun a b h => ?_) (List.Pairwise.filter _ List.nodup_range)
  omega
theorem slot_at (S : List S75) : (∀ h ∈ S, slotOk h) ↔ ∀ j : Nat, j < S.length → slotOk (rd_T75 S j) := by
  constructor
  · intro a j hj
    refine a _ ?_
    simp only [rd_T75, Int.toNat_natCast, List.getD_eq_getElem?_getD, List.getElem?_eq_getElem hj, Option.getD_some]
    exact List.getElem_mem hj
  · intro a h hh
    obtain ⟨j, hj, rfl⟩ := List.mem_iff_getElem.mp hh
    have := a j hj
    simpa only [rd_T75, Int.toNat_natCast, List.getD_eq_getElem?_getD, List.getElem?_eq_getElem hj, Option.getD_some] using this
theorem isz_used {h : S75} (a : isz h = true) : h.f0 = false := by
  unfold isz at a
  simp only [Bool.and_eq_true, Bool.not_eq_true'] at a
  exact a.1
theorem hok_used {h : S75} (a : hok h = true) : h.f0 = true := by
  unfold hok at a
  simp only [Bool.and_eq_true] at a
  exact a.1
theorem good_iff (S : List S75) (F : List Int) : GI S F ↔ GS S F := by
  unfold GI GS
  rw [slot_at]
  constructor
  · rintro ⟨a1, a2, a3, a4, a5⟩
    have hu : ∀ n ∈ F, 0 ≤ n ∧ n < S.length ∧ (rd_T75 S n).f0 = false := fun n hn => by
      obtain ⟨b1, b2⟩ := a3 n hn
      have := (a5 n.toNat (by omega)).1
      rw [show ((n.toNat : Nat) : Int) = n by omega] at this
      exact ⟨b1, b2, isz_used (this.mp hn)⟩
    have hs : ∀ j : Nat, j < S.length → slotOk (rd_T75 S j) := fun j hj => by
      obtain ⟨b1, b2⟩ := a5 j hj
      constructor
      · intro c
        exact b2 (fun d => by rw [isz_used (b1.mp d)] at c; exact absurd c (by simp))
      · intro c
        refine b1.mp (Classical.byContradiction fun d => ?_)
        rw [hok_used (b2 d)] at c
        exact absurd c (by simp)
    refine ⟨hs, hu, a4, a1, ?_⟩
    rw [← unus_len]
    refine Nat.le_antisymm (sub_len _ _ a4 (fun n hn => (mem_unus S n).mpr (hu n hn))) (sub_len _ _ (unus_nodup S) (fun n hn => ?_))
    obtain ⟨c1, c2, c3⟩ := (mem_unus S n).mp hn
    have hn' := (a5 n.toNat (by omega)).1
    have hs' := hs n.toNat (by omega)
    rw [show ((n.toNat : Nat) : Int) = n by omega] at hn' hs'
    exact hn'.mpr (hs'.2 c3)
  · rintro ⟨a1, a2, a3, a4, a5⟩
    rw [← unus_len] at a5
    have hin : ∀ n ∈ unus S, n ∈ F := fun n hn => Classical.byContradiction fun c => by
      have := sub_len (n :: F) (unus S) (List.nodup_cons.mpr ⟨c, a3⟩) (fun x hx => by
        rcases List.mem_cons.mp hx with rfl | hx
        · exact hn
        · exact (mem_unus S x).mpr (a2 x hx))
      simp only [List.length_cons] at this
      omega
    refine ⟨a4, ?_, fun n hn => ⟨(a2 n hn).1, (a2 n hn).2.1⟩, a3, fun j hj => ⟨⟨fun h => (a1 j hj).2 (a2 _ h).2.2, fun h => hin _ ((mem_unus S j).mpr ⟨by omega, by omega, isz_used h⟩)⟩, fun h => (a1 j hj).1 ?_⟩⟩
    · rw [a5]
      unfold unus
      rw [List.length_map]
      exact Nat.le_trans (List.length_filter_le _ _) (by simp)
    · refine Classical.byContradiction fun c => h (hin _ ((mem_unus S j).mpr ⟨by omega, by omega, by simpa using c⟩))
end Go.Proofs.Ytdoflfifnkpacaa.WO
