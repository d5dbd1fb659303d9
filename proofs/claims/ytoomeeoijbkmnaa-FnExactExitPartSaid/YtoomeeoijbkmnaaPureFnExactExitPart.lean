/-
  The plain law behind FnExactExitPart: what the program's functions compute is what the reference's compute.
-/
import Derived.Test.YtoomeeoijbkmnaaPFnExactExitPartx2
import Derived.Test.YtoomeeoijbkmnaaReads
namespace Go.Proofs.Ytoomeeoijbkmnaa.PFnExactExitPart
open Go.RowKit Go.Proofs.YtoomeeoijbkmnaaW.PrintWords Go.Proofs.YtoomeeoijbkmnaaW.PrintLast
set_option linter.unusedSimpArgs false

def okc (c : Int) : Prop := (97 ≤ c ∧ c ≤ 122) ∨ (48 ≤ c ∧ c ≤ 57) ∨ c = 45
instance (c : Int) : Decidable (okc c) := by unfold okc; infer_instance
def allOk (s : ByteArray) (i : Int) : Prop := ∀ j : Int, i ≤ j → j < s.size → okc (bt s j)

theorem allOk_step {s : ByteArray} {i : Int} (h : okc (bt s i)) : allOk s i ↔ allOk s (i + 1) := by
  constructor
  · intro a j h1 h2
    exact a j (by omega) h2
  · intro a j h1 h2
    by_cases e : j = i
    · rw [e]
      exact h
    · exact a j (by omega) h2

theorem wrap_next {i : Int} {n : Nat} (h0 : 0 ≤ i) (h : i < (n : Int)) (hn : n ≤ 140737488351232) : wrap64 (i + 1) = i + 1 := by
  unfold wrap64
  omega

theorem impl_loop (s : ByteArray) (hn : s.size ≤ 140737488351232) (d : Nat) : ∀ (k : Nat) (i : Int), 0 ≤ i → i ≤ s.size → (s.size : Int) - i = d → d < k →
    (allOk s i → impl_partNameOk.l0 k s i = some true) ∧ (¬ allOk s i → impl_partNameOk.l0 k s i = some false) := by
  induction d with
  | zero =>
    intro k i h0 h1 hd hk
    obtain ⟨k, rfl⟩ : ∃ m, k = m + 1 := ⟨k - 1, by omega⟩
    have ha : allOk s i := fun j h1 h2 => by omega
    refine ⟨fun _ => ?_, fun h => absurd ha h⟩
    simp only [impl_partNameOk.l0]; rw [if_neg (by omega)]
  | succ d ih =>
    intro k i h0 h1 hd hk
    obtain ⟨k, rfl⟩ : ∃ m, k = m + 1 := ⟨k - 1, by omega⟩
    have hlt : i < (s.size : Int) := by omega
    obtain ⟨i1, i2⟩ := ih k (i + 1) (by omega) (by omega) (by omega) (by omega)
    by_cases hc : okc (bt s i)
    · have key : impl_partNameOk.l0 (k + 1) s i = impl_partNameOk.l0 k s (i + 1) := by
        simp only [impl_partNameOk.l0]; rw [if_pos hlt, if_pos h0, wrap_next h0 hlt hn]
        unfold okc at hc
        repeat' split
        all_goals first | rfl | omega
      rw [key, allOk_step hc]
      exact ⟨i1, i2⟩
    · have key : impl_partNameOk.l0 (k + 1) s i = some false := by
        simp only [impl_partNameOk.l0]; rw [if_pos hlt, if_pos h0]
        unfold okc at hc
        repeat' split
        all_goals first | rfl | omega
      rw [key]
      exact ⟨fun a => absurd (a i (Int.le_refl _) hlt) hc, fun _ => rfl⟩

theorem spec_loop (s : ByteArray) (hn : s.size ≤ 140737488351232) (d : Nat) : ∀ (k : Nat) (i : Int), 0 ≤ i → i ≤ s.size → (s.size : Int) - i = d → d < k →
    (allOk s i → spec_l17Name.l0 k s i = some (decide (1 ≤ (s.size : Int) ∧ (s.size : Int) ≤ 20))) ∧ (¬ allOk s i → spec_l17Name.l0 k s i = some false) := by
  induction d with
  | zero =>
    intro k i h0 h1 hd hk
    obtain ⟨k, rfl⟩ : ∃ m, k = m + 1 := ⟨k - 1, by omega⟩
    have ha : allOk s i := fun j h1 h2 => by omega
    refine ⟨fun _ => ?_, fun h => absurd ha h⟩
    simp only [spec_l17Name.l0]; rw [if_neg (by omega)]
    unfold spec_l1In.f
    by_cases h : (s.size : Int) ≥ 1
    · rw [if_pos h]; simp; omega
    · rw [if_neg h]; simp; omega
  | succ d ih =>
    intro k i h0 h1 hd hk
    obtain ⟨k, rfl⟩ : ∃ m, k = m + 1 := ⟨k - 1, by omega⟩
    have hlt : i < (s.size : Int) := by omega
    obtain ⟨i1, i2⟩ := ih k (i + 1) (by omega) (by omega) (by omega) (by omega)
    by_cases hc : okc (bt s i)
    · have key : spec_l17Name.l0 (k + 1) s i = spec_l17Name.l0 k s (i + 1) := by
        simp only [spec_l17Name.l0]; rw [if_pos hlt, if_pos h0, wrap_next h0 hlt hn]
        unfold okc at hc
        repeat' split
        all_goals first | rfl | omega
      rw [key, allOk_step hc]
      exact ⟨i1, i2⟩
    · have key : spec_l17Name.l0 (k + 1) s i = some false := by
        simp only [spec_l17Name.l0]; rw [if_pos hlt, if_pos h0]
        unfold okc at hc
        repeat' split
        all_goals first | rfl | omega
      rw [key]
      exact ⟨fun a => absurd (a i (Int.le_refl _) hlt) hc, fun _ => rfl⟩

theorem name_both (s : ByteArray) (hn : s.size ≤ 140737488351232) : ∃ b K, ∀ k, K ≤ k → impl_partNameOk.f k s = some b ∧ spec_l17Name.f k s = some b := by
  by_cases ha : allOk s 0
  · refine ⟨decide (1 ≤ (s.size : Int) ∧ (s.size : Int) ≤ 20), s.size + 3, fun k hk => ⟨?_, (spec_loop s hn s.size k 0 (by omega) (by omega) (by omega) (by omega)).1 ha⟩⟩
    obtain ⟨k, rfl⟩ : ∃ m, k = m + 1 := ⟨k - 1, by omega⟩
    have hl := (impl_loop s hn s.size k 0 (by omega) (by omega) (by omega) (by omega)).1 ha
    unfold impl_partNameOk.f
    simp only [impl_partNameOk.j0]
    by_cases h1 : (s.size : Int) < 1
    · rw [if_pos h1]; simp; omega
    · rw [if_neg h1]
      by_cases h2 : (s.size : Int) > 20
      · rw [if_pos (by simpa using h2)]; simp; omega
      · rw [if_neg (by simpa using h2), hl]; simp; omega
  · refine ⟨false, s.size + 3, fun k hk => ⟨?_, (spec_loop s hn s.size k 0 (by omega) (by omega) (by omega) (by omega)).2 ha⟩⟩
    obtain ⟨k, rfl⟩ : ∃ m, k = m + 1 := ⟨k - 1, by omega⟩
    have hl := (impl_loop s hn s.size k 0 (by omega) (by omega) (by omega) (by omega)).2 ha
    unfold impl_partNameOk.f
    simp only [impl_partNameOk.j0]
    by_cases h1 : (s.size : Int) < 1
    · rw [if_pos h1]; simp
    · rw [if_neg h1]
      by_cases h2 : (s.size : Int) > 20
      · rw [if_pos (by simpa using h2)]
      · rw [if_neg (by simpa using h2), hl]

theorem heap_both (m : Int) (d : ByteArray) (n : Int) : ∃ b, impl_GoodHeap.f m d n = some b ∧ spec_GoodHeap.f m d n = some b := by
  unfold impl_GoodHeap.f spec_GoodHeap.f impl_GoodMemory.f spec_GoodMemory.f spec_l1In.f
  by_cases h1 : m ≥ 0
  · rw [if_pos h1, if_pos h1]
    by_cases h2 : m ≤ 8
    · rw [if_pos h2]
      by_cases h3 : ((d.size : Int) % 256) = 0
      · rw [if_pos h3]
        simp only [Option.bind_some, decide_eq_true_eq]
        by_cases h4 : (d.size : Int) ≤ wrap64 (m * 256)
        · by_cases h5 : n ≥ 0
          · exact ⟨decide (n ≤ (d.size : Int)), by simp [h4, h5], by simp [h2, h3, h4, h5]⟩
          · exact ⟨false, by simp [h4, h5], by simp [h2, h3, h4, h5]⟩
        · exact ⟨false, by simp [h4], by simp [h2, h3, h4]⟩
      · rw [if_neg h3]
        exact ⟨false, by simp, by simp [h2, h3]⟩
    · rw [if_neg h2]
      exact ⟨false, by simp, by simp [h2]⟩
  · rw [if_neg h1, if_neg h1]
    exact ⟨false, by simp, by simp⟩

theorem code_both (c : Int) : ∃ b, impl_goodCodeOfText.f c = some b ∧ spec_l2Code.f c = some b := by
  unfold impl_goodCodeOfText.f spec_l2Code.f spec_l1In.f
  by_cases h : c ≥ 1
  · exact ⟨decide (c ≤ 3), by simp [h], by simp [h]⟩
  · exact ⟨false, by simp [h], by simp [h]⟩

theorem good_both (a0 : ByteArray) (a1 : Int) (a2 : ByteArray) (a3 a4 : Int) (a5 a6 : Bool) (hn : a0.size ≤ 140737488351232) :
    ∃ b K, ∀ k, K ≤ k → impl_GoodPart.f k a0 a1 a2 a3 a4 a5 a6 = some b ∧ spec_GoodPart.f k a0 a1 a2 a3 a4 a5 a6 = some b := by
  obtain ⟨b, K, h⟩ := name_both a0 hn
  obtain ⟨b2, h21, h22⟩ := heap_both a1 a2 a3
  obtain ⟨b3, h31, h32⟩ := code_both a4
  refine ⟨b && (b2 && b3), K, fun k hk => ?_⟩
  obtain ⟨h1, h2⟩ := h k hk
  unfold impl_GoodPart.f spec_GoodPart.f
  rw [h1, h2]
  simp only [Option.bind_some]
  cases b
  · exact ⟨by simp, by simp⟩
  · simp only [if_true, h21, h22, Option.bind_some]
    cases b2
    · exact ⟨by simp, by simp⟩
    · simp only [if_true, h31, h32, Option.bind_some]
      exact ⟨by simp, by simp⟩

theorem sz_some (a0 : ByteArray) (a1 : Int) (a2 : ByteArray) (a3 a4 : Int) (a5 a6 : Bool) : ∃ t, laws_szPart.f a0 a1 a2 a3 a4 a5 a6 1048576 = some t := by
  unfold laws_szPart.f laws_szHeap.f laws_szMemory.f
  repeat' first | exact ⟨_, rfl⟩ | split | simp only [Option.bind_some]
theorem eq_self (a0 : ByteArray) (a1 : Int) (a2 : ByteArray) (a3 a4 : Int) (a5 a6 : Bool) : laws_eqPart.f a0 a1 a2 a3 a4 a5 a6 a0 a1 a2 a3 a4 a5 a6 = some true := by
  unfold laws_eqPart.f laws_eqHeap.f laws_eqMemory.f
  simp

theorem pure_ok (a0 : ByteArray) (a1 : Int) (a2 : ByteArray) (a3 a4 : Int) (a5 a6 : Bool) (hn : a0.size ≤ 140737488351232) : ∃ k, laws_FnExactExitPart.f k a0 a1 a2 a3 a4 a5 a6 = some true := by
  obtain ⟨t, ht⟩ := sz_some a0 a1 a2 a3 a4 a5 a6
  obtain ⟨b, K, h⟩ := good_both a0 a1 a2 a3 a4 a5 a6 hn
  obtain ⟨h1, h2⟩ := h K (Nat.le_refl _)
  refine ⟨K, ?_⟩
  unfold laws_FnExactExitPart.f
  rw [ht]
  simp only [Option.bind_some]
  by_cases c : t < 0
  · rw [if_pos c]
  · rw [if_neg c]
    have key : impl_ExitPart.f K a0 a1 a2 a3 a4 a5 a6 = spec_ExitPart.f K a0 a1 a2 a3 a4 a5 a6 := by
      unfold impl_ExitPart.f spec_ExitPart.f
      rw [h1, h2]
    have hs : ∃ r, spec_ExitPart.f K a0 a1 a2 a3 a4 a5 a6 = some r := by
      unfold spec_ExitPart.f
      rw [h2]
      simp only [Option.bind_some]
      repeat' first | exact ⟨_, rfl⟩ | split
    obtain ⟨r, hr⟩ := hs
    rw [hr] at key
    unfold laws_toPart.f laws_toHeap.f laws_toMemory.f
    simp only [Option.bind_some, key, hr, eq_self]
    simp

theorem pure_of (W : World) (a0 : ByteArray) (a1 : Int) (a2 : ByteArray) (a3 a4 : Int) (a5 a6 : Bool) (h0 : Op.R9 W [.string a0]) (_ : Op.R3 W [.int .i64 a1]) (_ : Op.R9 W [.string a2]) (_ : Op.R3 W [.int .i64 a3]) (_ : Op.R3 W [.int .i64 a4]) (_ : Op.R4 W [.bool a5]) (_ : Op.R4 W [.bool a6]) :
    ∃ k, laws_FnExactExitPart.f k a0 a1 a2 a3 a4 a5 a6 = some true := by
  obtain ⟨s, e, hs⟩ := h0
  simp only [List.cons.injEq, Value.string.injEq, and_true] at e
  subst e
  exact pure_ok _ _ _ _ _ _ _ hs
end Go.Proofs.Ytoomeeoijbkmnaa.PFnExactExitPart
