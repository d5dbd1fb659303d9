/-
  Plain laws about what the printed functions compute.
-/
import Derived.Test.YtoomeeoijbkmnaaC9EvNew
import Derived.Test.YtoomeeoijbkmnaaC9EvDrop
namespace Go.Proofs.Ytoomeeoijbkmnaa.PH
open Go.RowKit Go.Proofs.YtoomeeoijbkmnaaW.PrintWords Go.Proofs.YtoomeeoijbkmnaaW.PrintLast
set_option linter.unusedSimpArgs false
theorem rdT_nat (S : List S46) (n : Nat) (h : n < S.length) : rd_T46 S (n : Int) = S[n] := by
  simp only [rd_T46, Int.toNat_natCast, List.getD_eq_getElem?_getD, List.getElem?_eq_getElem h, Option.getD_some]
theorem rdT_in (S : List S46) (n : Int) (h0 : 0 ≤ n) (h : n < S.length) : rd_T46 S n = S[n.toNat]'(by omega) := by
  obtain ⟨m, rfl⟩ : ∃ m : Nat, n = m := ⟨n.toNat, by omega⟩
  rw [rdT_nat S m (by omega)]
  rfl
theorem rdT_set_ne (S : List S46) (n : Nat) (h : S46) (m : Int) (h0 : 0 ≤ m) (hm : m ≠ n) : rd_T46 (S.set n h) m = rd_T46 S m := by
  obtain ⟨j, rfl⟩ : ∃ j : Nat, m = j := ⟨m.toNat, by omega⟩
  simp only [rd_T46, Int.toNat_natCast, List.getD_eq_getElem?_getD, List.getElem?_set]
  rw [if_neg (by omega)]
theorem rdT_set_eq (S : List S46) (n : Nat) (h : S46) (hn : n < S.length) : rd_T46 (S.set n h) (n : Int) = h := by
  rw [rdT_nat _ _ (by simpa using hn)]
  simp
theorem slot_z : slotOk z46 := by
  refine ⟨fun x => ?_, fun _ => by rfl⟩
  simp [z46] at x
theorem slot_ok {h : S46} (hh : hok h = true) : slotOk h := ⟨fun _ => hh, fun x => by rw [hok_used hh] at x; cases x⟩
theorem GS_set_used {S : List S46} {F : List Int} (g : GS S F) {n : Nat} (hn : n < S.length) (hu : (rd_T46 S n).f0 = true) {h : S46} (hh : hok h = true) : GS (S.set n h) F := by
  obtain ⟨g1, g2, g3, g4, g5⟩ := g
  rw [rdT_nat S n hn] at hu
  refine ⟨fun x hx => ?_, fun m hm => ?_, g3, by simpa using g4, ?_⟩
  · rcases List.mem_or_eq_of_mem_set hx with hx | rfl
    · exact g1 x hx
    · exact slot_ok hh
  · obtain ⟨a, b, c⟩ := g2 m hm
    refine ⟨a, by simpa using b, ?_⟩
    rw [rdT_set_ne S n h m a]
    · exact c
    · rintro rfl
      rw [rdT_nat S n hn, hu] at c
      cases c
  · rw [List.countP_set hn, g5]
    simp [hu, hok_used hh]
theorem GS_free {S : List S46} {F : List Int} (g : GS S F) {n : Nat} (hn : n < S.length) (hu : (rd_T46 S n).f0 = true) : GS (S.set n z46) (F ++ [(n : Int)]) := by
  obtain ⟨g1, g2, g3, g4, g5⟩ := g
  have hu' := hu
  rw [rdT_nat S n hn] at hu
  have hne : ∀ m ∈ F, m ≠ (n : Int) := by
    rintro m hm rfl
    have := (g2 _ hm).2.2
    rw [hu'] at this
    cases this
  refine ⟨fun x hx => ?_, fun m hm => ?_, ?_, by simpa using g4, ?_⟩
  · rcases List.mem_or_eq_of_mem_set hx with hx | rfl
    · exact g1 x hx
    · exact slot_z
  · rcases List.mem_append.1 hm with hm | hm
    · obtain ⟨a, b, c⟩ := g2 m hm
      refine ⟨a, by simpa using b, ?_⟩
      rw [rdT_set_ne S n _ m a (hne m hm)]
      exact c
    · rw [List.mem_singleton] at hm
      subst hm
      refine ⟨by omega, by simpa using hn, ?_⟩
      rw [rdT_set_eq S n _ hn]
      rfl
  · rw [List.nodup_append]
    refine ⟨g3, by simp, fun a ha b hb => ?_⟩
    rw [List.mem_singleton] at hb
    subst hb
    exact hne a ha
  · rw [List.countP_set hn, List.length_append, g5]
    simp [hu, z46]
theorem GS_put {S : List S46} {F : List Int} (g : GS S F) (hF : 0 < F.length) {h : S46} (hh : hok h = true) : GS (S.set (rd F ((F.length : Int) - 1)).toNat h) (F.take (F.length - 1)) := by
  obtain ⟨i1, i2⟩ := last_in g hF
  obtain ⟨g1, g2, g3, g4, g5⟩ := g
  have hne : F ≠ [] := by
    rintro rfl
    simp at hF
  have e : rd F ((F.length : Int) - 1) = F.getLast hne := by
    unfold rd
    have e : ((F.length : Int) - 1).toNat = F.length - 1 := by omega
    rw [e, List.getD_eq_getElem?_getD, List.getElem?_eq_getElem (by omega), Option.getD_some, List.getLast_eq_getElem]
  rw [e] at i1 i2 ⊢
  have sp : F.take (F.length - 1) ++ [F.getLast hne] = F := by
    rw [← List.dropLast_eq_take]
    exact List.dropLast_concat_getLast hne
  generalize F.getLast hne = l at *
  obtain ⟨n, rfl⟩ : ∃ n : Nat, l = n := ⟨l.toNat, by omega⟩
  have hn : n < S.length := by omega
  rw [Int.toNat_natCast]
  have hf := (g2 n (by rw [← sp]; simp)).2.2
  rw [rdT_nat S n hn] at hf
  rw [← sp, List.nodup_append] at g3
  have hlen : F.length = (F.take (F.length - 1)).length + 1 := by
    rw [List.length_take]
    omega
  refine ⟨fun x hx => ?_, fun m hm => ?_, g3.1, by simpa using g4, ?_⟩
  · rcases List.mem_or_eq_of_mem_set hx with hx | rfl
    · exact g1 x hx
    · exact slot_ok hh
  · obtain ⟨a, b, c⟩ := g2 m (by rw [← sp]; simp [hm])
    refine ⟨a, by simpa using b, ?_⟩
    rw [rdT_set_ne S n h m a (g3.2.2 m hm n (by simp))]
    exact c
  · rw [List.countP_set hn]
    simp only [hf, hok_used hh]
    rw [← g5]
    simp
theorem GS_push {S : List S46} {F : List Int} (g : GS S F) (hS : S.length < 40) {h : S46} (hh : hok h = true) : GS (S ++ [h]) F := by
  obtain ⟨g1, g2, g3, g4, g5⟩ := g
  refine ⟨fun x hx => ?_, fun m hm => ?_, g3, by simp; omega, ?_⟩
  · rcases List.mem_append.1 hx with hx | hx
    · exact g1 x hx
    · rw [List.mem_singleton] at hx
      subst hx
      exact slot_ok hh
  · obtain ⟨a, b, c⟩ := g2 m hm
    refine ⟨a, by simp; omega, ?_⟩
    rw [rdT_in S m a b] at c
    rw [rdT_in _ m a (by simp; omega), List.getElem_append_left]
    exact c
  · rw [List.countP_append, g5]
    simp [hok_used hh]
end Go.Proofs.Ytoomeeoijbkmnaa.PH
