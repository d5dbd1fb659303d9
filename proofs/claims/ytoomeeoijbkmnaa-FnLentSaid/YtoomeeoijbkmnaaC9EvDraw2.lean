/-
  Plain laws about what the printed functions compute.
-/
import Derived.Test.YtoomeeoijbkmnaaC9EvFull
import Derived.Test.YtoomeeoijbkmnaaC9EvDraw1
namespace Go.Proofs.Ytoomeeoijbkmnaa.PH
open Go.RowKit Go.Proofs.YtoomeeoijbkmnaaW.PrintWords Go.Proofs.YtoomeeoijbkmnaaW.PrintLast
set_option linter.unusedSimpArgs false
theorem handle_j0_ok {code : List Int} (hb : Byt code) (a s : Int) (p0 : Bool) (p1 p2 : Int) (p3 : Bool) (p4 p5 : Int) (h0 : 0 ≤ a) (h1 : a < 4611686018427380000) :
    ∃ (h : S46) (a' s' : Int), Ev (fun k => spec_l1Cur_handle.j0 k code a s p0 p1 p2 p3 p4 p5) (h.f0, h.f1, h.f2, h.f3, h.f4, h.f5, a', s') ∧ a ≤ a' ∧ a' ≤ a + 4 := by
  obtain ⟨o, a1, s1, e1, x1, y1⟩ := one_ok hb a s 30 h0 (by omega)
  cases o
  · refine ⟨⟨p0, p1, p2, p3, p4, p5⟩, a1, s1, Ev.step (g := fun _ => some (p0, p1, p2, p3, p4, p5, a1, s1)) (fun k => ?_) (Ev.const _), x1, by omega⟩
    simp only [spec_l1Cur_handle.j0, e1, Option.bind_some]
    rw [if_neg (by decide)]
  · obtain ⟨q, a2, s2, e2, -, x2, y2⟩ := among_ok hb a1 s1 [0, 1, 1001] (by decide) (by omega) (by omega)
    refine ⟨⟨p0, p1, p2, p3, p4, q⟩, a2, s2, Ev.step (g := fun _ => some (p0, p1, p2, p3, p4, q, a2, s2)) (fun k => ?_) (Ev.const _), by omega, by omega⟩
    simp only [spec_l1Cur_handle.j0, e1, Option.bind_some]
    rw [if_pos trivial, e2, Option.bind_some]
theorem handle_ok {code : List Int} (hb : Byt code) (a s : Int) (h0 : 0 ≤ a) (h1 : a < 4611686018427370000) :
    ∃ (h : S46) (a' s' : Int), Ev (fun k => spec_l1Cur_handle.f k code a s) (h.f0, h.f1, h.f2, h.f3, h.f4, h.f5, a', s') ∧ a ≤ a' ∧ a' ≤ a + 12 := by
  obtain ⟨q1, a1, s1, e1, -, -, x1, y1⟩ := pick_ok hb a s 3 h0 (by omega)
  obtain ⟨q2, a2, s2, e2, -, -, x2, y2⟩ := pick_ok hb a1 s1 20 (by omega) (by omega)
  obtain ⟨o, a3, s3, e3, x3, y3⟩ := one_ok hb a2 s2 2 (by omega) (by omega)
  unfold spec_l1Cur_handle.f
  simp only [e1, e2, e3, Option.bind_some]
  cases o
  · obtain ⟨q4, a4, s4, e4, -, -, x4, y4⟩ := pick_ok hb a3 s3 3 (by omega) (by omega)
    obtain ⟨h, a5, s5, e5, x5, y5⟩ := handle_j0_ok hb a4 s4 true q1 q2 false 0 (wrap64 (1 + q4)) (by omega) (by omega)
    refine ⟨h, a5, s5, ?_, by omega, by omega⟩
    simp only [e4, Option.bind_some]
    exact Ev.neg (by decide) e5
  · obtain ⟨h, a5, s5, e5, x5, y5⟩ := handle_j0_ok hb a3 s3 true q1 q2 true 0 0 (by omega) (by omega)
    exact ⟨h, a5, s5, Ev.pos rfl e5, by omega, by omega⟩
theorem GS_nil : GS ([] : List S46) ([] : List Int) := by
  refine ⟨?_, ?_, ?_, ?_, ?_⟩ <;> simp
theorem newR_GS {S : List S46} {F : List Int} (g : GS S F) (h : S46) : GS (newR S F h).1 (newR S F h).2.1 := by
  unfold newR
  by_cases c : hok h = true
  · rw [if_pos c]
    by_cases d : h.f4 = 0
    · rw [if_pos d]
      by_cases e : 0 < F.length
      · rw [if_pos e]
        exact GS_put g e c
      · rw [if_neg e]
        by_cases f : S.length = 40
        · rw [if_pos f]
          exact g
        · rw [if_neg f]
          exact GS_push g (by have := g.2.2.2.1; omega) c
    · rw [if_neg d]
      exact g
  · rw [if_neg c]
    exact g
theorem slot_hok {S : List S46} {F : List Int} (g : GS S F) {n : Int} (h0 : 0 ≤ n) (h1 : n < S.length) (hu : (rd_T46 S n).f0 = true) : hok (rd_T46 S n) = true := by
  rw [rdT_in S n h0 h1] at hu ⊢
  exact (g.1 _ (List.getElem_mem _)).1 hu
theorem hok_parts {h : S46} (a : hok h = true) : h.f0 = true ∧ (0 ≤ h.f1 ∧ h.f1 ≤ 9) ∧ (0 ≤ h.f2 ∧ h.f2 ≤ 1000000) ∧ (0 ≤ h.f4 ∧ h.f4 ≤ 1000) ∧ (0 ≤ h.f5 ∧ h.f5 ≤ 1000) ∧ (h.f3 == (h.f5 == 0)) = true := by
  unfold hok at a
  simpa only [Bool.and_eq_true, decide_eq_true_eq] using a
theorem hok_lends {h : S46} (a : hok h = true) {n : Int} (h0 : 0 ≤ n) (h1 : n ≤ 1000) : hok ⟨h.f0, h.f1, h.f2, h.f3, n, h.f5⟩ = true := by
  obtain ⟨b0, b1, b2, b3, b4, b5⟩ := hok_parts a
  unfold hok
  simp only [Bool.and_eq_true, decide_eq_true_eq]
  exact ⟨b0, b1, b2, ⟨h0, h1⟩, b4, b5⟩
theorem findR_used {S : List S46} {a r : Int} (h : (findR S a r).2.2.2.2.2.2 = 0) : 0 ≤ a ∧ a < S.length ∧ (rd_T46 S a).f0 = true ∧ (rd_T46 S a).f1 = r ∧ findR S a r = ((rd_T46 S a).f0, (rd_T46 S a).f1, (rd_T46 S a).f2, (rd_T46 S a).f3, (rd_T46 S a).f4, (rd_T46 S a).f5, 0) := by
  unfold findR at h ⊢
  by_cases c : 0 ≤ a ∧ a < S.length ∧ (rd_T46 S a).f0 = true
  · rw [if_pos c] at h ⊢
    by_cases d : (rd_T46 S a).f1 = r
    · rw [if_pos d]
      exact ⟨c.1, c.2.1, c.2.2, d, rfl⟩
    · rw [if_neg d] at h
      simp at h
  · rw [if_neg c] at h
    simp at h
theorem lendR_GS {S : List S46} {F : List Int} (g : GS S F) (a r : Int) : GS (lendR S F a r).1 (lendR S F a r).2.1 := by
  unfold lendR
  dsimp only
  by_cases c : (findR S a r).2.2.2.2.2.2 = 0
  · obtain ⟨h0, h1, hu, hr, e⟩ := findR_used c
    rw [if_pos c]
    by_cases d : (findR S a r).2.2.2.2.1 = 1000
    · rw [if_pos d]
      exact g
    · rw [if_neg d]
      rw [e] at d
      have ho := slot_hok g h0 h1 hu
      obtain ⟨b0, b1, b2, b3, b4, b5⟩ := hok_parts ho
      have hw : wrap64 ((rd_T46 S a).f4 + 1) = (rd_T46 S a).f4 + 1 := wrap_in (by omega) (by omega)
      rw [hw]
      dsimp only at d
      have e2 : ((a.toNat : Nat) : Int) = a := by omega
      refine GS_set_used g (n := a.toNat) (by omega) (by rw [e2]; exact hu) (hok_lends ho (by omega) (by omega))
  · rw [if_neg c]
    exact g
theorem dropR_GS (m : Bool) {S : List S46} {F : List Int} (g : GS S F) (a r : Int) : GS (dropR m S F a r).1 (dropR m S F a r).2.1 := by
  unfold dropR
  dsimp only
  by_cases c : (findR S a r).2.2.2.2.2.2 = 0
  · obtain ⟨h0, h1, hu, hr, e⟩ := findR_used c
    rw [if_pos c]
    by_cases d : (m && !(findR S a r).2.2.2.1) = true
    · rw [if_pos d]
      exact g
    · rw [if_neg d]
      by_cases f : (findR S a r).2.2.2.2.1 = 0
      · rw [if_pos f]
        have e2 : ((a.toNat : Nat) : Int) = a := by omega
        have := GS_free g (n := a.toNat) (by omega) (by rw [e2]; exact hu)
        rw [e2] at this
        exact this
      · rw [if_neg f]
        exact g
  · rw [if_neg c]
    exact g
end Go.Proofs.Ytoomeeoijbkmnaa.PH
