import Derived.Test.YtoomeeoijbkmnaaC9EvDraw4
import Derived.Test.YtoomeeoijbkmnaaC9Slices8
import Derived.Test.YtoomeeoijbkmnaaC9WalkLent2
import Derived.Lib.Hide
import Derived.Deep.QuietTactic
import Derived.BigQuiet
import Derived.WalkSpells
import Derived.WalkLawsBesides
import Derived.StillTailTactics
namespace Go.Proofs.Ytoomeeoijbkmnaa.PH
open Go.RowKit Go.Proofs.YtoomeeoijbkmnaaW.PrintWords Go.Proofs.YtoomeeoijbkmnaaW.PrintLast Go.Proofs.YtoomeeoijbkmnaaW.PrintMore
set_option linter.unusedVariables false
set_option linter.unusedSimpArgs false
theorem drawLend_ok {code : List Int} (hb : Byt code) : ∃ (S : List S46) (F : List Int) (a r : Int), S.length ≤ 41 ∧ F.length ≤ 41 ∧ Ev (fun k => spec_DrawLendHandle.f k code) (S, F, a, r) := by
  obtain ⟨S, F, a, s, hT, l1, l2, l3, l4⟩ := table_ok hb
  obtain ⟨p1, p2, p3, ep, z0, z1, x1, y1⟩ := pick_ok hb a s (wrap64 ((S.length : Int) + 2)) l3 (by omega)
  obtain ⟨o, a2, s2, eo, x2, y2⟩ := one_ok hb p2 p3 4 (by omega) (by omega)
  obtain ⟨q1, a3, s3, eq, -, -, x3, y3⟩ := pick_ok hb p2 p3 4 (by omega) (by omega)
  obtain ⟨q2, a4, s4, eq2, -, -, x4, y4⟩ := pick_ok hb a2 s2 4 (by omega) (by omega)
  have hin := l1In_at S (by omega) (wrap64 (p1 - 1))
  suffices g : ∃ r : Int, Ev (fun k => spec_DrawFindHandle.f k code) (S, F, wrap64 (p1 - 1), r) by
    obtain ⟨r, g⟩ := g
    refine ⟨S, F, wrap64 (p1 - 1), r, l1, l2, ?_⟩
    unfold spec_DrawLendHandle.f
    exact Ev.bind g (Ev.const _)
  unfold spec_DrawFindHandle.f
  by_cases c : 0 ≤ wrap64 (p1 - 1) ∧ wrap64 (p1 - 1) < S.length
  · cases o
    · refine ⟨(rd_T46 S (wrap64 (p1 - 1))).f1, Ev.bind hT ?_⟩
      simp only [ep, hin, eo, Option.bind_some]
      refine Ev.of ?_
      rw [if_pos (by simpa using c), if_neg (by decide), if_pos c.1, if_pos c.2]
    · refine ⟨q2, Ev.bind hT ?_⟩
      simp only [ep, hin, eo, eq2, Option.bind_some]
      refine Ev.of ?_
      rw [if_pos (by simpa using c), if_pos trivial]
  · refine ⟨q1, Ev.bind hT ?_⟩
    simp only [ep, hin, eq, Option.bind_some]
    refine Ev.of ?_
    rw [if_neg (by simpa using c)]
theorem lendR_cases {S : List S46} {F : List Int} (g : GS S F) (a r : Int) : (∃ c : Int, c ≠ 0 ∧ lendR S F a r = (S, F, false, 0, 0, false, 0, 0, c)) ∨
    ((0 ≤ a ∧ a < S.length ∧ (rd_T46 S a).f0 = true ∧ (rd_T46 S a).f1 = r ∧ hok (rd_T46 S a) = true ∧ (rd_T46 S a).f4 < 1000) ∧ lendR S F a r = (S.set a.toNat ⟨(rd_T46 S a).f0, (rd_T46 S a).f1, (rd_T46 S a).f2, (rd_T46 S a).f3, (rd_T46 S a).f4 + 1, (rd_T46 S a).f5⟩, F, (rd_T46 S a).f0, (rd_T46 S a).f1, (rd_T46 S a).f2, (rd_T46 S a).f3, (rd_T46 S a).f4, (rd_T46 S a).f5, 0)) := by
  unfold lendR
  dsimp only
  by_cases c : (findR S a r).2.2.2.2.2.2 = 0
  · obtain ⟨h0, h1, hu, hr, e⟩ := findR_used c
    have ho := slot_hok g h0 h1 hu
    obtain ⟨b0, b1, b2, b3, b4, b5⟩ := hok_parts ho
    rw [if_pos c]
    by_cases d : (findR S a r).2.2.2.2.1 = 1000
    · rw [if_pos d]
      exact Or.inl ⟨4, by decide, rfl⟩
    · rw [if_neg d]
      rw [e] at d ⊢
      dsimp only at d
      have hw : wrap64 ((rd_T46 S a).f4 + 1) = (rd_T46 S a).f4 + 1 := wrap_in (by omega) (by omega)
      rw [hw]
      exact Or.inr ⟨⟨h0, h1, hu, hr, ho, by omega⟩, rfl⟩
  · rw [if_neg c]
    exact Or.inl ⟨_, c, rfl⟩
theorem walked_FnLent (A0 : Option Addr) (c0 : Nat) (l0 : List Int) (w : World) (hr0 : Kd.C (Kd.int .u8) w A0 l0.length l0) (hc0 : l0.length ≤ c0) (hs : l0.length * 1 ≤ 140737488351232) (hb8 : ∀ x ∈ l0, wf8 x) :
    Calls Try.prog 10 #[.slice A0 l0.length c0] w fun e w' => e = .returned (.bool true) ∧ Below w.heap.size w w' := by
  have hb : Byt l0 := fun x hx => wf8_in (hb8 x hx)
  by_cases hl : (l0.length : Int) > 1048576
  · exact walk0_FnLent w A0 c0 l0 hr0 hc0 0 (decide_eq_true hl)
  have hl' := decide_eq_false hl
  obtain ⟨S, F, a, r, l1, l2, hD⟩ := drawLend_ok hb
  have hS : S.length ≤ 140737488351232 := by omega
  have hF : F.length ≤ 140737488351232 := by omega
  obtain ⟨x, hx, -, -, h1, h2⟩ := full_LendHandle S hS F hF a r
  obtain ⟨K0, g0⟩ := hD
  obtain ⟨K1, g1⟩ := h1
  obtain ⟨K2, g2⟩ := h2
  rcases hx with ⟨gS, hx⟩ | ⟨-, rfl⟩
  · rcases lendR_cases gS a r with ⟨c, hc, e⟩ | ⟨⟨h0, h1', hu, hr, ho, hlt⟩, e⟩
    · rw [e] at hx
      subst hx
      exact walk1_FnLent w A0 c0 l0 hr0 hc0 (K0 + K1 + K2) S S F F a r c hl' (g0 _ (by omega)) (g1 _ (by omega)) (g2 _ (by omega)) (bne_iff_ne.mpr hc)
    · have gX := lendR_GS gS a r
      rw [e] at hx gX
      dsimp only at gX
      subst hx
      obtain ⟨b0, b1, b2, b3, b4, b5⟩ := hok_parts ho
      have eN : ((a.toNat : Nat) : Int) = a := by omega
      have hset : S.set a.toNat (rd_T46 S a) = S := by
        rw [rdT_in S a h0 h1']
        exact List.set_getElem_self _
      rcases he : rd_T46 S a with ⟨v0, v1, v2, v3, v4, v5⟩
      rw [he] at hu hr ho hlt b0 b1 b2 b3 b4 b5 gX g1 g2 hset
      dsimp only at hu hr hlt b0 b1 b2 b3 b4 b5 gX g1 g2
      have hX : rd_T46 (S.set a.toNat ⟨v0, v1, v2, v3, v4 + 1, v5⟩) a = ⟨v0, v1, v2, v3, v4 + 1, v5⟩ := by
        have := rdT_set_eq S a.toNat ⟨v0, v1, v2, v3, v4 + 1, v5⟩ (by omega)
        rw [eN] at this
        exact this
      have hXl : a < ((S.set a.toNat ⟨v0, v1, v2, v3, v4 + 1, v5⟩).length : Int) := by simpa using h1'
      have hXX : (S.set a.toNat ⟨v0, v1, v2, v3, v4 + 1, v5⟩).set a.toNat ⟨v0, v1, v2, v3, v4, v5⟩ = S := by
        rw [List.set_set]
        exact hset
      generalize S.set a.toNat ⟨v0, v1, v2, v3, v4 + 1, v5⟩ = X at *
      have gXl := gs_len gX
      have fX : findR X a r = (v0, v1, v2, v3, v4 + 1, v5, 0) := by rw [findR_at h0 hXl hX hu, if_pos hr]
      have fS : findR S a r = (v0, v1, v2, v3, v4, v5, 0) := by rw [findR_at h0 h1' he hu, if_pos hr]
      have dX : dropR false X F a r = (X, F, false, 0, 0, false, 0, 0, 4) := by
        unfold dropR
        rw [fX]
        dsimp only
        rw [if_pos rfl, if_neg (by simp), if_neg (by omega)]
      have mX : dropR true X F a r = (X, F, false, 0, 0, false, 0, 0, if v3 = true then 4 else 6) := by
        unfold dropR
        rw [fX]
        dsimp only
        rw [if_pos rfl]
        cases v3
        · rfl
        · rw [if_neg (by decide), if_neg (by omega)]
          rfl
      have rX : retR X F a = (S, F, 0) := by
        unfold retR
        rw [hX]
        dsimp only
        have hw : wrap64 (v4 + 1 - 1) = v4 := by rw [wrap_in (by omega) (by omega)]; omega
        rw [if_pos ⟨h0, hXl, hu⟩, if_neg (by omega), hw, hXX]
      obtain ⟨y1, hy1, -, -, m1, -⟩ := full_DropHandle X (by omega) F hF a r
      obtain ⟨y2, hy2, -, -, m2, -⟩ := full_MoveHandle X (by omega) F hF a r
      obtain ⟨y4, hy4, -, -, m4, -⟩ := full_DropHandle S hS F hF a r
      have m3 := impl_ret X F a gXl.1 gXl.2 (good_true gX)
      rw [rX] at m3
      have e1 : y1 = (X, F, false, 0, 0, false, 0, 0, 4) := by
        rcases hy1 with ⟨-, rfl⟩ | ⟨q, -⟩
        · exact dX
        · exact absurd gX q
      have e2 : y2 = (X, F, false, 0, 0, false, 0, 0, if v3 = true then 4 else 6) := by
        rcases hy2 with ⟨-, rfl⟩ | ⟨q, -⟩
        · exact mX
        · exact absurd gX q
      have e4 : y4 = dropR false S F a r := by
        rcases hy4 with ⟨-, rfl⟩ | ⟨q, -⟩
        · rfl
        · exact absurd gS q
      subst e1
      subst e2
      subst e4
      obtain ⟨K3, g3⟩ := m1
      obtain ⟨K4, g4⟩ := m2
      obtain ⟨K5, g5⟩ := m3
      obtain ⟨K6, g6⟩ := sameTables_ev S F hS hF
      obtain ⟨K7, g7⟩ := good_true gX
      obtain ⟨K8, g8⟩ := m4
      by_cases hm : v4 > 0
      · have dS : dropR false S F a r = (S, F, false, 0, 0, false, 0, 0, 4) := by
          unfold dropR
          rw [fS]
          dsimp only
          rw [if_pos rfl, if_neg (by simp), if_neg (by omega)]
        rw [dS] at g8
        obtain ⟨k, hk⟩ : ∃ k, K0 ≤ k ∧ K1 ≤ k ∧ K2 ≤ k ∧ K3 ≤ k ∧ K4 ≤ k ∧ K5 ≤ k ∧ K6 ≤ k ∧ K7 ≤ k ∧ K8 ≤ k := ⟨K0 + K1 + K2 + K3 + K4 + K5 + K6 + K7 + K8, by omega⟩
        exact walk2_FnLent w A0 c0 l0 hr0 hc0 k S X S F F F a r _ 4 v0 v3 v1 v2 v4 v5 false false 0 0 0 0 hl' (g0 k (by omega)) (g1 k (by omega)) (g2 k (by omega)) (g3 k (by omega)) (g4 k (by omega)) rfl (g5 k (by omega)) (g6 k (by omega)) (g7 k (by omega)) (g8 k (by omega)) (Or.inl ⟨decide_eq_true hm, rfl⟩)
      · have hz : v4 = 0 := by omega
        have dS : dropR false S F a r = (S.set a.toNat z46, F ++ [a], v0, v1, v2, v3, v4, v5, 0) := by
          unfold dropR
          rw [fS]
          dsimp only
          rw [if_pos rfl, if_neg (by simp), if_pos hz]
        have gE := dropR_GS false gS a r
        rw [dS] at g8 gE
        obtain ⟨K9, g9⟩ := good_true gE
        obtain ⟨k, hk⟩ : ∃ k, K0 ≤ k ∧ K1 ≤ k ∧ K2 ≤ k ∧ K3 ≤ k ∧ K4 ≤ k ∧ K5 ≤ k ∧ K6 ≤ k ∧ K7 ≤ k ∧ K8 ≤ k ∧ K9 ≤ k := ⟨K0 + K1 + K2 + K3 + K4 + K5 + K6 + K7 + K8 + K9, by omega⟩
        exact walk2_FnLent w A0 c0 l0 hr0 hc0 k S X _ F F _ a r _ 0 v0 v3 v1 v2 v4 v5 v0 v3 v1 v2 v4 v5 hl' (g0 k (by omega)) (g1 k (by omega)) (g2 k (by omega)) (g3 k (by omega)) (g4 k (by omega)) rfl (g5 k (by omega)) (g6 k (by omega)) (g7 k (by omega)) (g8 k (by omega)) (Or.inr ⟨decide_eq_false hm, rfl, ⟨rfl, rfl, rfl, rfl, rfl, rfl⟩, g9 k (by omega)⟩)
  · exact walk1_FnLent w A0 c0 l0 hr0 hc0 (K0 + K1 + K2) S [] F [] a r 1 hl' (g0 _ (by omega)) (g1 _ (by omega)) (g2 _ (by omega)) (by decide)
end Go.Proofs.Ytoomeeoijbkmnaa.PH
