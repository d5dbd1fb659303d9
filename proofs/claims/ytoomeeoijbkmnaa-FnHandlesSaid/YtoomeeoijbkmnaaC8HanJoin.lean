import Derived.Test.YtoomeeoijbkmnaaC8EvDraw4
import Derived.Test.YtoomeeoijbkmnaaC8Slices8
import Derived.Test.YtoomeeoijbkmnaaC8WalkHan
import Derived.Lib.Hide
import Derived.Deep.QuietTactic
import Derived.BigQuiet
import Derived.WalkSpells
import Derived.WalkLawsBesides
import Derived.StillTailTactics
namespace Go.Proofs.Ytoomeeoijbkmnaa.PH
open Go.RowKit Go.Proofs.YtoomeeoijbkmnaaW.PrintWords Go.Proofs.YtoomeeoijbkmnaaW.PrintLast Go.Proofs.YtoomeeoijbkmnaaW.PrintMore
set_option linter.unusedVariables false
set_option linter.unusedSimpArgs false
theorem drawNew_ok {code : List Int} (hb : Byt code) : ∃ (S : List S46) (F : List Int) (h : S46), S.length ≤ 41 ∧ F.length ≤ 41 ∧ Ev (fun k => spec_DrawNewHandle.f k code) (S, F, h.f0, h.f1, h.f2, h.f3, h.f4, h.f5) := by
  obtain ⟨S, F, a, s, hT, l1, l2, l3, l4⟩ := table_ok hb
  obtain ⟨h, a', s', hH, -, -⟩ := handle_ok hb a s l3 (by omega)
  refine ⟨S, F, h, l1, l2, ?_⟩
  unfold spec_DrawNewHandle.f
  exact Ev.bind hT (Ev.bind hH (Ev.const _))
theorem walked_FnHandles (A0 : Option Addr) (c0 : Nat) (l0 : List Int) (w : World) (hr0 : Kd.C (Kd.int .u8) w A0 l0.length l0) (hc0 : l0.length ≤ c0) (hs : l0.length * 1 ≤ 140737488351232) (hb8 : ∀ x ∈ l0, wf8 x) :
    Calls Try.prog 9 #[.slice A0 l0.length c0] w fun e w' => e = .returned (.bool true) ∧ Below w.heap.size w w' := by
  have hb : Byt l0 := fun x hx => wf8_in (hb8 x hx)
  by_cases hl : (l0.length : Int) > 1048576
  · exact walk0_FnHandles w A0 c0 l0 hr0 hc0 0 (decide_eq_true hl)
  have hl' := decide_eq_false hl
  obtain ⟨S, F, h, l1, l2, hD⟩ := drawNew_ok hb
  have hS : S.length ≤ 140737488351232 := by omega
  have hF : F.length ≤ 140737488351232 := by omega
  obtain ⟨x, hx, -, -, h1, h2⟩ := full_NewHandle S hS F hF h
  obtain ⟨K0, g0⟩ := hD
  obtain ⟨K1, g1⟩ := h1
  obtain ⟨K2, g2⟩ := h2
  rcases hx with ⟨gS, hx⟩ | ⟨-, rfl⟩
  · by_cases hc : (newR S F h).2.2.2 = 0
    · obtain ⟨c1, c2, i0, i1, i2, i3⟩ := newR_ok gS hc
      have gX := newR_GS gS h
      rcases hn : newR S F h with ⟨X1, X2, at_, code⟩
      rw [hn] at hc i0 i1 i2 i3 gX hx
      dsimp only at hc i0 i1 i2 i3 gX
      subst hc
      subst hx
      obtain ⟨b0, b1, b2, b3, b4, b5⟩ := hok_parts c1
      have gl := gs_len gX
      have eN : ((at_.toNat : Nat) : Int) = at_ := by omega
      have gY : GS (X1.set at_.toNat z46) (X2 ++ [at_]) := by
        have := GS_free gX (n := at_.toNat) (by omega) (by rw [eN, i2]; exact b0)
        rw [eN] at this
        exact this
      have f1 : findR X1 at_ h.f1 = (h.f0, h.f1, h.f2, h.f3, h.f4, h.f5, 0) := by rw [findR_at i0 i1 i2 b0, if_pos rfl]
      have f2 : findR X1 at_ (Int.tmod (h.f1 + 1) 10) = (false, 0, 0, false, 0, 0, 3) := by
        rw [findR_at i0 i1 i2 b0, if_neg]
        rw [Int.tmod_eq_emod_of_nonneg (by omega)]
        omega
      have dR : dropR false X1 X2 at_ h.f1 = (X1.set at_.toNat z46, X2 ++ [at_], h.f0, h.f1, h.f2, h.f3, h.f4, h.f5, 0) := by
        unfold dropR
        rw [f1]
        simp [c2]
      have hz : rd_T46 (X1.set at_.toNat z46) at_ = z46 := by
        have := rdT_set_eq X1 at_.toNat z46 (by omega)
        rw [eN] at this
        exact this
      have f3 : findR (X1.set at_.toNat z46) at_ h.f1 = (false, 0, 0, false, 0, 0, 2) := findR_free (by rw [hz]; rfl) _
      have hlast : rd (X2 ++ [at_]) (((X2 ++ [at_]).length : Int) - 1) = at_ := by
        have e : ((X2 ++ [at_]).length : Int) - 1 = (X2.length : Int) := by simp
        rw [e]
        exact rdI (suf := [])
      have nR : newR (X1.set at_.toNat z46) (X2 ++ [at_]) h = ((X1.set at_.toNat z46).set at_.toNat h, (X2 ++ [at_]).take ((X2 ++ [at_]).length - 1), at_, 0) := by
        unfold newR
        rw [if_pos c1, if_pos c2, if_pos (by simp), hlast]
      have cS := count_ev gS (good_true gS)
      have cX := count_ev gX (good_true gX)
      rw [i3] at cX
      have m1 := findImpl gX at_ h.f1
      rw [f1] at m1
      have m2 := findImpl gX at_ (Int.tmod (h.f1 + 1) 10)
      rw [f2] at m2
      obtain ⟨y, hy, -, -, m3, -⟩ := full_DropHandle X1 (by omega) X2 (by omega) at_ h.f1
      have hy' : y = (X1.set at_.toNat z46, X2 ++ [at_], h.f0, h.f1, h.f2, h.f3, h.f4, h.f5, 0) := by
        rcases hy with ⟨-, rfl⟩ | ⟨q, -⟩
        · exact dR
        · exact absurd gX q
      subst hy'
      have m4 := findImpl gY at_ h.f1
      rw [f3] at m4
      have gl2 := gs_len gY
      obtain ⟨z, hz', -, -, m5, -⟩ := full_NewHandle (X1.set at_.toNat z46) (by omega) (X2 ++ [at_]) (by omega) h
      have hz2 : z = ((X1.set at_.toNat z46).set at_.toNat h, (X2 ++ [at_]).take ((X2 ++ [at_]).length - 1), at_, 0) := by
        rcases hz' with ⟨-, rfl⟩ | ⟨q, -⟩
        · exact nR
        · exact absurd gY q
      subst hz2
      obtain ⟨K3, g3⟩ := m1
      obtain ⟨K4, g4⟩ := m2
      obtain ⟨K5, g5⟩ := cS
      obtain ⟨K6, g6⟩ := cX
      obtain ⟨K7, g7⟩ := good_true gX
      obtain ⟨K8, g8⟩ := m3
      obtain ⟨K9, g9⟩ := m4
      obtain ⟨K10, g10⟩ := m5
      obtain ⟨K11, g11⟩ := good_true gY
      obtain ⟨k, hk⟩ : ∃ k, K0 ≤ k ∧ K1 ≤ k ∧ K2 ≤ k ∧ K3 ≤ k ∧ K4 ≤ k ∧ K5 ≤ k ∧ K6 ≤ k ∧ K7 ≤ k ∧ K8 ≤ k ∧ K9 ≤ k ∧ K10 ≤ k ∧ K11 ≤ k := ⟨K0 + K1 + K2 + K3 + K4 + K5 + K6 + K7 + K8 + K9 + K10 + K11, by omega⟩
      have hu : used S ≤ S.length := List.countP_le_length
      exact walk3_FnHandles w A0 c0 l0 hr0 hc0 k S F h hl' (g0 k (by omega)) X1 _ _ X2 _ _ at_ (used S : Int) ((used S + 1 : Nat) : Int) (h.f1 + 1) (Int.tmod (h.f1 + 1) 10) (g1 k (by omega)) (g2 k (by omega)) (g3 k (by omega)) (g4 k (by omega)) ((i64_w _).trans (wrap_in (by omega) (by omega))) rfl (g5 k (by omega)) (g6 k (by omega)) ((i64_w _).trans ((wrap_in (by omega) (by omega)).trans (by omega))) (g7 k (by omega)) (g8 k (by omega)) (g9 k (by omega)) (g10 k (by omega)) (g11 k (by omega))
    · rcases newR_ne hc with e | e
      · rw [e] at hx
        subst hx
        exact walk1_FnHandles w A0 c0 l0 hr0 hc0 (K0 + K1 + K2) S F h hl' (g0 _ (by omega)) S F 0 (g1 _ (by omega)) (g2 _ (by omega))
      · rw [e] at hx
        subst hx
        obtain ⟨K3, g3⟩ := sameTables_ev S F hS hF
        exact walk2_FnHandles w A0 c0 l0 hr0 hc0 (K0 + K1 + K2 + K3) S F h hl' (g0 _ (by omega)) 0 (g1 _ (by omega)) (g2 _ (by omega)) (g3 _ (by omega))
  · exact walk1_FnHandles w A0 c0 l0 hr0 hc0 (K0 + K1 + K2) S F h hl' (g0 _ (by omega)) [] [] 0 (g1 _ (by omega)) (g2 _ (by omega))
end Go.Proofs.Ytoomeeoijbkmnaa.PH
