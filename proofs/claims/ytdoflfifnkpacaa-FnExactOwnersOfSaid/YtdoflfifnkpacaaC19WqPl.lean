/-
  The functions of worlds: what they compute, and the laws of it.
-/
import Derived.StillTailTactics
import Derived.Lib.Hide
import Derived.Test.YtdoflfifnkpacaaC19WqLw
import Derived.Test.YtdoflfifnkpacaaC19WoG3
namespace Go.Proofs.Ytdoflfifnkpacaa.WO.LA
open Go Go.RowKit Go.Proofs.YtdoflfifnkpacaaW.PrintWords Go.Proofs.YtdoflfifnkpacaaW.PrintLast Go.Proofs.YtdoflfifnkpacaaW.PrintMore
attribute [local go_sem] max2_int min2_int max_two min_two max_three min_three max_four min_four
set_option linter.unusedVariables false
set_option linter.unusedSimpArgs false
theorem ownL_len (p thing : Int) : ∀ S : List S75, (ownL p thing S).length ≤ S.length
  | [] => Nat.le_refl _
  | h :: S => by
    have := ownL_len p thing S
    unfold ownL
    by_cases c : mine thing h = true
    · rw [if_pos c]; simp; omega
    · rw [if_neg c]; simp; omega
theorem owns_len (thing : Int) : ∀ (B : List S78) (p : Int), (∀ t ∈ B, t.f0.length ≤ 40) → (owns thing p B).length ≤ 40 * B.length
  | [], _, _ => Nat.le_refl _
  | t :: B, p, h => by
    have h1 := ownL_len p thing t.f0
    have h2 := h t (by simp)
    have h3 := owns_len thing B (p + 1) (fun u hu => h u (by simp [hu]))
    unfold owns
    rw [List.length_append, List.length_cons]
    omega
def tabsE : List S78 → Int → Int
  | [], x => x
  | t :: B, x => tabsE B (mkF nx t.f1.length (mkF nx6 t.f0.length x))
def tabsM : List S78 → Int → List S78
  | [], _ => []
  | t :: B, x => ⟨mkL mkHa nx6 t.f0.length x, mkL (fun x => x) nx t.f1.length (mkF nx6 t.f0.length x)⟩ :: tabsM B (mkF nx t.f1.length (mkF nx6 t.f0.length x))
theorem markTabs_eq (k : Nat) : ∀ (B : List S78) (x : Int), markTabs k B x = some (tabsM B x, tabsE B x)
  | [], x => rfl
  | t :: B, x => by
    simp only [markTabs, laws_markHandleS.f, laws_markIntS.f, Option.bind_some, markTabs_eq k B]
    rfl
theorem nx_in {x : Int} (h0 : 0 ≤ x) (h : x < 9223372036854775807) : nx x = x + 1 := wrap_in (by omega) (by omega)
theorem mkF_in (nxt : Int → Int) (c : Nat) (hn : ∀ x, 0 ≤ x → x ≤ 1152921504606846976 → nxt x = x + c) : ∀ (n : Nat) (x : Int), 0 ≤ x → x + c * n ≤ 1152921504606846976 → mkF nxt n x = x + c * n
  | 0, x, _, _ => by simp [mkF]
  | n + 1, x, h0, h => by
    rw [Int.natCast_add, Int.mul_add] at h
    have hc : 0 ≤ (c : Int) * n := Int.mul_nonneg (by omega) (by omega)
    rw [mkF, hn x h0 (by omega), mkF_in nxt c hn n (x + c) (by omega) (by omega), Int.natCast_add, Int.mul_add]
    omega
theorem nx2_in (x : Int) (h0 : 0 ≤ x) (h : x ≤ 1152921504606846976) : nx2 x = x + (2 : Nat) := by
  unfold nx2
  rw [nx_in (x := x) (by omega) (by omega), nx_in (by omega) (by omega)]
  omega
theorem nx1_in (x : Int) (h0 : 0 ≤ x) (h : x ≤ 1152921504606846976) : nx x = x + (1 : Nat) := by
  rw [nx_in (x := x) (by omega) (by omega)]
  omega
theorem nx4_in (x : Int) (h0 : 0 ≤ x) (h : x ≤ 1152921504606846976) : nx4 x = x + (4 : Nat) := by
  unfold nx4
  rw [nx_in (x := x) (by omega) (by omega), nx_in (x := x + 1) (by omega) (by omega), nx_in (x := x + 1 + 1) (by omega) (by omega), nx_in (by omega) (by omega)]
  omega
theorem nx6_in (x : Int) (h0 : 0 ≤ x) (h : x ≤ 1152921504606846976) : nx6 x = x + (6 : Nat) := by
  unfold nx6
  rw [nx_in (x := x) (by omega) (by omega), nx_in (x := x + 1) (by omega) (by omega), nx_in (x := x + 1 + 1) (by omega) (by omega), nx_in (x := x + 1 + 1 + 1) (by omega) (by omega), nx_in (x := x + 1 + 1 + 1 + 1) (by omega) (by omega), nx_in (by omega) (by omega)]
  omega
theorem tabsE_in : ∀ (B : List S78) (x : Int), (∀ t ∈ B, t.f0.length ≤ 1048576 ∧ t.f1.length ≤ 1048576) → 0 ≤ x → x + 7340032 * (B.length : Int) ≤ 100000000000000 → 0 ≤ tabsE B x ∧ tabsE B x ≤ x + 7340032 * (B.length : Int)
  | [], x, _, h0, h1 => by simp [tabsE, h0]
  | t :: B, x, h, h0, h1 => by
    rw [List.length_cons] at h1 ⊢
    have ht := h t (by simp)
    have g1 := mkF_in nx6 6 nx6_in t.f0.length x h0 (by omega)
    have g2 := mkF_in nx 1 nx1_in t.f1.length (mkF nx6 t.f0.length x) (by omega) (by omega)
    have := tabsE_in B (mkF nx t.f1.length (mkF nx6 t.f0.length x)) (fun u hu => h u (by simp [hu])) (by omega) (by omega)
    unfold tabsE
    omega
theorem ownsR_len (b : Bool) (T : List S67) (B : List S78) (thing : Int) (h : b = true → (owns thing 0 B).length ≤ 1048576) : (ownsR b T B thing).1.length ≤ 1048576 := by
  unfold ownsR
  by_cases c : b = true ∧ 0 ≤ thing ∧ thing < (T.length : Int)
  · rw [if_pos c]; exact h c.1
  · rw [if_neg c]; simp
theorem law_OwnersOf (thing : Int) (A0 : Option Addr) (c0 : Nat) (T0 : List S159) (A1 : Option Addr) (c1 : Nat) (B0 : List S152) (A2 : Option Addr) (c2 : Nat) (C0 : List S162) (A3 : Option Addr) (c3 : Nat) (E0 : List Int) (w : World) (hA : Arg w A0 c0 T0 A1 c1 B0 A2 c2 C0 A3 c3 E0)
    (hT : T0.length * 16 ≤ 140737488351232) (hB : B0.length * 48 ≤ 140737488351232) (hQ1 : ∀ x ∈ B0, wf152 x) (hC : C0.length * 32 ≤ 140737488351232) (hE : E0.length * 8 ≤ 140737488351232) :
    Calls Try.prog 6 #[.agg #[.slice A0 T0.length c0, .slice A1 B0.length c1, .slice A2 C0.length c2, .slice A3 E0.length c3], .int .i64 thing] w fun e w' => e = .returned (.bool true) ∧ Below w.heap.size w w' := by
  obtain ⟨t, ⟨K1, r1⟩, r2⟩ := szWorld_ev T0 B0 C0 E0 (by omega) (by omega) hQ1 (by omega) (by omega)
  by_cases c : t < 0
  · exact walk_OwnersOf_big thing A0 c0 T0 A1 c1 B0 A2 c2 C0 A3 c3 E0 t K1 w hA (r1 K1 (Nat.le_refl _)) c
  obtain ⟨h0, h1, h2, h3, h4⟩ := r2 c
  obtain ⟨K2, hto⟩ := toWorld_ev T0 B0 C0 E0 h0 h1 h2 h3 h4
  have hS : ∀ t ∈ B0.map cTa, t.f0.length ≤ 1048576 ∧ t.f1.length ≤ 1048576 := by
    intro t ht
    obtain ⟨x, x1, rfl⟩ := List.mem_map.mp ht
    have := h2 x x1
    exact ⟨by simp [cTa]; omega, by simp [cTa]; omega⟩
  obtain ⟨b, hb, ⟨K3, b1⟩, ⟨K4, b2⟩⟩ := world_both (T0.map cTh) (B0.map cTa) (C0.map cLo) E0 (by simpa using h1) hS (by simpa using h3) h4
  have hK : b = true → (owns thing 0 (B0.map cTa)).length ≤ 1048576 := by
    intro hbt
    obtain ⟨w1, w2, w3, w4, -⟩ := hb.mp hbt
    have := owns_len thing (B0.map cTa) 0 (fun t ht => (w4 t ht).2.2.2.1)
    omega
  have hRl := ownsR_len b (T0.map cTh) (B0.map cTa) thing hK
  have hT1 : (T0.map cTh).length ≤ 1048576 := by simpa using h0
  have hB1 : (B0.map cTa).length ≤ 1048576 := by simpa using h1
  have hC1 : (C0.map cLo).length ≤ 1048576 := by simpa using h3
  have a1 := mkF_in nx2 2 nx2_in (T0.map cTh).length 1 (by omega) (by omega)
  have a2 := tabsE_in (B0.map cTa) (mkF nx2 (T0.map cTh).length 1) hS (by omega) (by omega)
  have a3 := mkF_in nx4 4 nx4_in (C0.map cLo).length (tabsE (B0.map cTa) (mkF nx2 (T0.map cTh).length 1)) (by omega) (by omega)
  have a4 := mkF_in nx 1 nx1_in E0.length (mkF nx4 (C0.map cLo).length (tabsE (B0.map cTa) (mkF nx2 (T0.map cTh).length 1))) (by omega) (by omega)
  have a5 := mkF_in nx 1 nx1_in (ownsR b (T0.map cTh) (B0.map cTa) thing).1.length 1 (by omega) (by omega)
  obtain ⟨k, k1, k2, k3, k4⟩ : ∃ k, K1 ≤ k ∧ K2 ≤ k ∧ K3 ≤ k ∧ K4 ≤ k := ⟨K1 + K2 + K3 + K4, by omega, by omega, by omega, by omega⟩
  exact walk_OwnersOf thing A0 c0 T0 A1 c1 B0 A2 c2 C0 A3 c3 E0 t k w hA (r1 k k1) c (T0.map cTh) (B0.map cTa) (C0.map cLo) E0 b _ _ _ _ _ _ _ _ (hto k k2) (b1 k k3) (b2 k k4) hK rfl (markTabs_eq k _ _) rfl rfl (by omega) (by omega)
end Go.Proofs.Ytdoflfifnkpacaa.WO.LA
