/-
  Plain laws behind GoodWorld: when a world is good.
-/
import Derived.Test.YtdoflfifnkpacaaC19WoG1
import Derived.Test.YtdoflfifnkpacaaC19WOx11
namespace Go.Proofs.Ytdoflfifnkpacaa.WO
open Go.RowKit Go.Proofs.YtdoflfifnkpacaaW.PrintWords Go.Proofs.YtdoflfifnkpacaaW.PrintLast Go.Proofs.YtdoflfifnkpacaaW.PrintMore
set_option linter.unusedSimpArgs false
set_option linter.unusedVariables false
def EvO (o : Option Bool) (P : Prop) : Prop := ∃ b, o = some b ∧ (b = true ↔ P)
theorem EvO.iff {o : Option Bool} {P Q : Prop} (h : EvO o P) (e : P ↔ Q) : EvO o Q := by
  obtain ⟨b, h1, h2⟩ := h
  exact ⟨b, h1, h2.trans e⟩
theorem EvO.no {P : Prop} (h : ¬ P) : EvO (some false) P := ⟨false, rfl, by simp [h]⟩
theorem EvO.iteN {c : Prop} [Decidable c] {g : Option Bool} {P : Prop} (h1 : c → ¬ P) (h2 : ¬ c → EvO g P) : EvO (if c then some false else g) P := by
  by_cases h : c
  · rw [if_pos h]
    exact EvO.no (h1 h)
  · rw [if_neg h]
    exact h2 h
theorem EvO.ite {c : Prop} [Decidable c] {g : Option Bool} {P : Prop} (h1 : c → EvO g P) (h2 : ¬ c → ¬ P) : EvO (if c then g else some false) P := by
  by_cases h : c
  · rw [if_pos h]
    exact h1 h
  · rw [if_neg h]
    exact EvO.no (h2 h)
theorem EvO.andThen {g h : Option Bool} {A P : Prop} (h1 : EvO g A) (h2 : A → EvO h P) (h3 : ¬ A → ¬ P) : EvO (g.bind fun b => if b = true then h else some false) P := by
  obtain ⟨b, hb, hg⟩ := h1
  rw [hb, Option.bind_some]
  exact EvO.ite (fun c => h2 (hg.mp c)) (fun c => h3 (fun a => c (hg.mpr a)))
theorem im_end (n : Nat) (hn : n ≤ 40) (P : Prop) (E : List Int) (hP : P → (∀ x ∈ E, 0 ≤ x ∧ x < n) ∧ E.Nodup) (K : List Bool → Bool) : ∀ (suf pre : List Int) (m : List Bool), E = pre ++ suf → m.length = 40 → (∀ j : Nat, gb m j = true ↔ (j : Int) ∈ pre) → (∀ x ∈ pre, 0 ≤ x ∧ x < n) → pre.Nodup →
    (∀ m', m'.length = 40 → (∀ j : Nat, gb m' j = true ↔ (j : Int) ∈ E) → (∀ x ∈ E, 0 ≤ x ∧ x < n) → E.Nodup → (K m' = true ↔ P)) → ((match endB (n : Int) suf m with | none => false | some m' => K m') = true ↔ P)
  | [], pre, m, e, hm, hg, h1, h2, hK => by
    simp only [List.append_nil] at e
    subst e
    exact hK m hm hg h1 h2
  | a :: suf, pre, m, e, hm, hg, h1, h2, hK => by
    have hmem : a ∈ E := by rw [e]; simp
    have no : ¬ P → ((match (none : Option (List Bool)) with | none => false | some m' => K m') = true ↔ P) := fun h => by simp [h]
    simp only [endB]
    by_cases c1 : a < 0
    · rw [if_pos c1]
      exact no (fun z => by have := ((hP z).1 a hmem).1; omega)
    rw [if_neg c1]
    by_cases c2 : a ≥ (n : Int)
    · rw [if_pos c2]
      exact no (fun z => by have := ((hP z).1 a hmem).2; omega)
    rw [if_neg c2]
    have hga : gb m a = true ↔ a ∈ pre := by
      have := hg a.toNat
      rwa [show ((a.toNat : Nat) : Int) = a by omega] at this
    by_cases c3 : gb m a = true
    · rw [if_pos c3]
      refine no (fun z => ?_)
      have := (hP z).2
      rw [e] at this
      exact absurd rfl ((List.nodup_append.mp this).2.2 a (hga.mp c3) a (by simp))
    rw [if_neg c3]
    refine im_end n hn P E hP K suf (pre ++ [a]) (m.set a.toNat true) (by simp [e]) (by simpa using hm) (fun j => by rw [gb_set m hm a (by omega) (by omega), hg]; simp) (fun x hx => ?_) (List.nodup_append.mpr ⟨h2, by simp, fun x hx y hy q => c3 (hga.mpr (by simp at hy; rw [← hy, ← q]; exact hx))⟩) hK
    rcases List.mem_append.mp hx with hx | hx
    · exact h1 x hx
    · simp only [List.mem_singleton] at hx
      subst hx
      exact ⟨by omega, by omega⟩
theorem im_thB (T : List S67) (m : List Bool) : ∀ (suf pre : List S67), T = pre ++ suf → (thB suf (pre.length : Int) m = true ↔ ∀ i : Nat, pre.length ≤ i → i < T.length → 0 ≤ (rd_T67 T i).f0 ∧ (rd_T67 T i).f0 ≤ 9 ∧ ((rd_T67 T i).f1 = true ↔ ¬ gb m i = true))
  | [], pre, e => by
    simp only [List.append_nil] at e
    subst e
    simp only [thB, true_iff]
    intro i h1 h2
    omega
  | x :: suf, pre, e => by
    have hlen : pre.length < T.length := by rw [e]; simp
    have hrd : rd_T67 T (pre.length : Int) = x := by rw [e]; exact rdTh
    have hq : ((pre.length : Int) + 1) = ((pre ++ [x]).length : Int) := by simp
    have ih := im_thB T m suf (pre ++ [x]) (by simp [e])
    have split : (∀ i : Nat, pre.length ≤ i → i < T.length → 0 ≤ (rd_T67 T i).f0 ∧ (rd_T67 T i).f0 ≤ 9 ∧ ((rd_T67 T i).f1 = true ↔ ¬ gb m i = true)) ↔ ((0 ≤ x.f0 ∧ x.f0 ≤ 9 ∧ (x.f1 = true ↔ ¬ gb m (pre.length : Int) = true)) ∧ ∀ i : Nat, (pre ++ [x]).length ≤ i → i < T.length → 0 ≤ (rd_T67 T i).f0 ∧ (rd_T67 T i).f0 ≤ 9 ∧ ((rd_T67 T i).f1 = true ↔ ¬ gb m i = true)) := by
      simp only [List.length_append, List.length_cons, List.length_nil]
      constructor
      · intro a
        refine ⟨?_, fun i b c => a i (by omega) c⟩
        have := a pre.length (Nat.le_refl _) hlen
        rwa [hrd] at this
      · rintro ⟨a, b⟩ i c d
        by_cases g : i = pre.length
        · subst g
          rw [hrd]
          exact a
        · exact b i (by omega) d
    rw [split, ← ih]
    simp only [thB]
    rw [← hq]
    by_cases c1 : x.f0 < 0
    · rw [if_pos c1]
      simp
      omega
    rw [if_neg c1]
    by_cases c2 : x.f0 > 9
    · rw [if_pos c2]
      simp
      omega
    rw [if_neg c2]
    have g1 : 0 ≤ x.f0 := by omega
    have g2 : x.f0 ≤ 9 := by omega
    generalize gb m (pre.length : Int) = v
    by_cases c3 : (x.f1 == v) = true
    · rw [if_pos c3]
      have : x.f1 = v := by simpa using c3
      rw [this]
      cases v <;> simp
    · rw [if_neg c3]
      cases hx : x.f1 <;> cases v <;> simp_all
/-- What the program says of things and of those that ended. -/
def TI (T : List S67) (E : List Int) : Prop := T.length ≤ 40 ∧ E.length ≤ T.length ∧ ((∀ n ∈ E, 0 ≤ n ∧ n < T.length) ∧ E.Nodup) ∧ ∀ i : Nat, i < T.length → 0 ≤ (rd_T67 T i).f0 ∧ (rd_T67 T i).f0 ≤ 9 ∧ ((rd_T67 T i).f1 = true ↔ ¬ (i : Int) ∈ E)
theorem im_things (T : List S67) (B : List S78) (C : List S155) (E : List Int) : EvO (impl_World_thingsOk.f T B C E) (TI T E) := by
  unfold impl_World_thingsOk.f
  refine EvO.iteN (fun c z => by have := z.1; omega) (fun c => EvO.iteN (fun c1 z => by have := z.2.1; omega) (fun c1 => ?_))
  refine ⟨_, rfl, ?_⟩
  unfold thE
  refine im_end T.length (by omega) _ E (fun z => z.2.2.1) (fun m' => thB T 0 m') E [] (List.replicate 40 false) rfl (by simp) (fun j => ⟨fun a => absurd a (gb_rep 40 j), fun a => by simp at a⟩) (by simp) List.nodup_nil (fun m' h1 h2 h3 h4 => ?_)
  refine (im_thB T m' T [] rfl).trans ?_
  unfold TI
  constructor
  · intro a
    refine ⟨by omega, by omega, ⟨h3, h4⟩, fun i hi => ?_⟩
    have := a i (Nat.zero_le _) hi
    rwa [h2] at this
  · rintro ⟨-, -, -, a⟩ i - hi
    rw [h2]
    exact a i hi
theorem im_ownH (T : List S67) (hT : T.length ≤ 40) (P : Prop) (F : List S75) (hP1 : P → (∀ h ∈ F, okOwn T h) ∧ (rp F).Nodup) (K : List Bool → Option Bool) : ∀ (l : List S75) (m : List Bool) (L0 rest : List S75), F = L0 ++ (l.filter own1 ++ rest) → (∀ h ∈ l, h.f0 = true → 0 ≤ h.f2) → m.length = 40 → (∀ j : Nat, gb m j = true ↔ (j : Int) ∈ rp L0) → (∀ h ∈ L0, okOwn T h) → (rp L0).Nodup →
    (∀ m', m'.length = 40 → (∀ j : Nat, gb m' j = true ↔ (j : Int) ∈ rp (L0 ++ l.filter own1)) → (∀ h ∈ L0 ++ l.filter own1, okOwn T h) → (rp (L0 ++ l.filter own1)).Nodup → EvO (K m') P) → EvO (ownH T K l m) P
  | [], m, L0, rest, e, h0, hm, hg, hok, hnd, hK => by
    have := hK m hm (by simpa using hg) (by simpa using hok) (by simpa using hnd)
    simpa only [ownH] using this
  | h :: l, m, L0, rest, e, h0, hm, hg, hok, hnd, hK => by
    by_cases hu : h.f0 = true
    · by_cases ho : h.f3 = true
      · have hn := h0 h (by simp) hu
        have hf : (h :: l).filter own1 = h :: l.filter own1 := by
          rw [List.filter_cons_of_pos]
          simp [own1, hu, ho]
        rw [hf] at e hK
        have hmem : h ∈ F := by rw [e]; simp
        simp only [ownH]
        rw [if_pos hu, if_pos ho, if_neg (by omega)]
        have hga : gb m h.f2 = true ↔ h.f2 ∈ rp L0 := by
          have := hg h.f2.toNat
          rwa [show ((h.f2.toNat : Nat) : Int) = h.f2 by omega] at this
        refine EvO.iteN (fun c z => ?_) (fun c => EvO.ite (fun c1 => EvO.iteN (fun c2 z => ?_) (fun c2 => EvO.iteN (fun c3 z => ?_) (fun c3 => ?_))) (fun c1 z => c1 ((hP1 z).1 h hmem).2.1))
        · have := ((hP1 z).1 h hmem).1
          omega
        · have := ((hP1 z).1 h hmem).2.2
          rw [this] at c2
          simp at c2
        · have := (hP1 z).2
          rw [e] at this
          unfold rp at this hga
          rw [List.map_append] at this
          exact absurd rfl ((List.nodup_append.mp this).2.2 h.f2 (hga.mp c3) h.f2 (by simp))
        · have ok : okOwn T h := ⟨by omega, c1, by simpa using c2⟩
          refine im_ownH T hT P F hP1 K l _ (L0 ++ [h]) rest (by rw [e]; simp) (fun x hx => h0 x (by simp [hx])) (by simpa using hm) (fun j => ?_) (fun x hx => ?_) ?_ (fun m' a b c d => hK m' a (by simpa using b) (by simpa using c) (by simpa using d))
          · rw [gb_set m hm h.f2 hn (by have := ok.1; omega), hg]
            simp [rp]
          · rcases List.mem_append.mp hx with hx | hx
            · exact hok x hx
            · simp only [List.mem_singleton] at hx
              exact hx ▸ ok
          · unfold rp at hnd hga ⊢
            rw [List.map_append]
            exact List.nodup_append.mpr ⟨hnd, by simp, fun x hx y hy q => c3 (hga.mpr (by simp at hy; rw [← hy, ← q]; exact hx))⟩
      · have hf : (h :: l).filter own1 = l.filter own1 := by
          rw [List.filter_cons_of_neg]
          simp [own1, ho]
        rw [hf] at e hK
        simp only [ownH]
        rw [if_pos hu, if_neg ho]
        exact im_ownH T hT P F hP1 K l m L0 rest e (fun x hx => h0 x (by simp [hx])) hm hg hok hnd hK
    · have hf : (h :: l).filter own1 = l.filter own1 := by
        rw [List.filter_cons_of_neg]
        simp [own1, hu]
      rw [hf] at e hK
      simp only [ownH]
      rw [if_neg hu]
      exact im_ownH T hT P F hP1 K l m L0 rest e (fun x hx => h0 x (by simp [hx])) hm hg hok hnd hK
theorem im_ownA (T : List S67) (m : List Bool) : ∀ (suf pre : List S67), T = pre ++ suf → (ownA suf (pre.length : Int) m = true ↔ ∀ i : Nat, pre.length ≤ i → i < T.length → ((rd_T67 T i).f1 = true ↔ gb m i = true))
  | [], pre, e => by
    simp only [List.append_nil] at e
    subst e
    simp only [ownA, true_iff]
    intro i h1 h2
    omega
  | x :: suf, pre, e => by
    have hlen : pre.length < T.length := by rw [e]; simp
    have hrd : rd_T67 T (pre.length : Int) = x := by rw [e]; exact rdTh
    have hq : ((pre.length : Int) + 1) = ((pre ++ [x]).length : Int) := by simp
    have ih := im_ownA T m suf (pre ++ [x]) (by simp [e])
    have split : (∀ i : Nat, pre.length ≤ i → i < T.length → ((rd_T67 T i).f1 = true ↔ gb m i = true)) ↔ ((x.f1 = true ↔ gb m (pre.length : Int) = true) ∧ ∀ i : Nat, (pre ++ [x]).length ≤ i → i < T.length → ((rd_T67 T i).f1 = true ↔ gb m i = true)) := by
      simp only [List.length_append, List.length_cons, List.length_nil]
      constructor
      · intro a
        refine ⟨?_, fun i b c => a i (by omega) c⟩
        have := a pre.length (Nat.le_refl _) hlen
        rwa [hrd] at this
      · rintro ⟨a, b⟩ i c d
        by_cases g : i = pre.length
        · subst g
          rw [hrd]
          exact a
        · exact b i (by omega) d
    rw [split, ← ih]
    simp only [ownA]
    rw [← hq]
    generalize gb m (pre.length : Int) = v
    by_cases c3 : (x.f1 != v) = true
    · rw [if_pos c3]
      cases hx : x.f1 <;> cases v <;> simp_all
    · rw [if_neg c3]
      have : x.f1 = v := by simpa using c3
      simp [this]
/-- What the program says of owners. -/
def OI (T : List S67) (B : List S78) : Prop := (∀ h ∈ ownL B, okOwn T h) ∧ (rp (ownL B)).Nodup ∧ ∀ i : Nat, i < T.length → ((rd_T67 T i).f1 = true ↔ (i : Int) ∈ rp (ownL B))
theorem im_ownT (T : List S67) (hT : T.length ≤ 40) (P : Prop) (F : List S75) (hP1 : P → (∀ h ∈ F, okOwn T h) ∧ (rp F).Nodup)
    (hP2 : (∀ h ∈ F, okOwn T h) → (rp F).Nodup → (P ↔ ∀ i : Nat, i < T.length → ((rd_T67 T i).f1 = true ↔ (i : Int) ∈ rp F))) : ∀ (B : List S78) (m : List Bool) (L0 : List S75), F = L0 ++ ownL B → (∀ t ∈ B, GS t.f0 t.f1) → m.length = 40 → (∀ j : Nat, gb m j = true ↔ (j : Int) ∈ rp L0) → (∀ h ∈ L0, okOwn T h) → (rp L0).Nodup → EvO (ownT T B m) P
  | [], m, L0, e, hG, hm, hg, hok, hnd => by
    simp only [ownL, List.flatMap_nil, List.append_nil] at e
    subst e
    refine ⟨ownA T 0 m, rfl, (im_ownA T m T [] rfl).trans ?_⟩
    rw [hP2 hok hnd]
    constructor
    · intro a i hi
      rw [← hg]
      exact a i (Nat.zero_le _) hi
    · intro a i _ hi
      rw [hg]
      exact a i hi
  | t :: B, m, L0, e, hG, hm, hg, hok, hnd => by
    have e1 : ownL (t :: B) = t.f0.filter own1 ++ ownL B := by simp [ownL]
    rw [e1] at e
    simp only [ownT]
    refine im_ownH T hT P F hP1 (ownT T B) t.f0 m L0 (ownL B) e (GS_rep (hG t (by simp))) hm hg hok hnd (fun m' a b c d => ?_)
    exact im_ownT T hT P F hP1 hP2 B m' (L0 ++ t.f0.filter own1) (by rw [e]; simp) (fun x hx => hG x (by simp [hx])) a b c d
theorem im_owners (T : List S67) (hT : T.length ≤ 40) (B : List S78) (C : List S155) (E : List Int) (hG : ∀ t ∈ B, GS t.f0 t.f1) : EvO (impl_World_ownersOk.f T B C E) (OI T B) := by
  unfold impl_World_ownersOk.f
  rw [if_neg (by omega)]
  exact im_ownT T hT _ (ownL B) (fun z => ⟨z.1, z.2.1⟩) (fun h1 h2 => ⟨fun z => z.2.2, fun z => ⟨h1, h2, z⟩⟩) B (List.replicate 40 false) [] rfl hG (by simp) (fun j => ⟨fun a => absurd a (gb_rep 40 j), fun a => by simp [rp] at a⟩) (by simp) List.nodup_nil
/-- What the program says of a world. -/
def WI (T : List S67) (B : List S78) (C : List S155) (E : List Int) : Prop := 1 ≤ B.length ∧ B.length ≤ 5 ∧ C.length ≤ 200 ∧ (∀ t ∈ B, GS t.f0 t.f1) ∧ TI T E ∧ OI T B ∧ LI B C
theorem EvO.ev {o : Option Bool} {P : Prop} (h : EvO o P) : EvB (fun _ => o) P := by
  obtain ⟨b, h1, h2⟩ := h
  exact ⟨b, h2, 0, fun _ _ => h1⟩
theorem im_gwT (P : Prop) (Ko : Option Bool) : ∀ B : List S78, (P → ∀ t ∈ B, GS t.f0 t.f1) → ((∀ t ∈ B, GS t.f0 t.f1) → EvO Ko P) → EvB (fun k => gwT k Ko B) P
  | [], _, h2 => (h2 (by simp)).ev.eq fun k => by simp only [gwT]
  | t :: B, h1, h2 => by
    refine EvB.eq (g := fun k => (impl_GoodTable.f k t.f0 t.f1).bind fun b => if b = true then gwT k Ko B else some false) (fun k => by simp only [gwT]) (EvB.andThen ((impl_good t.f0 t.f1).iff (good_iff t.f0 t.f1)) (fun g => ?_) (fun g z => g (h1 z t (by simp))))
    refine im_gwT P Ko B (fun z x hx => h1 z x (by simp [hx])) (fun g2 => h2 (fun x hx => ?_))
    rcases List.mem_cons.mp hx with rfl | hx
    · exact g
    · exact g2 x hx
theorem impl_world (T : List S67) (B : List S78) (C : List S155) (E : List Int) (hC : C.length ≤ 1048576) : EvB (fun k => impl_GoodWorld.f k T B C E) (WI T B C E) := by
  unfold impl_GoodWorld.f
  refine EvB.iteN (fun c z => by have := z.1; omega) (fun c => EvB.iteN (fun c1 z => by have := z.2.1; omega) (fun c1 => EvB.iteN (fun c2 z => by have := z.2.2.1; omega) (fun c2 => ?_)))
  refine im_gwT _ _ B (fun z => z.2.2.2.1) (fun g => ?_)
  unfold gwR
  refine EvO.andThen (im_things T B C E) (fun t => EvO.andThen (im_owners T t.1 B C E g) (fun o => ?_) (fun o z => o z.2.2.2.2.2.1)) (fun t z => t z.2.2.2.2.1)
  refine EvO.iff (impl_loans T B C E hC) ⟨fun l => ⟨by omega, by omega, by omega, g, t, o, l⟩, fun z => z.2.2.2.2.2.2⟩
def deadL (T : List S67) : List Int := ((List.range T.length).filter (fun (j : Nat) => dead (rd_T67 T j))).map (fun (j : Nat) => (j : Int))
theorem deadL_len : ∀ T : List S67, (deadL T).length = T.countP dead
  | [] => rfl
  | a :: T => by
    have h := deadL_len T
    unfold deadL at h ⊢
    simp only [List.length_map] at h ⊢
    rw [List.length_cons, List.range_succ_eq_map, List.filter_cons, List.countP_cons]
    have hz : rd_T67 (a :: T) ((0 : Nat) : Int) = a := rfl
    have hf : (List.filter (fun (j : Nat) => dead (rd_T67 (a :: T) j)) (List.map Nat.succ (List.range T.length))).length = T.countP dead := by
      rw [List.filter_map, List.length_map, ← h]
      congr 2
    rw [hz]
    by_cases c : dead a = true
    · rw [if_pos c, if_pos c, List.length_cons, hf]
    · rw [if_neg c, if_neg c, hf]
      rfl
theorem mem_deadL (T : List S67) (n : Int) : n ∈ deadL T ↔ 0 ≤ n ∧ n < T.length ∧ (rd_T67 T n).f1 = false := by
  unfold deadL
  simp only [List.mem_map, List.mem_filter, List.mem_range, dead, Bool.not_eq_true']
  constructor
  · rintro ⟨j, ⟨a, b⟩, rfl⟩
    exact ⟨by omega, by omega, b⟩
  · rintro ⟨a, b, c⟩
    refine ⟨n.toNat, ⟨by omega, ?_⟩, by omega⟩
    rwa [show ((n.toNat : Nat) : Int) = n by omega]
theorem deadL_nodup (T : List S67) : (deadL T).Nodup := by
  unfold deadL
  refine List.Pairwise.map _ (fun a b h => ?_) (List.Pairwise.filter _ List.nodup_range)
  omega
theorem own_nn {B : List S78} (hG : ∀ t ∈ B, GS t.f0 t.f1) : ∀ h ∈ ownL B, 0 ≤ h.f2 := by
  intro h hh
  obtain ⟨t, ht, hh⟩ := List.mem_flatMap.mp hh
  obtain ⟨h1, h2⟩ := List.mem_filter.mp hh
  simp only [own1, Bool.and_eq_true] at h2
  exact GS_rep (hG t ht) h h1 h2.1
theorem world_iff (T : List S67) (B : List S78) (C : List S155) (E : List Int) : WI T B C E ↔ WS T B C E := by
  unfold WI WS
  constructor
  · rintro ⟨b1, b2, c, g, ⟨t1, t2, ⟨e1, e2⟩, t3⟩, ⟨o1, o2, o3⟩, l⟩
    have hE : ∀ n ∈ E, 0 ≤ n ∧ n < T.length ∧ (rd_T67 T n).f1 = false := fun n hn => by
      obtain ⟨x1, x2⟩ := e1 n hn
      refine ⟨x1, x2, ?_⟩
      have := (t3 n.toNat (by omega)).2.2
      rw [show ((n.toNat : Nat) : Int) = n by omega] at this
      have h' : ¬ (rd_T67 T n).f1 = true := fun q => (this.mp q) hn
      simpa using h'
    refine ⟨t1, b1, b2, g, o1, fun i hi => ?_, ⟨hE, e2⟩, ?_, (loans_iff B C).mpr l⟩
    · obtain ⟨x1, x2, x3⟩ := t3 i hi
      have hc : (rp (ownL B)).count (i : Int) ≤ 1 := List.nodup_iff_count.mp o2 (i : Int)
      refine ⟨x1, x2, ?_, by omega⟩
      rw [o3 i hi, ← List.count_pos_iff]
      omega
    · rw [← deadL_len]
      refine Nat.le_antisymm (sub_len _ _ e2 (fun n hn => (mem_deadL T n).mpr (hE n hn))) (sub_len _ _ (deadL_nodup T) (fun n hn => ?_))
      obtain ⟨x1, x2, x3⟩ := (mem_deadL T n).mp hn
      have := (t3 n.toNat (by omega)).2.2
      rw [show ((n.toNat : Nat) : Int) = n by omega] at this
      refine Classical.byContradiction fun q => ?_
      rw [this.mpr q] at x3
      exact absurd x3 (by simp)
  · rintro ⟨t1, b1, b2, g, o1, t3, ⟨hE, e2⟩, ed, l⟩
    have nd : (rp (ownL B)).Nodup := by
      refine List.nodup_iff_count.mpr fun n => ?_
      by_cases m : n ∈ rp (ownL B)
      · obtain ⟨h, m1, rfl⟩ := List.mem_map.mp m
        have x1 := own_nn g h m1
        have x2 := (o1 h m1).1
        have := (t3 h.f2.toNat (by omega)).2.2.2
        rw [show ((h.f2.toNat : Nat) : Int) = h.f2 by omega] at this
        omega
      · rw [List.count_eq_zero.mpr m]
        omega
    have hS : ∀ t ∈ B, t.f0.length ≤ 40 := fun t ht => (g t ht).2.2.2.1
    refine ⟨b1, b2, loans_few B C b2 hS l, g, ⟨t1, ?_, ⟨fun n hn => ⟨(hE n hn).1, (hE n hn).2.1⟩, e2⟩, fun i hi => ?_⟩, ⟨o1, nd, fun i hi => ?_⟩, (loans_iff B C).mp l⟩
    · rw [ed]
      exact List.countP_le_length
    · obtain ⟨x1, x2, -, -⟩ := t3 i hi
      refine ⟨x1, x2, fun q z => ?_, fun q => ?_⟩
      · have := (hE _ z).2.2
        rw [q] at this
        exact absurd this (by simp)
      · refine Classical.byContradiction fun z => q ?_
        have z' : (rd_T67 T i).f1 = false := by simpa using z
        exact sub_rev E (deadL T) e2 (fun n hn => (mem_deadL T n).mpr (hE n hn)) (by rw [deadL_len, ed]; exact Nat.le_refl _) _ ((mem_deadL T i).mpr ⟨by omega, by omega, z'⟩)
    · obtain ⟨-, -, x3, x4⟩ := t3 i hi
      rw [x3, ← List.count_pos_iff]
      omega
/-- Both GoodWorlds answer alike. -/
theorem world_both (T : List S67) (B : List S78) (C : List S155) (E : List Int) (hB : B.length ≤ 1048576) (hS : ∀ t ∈ B, t.f0.length ≤ 1048576 ∧ t.f1.length ≤ 1048576) (hC : C.length ≤ 1048576) (hE : E.length ≤ 1048576) :
    ∃ b, (b = true ↔ WS T B C E) ∧ Ev (fun k => impl_GoodWorld.f k T B C E) b ∧ Ev (fun k => spec_GoodWorld.f k T B C E) b :=
  ((impl_world T B C E hC).iff (world_iff T B C E)).both (spec_world T B C E hB hS hC hE)
end Go.Proofs.Ytdoflfifnkpacaa.WO
