/-
  Plain laws behind GoodWorld: when a world is good.
-/
import Derived.Test.YtdoflfifnkpacaaC19WoL3
import Derived.Test.YtdoflfifnkpacaaC19WOx6
namespace Go.Proofs.Ytdoflfifnkpacaa.WO
open Go.RowKit Go.Proofs.YtdoflfifnkpacaaW.PrintWords Go.Proofs.YtdoflfifnkpacaaW.PrintLast Go.Proofs.YtdoflfifnkpacaaW.PrintMore
set_option linter.unusedSimpArgs false
set_option linter.unusedVariables false
def own1 (h : S75) : Bool := h.f0 && h.f3
def ownL (B : List S78) : List S75 := B.flatMap fun t => t.f0.filter own1
def rp (L : List S75) : List Int := L.map (·.f2)
def okOwn (T : List S67) (h : S75) : Prop := h.f2 < T.length ∧ (rd_T67 T h.f2).f1 = true ∧ (rd_T67 T h.f2).f0 = h.f1
theorem EvB.andThen {g h : Nat → Option Bool} {A P : Prop} (h1 : EvB g A) (h2 : A → EvB h P) (h3 : ¬ A → ¬ P) : EvB (fun k => (g k).bind fun b => if b = true then h k else some false) P := by
  obtain ⟨b, hb, K, hg⟩ := h1
  by_cases a : A
  · obtain ⟨c, hc, K2, hh⟩ := h2 a
    refine ⟨c, hc, max K K2, fun k hk => ?_⟩
    show (g k).bind _ = _
    rw [hg k (by omega), Option.bind_some, if_pos (hb.mpr a)]
    exact hh k (by omega)
  · refine ⟨false, by simp [h3 a], K, fun k hk => ?_⟩
    show (g k).bind _ = _
    rw [hg k hk, Option.bind_some, if_neg (fun x => a (hb.mp x))]
/-- What the row of counts says. -/
def CO (T : List S67) (o : List Int) (L : List S75) : Prop := o.length = T.length ∧ ∀ i : Nat, i < T.length → rd o i = ((rp L).count (i : Int) : Int)
theorem CO_zero (T : List S67) : CO T (List.replicate T.length 0) [] := by
  refine ⟨by simp, fun i hi => ?_⟩
  simp [rd, rp, hi]
theorem rd_set (o : List Int) (n : Int) (v : Int) (h0 : 0 ≤ n) (h1 : n < o.length) (i : Nat) : rd (o.set n.toNat v) i = if (i : Int) = n then v else rd o i := by
  unfold rd
  simp only [Int.toNat_natCast, List.getD_eq_getElem?_getD, List.getElem?_set]
  by_cases e : n.toNat = i
  · rw [if_pos e, if_pos (by omega), if_pos (by omega)]
    rfl
  · rw [if_neg e, if_neg (by omega)]
theorem CO_add {T : List S67} {o : List Int} {L : List S75} (h : CO T o L) (x : S75) (h0 : 0 ≤ x.f2) (h1 : x.f2 < T.length) (hL : L.length ≤ 1099511627776) : CO T (o.set x.f2.toNat (wrap64 (rd o x.f2 + 1))) (L ++ [x]) := by
  refine ⟨by rw [List.length_set]; exact h.1, fun i hi => ?_⟩
  rw [rd_set _ _ _ h0 (by rw [h.1]; exact h1)]
  have hc := h.2 x.f2.toNat (by omega)
  rw [show ((x.f2.toNat : Nat) : Int) = x.f2 by omega] at hc
  have hle : (rp L).count x.f2 ≤ (rp L).length := List.count_le_length
  have hl : (rp L).length = L.length := by simp [rp]
  unfold rp at hc hle hl ⊢
  rw [List.map_append, List.count_append]
  by_cases e : (i : Int) = x.f2
  · rw [if_pos e, hc, wrap_in (by omega) (by omega), e]
    simp
  · rw [if_neg e, h.2 i hi]
    unfold rp
    have : List.count (i : Int) (List.map (fun x => x.f2) [x]) = 0 := by
      rw [List.count_eq_zero]
      intro z
      simp at z
      exact e z
    rw [this]
    rfl
theorem sp_H (T : List S67) (hT : T.length ≤ 40) (P : Prop) (F : List S75) (hF : F.length ≤ 1099511627776) (hP1 : P → ∀ h ∈ F, okOwn T h) (K : Nat → List Int → Option Bool) : ∀ (l : List S75) (o : List Int) (L0 rest : List S75), F = L0 ++ (l.filter own1 ++ rest) → (∀ h ∈ l, h.f0 = true → 0 ≤ h.f2) → CO T o L0 → (∀ h ∈ L0, okOwn T h) →
    (∀ o', CO T o' (L0 ++ l.filter own1) → (∀ h ∈ L0 ++ l.filter own1, okOwn T h) → EvB (fun k => K k o') P) → EvB (fun k => swH T (K k) l o) P
  | [], o, L0, rest, e, h0, hc, hok, hK => by
    have := hK o (by simpa using hc) (by simpa using hok)
    exact this.eq fun k => by simp only [swH]
  | h :: l, o, L0, rest, e, h0, hc, hok, hK => by
    by_cases hu : h.f0 = true
    · by_cases ho : h.f3 = true
      · have hn := h0 h (by simp) hu
        have hf : (h :: l).filter own1 = h :: l.filter own1 := by
          rw [List.filter_cons_of_pos]
          simp [own1, hu, ho]
        rw [hf] at e hK
        have hmem : h ∈ F := by rw [e]; simp
        refine EvB.eq (g := fun k => if h.f2 ≥ (T.length : Int) then some false else (if (rd_T67 T h.f2).f1 = true then (if ((rd_T67 T h.f2).f0 != h.f1) = true then some false else swH T (K k) l (o.set h.f2.toNat (wrap64 (rd o h.f2 + 1)))) else some false)) (fun k => ?_) ?_
        · simp only [swH]
          rw [if_pos hu, if_pos ho]
          by_cases c : h.f2 ≥ (T.length : Int)
          · rw [if_pos c, if_pos c]
          · rw [if_neg c, if_neg c, if_neg (by omega)]
        · refine EvB.iteN (fun c z => ?_) (fun c => EvB.ite (fun c1 => EvB.iteN (fun c2 z => ?_) (fun c2 => ?_)) (fun c1 z => c1 (hP1 z h hmem).2.1))
          · have := (hP1 z h hmem).1
            omega
          · have := (hP1 z h hmem).2.2
            rw [this] at c2
            simp at c2
          · have ok : okOwn T h := ⟨by omega, c1, by simpa using c2⟩
            have hL : L0.length ≤ 1099511627776 := by
              have := congrArg List.length e
              rw [List.length_append] at this
              omega
            refine sp_H T hT P F hF hP1 K l _ (L0 ++ [h]) rest (by rw [e]; simp) (fun x hx => h0 x (by simp [hx])) (CO_add hc h hn (by omega) hL) (fun x hx => ?_) (fun o' a b => hK o' (by simpa using a) (by simpa using b))
            rcases List.mem_append.mp hx with hx | hx
            · exact hok x hx
            · simp only [List.mem_singleton] at hx
              exact hx ▸ ok
      · have hf : (h :: l).filter own1 = l.filter own1 := by
          rw [List.filter_cons_of_neg]
          simp [own1, ho]
        rw [hf] at e hK
        refine EvB.eq (fun k => ?_) (sp_H T hT P F hF hP1 K l o L0 rest e (fun x hx => h0 x (by simp [hx])) hc hok hK)
        simp only [swH]
        rw [if_pos hu, if_neg ho]
    · have hf : (h :: l).filter own1 = l.filter own1 := by
        rw [List.filter_cons_of_neg]
        simp [own1, hu]
      rw [hf] at e hK
      refine EvB.eq (fun k => ?_) (sp_H T hT P F hF hP1 K l o L0 rest e (fun x hx => h0 x (by simp [hx])) hc hok hK)
      simp only [swH]
      rw [if_neg hu]
theorem GS_rep {S : List S75} {F : List Int} (h : GS S F) : ∀ x ∈ S, x.f0 = true → 0 ≤ x.f2 := by
  intro x hx hu
  have := (h.1 x hx).1 hu
  unfold hok at this
  simp only [Bool.and_eq_true, decide_eq_true_eq] at this
  omega
theorem sp_T (T : List S67) (hT : T.length ≤ 40) (P : Prop) (F : List S75) (hF : F.length ≤ 1099511627776) (hP1 : P → ∀ h ∈ F, okOwn T h) (K : Nat → List Int → Option Bool) : ∀ (B : List S78) (o : List Int) (L0 : List S75), F = L0 ++ ownL B → (P → ∀ t ∈ B, GS t.f0 t.f1) → (∀ t ∈ B, t.f0.length ≤ 1048576 ∧ t.f1.length ≤ 1048576) → CO T o L0 → (∀ h ∈ L0, okOwn T h) →
    ((∀ t ∈ B, GS t.f0 t.f1) → ∀ o', CO T o' F → (∀ h ∈ F, okOwn T h) → EvB (fun k => K k o') P) → EvB (fun k => swT k T (K k) B o) P
  | [], o, L0, e, hP0, hl, hc, hok, hK => by
    simp only [ownL, List.flatMap_nil, List.append_nil] at e
    subst e
    exact (hK (by simp) o hc hok).eq fun k => by simp only [swT]
  | t :: B, o, L0, e, hP0, hl, hc, hok, hK => by
    have e1 : ownL (t :: B) = t.f0.filter own1 ++ ownL B := by simp [ownL]
    rw [e1] at e
    have ht := hl t (by simp)
    refine EvB.eq (g := fun k => (spec_GoodTable.f k t.f0 t.f1).bind fun b => if b = true then swH T (swT k T (K k) B) t.f0 o else some false) (fun k => by simp only [swT]) ?_
    refine EvB.andThen (spec_good t.f0 (by omega) t.f1 (by omega)) (fun g => ?_) (fun g z => g (hP0 z t (by simp)))
    refine sp_H T hT P F hF hP1 (fun k o' => swT k T (K k) B o') t.f0 o L0 (ownL B) e (GS_rep g) hc hok (fun o' a b => ?_)
    refine sp_T T hT P F hF hP1 K B o' (L0 ++ t.f0.filter own1) (by rw [e]; simp) (fun z x hx => hP0 z x (by simp [hx])) (fun x hx => hl x (by simp [hx])) a b (fun g2 => hK (fun x hx => ?_))
    rcases List.mem_cons.mp hx with rfl | hx
    · exact g
    · exact g2 x hx
theorem in_09 (x : Int) : spec_l1In.f x 0 9 = some (decide (0 ≤ x ∧ x ≤ 9)) := by
  unfold spec_l1In.f
  by_cases h : x ≥ 0
  · rw [if_pos h]
    congr 1
    rw [decide_eq_decide]
    omega
  · rw [if_neg h]
    congr 1
    symm
    rw [decide_eq_false_iff_not]
    omega
def dead (x : S67) : Bool := !x.f1
/-- A thing is as it should be: `n` handles own it. -/
def thOk (x : S67) (n : Int) : Prop := 0 ≤ x.f0 ∧ x.f0 ≤ 9 ∧ (x.f1 = true ↔ n = 1) ∧ n ≤ 1
theorem rdTh {pre suf : List S67} {h : S67} : rd_T67 (pre ++ h :: suf) (pre.length : Int) = h := by
  simp [rd_T67]
theorem sp_A (T : List S67) (hT : T.length ≤ 40) (o : List Int) (P : Prop) (hP : P → ∀ i : Nat, i < T.length → thOk (rd_T67 T i) (rd o i)) (K : Nat → Int → Option Bool)
    (hK : (∀ i : Nat, i < T.length → thOk (rd_T67 T i) (rd o i)) → EvB (fun k => K k ((T.countP dead : Nat) : Int)) P) : ∀ (suf pre : List S67), T = pre ++ suf → (∀ i : Nat, i < pre.length → thOk (rd_T67 T i) (rd o i)) → EvB (fun k => swA (K k) o suf (pre.length : Int) ((pre.countP dead : Nat) : Int)) P
  | [], pre, e, hp => by
    simp only [List.append_nil] at e
    subst e
    exact (hK hp).eq fun k => by simp only [swA]
  | x :: suf, pre, e, hp => by
    have hlen : pre.length < T.length := by rw [e]; simp
    have hrd : rd_T67 T (pre.length : Int) = x := by rw [e]; exact rdTh
    have hcl : pre.countP dead ≤ pre.length := List.countP_le_length
    have hw2 : wrap64 (((pre.countP dead : Nat) : Int) + 1) = ((pre.countP dead + 1 : Nat) : Int) := by rw [wrap_in (by omega) (by omega)]; simp
    have hq : ((pre.length : Int) + 1) = ((pre ++ [x]).length : Int) := by simp
    have hcp : (pre ++ [x]).countP dead = pre.countP dead + if dead x = true then 1 else 0 := by
      rw [List.countP_append]
      simp [List.countP_cons]
    generalize hn : rd o (pre.length : Int) = n
    refine EvB.eq (g := fun k => if 0 ≤ x.f0 ∧ x.f0 ≤ 9 then (if (x.f1 != (n == 1)) = true then some false else (if n > 1 then some false else swA (K k) o suf ((pre ++ [x]).length : Int) (((pre ++ [x]).countP dead : Nat) : Int))) else some false) (fun k => ?_) ?_
    · simp only [swA]
      rw [in_09, Option.bind_some, hn, ← hq, hcp]
      by_cases c : 0 ≤ x.f0 ∧ x.f0 ≤ 9
      · rw [if_pos (by simpa using c), if_pos c]
        by_cases c1 : x.f1 = true
        · rw [if_pos c1, if_neg (show ¬ dead x = true by simp [dead, c1])]
          rfl
        · rw [if_neg c1, if_pos (show dead x = true by simp [dead, c1]), hw2]
      · rw [if_neg (by simpa using c), if_neg c]
    · have hx : P → thOk x n := fun z => by
        have := hP z pre.length hlen
        rwa [hrd, hn] at this
      refine EvB.ite (fun c => EvB.iteN (fun c1 z => ?_) (fun c1 => EvB.iteN (fun c2 z => ?_) (fun c2 => ?_))) (fun c z => c ⟨(hx z).1, (hx z).2.1⟩)
      · have := (hx z).2.2.1
        by_cases d : x.f1 = true
        · rw [d, this.mp d] at c1
          simp at c1
        · have d' : x.f1 = false := by simpa using d
          have : ¬ n = 1 := fun q => d (this.mpr q)
          rw [d'] at c1
          simp [this] at c1
      · have := (hx z).2.2.2
        omega
      · refine sp_A T hT o P hP K hK suf (pre ++ [x]) (by simp [e]) (fun i hi => ?_)
        by_cases g : i < pre.length
        · exact hp i g
        · have gi : i = pre.length := by
            rw [List.length_append] at hi
            simp at hi
            omega
          subst gi
          rw [hrd, hn]
          refine ⟨c.1, c.2, ?_, by omega⟩
          have c1' : x.f1 = (n == 1) := by simpa using c1
          rw [c1', beq_iff_eq]
theorem has_l0 (L : List Int) (hL : L.length ≤ 140737488351232) (n : Int) : ∀ (suf pre : List Int), L = pre ++ suf → EvB (fun k => spec_l16Has.l0 k n L (L.length : Int) (pre.length : Int)) (n ∈ suf)
  | [], pre, e => by
    refine EvB.step (g := fun _ => some false) (fun k => ?_) (EvB.no (by simp))
    simp only [spec_l16Has.l0]
    rw [if_neg (by rw [e]; simp)]
  | a :: suf, pre, e => by
    have hlen : pre.length < L.length := by rw [e]; simp
    have hrd : rd L (pre.length : Int) = a := by rw [e]; exact rdI
    have hw : wrap64 ((pre.length : Int) + 1) = ((pre ++ [a]).length : Int) := by rw [wrap_in (by omega) (by omega)]; simp
    by_cases c : a = n
    · refine EvB.step (g := fun _ => some true) (fun k => ?_) (EvB.yes (by simp [c]))
      simp only [spec_l16Has.l0]
      rw [if_pos (by omega), if_pos (by omega), if_pos (by omega), hrd, if_pos c]
    · refine EvB.step (fun k => ?_) ((has_l0 L hL n suf (pre ++ [a]) (by simp [e])).iff ?_)
      · simp only [spec_l16Has.l0]
        rw [if_pos (by omega), if_pos (by omega), if_pos (by omega), hrd, if_neg c, hw]
      · simp only [List.mem_cons]
        constructor
        · exact .inr
        · rintro (h | h)
          · exact absurd h.symm c
          · exact h
theorem has_eq (L : List Int) (hL : L.length ≤ 140737488351232) (n : Int) : EvB (fun k => spec_l16Has.f k L n) (n ∈ L) := has_l0 L hL n L [] rfl
theorem sp_E (T : List S67) (hT : T.length ≤ 40) (E : List Int) (hE : E.length ≤ 1048576) (P : Prop) (hP : P → (∀ n ∈ E, 0 ≤ n ∧ n < T.length ∧ (rd_T67 T n).f1 = false) ∧ E.Nodup) (K : Nat → Option Bool)
    (hK : (∀ n ∈ E, 0 ≤ n ∧ n < T.length ∧ (rd_T67 T n).f1 = false) → E.Nodup → EvB (fun k => K k) P) : ∀ (suf pre : List Int), E = pre ++ suf → (∀ n ∈ pre, 0 ≤ n ∧ n < T.length ∧ (rd_T67 T n).f1 = false) → pre.Nodup → EvB (fun k => swE k T E (K k) suf (pre.length : Int)) P
  | [], pre, e, h1, h2 => by
    simp only [List.append_nil] at e
    subst e
    exact (hK h1 h2).eq fun k => by simp only [swE]
  | n :: suf, pre, e, h1, h2 => by
    have hq : ((pre.length : Int) + 1) = ((pre ++ [n]).length : Int) := by simp
    have hmem : n ∈ E := by rw [e]; simp
    have ht : E.take ((pre.length : Int)).toNat = pre := by rw [e]; exact take_pre _ _
    have hpl : pre.length ≤ E.length := by rw [e]; simp
    refine EvB.eq (g := fun k => if 0 ≤ n ∧ n < T.length then (if (rd_T67 T n).f1 = true then some false else ((spec_l16Has.f k pre n).bind fun c => if c = true then some false else swE k T E (K k) suf ((pre ++ [n]).length : Int))) else some false) (fun k => ?_) ?_
    · simp only [swE]
      rw [in_len _ _ (by omega), Option.bind_some, ht, ← hq]
      by_cases c : 0 ≤ n ∧ n < T.length
      · rw [if_pos (by simpa using c), if_pos c, if_neg (by omega), if_neg (by omega)]
      · rw [if_neg (by simpa using c), if_neg c]
    · refine EvB.ite (fun c => EvB.iteN (fun c1 z => ?_) (fun c1 => ?_)) (fun c z => ?_)
      · have := ((hP z).1 n hmem).2.2
        rw [c1] at this
        exact absurd this (by simp)
      · by_cases m : n ∈ pre
        · obtain ⟨b, hb, hg⟩ := has_eq pre (by omega) n
          obtain ⟨K0, hg⟩ := hg
          have hbt := hb.mpr m
          refine ⟨false, ⟨fun x => absurd x (by simp), fun z => ?_⟩, K0, fun k hk => ?_⟩
          · have := (hP z).2
            rw [e] at this
            exact absurd rfl ((List.nodup_append.mp this).2.2 n m n (by simp))
          · show (spec_l16Has.f k pre n).bind _ = _
            rw [show spec_l16Has.f k pre n = some b from hg k hk, Option.bind_some, if_pos hbt]
        · obtain ⟨b, hb, hg⟩ := has_eq pre (by omega) n
          have hbf : ¬ b = true := fun x => m (hb.mp x)
          have ih := sp_E T hT E hE P hP K hK suf (pre ++ [n]) (by simp [e]) (fun x hx => ?_) (List.nodup_append.mpr ⟨h2, by simp, fun a ha b hb q => m (by simp at hb; rw [← hb, ← q]; exact ha)⟩)
          · obtain ⟨K0, hg⟩ := hg
            obtain ⟨d, hd, K1, hh⟩ := ih
            refine ⟨d, hd, max K0 K1, fun k hk => ?_⟩
            show (spec_l16Has.f k pre n).bind _ = _
            rw [show spec_l16Has.f k pre n = some b from hg k (by omega), Option.bind_some, if_neg hbf]
            exact hh k (by omega)
          · rcases List.mem_append.mp hx with hx | hx
            · exact h1 x hx
            · simp only [List.mem_singleton] at hx
              subst hx
              exact ⟨c.1, c.2, by simpa using c1⟩
      · have := (hP z).1 n hmem
        exact c ⟨this.1, this.2.1⟩
/-- What the reference says of a world. -/
def WS (T : List S67) (B : List S78) (C : List S155) (E : List Int) : Prop := T.length ≤ 40 ∧ 1 ≤ B.length ∧ B.length ≤ 5 ∧ (∀ t ∈ B, GS t.f0 t.f1) ∧ (∀ h ∈ ownL B, okOwn T h) ∧ (∀ i : Nat, i < T.length → thOk (rd_T67 T i) (((rp (ownL B)).count (i : Int) : Nat) : Int)) ∧
  ((∀ n ∈ E, 0 ≤ n ∧ n < T.length ∧ (rd_T67 T n).f1 = false) ∧ E.Nodup) ∧ E.length = T.countP dead ∧ LS B C
theorem ownL_len : ∀ B : List S78, B.length ≤ 1048576 → (∀ t ∈ B, t.f0.length ≤ 1048576) → (ownL B).length ≤ B.length * 1048576
  | [], _, _ => by simp [ownL]
  | t :: B, h, h1 => by
    simp only [List.length_cons] at h ⊢
    have ih := ownL_len B (by omega) (fun x hx => h1 x (by simp [hx]))
    have h2 := h1 t (by simp)
    have h3 : (t.f0.filter own1).length ≤ t.f0.length := List.length_filter_le _ _
    have e1 : ownL (t :: B) = t.f0.filter own1 ++ ownL B := by simp [ownL]
    rw [e1, List.length_append]
    omega
theorem spec_world (T : List S67) (B : List S78) (C : List S155) (E : List Int) (hB : B.length ≤ 1048576) (hS : ∀ t ∈ B, t.f0.length ≤ 1048576 ∧ t.f1.length ≤ 1048576) (hC : C.length ≤ 1048576) (hE : E.length ≤ 1048576) : EvB (fun k => spec_GoodWorld.f k T B C E) (WS T B C E) := by
  unfold spec_GoodWorld.f
  refine EvB.iteN (fun c z => by have := z.1; omega) (fun c => ?_)
  have hT : T.length ≤ 40 := by omega
  have h15 : spec_l1In.f (B.length : Int) 1 5 = some (decide (1 ≤ B.length ∧ B.length ≤ 5)) := by
    unfold spec_l1In.f
    by_cases h : (B.length : Int) ≥ 1
    · rw [if_pos h]
      congr 1
      rw [decide_eq_decide]
      omega
    · rw [if_neg h]
      congr 1
      symm
      rw [decide_eq_false_iff_not]
      omega
  refine EvB.eq (g := fun k => if 1 ≤ B.length ∧ B.length ≤ 5 then swT k T (fun o => swA (fun d => swE k T E (swL k T B C E d) E 0) o T 0 0) B (List.replicate T.length 0) else some false) (fun k => ?_) ?_
  · rw [h15, Option.bind_some]
    by_cases c : 1 ≤ B.length ∧ B.length ≤ 5
    · rw [if_pos (by simpa using c), if_pos c]
    · rw [if_neg (by simpa using c), if_neg c]
  refine EvB.ite (fun c1 => ?_) (fun c1 z => c1 ⟨z.2.1, z.2.2.1⟩)
  have hl := ownL_len B hB (fun t ht => (hS t ht).1)
  refine sp_T T hT _ (ownL B) (by omega) (fun z => z.2.2.2.2.1) (fun k o => swA (fun d => swE k T E (swL k T B C E d) E 0) o T 0 0) B (List.replicate T.length 0) [] rfl (fun z => z.2.2.2.1) hS (CO_zero T) (by simp) (fun g o hco hok => ?_)
  refine sp_A T hT o _ (fun z i hi => by rw [hco.2 i hi]; exact z.2.2.2.2.2.1 i hi) (fun k d => swE k T E (swL k T B C E d) E 0) (fun hth => ?_) T [] rfl (by simp)
  refine sp_E T hT E hE _ (fun z => z.2.2.2.2.2.2.1) (fun k => swL k T B C E ((T.countP dead : Nat) : Int)) (fun e1 e2 => ?_) E [] rfl (by simp) List.nodup_nil
  unfold swL
  refine EvB.ite (fun c2 => ?_) (fun c2 z => c2 (by have := z.2.2.2.2.2.2.2.1; rw [this]; simp))
  refine (spec_loans T B hB (fun t ht => (hS t ht).1) C E (by omega)).iff ?_
  have c3 : E.length = T.countP dead := by
    simp only [beq_iff_eq] at c2
    omega
  constructor
  · exact fun h => ⟨hT, c1.1, c1.2, g, hok, fun i hi => by rw [← hco.2 i hi]; exact hth i hi, ⟨e1, e2⟩, c3, h⟩
  · exact fun z => z.2.2.2.2.2.2.2.2
end Go.Proofs.Ytdoflfifnkpacaa.WO
