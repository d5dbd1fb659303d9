/-
  Plain laws behind GoodWorld: when a world is good.
-/
import Derived.Test.YtdoflfifnkpacaaC19WoG2
import Derived.Test.YtdoflfifnkpacaaC19WOx2
import Derived.Test.YtdoflfifnkpacaaC19WOx7
import Derived.Test.YtdoflfifnkpacaaC19Slices
namespace Go.Proofs.Ytdoflfifnkpacaa.WO
open Go.RowKit Go.Proofs.YtdoflfifnkpacaaW.PrintWords Go.Proofs.YtdoflfifnkpacaaW.PrintLast Go.Proofs.YtdoflfifnkpacaaW.PrintMore
set_option linter.unusedSimpArgs false
set_option linter.unusedVariables false
theorem to_gen {α β : Type} (c : α → β) (z : β) (rda : List α → Int → α) (hrd : ∀ (pre suf : List α) (x : α), rda (pre ++ x :: suf) (pre.length : Int) = x) (g : α → Nat → Option β) (l0 : Nat → List α → List β → Int → Option (List β))
    (h1 : ∀ k l acc (i : Int), ¬ i < (l.length : Int) → l0 (k + 1) l acc i = some acc)
    (h2 : ∀ k l acc (i : Int), i < (l.length : Int) → 0 ≤ i → i < (acc.length : Int) → l0 (k + 1) l acc i = (g (rda l i) k).bind fun y => l0 k l (acc.set i.toNat y) (wrap64 (i + 1))) :
    ∀ (suf pre : List α), (pre ++ suf).length ≤ 140737488351232 → (∀ x ∈ suf, Ev (g x) (c x)) → Ev (fun k => l0 k (pre ++ suf) (pre.map c ++ List.replicate suf.length z) (pre.length : Int)) ((pre ++ suf).map c)
  | [], pre, hl, hx => by
    refine Ev.step (g := fun _ => some ((pre ++ []).map c)) (fun k => ?_) (Ev.const _)
    rw [h1 _ _ _ _ (by simp)]
    simp
  | x :: suf, pre, hl, hx => by
    simp only [List.length_append, List.length_cons] at hl
    have ih := to_gen c z rda hrd g l0 h1 h2 suf (pre ++ [x]) (by simp; omega) (fun y hy => hx y (by simp [hy]))
    refine Ev.step (g := fun k => (g x k).bind fun y => l0 k (pre ++ x :: suf) ((pre.map c ++ List.replicate (x :: suf).length z).set ((pre.length : Int)).toNat y) (((pre ++ [x]).length : Nat) : Int)) (fun k => ?_) (Ev.bind (hx x (by simp)) ?_)
    · rw [h2 _ _ _ _ (by simp; omega) (by omega) (by simp; omega), hrd, wrap_in (by omega) (by omega)]
      simp
    · have hs : (pre.map c ++ List.replicate (x :: suf).length z).set ((pre.length : Int)).toNat (c x) = (pre ++ [x]).map c ++ List.replicate suf.length z := by
        rw [List.length_cons, List.replicate_succ]
        simp [List.set_append]
      rw [hs]
      simpa using ih
def cTh (x : S159) : S67 := ⟨x.f0, x.f1⟩
def cHa (h : S190) : S75 := ⟨h.f0, h.f1, h.f2, h.f3, h.f4, h.f5⟩
def cTa (t : S152) : S78 := ⟨t.f0.map cHa, t.f1⟩
def cLo (x : S162) : S155 := ⟨x.f0, x.f1, x.f2, x.f3⟩
theorem toThingS_ev (l : List S159) (h : l.length ≤ 1048576) : Ev (fun k => laws_toThingS.f k l) (l.map cTh) := by
  refine Ev.eq (fun k => ?_) (to_gen cTh z67 rd_T159 (fun pre suf x => by simp [rd_T159]) (fun x _ => some (cTh x)) laws_toThingS.l0 (fun k l acc i h => by simp only [laws_toThingS.l0]; rw [if_neg h]) (fun k l acc i a b c => by simp only [laws_toThingS.l0]; rw [if_pos a, if_pos b]; unfold laws_toThing.f; simp only [Option.bind_some]; rw [if_pos c]; rfl) l [] (by simp; omega) (fun _ _ => Ev.const _))
  unfold laws_toThingS.f
  rw [if_pos (by omega), if_pos (by omega)]
  simp
theorem toIntS_ev (l : List Int) (h : l.length ≤ 1048576) : Ev (fun k => laws_toIntS.f k l) l := by
  have := to_gen (fun x : Int => x) 0 rd (fun pre suf x => by simp [rd]) (fun x _ => some x) laws_toIntS.l0 (fun k l acc i h => by simp only [laws_toIntS.l0]; rw [if_neg h]) (fun k l acc i a b c => by simp only [laws_toIntS.l0]; rw [if_pos a, if_pos b, if_pos c]; rfl) l [] (by simp; omega) (fun _ _ => Ev.const _)
  simp only [List.nil_append, List.map_id', List.map_nil, List.length_nil] at this
  refine Ev.eq (fun k => ?_) this
  unfold laws_toIntS.f
  rw [if_pos (by omega), if_pos (by omega)]
  simp
theorem toHandleS_ev (l : List S190) (h : l.length ≤ 1048576) : Ev (fun k => laws_toHandleS.f k l) (l.map cHa) := by
  refine Ev.eq (fun k => ?_) (to_gen cHa z75 rd_T190 (fun pre suf x => by simp [rd_T190]) (fun x _ => some (cHa x)) laws_toHandleS.l0 (fun k l acc i h => by simp only [laws_toHandleS.l0]; rw [if_neg h]) (fun k l acc i a b c => by simp only [laws_toHandleS.l0]; rw [if_pos a, if_pos b]; unfold laws_toHandle.f; simp only [Option.bind_some]; rw [if_pos c]; rfl) l [] (by simp; omega) (fun _ _ => Ev.const _))
  unfold laws_toHandleS.f
  rw [if_pos (by omega), if_pos (by omega)]
  simp
theorem toLoanS_ev (l : List S162) (h : l.length ≤ 1048576) : Ev (fun k => laws_toLoanS.f k l) (l.map cLo) := by
  refine Ev.eq (fun k => ?_) (to_gen cLo z155 rd_T162 (fun pre suf x => by simp [rd_T162]) (fun x _ => some (cLo x)) laws_toLoanS.l0 (fun k l acc i h => by simp only [laws_toLoanS.l0]; rw [if_neg h]) (fun k l acc i a b c => by simp only [laws_toLoanS.l0]; rw [if_pos a, if_pos b]; unfold laws_toLoan.f; simp only [Option.bind_some]; rw [if_pos c]; rfl) l [] (by simp; omega) (fun _ _ => Ev.const _))
  unfold laws_toLoanS.f
  rw [if_pos (by omega), if_pos (by omega)]
  simp
theorem toTable_ev (t : S152) (h : t.f0.length ≤ 1048576) (h' : t.f1.length ≤ 1048576) : Ev (fun k => laws_toTable.f k t.f0 t.f1) (t.f0.map cHa, t.f1) := by
  unfold laws_toTable.f
  exact Ev.bind (toHandleS_ev _ h) (Ev.bind (toIntS_ev _ h') (Ev.const _))
theorem toTableS_ev (l : List S152) (h : l.length ≤ 1048576) (hx : ∀ t ∈ l, t.f0.length ≤ 1048576 ∧ t.f1.length ≤ 1048576) : Ev (fun k => laws_toTableS.f k l) (l.map cTa) := by
  refine Ev.eq (fun k => ?_) (to_gen cTa z78 rd_T152 (fun pre suf x => by simp [rd_T152]) (fun t k => (laws_toTable.f k t.f0 t.f1).bind fun p => some (⟨p.1, p.2⟩ : S78)) laws_toTableS.l0 (fun k l acc i h => by simp only [laws_toTableS.l0]; rw [if_neg h]) (fun k l acc i a b c => ?_) l [] (by simp; omega) (fun t ht => Ev.bind (toTable_ev t (hx t ht).1 (hx t ht).2) (Ev.const _)))
  · unfold laws_toTableS.f
    rw [if_pos (by omega), if_pos (by omega)]
    simp
  · simp only [laws_toTableS.l0]
    rw [if_pos a, if_pos b, Option.bind_assoc]
    congr 1
    funext p
    rw [if_pos c]
    rfl
theorem toWorld_ev (T : List S159) (B : List S152) (C : List S162) (E : List Int) (hT : T.length ≤ 1048576) (hB : B.length ≤ 1048576) (hS : ∀ t ∈ B, t.f0.length ≤ 1048576 ∧ t.f1.length ≤ 1048576) (hC : C.length ≤ 1048576) (hE : E.length ≤ 1048576) : Ev (fun k => laws_toWorld.f k T B C E) (T.map cTh, B.map cTa, C.map cLo, E) := by
  unfold laws_toWorld.f
  exact Ev.bind (toThingS_ev T hT) (Ev.bind (toTableS_ev B hB hS) (Ev.bind (toLoanS_ev C hC) (Ev.bind (toIntS_ev E hE) (Ev.const _))))
/-- What is left when `n` are taken from `a`. -/
def lft (a : Int) (n : Nat) : Int := if a - n < 0 then -1 else a - n
theorem lft_eq (a : Int) (n : Nat) (h0 : 0 ≤ a) (h1 : a ≤ 1048576) (hn : n ≤ 140737488351232) : (if wrap64 (a - (n : Int)) < 0 then some (-1) else some (wrap64 (a - (n : Int)))) = some (lft a n) := by
  have : wrap64 (a - (n : Int)) = a - n := by unfold wrap64; omega
  rw [this]
  unfold lft
  split <;> rfl
theorem lft_ok {a : Int} {n : Nat} (h : ¬ lft a n < 0) : (n : Int) ≤ a ∧ lft a n = a - n ∧ 0 ≤ lft a n := by
  unfold lft at h ⊢
  split at h
  · omega
  · rename_i g
    rw [if_neg g]
    omega
theorem lft_neg {a : Int} {n : Nat} (h : lft a n < 0) : lft a n = -1 := by
  unfold lft at h ⊢
  split at h
  · rename_i g
    rw [if_pos g]
  · omega
theorem szTableS_l0 (B : List S152) (hB : B.length ≤ 140737488351232) (hS : ∀ t ∈ B, wf152 t) : ∀ (suf pre : List S152) (a : Int), B = pre ++ suf → 0 ≤ a → a ≤ 1048576 → ∃ r, Ev (fun k => laws_szTableS.l0 k B a (pre.length : Int)) r ∧ (¬ r < 0 → r ≤ 1048576 ∧ ∀ t ∈ suf, t.f0.length ≤ 1048576 ∧ t.f1.length ≤ 1048576)
  | [], pre, a, e, h0, h1 => by
    refine ⟨a, Ev.step (g := fun _ => some a) (fun k => ?_) (Ev.const _), fun _ => ⟨h1, by simp⟩⟩
    simp only [laws_szTableS.l0]
    rw [if_neg (by rw [e]; simp)]
  | t :: suf, pre, a, e, h0, h1 => by
    have hlen : pre.length < B.length := by rw [e]; simp
    have hrd : rd_T152 B (pre.length : Int) = t := by rw [e]; simp [rd_T152]
    have hw : wrap64 ((pre.length : Int) + 1) = ((pre ++ [t]).length : Int) := by rw [wrap_in (by omega) (by omega)]; simp
    have ht := hS t (by rw [e]; simp)
    have hz : laws_szTable.f t.f0 t.f1 a = some (if lft a t.f0.length < 0 then -1 else lft (lft a t.f0.length) t.f1.length) := by
      unfold laws_szTable.f laws_szHandleS.f laws_szIntS.f
      rw [lft_eq a t.f0.length h0 h1 (by have := ht.1; omega), Option.bind_some]
      by_cases c : lft a t.f0.length < 0
      · rw [if_pos c, if_pos c]
      · rw [if_neg c, if_neg c]
        have k := lft_ok c
        rw [lft_eq _ t.f1.length k.2.2 (by omega) (by have := ht.2.1; omega), Option.bind_some]
        split
        · rename_i g
          rw [lft_neg g]
        · rfl
    have stp : ∀ k, laws_szTableS.l0 (k + 1) B a (pre.length : Int) = if (if lft a t.f0.length < 0 then (-1 : Int) else lft (lft a t.f0.length) t.f1.length) < 0 then some (-1) else laws_szTableS.l0 k B (if lft a t.f0.length < 0 then -1 else lft (lft a t.f0.length) t.f1.length) ((pre ++ [t]).length : Int) := by
      intro k
      simp only [laws_szTableS.l0]
      rw [if_pos (by omega), if_pos (by omega), hrd, hz, Option.bind_some, hw]
    by_cases c : lft a t.f0.length < 0
    · refine ⟨-1, Ev.step (g := fun _ => some (-1)) (fun k => ?_) (Ev.const _), fun h => absurd (by omega) h⟩
      rw [stp, if_pos c, if_pos (by omega)]
    · simp only [c, if_false] at stp
      have k1 := lft_ok c
      by_cases c2 : lft (lft a t.f0.length) t.f1.length < 0
      · refine ⟨-1, Ev.step (g := fun _ => some (-1)) (fun k => ?_) (Ev.const _), fun h => absurd (by omega) h⟩
        rw [stp, if_pos c2]
      · have k2 := lft_ok c2
        obtain ⟨r, r1, r2⟩ := szTableS_l0 B hB hS suf (pre ++ [t]) (lft (lft a t.f0.length) t.f1.length) (by simp [e]) k2.2.2 (by omega)
        refine ⟨r, Ev.step (fun k => ?_) r1, fun h => ⟨(r2 h).1, fun x hx => ?_⟩⟩
        · rw [stp, if_neg c2]
        · rcases List.mem_cons.mp hx with rfl | hx
          · omega
          · exact (r2 h).2 x hx
theorem szWorld_ev (T : List S159) (B : List S152) (C : List S162) (E : List Int) (hT : T.length ≤ 140737488351232) (hB : B.length ≤ 140737488351232) (hS : ∀ t ∈ B, wf152 t) (hC : C.length ≤ 140737488351232) (hE : E.length ≤ 140737488351232) :
    ∃ r, Ev (fun k => laws_szWorld.f k T B C E 1048576) r ∧ (¬ r < 0 → T.length ≤ 1048576 ∧ B.length ≤ 1048576 ∧ (∀ t ∈ B, t.f0.length ≤ 1048576 ∧ t.f1.length ≤ 1048576) ∧ C.length ≤ 1048576 ∧ E.length ≤ 1048576) := by
  have no : ∀ {x : Int} {g : Nat → Option Int}, x < 0 → Ev (fun k => if x < 0 then some (-1) else g k) (-1) := fun h => Ev.pos h (Ev.const _)
  unfold laws_szWorld.f laws_szThingS.f
  simp only [lft_eq 1048576 T.length (by omega) (by omega) hT, Option.bind_some]
  by_cases c0 : lft 1048576 T.length < 0
  · exact ⟨-1, no c0, fun h => absurd (by omega) h⟩
  have k0 := lft_ok c0
  unfold laws_szTableS.f
  have hwB : wrap64 (lft 1048576 T.length - (B.length : Int)) = lft 1048576 T.length - (B.length : Int) := by unfold wrap64; omega
  rw [hwB]
  by_cases c1 : lft 1048576 T.length - (B.length : Int) < 0
  · refine ⟨-1, Ev.neg c0 (Ev.eq (g := fun _ => some (-1)) (fun k => ?_) (Ev.const _)), fun h => absurd (by omega) h⟩
    rw [if_pos c1, Option.bind_some, if_pos (by omega)]
  obtain ⟨r, r1, r2⟩ := szTableS_l0 B hB hS B [] (lft 1048576 T.length - (B.length : Int)) rfl (by omega) (by omega)
  by_cases c2 : r < 0
  · exact ⟨-1, Ev.neg c0 (Ev.bind (Ev.neg c1 r1) (no c2)), fun h => absurd (by omega) h⟩
  obtain ⟨r3, r4⟩ := r2 c2
  unfold laws_szLoanS.f
  by_cases c3 : lft r C.length < 0
  · refine ⟨-1, Ev.neg c0 (Ev.bind (Ev.neg c1 r1) (Ev.neg c2 (Ev.eq (g := fun _ => some (-1)) (fun k => ?_) (Ev.const _)))), fun h => absurd (by omega) h⟩
    rw [lft_eq r C.length (by omega) r3 hC, Option.bind_some, if_pos c3]
  have k3 := lft_ok c3
  unfold laws_szIntS.f
  by_cases c4 : lft (lft r C.length) E.length < 0
  · refine ⟨-1, Ev.neg c0 (Ev.bind (Ev.neg c1 r1) (Ev.neg c2 (Ev.eq (g := fun _ => some (-1)) (fun k => ?_) (Ev.const _)))), fun h => absurd (by omega) h⟩
    rw [lft_eq r C.length (by omega) r3 hC, Option.bind_some, if_neg c3, lft_eq _ E.length k3.2.2 (by omega) hE, Option.bind_some, if_pos c4]
  have k4 := lft_ok c4
  refine ⟨lft (lft r C.length) E.length, Ev.neg c0 (Ev.bind (Ev.neg c1 r1) (Ev.neg c2 (Ev.eq (g := fun _ => some (lft (lft r C.length) E.length)) (fun k => ?_) (Ev.const _)))), fun _ => ⟨by omega, by omega, r4, by omega, by omega⟩⟩
  rw [lft_eq r C.length (by omega) r3 hC, Option.bind_some, if_neg c3, lft_eq _ E.length k3.2.2 (by omega) hE, Option.bind_some, if_neg c4]
end Go.Proofs.Ytdoflfifnkpacaa.WO
