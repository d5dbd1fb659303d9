/-
  What a call does, told without addresses: a state, steps, and that the code follows them.
-/
import Derived.Test.YtljdidlkiknknaaDoorC26AbA
import Derived.Laws.Pointers
import Derived.Laws.BytesString
import Derived.Laws.StructEq
namespace Go.Proofs.YtljdidlkiknknaaDoor.AB
open Go Go.RowKit Go.Proofs.YtljdidlkiknknaaDoorW.PrintWords Go.Proofs.YtljdidlkiknknaaDoorW.PrintMore
set_option linter.unusedSimpArgs false
set_option linter.unusedVariables false
section
variable {P : Program} {F : Frm} {o : Oper} {σ : St}
def TV.map (φ : CV → CV) : TV → TV
  | .c x => .c (φ x)
  | .agg xs => .agg (xs.map φ)
def AV.map (φ : CV → CV) : AV → AV
  | .t x => .t (x.map φ)
  | .tup xs => .tup (xs.map (TV.map φ))
def AObj.map (φ : CV → CV) : AObj → AObj
  | .box e cs => .box e (cs.map φ)
  | .row e sz xs => .row e sz xs
  | .rowG g e sz xs hot => .rowG g e sz xs (hot.map fun q => (q.1, q.2.1, φ q.2.2))
def Slot.map (φ : CV → CV) : Slot → Slot
  | .live o => .live (o.map φ)
  | .free => .free
  | .dead => .dead
def St.map (φ : CV → CV) (σ : St) : St := ⟨σ.tm.map fun x => x.map (AV.map φ), σ.ob.map (Slot.map φ)⟩
section
variable {m : Mp} {w : World} {Z Z' : Nat → Prop} {φ : CV → CV}
theorem ovl_map (hφ : ∀ x u, RepC m w Z x u → RepC m w Z' (φ x) u) (hz : ∀ b, Z b → Z' b) {hot : Option (Nat × Nat × CV)} {i j : Nat} {y : IV} {u : Value} (h : RepC m w Z (ovl hot i j y) u) : RepC m w Z' (ovl (hot.map fun q => (q.1, q.2.1, φ q.2.2)) i j y) u := by
  unfold ovl at h ⊢
  cases hot with
  | none => exact RepI.keep h (fun _ _ => rfl) hz
  | some q =>
    simp only [Option.map_some] at h ⊢
    split at h
    · rename_i hc; rw [if_pos hc]; exact hφ _ _ h
    · rename_i hc; rw [if_neg hc]; exact RepI.keep h (fun _ _ => rfl) hz
theorem Cells.map (hφ : ∀ x u, RepC m w Z x u → RepC m w Z' (φ x) u) {xs : List CV} {us : List Value} (h : Cells m w Z xs us) : Cells m w Z' (xs.map φ) us := by
  refine ⟨by rw [List.length_map]; exact h.1, fun j x u hx hu => ?_⟩
  rw [List.getElem?_map] at hx
  cases he : xs[j]? with
  | none => rw [he] at hx; cases hx
  | some y => rw [he] at hx; obtain rfl := Option.some.inj hx; exact hφ _ _ (h.2 j y u he hu)
theorem RepT.map (hφ : ∀ x u, RepC m w Z x u → RepC m w Z' (φ x) u) {x : TV} {u : Value} (h : RepT m w Z x u) : RepT m w Z' (x.map φ) u := by
  cases x with
  | c x => exact hφ _ _ h
  | agg xs => obtain ⟨us, e, hc⟩ := h; exact ⟨us, e, Cells.map hφ hc⟩
theorem RepV.map (hφ : ∀ x u, RepC m w Z x u → RepC m w Z' (φ x) u) {x : AV} {u : Value} (h : RepV m w Z x u) : RepV m w Z' (x.map φ) u := by
  cases x with
  | t x => exact RepT.map (x := x) hφ h
  | tup xs =>
    obtain ⟨us, e, hc⟩ := h
    refine ⟨us, e, by rw [List.length_map]; exact hc.1, fun j x u hx hu => ?_⟩
    rw [List.getElem?_map] at hx
    cases he : xs[j]? with
    | none => rw [he] at hx; cases hx
    | some y => rw [he] at hx; obtain rfl := Option.some.inj hx; exact RepT.map hφ (hc.2 j y u he hu)
end
/-- The temporaries and the objects are told in other words; what is dead may be read alone. -/
theorem Sim.remap {m : Mp} {Z Z' : Nat → Prop} {a : Act} {w : World} {φ : CV → CV} (h : Sim F m Z σ a w) (hφ : ∀ x u, RepC m w Z x u → RepC m w Z' (φ x) u) (hz : ∀ b, Z b → Z' b)
    (hn : ∀ b, Z' b → Z b ∨ (b < w.heap.size ∧ ¬ F.kept b ∧ ∀ i v, σ.live i → m i = some v → v.ownBlock ≠ some b)) : Sim F m Z' (σ.map φ) a w := by
  have hl : ∀ (id : Nat) (o : AObj), (σ.map φ).ob[id]? = some (.live o) → ∃ o', σ.ob[id]? = some (.live o') ∧ o = o'.map φ := by
    intro id o ho
    have ho : (σ.ob.map (Slot.map φ))[id]? = some (.live o) := ho
    rw [List.getElem?_map] at ho
    cases he : σ.ob[id]? with
    | none => rw [he] at ho; cases ho
    | some s =>
      rw [he] at ho
      cases s with
      | free => simp [Slot.map] at ho
      | dead => simp [Slot.map] at ho
      | live o' => simp [Slot.map] at ho; exact ⟨o', rfl, ho.symm⟩
  have hlv : ∀ id, (σ.map φ).live id → σ.live id := fun id ⟨o, ho⟩ => by obtain ⟨o', h1, -⟩ := hl id o ho; exact ⟨o', h1⟩
  have hfr : ∀ (id : Nat), ((σ.map φ).ob[id]? = some .free ∨ (σ.map φ).ob[id]? = none) → σ.ob[id]? = some .free ∨ σ.ob[id]? = none := by
    intro id hi
    have hi : (σ.ob.map (Slot.map φ))[id]? = some .free ∨ (σ.ob.map (Slot.map φ))[id]? = none := hi
    rw [List.getElem?_map] at hi
    cases he : σ.ob[id]? with
    | none => exact .inr rfl
    | some s =>
      rw [he] at hi
      cases s with
      | free => exact .inl rfl
      | dead => simp [Slot.map] at hi
      | live o' => simp [Slot.map] at hi
  refine ⟨by have := h.tsz; simpa [St.map] using this, ?_, ?_, fun id hi => h.fr id (hfr id hi), fun id id' v v' b hi hi' => h.ap id id' v v' b (hlv _ hi) (hlv _ hi'), ?_, ?_, fun b hb => hz b (h.z0 b hb), ?_, h.kp, h.sz, h.os, h.df, h.tape, h.output, h.tb.keep (fun _ _ => rfl) hz, h.mi⟩
  · intro t x hx
    have hx : (σ.tm.map fun x => x.map (AV.map φ))[t]? = some (some x) := hx
    rw [List.getElem?_map] at hx
    cases he : σ.tm[t]? with
    | none => rw [he] at hx; cases hx
    | some y =>
      rw [he] at hx
      cases y with
      | none => simp at hx
      | some y =>
        simp at hx
        subst hx
        obtain ⟨u, h1, h2⟩ := h.tm t y he
        exact ⟨u, h1, RepV.map hφ h2⟩
  · intro id o ho
    obtain ⟨o', h1, rfl⟩ := hl id o ho
    obtain ⟨v, h2, h3⟩ := h.ob id o' h1
    refine ⟨v, h2, ?_⟩
    cases o' with
    | box e cs => obtain ⟨g, us, e1, e2, e3⟩ := h3; exact ⟨g, us, e1, e2, Cells.map hφ e3⟩
    | row e sz xs => obtain ⟨uss, e1, e2, e3⟩ := h3; exact ⟨uss, e1, All2.imp e2 fun _ _ h => ICells.keep h (fun _ _ => rfl) hz, e3⟩
    | rowG g e sz xs hot => obtain ⟨c, uss, e0, e1, e2, e3⟩ := h3; exact ⟨c, uss, e0, e1, e2.imp fun i j y u h => ovl_map hφ hz h, e3⟩
  · intro id v b hi hv hb
    have h1 := h.az id v b (hlv _ hi) hv hb
    refine ⟨fun hz' => ?_, h1.2⟩
    rcases hn b hz' with h2 | h2
    · exact h1.1 h2
    · exact h2.2.2 id v (hlv _ hi) hv hb
  · intro b hz'
    rcases hn b hz' with h2 | h2
    · exact h.zb b h2
    · exact h2.1
  · intro b hz'
    rcases hn b hz' with h2 | h2
    · exact h.zn b h2
    · exact .inr h2.2.1
theorem rowI {m : Mp} {w : World} {Z : Nat → Prop} {e sz : Nat} {xs : List (List IV)} {v : Value} (h : ObRep m w Z (.row e sz xs) v) : RepI w (fun b => Z b ∨ v.ownBlock = some b) (.sl sz xs) v := by
  obtain ⟨uss, ho, hc, hs⟩ := h
  have hl := hc.1
  rcases ho.2 with ⟨hv, h0⟩ | ⟨g, cap, cur, hv, -, hh, hn, hm, -, -⟩
  · have hx : xs = [] := List.eq_nil_of_length_eq_zero h0
    subst hx
    rw [hv]
    exact RepI.nil _ _ fun _ => rfl
  · subst hv
    refine RepI.sl (b := g) (o := 0) (fun i j => (uss.flatten[i * sz + j]?).getD undef) (.inr rfl) hn (by simp only [maxLen] at hm; omega) (fun ys hy => ?_) (fun i j hi hj => ?_) (fun i j ys y hi hj => ?_)
    · obtain ⟨i, hi, e⟩ := List.mem_iff_getElem.mp hy
      obtain ⟨us, hu, hcu⟩ := hc.get (j := i) (x := ys) (by rw [List.getElem?_eq_getElem hi, e])
      rw [hcu.1]
      exact hs us (List.mem_of_getElem? hu)
    · have hu : uss[i]? = some uss[i] := List.getElem?_eq_getElem (by omega)
      have hul := hs _ (List.mem_of_getElem? hu)
      have := flat_get' hs hu hj
      have hj' : uss[i][j]? = some uss[i][j] := List.getElem?_eq_getElem (by omega)
      rw [hj'] at this
      rw [this, Nat.zero_add]
      exact ownsRow_cell ho rfl _ this
    · obtain ⟨us, hu, hcu⟩ := hc.get hi
      obtain ⟨u, huj, hr⟩ := hcu.get hj
      have hul := hs _ (List.mem_of_getElem? hu)
      have hjl := (List.getElem?_eq_some_iff.mp huj).1
      have := flat_get' hs hu (j := j) (by omega)
      rw [huj] at this
      rw [this]
      exact RepI.keep hr (fun _ _ => rfl) fun _ h => .inl h
theorem boxI {m : Mp} {w : World} {Z : Nat → Prop} {e : Nat} {cs : List IV} {g n c : Nat} (h : ObRep m w Z (.box e (ivs cs)) (.slice (some ⟨g, 0, none⟩) n c)) (j : Nat) : RepI w (fun b => Z b ∨ b = g) (.pt (cs.drop j)) (.pointer (some ⟨g, j, none⟩)) := by
  obtain ⟨g', us, hv, hh, hc⟩ := h
  simp only [Value.slice.injEq, Option.some.injEq, Addr.mk.injEq, and_true, true_and] at hv
  obtain ⟨rfl, -, -⟩ := hv
  have hi := Cells.ivs hc
  have hl := hi.1
  refine RepI.pt (fun i => (us[j + i]?).getD undef) (.inr rfl) (fun i hij => ?_) (fun i y hy => ?_)
  · simp only [List.length_drop] at hij
    have hu : us[j + i]? = some us[j + i] := List.getElem?_eq_getElem (by omega)
    rw [blk_cell hh, hu]
    simp [hu]
  · rw [List.getElem?_drop] at hy
    obtain ⟨u, hu, hr⟩ := hi.get hy
    rw [hu]
    exact RepI.keep hr (fun _ _ => rfl) fun _ h => .inl h
/-- An object is given up. -/
def St.freeze (σ : St) (id : Nat) : Option St := match σ.ob[id]? with
  | some (.live (.row _ sz xs)) => some (St.map (fun | .os i => if i = id then .i (.sl sz xs) else .os i | x => x) { σ with ob := σ.ob.set id .dead })
  | some (.live (.box _ cs)) => match unI cs with
    | some is => some (St.map (fun | .loc i j => if i = id then .i (.pt (is.drop j)) else .loc i j | x => x) { σ with ob := σ.ob.set id .dead })
    | none => none
  | _ => none
theorem Sim.dead_apart {m : Mp} {Z : Nat → Prop} {a : Act} {w : World} (h : Sim F m Z σ a w) {id : Nat} {o : AObj} (ho : σ.ob[id]? = some (.live o)) {v : Value} (hv : m id = some v) {b : Nat} (hb : v.ownBlock = some b) : b < w.heap.size ∧ ¬ F.kept b ∧ ∀ i v', St.live { σ with ob := σ.ob.set id .dead } i → m i = some v' → v'.ownBlock ≠ some b := by
  obtain ⟨v', h2, h3⟩ := h.ob id _ ho
  obtain rfl := Option.some.inj (hv.symm.trans h2)
  refine ⟨h3.lt hb, (h.az id _ b ⟨_, ho⟩ hv hb).2, fun i v' hl hv' hb' => ?_⟩
  obtain ⟨o', ho'⟩ := hl
  have ho' : (σ.ob.set id .dead)[i]? = some (.live o') := ho'
  by_cases e : id = i
  · subst e
    rw [List.getElem?_set_self (St.lt_of_ob ho)] at ho'
    cases ho'
  · rw [List.getElem?_set_ne e] at ho'
    exact e (h.ap id i _ v' b ⟨_, ho⟩ ⟨_, ho'⟩ hv hv' hb hb')
theorem Sim.freeze {m : Mp} {Z : Nat → Prop} {a : Act} {w : World} (h : Sim F m Z σ a w) {id : Nat} {σ' : St} (hf : σ.freeze id = some σ') : ∃ Z', Sim F m Z' σ' a w := by
  unfold St.freeze at hf
  split at hf
  · rename_i e sz xs ho
    obtain rfl := Option.some.inj hf
    obtain ⟨v, h2, h3⟩ := h.ob id _ ho
    refine ⟨fun b => Z b ∨ v.ownBlock = some b, (h.kill ho).remap (fun x u hx => ?_) (fun _ h => .inl h) (fun b hb => ?_)⟩
    · cases x with
      | os i =>
        dsimp only
        by_cases e : i = id
        · subst e
          rw [if_pos rfl]
          obtain rfl := Option.some.inj (hx.1.symm.trans h2)
          exact rowI h3
        · rw [if_neg e]; exact hx
      | i x => exact RepI.keep hx (fun _ _ => rfl) fun _ h => .inl h
      | loc i j => exact hx
      | el i k s j => exact hx
    · rcases hb with hb | hb
      · exact .inl hb
      · exact .inr (h.dead_apart ho h2 hb)
  · rename_i e cs ho
    split at hf
    · rename_i is hi
      obtain rfl := unI_spec hi
      obtain rfl := Option.some.inj hf
      obtain ⟨v, h2, h3⟩ := h.ob id _ ho
      have h3c := h3
      obtain ⟨g, us, rfl, -, -⟩ := h3c
      refine ⟨fun b => Z b ∨ b = g, (h.kill ho).remap (fun x u hx => ?_) (fun _ h => .inl h) (fun b hb => ?_)⟩
      · cases x with
        | loc i j =>
          dsimp only
          by_cases e : i = id
          · subst e
            rw [if_pos rfl]
            obtain ⟨g', n, c, h4, rfl⟩ := hx
            obtain h5 := Option.some.inj (h4.symm.trans h2)
            simp only [Value.slice.injEq, Option.some.injEq, Addr.mk.injEq, and_true, true_and] at h5
            obtain ⟨rfl, rfl, rfl⟩ := h5
            exact boxI h3 j
          · rw [if_neg e]; exact hx
        | i x => exact RepI.keep hx (fun _ _ => rfl) fun _ h => .inl h
        | os i => exact hx
        | el i k s j => exact hx
      · rcases hb with hb | hb
        · exact .inl hb
        · exact .inr (h.dead_apart ho h2 (by rw [hb]; rfl))
    · cases hf
  · cases hf
end
end Go.Proofs.YtljdidlkiknknaaDoor.AB
namespace Go.Proofs.YtljdidlkiknknaaDoor.AB
open Go Go.RowKit Go.Proofs.YtljdidlkiknknaaDoorW.PrintWords Go.Proofs.YtljdidlkiknknaaDoorW.PrintMore
set_option linter.unusedSimpArgs false
set_option linter.unusedVariables false
section
variable {P : Program} {F : Frm} {σ : St}
def idxN : List Nat → Nat → Option Nat
  | [], _ => none
  | k :: ks, id => if k = id then some 0 else (idxN ks id).map (· + 1)
theorem idxN_get : ∀ {ks : List Nat} {id i : Nat}, idxN ks id = some i → ks[i]? = some id
  | [], _, _, h => by cases h
  | k :: ks, id, i, h => by
    simp only [idxN] at h
    split at h
    · rename_i e
      obtain rfl := Option.some.inj h
      simp [e]
    · obtain ⟨j, hj, rfl⟩ := Option.map_eq_some_iff.1 h
      simpa using idxN_get hj
def renC (ks : List Nat) : CV → Option CV
  | .i x => some (.i x)
  | .loc id j => (idxN ks id).map (.loc · j)
  | .el id i sz j => (idxN ks id).map (.el · i sz j)
  | .os id => (idxN ks id).map .os
def renL (ks : List Nat) : List CV → Option (List CV)
  | [] => some []
  | x :: l => match renC ks x, renL ks l with
    | some y, some r => some (y :: r)
    | _, _ => none
def renT (ks : List Nat) : TV → Option TV
  | .c x => (renC ks x).map .c
  | .agg xs => (renL ks xs).map .agg
def renTL (ks : List Nat) : List TV → Option (List TV)
  | [] => some []
  | x :: l => match renT ks x, renTL ks l with
    | some y, some r => some (y :: r)
    | _, _ => none
def renV (ks : List Nat) : AV → Option AV
  | .t x => (renT ks x).map .t
  | .tup xs => (renTL ks xs).map .tup
def renO (ks : List Nat) : AObj → Option AObj
  | .box e cs => (renL ks cs).map (.box e)
  | .row e sz xs => some (.row e sz xs)
  | .rowG g e sz xs none => some (.rowG g e sz xs none)
  | .rowG g e sz xs (some (i, j, c)) => (renC ks c).map fun c' => .rowG g e sz xs (some (i, j, c'))
def mpK (m : Mp) (ks : List Nat) : Mp := fun i => (ks[i]?).bind m
section
variable {m : Mp} {w : World} {Z : Nat → Prop} {ks : List Nat}
theorem renC_ok {x y : CV} {u : Value} (h : RepC m w Z x u) (hr : renC ks x = some y) : RepC (mpK m ks) w Z y u := by
  have key : ∀ {id i : Nat} {v : Value}, idxN ks id = some i → m id = some v → mpK m ks i = some v := fun hi hv => by
    unfold mpK
    rw [idxN_get hi]
    exact hv
  cases x with
  | i x => simp only [renC, Option.some.injEq] at hr; subst hr; exact h
  | loc id j =>
    obtain ⟨i, hi, rfl⟩ := Option.map_eq_some_iff.1 hr
    obtain ⟨g, n, c, h1, h2⟩ := h
    exact ⟨g, n, c, key hi h1, h2⟩
  | el id k sz j =>
    obtain ⟨i, hi, rfl⟩ := Option.map_eq_some_iff.1 hr
    obtain ⟨g, n, c, h1, h2⟩ := h
    exact ⟨g, n, c, key hi h1, h2⟩
  | os id =>
    obtain ⟨i, hi, rfl⟩ := Option.map_eq_some_iff.1 hr
    exact ⟨key hi h.1, h.2⟩
theorem renL_ok : ∀ {xs ys : List CV} {us : List Value}, Cells m w Z xs us → renL ks xs = some ys → Cells (mpK m ks) w Z ys us
  | [], ys, us, h, hr => by
    simp only [renL, Option.some.injEq] at hr
    subst hr
    have : us = [] := List.eq_nil_of_length_eq_zero h.1.symm
    subst this
    exact All2.nil
  | x :: l, ys, us, h, hr => by
    simp only [renL] at hr
    split at hr
    · rename_i y r hy hl
      obtain rfl := Option.some.inj hr
      have hlen := h.1
      match us, hlen, h with
      | u :: us, hlen, h => exact All2.cons (renC_ok (h.2 0 x u rfl rfl) hy) (renL_ok (us := us) ⟨by simpa using hlen, fun j a b ha hb => h.2 (j + 1) a b (by simpa using ha) (by simpa using hb)⟩ hl)
    · cases hr
theorem renT_ok {x y : TV} {u : Value} (h : RepT m w Z x u) (hr : renT ks x = some y) : RepT (mpK m ks) w Z y u := by
  cases x with
  | c x => obtain ⟨z, hz, rfl⟩ := Option.map_eq_some_iff.1 hr; exact renC_ok (x := x) h hz
  | agg xs => obtain ⟨zs, hz, rfl⟩ := Option.map_eq_some_iff.1 hr; obtain ⟨us, e, hc⟩ := h; exact ⟨us, e, renL_ok hc hz⟩
theorem renTL_ok : ∀ {xs ys : List TV} {us : List Value}, All2 (RepT m w Z) xs us → renTL ks xs = some ys → All2 (RepT (mpK m ks) w Z) ys us
  | [], ys, us, h, hr => by
    simp only [renTL, Option.some.injEq] at hr
    subst hr
    have : us = [] := List.eq_nil_of_length_eq_zero h.1.symm
    subst this
    exact All2.nil
  | x :: l, ys, us, h, hr => by
    simp only [renTL] at hr
    split at hr
    · rename_i y r hy hl
      obtain rfl := Option.some.inj hr
      have hlen := h.1
      match us, hlen, h with
      | u :: us, hlen, h => exact All2.cons (renT_ok (h.2 0 x u rfl rfl) hy) (renTL_ok (us := us) ⟨by simpa using hlen, fun j a b ha hb => h.2 (j + 1) a b (by simpa using ha) (by simpa using hb)⟩ hl)
    · cases hr
theorem renV_ok {x y : AV} {u : Value} (h : RepV m w Z x u) (hr : renV ks x = some y) : RepV (mpK m ks) w Z y u := by
  cases x with
  | t x => obtain ⟨z, hz, rfl⟩ := Option.map_eq_some_iff.1 hr; exact renT_ok (x := x) h hz
  | tup xs => obtain ⟨zs, hz, rfl⟩ := Option.map_eq_some_iff.1 hr; obtain ⟨us, e, hc⟩ := h; exact ⟨us, e, renTL_ok hc hz⟩
theorem renO_ok {x y : AObj} {v : Value} (h : ObRep m w Z x v) (hr : renO ks x = some y) : ObRep (mpK m ks) w Z y v := by
  cases x with
  | box e cs =>
    obtain ⟨zs, hz, rfl⟩ := Option.map_eq_some_iff.1 hr
    obtain ⟨g, us, e1, e2, e3⟩ := h
    exact ⟨g, us, e1, e2, renL_ok e3 hz⟩
  | row e sz xs => simp only [renO, Option.some.injEq] at hr; subst hr; exact h
  | rowG g e sz xs hot =>
    obtain ⟨c, uss, e0, e1, e2, e3⟩ := h
    cases hot with
    | none => simp only [renO, Option.some.injEq] at hr; subst hr; exact ⟨c, uss, e0, e1, e2, e3⟩
    | some q =>
      obtain ⟨i, j, d⟩ := q
      obtain ⟨d', hd, rfl⟩ := Option.map_eq_some_iff.1 hr
      refine ⟨c, uss, e0, e1, e2.imp fun i' j' y u h' => ?_, e3⟩
      unfold ovl at h' ⊢
      simp only at h' ⊢
      split at h'
      · rename_i hc; rw [if_pos hc]; exact renC_ok h' hd
      · rename_i hc; rw [if_neg hc]; exact h'
end
def packT (ts ks : List Nat) : Nat → List (Option AV) → Option (List (Option AV))
  | _, [] => some []
  | t, x :: l => match (if ts.contains t then (match x with
      | some y => (renV ks y).map some
      | none => some none) else some none), packT ts ks (t + 1) l with
    | some y, some r => some (y :: r)
    | _, _ => none
theorem packT_ok {ts ks : List Nat} : ∀ {l r : List (Option AV)} {t : Nat}, packT ts ks t l = some r → r.length = l.length ∧ ∀ (i : Nat) (y : AV), r[i]? = some (some y) → ∃ x, l[i]? = some (some x) ∧ renV ks x = some y
  | [], r, t, h => by simp only [packT, Option.some.injEq] at h; subst h; exact ⟨rfl, fun i y hy => by simp at hy⟩
  | x :: l, r, t, h => by
    simp only [packT] at h
    split at h
    · rename_i y r' hy hr
      obtain rfl := Option.some.inj h
      obtain ⟨h1, h2⟩ := packT_ok hr
      refine ⟨by simp [h1], fun i z hz => ?_⟩
      cases i with
      | zero =>
        simp at hz
        subst hz
        split at hy
        · cases x with
          | none => simp at hy
          | some x' =>
            obtain ⟨q, hq, e⟩ := Option.map_eq_some_iff.1 hy
            obtain rfl := Option.some.inj e
            exact ⟨x', rfl, hq⟩
        · simp at hy
      | succ i => simp at hz; simpa using h2 i z hz
    · cases h
def packO (σ : St) (all : List Nat) : List Nat → Option (List Slot)
  | [] => some []
  | k :: ks => match σ.ob[k]?, packO σ all ks with
    | some (.live o), some r => if ks.contains k then none else (renO all o).map fun o' => .live o' :: r
    | _, _ => none
theorem packO_ok {σ : St} {all : List Nat} : ∀ {ks : List Nat} {r : List Slot}, packO σ all ks = some r → r.length = ks.length ∧ ks.Nodup ∧ ∀ (i : Nat) (s : Slot), r[i]? = some s → ∃ k o o', ks[i]? = some k ∧ σ.ob[k]? = some (.live o) ∧ renO all o = some o' ∧ s = .live o'
  | [], r, h => by simp only [packO, Option.some.injEq] at h; subst h; exact ⟨rfl, List.nodup_nil, fun i y hy => by simp at hy⟩
  | k :: ks, r, h => by
    simp only [packO] at h
    split at h
    · rename_i o r' ho hr
      split at h
      · cases h
      · rename_i hk
        obtain ⟨o', hq, rfl⟩ := Option.map_eq_some_iff.1 h
        obtain ⟨h1, h2, h3⟩ := packO_ok hr
        refine ⟨by simp [h1], List.nodup_cons.mpr ⟨by simpa using hk, h2⟩, fun i s hs => ?_⟩
        cases i with
        | zero => simp at hs; subst hs; exact ⟨k, o, o', rfl, ho, hq, rfl⟩
        | succ i => simp at hs; simpa using h3 i s hs
    · cases h
theorem nodup_inj : ∀ {ks : List Nat} {i j k : Nat}, ks.Nodup → ks[i]? = some k → ks[j]? = some k → i = j
  | [], i, j, k, _, h, _ => by simp at h
  | x :: ks, 0, 0, k, _, _, _ => rfl
  | x :: ks, 0, j + 1, k, hn, h, h' => by
    simp at h h'
    subst h
    exact absurd (List.mem_of_getElem? h') (List.nodup_cons.mp hn).1
  | x :: ks, i + 1, 0, k, hn, h, h' => by
    simp at h h'
    subst h'
    exact absurd (List.mem_of_getElem? h) (List.nodup_cons.mp hn).1
  | x :: ks, i + 1, j + 1, k, hn, h, h' => by
    simp at h h'
    rw [nodup_inj (List.nodup_cons.mp hn).2 h h']
end
end Go.Proofs.YtljdidlkiknknaaDoor.AB
namespace Go.Proofs.YtljdidlkiknknaaDoor.AB
open Go Go.RowKit Go.Proofs.YtljdidlkiknknaaDoorW.PrintWords Go.Proofs.YtljdidlkiknknaaDoorW.PrintMore
set_option linter.unusedSimpArgs false
set_option linter.unusedVariables false
def noM : Mp := fun _ => none
/-- What a function answers, told without addresses: whatever the world is, and leaving it as it was. -/
def Ok (P : Program) (f : FuncId) (args : List TV) (r : AV) : Prop :=
  (∃ fn, P.funcs[f]? = some fn ∧ (fn.name == "runtime.NumGoroutine") = false ∧ fn.body.isSome = true) ∧
  ∀ (w : World) (Z : Nat → Prop) (us : List Value), TabOk w Z → (∀ b, Z b → b < w.heap.size) → All2 (RepT noM w Z) args us →
    Calls P f us.toArray w fun e w' => ∃ u Z', e = .returned u ∧ Below w.heap.size w w' ∧ (∀ b, Z b → Z' b) ∧ (∀ b, Z' b → Z b ∨ (w.heap.size ≤ b ∧ b < w'.heap.size)) ∧ RepV noM w' Z' r u
def CV.imm : CV → Bool
  | .i _ => true
  | _ => false
def TV.imm : TV → Bool
  | .c x => x.imm
  | .agg xs => xs.all CV.imm
theorem RepC.imm {m m' : Mp} {w : World} {Z : Nat → Prop} {x : CV} {u : Value} (h : RepC m w Z x u) (hi : x.imm = true) : RepC m' w Z x u := by
  cases x with
  | i x => exact h
  | _ => simp [CV.imm] at hi
theorem RepT.imm {m m' : Mp} {w : World} {Z : Nat → Prop} {x : TV} {u : Value} (h : RepT m w Z x u) (hi : x.imm = true) : RepT m' w Z x u := by
  cases x with
  | c x => exact RepC.imm (x := x) h hi
  | agg xs =>
    obtain ⟨us, e, hc⟩ := h
    simp only [TV.imm, List.all_eq_true] at hi
    exact ⟨us, e, hc.1, fun j x u hx hu => (hc.2 j x u hx hu).imm (hi x (List.mem_of_getElem? hx))⟩
def evArgs (σ : St) : List Operand → Option (List TV)
  | [] => some []
  | x :: l => match (σ.ev x).bind AV.tv, evArgs σ l with
    | some y, some r => some (y :: r)
    | _, _ => none
section
variable {P : Program} {F : Frm} {o : Oper} {σ : St}
theorem Sim.args {m : Mp} {Z : Nat → Prop} {a : Act} {w : World} (h : Sim F m Z σ a w) : ∀ (l : List Operand) {r : List TV}, evArgs σ l = some r → All2 (RepT m w Z) r (l.map a.eval)
  | [], r, e => by simp only [evArgs, Option.some.injEq] at e; subst e; exact All2.nil
  | x :: l, r, e => by
    simp only [evArgs] at e
    split at e
    · rename_i y r' hy hr
      obtain rfl := Option.some.inj e
      cases hx : σ.ev x with
      | none => rw [hx] at hy; cases hy
      | some xa =>
        rw [hx] at hy
        exact All2.cons ((h.ev hx).tv hy) (h.args l hr)
    · cases e
theorem stp_call {f : FuncId} {as_ : Array Operand} {ats : Array TypeId} {ts : List TV} {r : AV} (ho : o.op = .call { callee := .value (.func f), args := as_, argTypes := ats }) (he : evArgs σ as_.toList = some ts) (hi : ts.all TV.imm = true) (hob : Obs [Ok P f ts r]) : Stp P F o σ (σ.put o.dst r) := by
  intro m Z a w h K Q hK
  obtain ⟨⟨⟨fn, hf, hn, hb⟩, hok⟩, -⟩ := hob
  have ha := h.args _ he
  have ha' : All2 (RepT noM w Z) ts (as_.toList.map a.eval) := ⟨ha.1, fun j x u hx hu => (ha.2 j x u hx hu).imm (List.all_eq_true.mp hi x (List.mem_of_getElem? hx))⟩
  have hc := hok w Z _ h.tb h.zb ha'
  have hrun : (execOp a.eval o).run P w = .ok (.enter f (as_.toList.map a.eval).toArray) w := by
    have hn2 : ¬ fn.name = "runtime.NumGoroutine" := by simpa using hn
    have hb2 : ¬ fn.body = none := fun e => by rw [e] at hb; cases hb
    unfold execOp
    rw [ho]
    have hm : (as_.toList.map a.eval).toArray = as_.map a.eval := by rw [← Array.toList_inj]; simp
    rw [hm]
    simp [resolve, Deferred.ofValue, invoke, callFunc, hf, hn2, hb2, Act.eval]
  unfold Oper.wp
  rw [hrun]
  refine Calls.mono hc ?_
  rintro e w' ⟨u, Z', rfl, hb, hz, hn', hr⟩
  refine hK m Z' _ _ ((h.ext hb hz hn').putO o.dst ?_) (Act.put_defers ..)
  exact RepV.keep hr (fun i v hv => by cases hv) (fun _ _ => rfl) fun _ h => h
end
/-- What a function does with objects that it is handed: from a state to a state. -/
def OkG (P : Program) (f : FuncId) (args : List TV) (obs : List Slot) (r : AV) (obs' : List Slot) : Prop :=
  (∃ fn, P.funcs[f]? = some fn ∧ (fn.name == "runtime.NumGoroutine") = false ∧ fn.body.isSome = true) ∧
  ∀ (F : Frm) (m : Mp) (Z : Nat → Prop) (us : List Value) (w : World), F.w0 = w → F.Z0 = Z → F.k = obs.length → F.m0 = m → Sim F m Z ⟨args.map (some ∘ AV.t), obs⟩ ⟨us.toArray, []⟩ w → us.length = args.length →
    Calls P f us.toArray w fun e w' => ∃ u m' Z', e = .returned u ∧ Sim F m' Z' ⟨[some r], obs'⟩ ⟨#[u], []⟩ w'
def backN (ps : List Nat) (n0 : Nat) (i : Nat) : Nat := match ps[i]? with
  | some k => k
  | none => n0 + (i - ps.length)
def backC (ps : List Nat) (n0 : Nat) : CV → CV
  | .i x => .i x
  | .loc id j => .loc (backN ps n0 id) j
  | .el id i sz j => .el (backN ps n0 id) i sz j
  | .os id => .os (backN ps n0 id)
def setAll (ob : List Slot) : List Nat → List Slot → List Slot
  | k :: ks, s :: ss => setAll (ob.set k s) ks ss
  | _, _ => ob
theorem setAll_len : ∀ (ks : List Nat) (ss : List Slot) (ob : List Slot), (setAll ob ks ss).length = ob.length
  | [], ss, _ => by cases ss <;> rfl
  | _ :: _, [], _ => rfl
  | k :: ks, s :: ss, ob => by rw [setAll, setAll_len ks ss, List.length_set]
theorem setAll_other : ∀ (ks : List Nat) (ss : List Slot) (ob : List Slot) (id : Nat), id ∉ ks → (setAll ob ks ss)[id]? = ob[id]?
  | [], ss, _, _, _ => by cases ss <;> rfl
  | _ :: _, [], _, _, _ => rfl
  | k :: ks, s :: ss, ob, id, h => by
    simp only [List.mem_cons, not_or] at h
    rw [setAll, setAll_other ks ss _ id h.2, List.getElem?_set_ne (Ne.symm h.1)]
theorem setAll_at : ∀ (ks : List Nat) (ss : List Slot) (ob : List Slot) (i k : Nat), ks.Nodup → ks.length ≤ ss.length → (∀ k ∈ ks, k < ob.length) → ks[i]? = some k → (setAll ob ks ss)[k]? = ss[i]?
  | [], _, _, _, _, _, _, _, h => by simp at h
  | x :: ks, [], _, _, _, _, h, _, _ => by simp at h
  | x :: ks, s :: ss, ob, 0, k, hn, hl, hb, h => by
    simp at h
    subst h
    rw [setAll, setAll_other ks ss _ x (List.nodup_cons.mp hn).1, List.getElem?_set_self (hb x (by simp))]
    rfl
  | x :: ks, s :: ss, ob, i + 1, k, hn, hl, hb, h => by
    simp at h hl
    rw [setAll, setAll_at ks ss _ i k (List.nodup_cons.mp hn).2 hl (fun k hk => by rw [List.length_set]; exact hb k (by simp [hk])) h]
    simp
/-- The call: the objects of ids ps are handed over. -/
theorem stp_callG {P : Program} {F : Frm} {o : Oper} {σ : St} {f : FuncId} {as_ : Array Operand} {ats : Array TypeId} {ts args : List TV} {ps : List Nat} {obs obs' : List Slot} {r : AV} (ho : o.op = .call { callee := .value (.func f), args := as_, argTypes := ats }) (he : evArgs σ as_.toList = some ts) (ha : renTL ps ts = some args)
    (hp : packO σ ps ps = some obs) (hl : ps.length ≤ obs'.length) (hob : Obs [OkG P f args obs r obs']) :
    Stp P F o σ (St.put ⟨σ.tm, setAll σ.ob ps (obs'.map (Slot.map (backC ps σ.ob.length))) ++ (obs'.drop ps.length).map (Slot.map (backC ps σ.ob.length))⟩ o.dst (r.map (backC ps σ.ob.length))) := by
  intro m Z a w h K Q hK
  obtain ⟨⟨⟨fn, hf, hn, hb⟩, hok⟩, -⟩ := hob
  have hargs := h.args _ he
  have hargs' := renTL_ok (m := m) (ks := ps) hargs ha
  obtain ⟨o1, o2, o3⟩ := packO_ok hp
  have hlivep : ∀ {i k : Nat}, ps[i]? = some k → ∃ o', σ.ob[k]? = some (.live o') ∧ ∃ v, m k = some v ∧ ObRep m w Z o' v := by
    intro i k hk
    have hi : i < obs.length := by rw [o1]; exact (List.getElem?_eq_some_iff.mp hk).1
    obtain ⟨k', p, p', h1, h2, h3, -⟩ := o3 i _ (List.getElem?_eq_getElem hi)
    obtain rfl := Option.some.inj (hk.symm.trans h1)
    obtain ⟨v, h4, h5⟩ := h.ob k p h2
    exact ⟨p, h2, v, h4, h5⟩
  let kept' : Nat → Prop := fun b => b < w.heap.size ∧ ∀ (i k : Nat) (v : Value), ps[i]? = some k → m k = some v → v.ownBlock ≠ some b
  let F' : Frm := ⟨w, kept', Z, obs.length, mpK m ps⟩
  have hlen : (as_.toList.map a.eval).length = args.length := hargs'.1.symm
  have hsim : Sim F' (mpK m ps) Z ⟨args.map (some ∘ AV.t), obs⟩ ⟨(as_.toList.map a.eval).toArray, []⟩ w := by
    have hlive : ∀ {i : Nat}, St.live ⟨args.map (some ∘ AV.t), obs⟩ i → ∃ k, ps[i]? = some k ∧ σ.live k := by
      rintro i ⟨o', hl'⟩
      obtain ⟨k, p, p', h1, h2, -⟩ := o3 i _ hl'
      exact ⟨k, h1, p, h2⟩
    have hm : ∀ {i k : Nat} {v : Value}, ps[i]? = some k → mpK m ps i = some v → m k = some v := fun hk hv => by
      unfold mpK at hv
      rw [hk] at hv
      exact hv
    refine ⟨by simp [← hlen], fun t x hx => ?_, fun id o' hl' => ?_, fun id hi => ?_, fun id id' v v' b hl1 hl2 hv hv' hb1 hb2 => ?_, fun id v b hl1 hv hb1 => ?_, h.zb, fun b hb => hb, fun b hb => .inl hb, fun b hb => ⟨hb.1, rfl⟩, Nat.le_refl _, rfl, rfl, rfl, rfl, h.tb, fun i hi => ?_⟩
    · have hx : (args.map (some ∘ AV.t))[t]? = some (some x) := hx
      rw [List.getElem?_map] at hx
      cases hy : args[t]? with
      | none => rw [hy] at hx; cases hx
      | some y =>
        rw [hy] at hx
        simp at hx
        subst hx
        obtain ⟨u, hu, hr⟩ := hargs'.get hy
        exact ⟨u, by simpa using hu, hr⟩
    · obtain ⟨k, p, p', h1, h2, h3, e⟩ := o3 id _ hl'
      obtain rfl := Slot.live.inj e
      obtain ⟨v, h4, h5⟩ := h.ob k p h2
      exact ⟨v, by unfold mpK; rw [h1]; exact h4, renO_ok h5 h3⟩
    · have hnone : ps[id]? = none := by
        rcases hi with hi | hi
        · obtain ⟨k, p, p', h1, h2, h3, e⟩ := o3 id _ hi
          cases e
        · have : obs.length ≤ id := List.getElem?_eq_none_iff.mp hi
          exact List.getElem?_eq_none (by omega)
      unfold mpK
      rw [hnone]
      rfl
    · obtain ⟨k, hk, hlk⟩ := hlive hl1
      obtain ⟨k', hk', hlk'⟩ := hlive hl2
      have e := h.ap k k' v v' b hlk hlk' (hm hk hv) (hm hk' hv') hb1 hb2
      subst e
      exact nodup_inj o2 hk hk'
    · obtain ⟨k, hk, hlk⟩ := hlive hl1
      exact ⟨(h.az k v b hlk (hm hk hv) hb1).1, fun hkp => hkp.2 id k v hk (hm hk hv) hb1⟩
    · have hi : i < obs.length := hi
      obtain ⟨k, p, p', h1, h2, -, -⟩ := o3 i _ (List.getElem?_eq_getElem hi)
      obtain ⟨v, h4, -⟩ := h.ob k p h2
      have : mpK m ps i = some v := by unfold mpK; rw [h1]; exact h4
      exact ⟨v, this, this⟩
  have hc := hok F' (mpK m ps) Z _ w rfl rfl rfl rfl hsim hlen
  have hrun : (execOp a.eval o).run P w = .ok (.enter f (as_.toList.map a.eval).toArray) w := by
    have hn2 : ¬ fn.name = "runtime.NumGoroutine" := by simpa using hn
    have hb2 : ¬ fn.body = none := fun e => by rw [e] at hb; cases hb
    have hm : (as_.toList.map a.eval).toArray = as_.map a.eval := by rw [← Array.toList_inj]; simp
    rw [hm]
    unfold execOp
    rw [ho]
    simp [resolve, Deferred.ofValue, invoke, callFunc, hf, hn2, hb2, Act.eval]
  unfold Oper.wp
  rw [hrun]
  refine Calls.mono hc ?_
  rintro e w' ⟨u, m1, Z1, rfl, hs⟩
  have hm1 : ∀ i, i < obs.length → m1 i = mpK m ps i := fun i hi => by
    obtain ⟨v, h1, h2⟩ := hs.mi i hi
    exact h2.trans h1.symm
  let n0 := σ.ob.length
  let m2 : Mp := fun id => if id < n0 then m id else m1 (ps.length + (id - n0))
  have hol : obs.length = ps.length := o1
  have hm_lt : ∀ {id : Nat} {v : Value}, m id = some v → id < n0 := fun {id v} hv => by
    rcases Nat.lt_or_ge id n0 with h' | h'
    · exact h'
    · have := h.fr id (.inr (List.getElem?_eq_none h'))
      rw [this] at hv; cases hv
  have hmm : ∀ i v, m i = some v → m2 i = some v := fun i v hv => by
    show (if i < n0 then m i else _) = _
    rw [if_pos (hm_lt hv)]; exact hv
  have hpm : ∀ {i k : Nat}, ps[i]? = some k → m1 i = m k ∧ m2 k = m1 i := by
    intro i k hk
    have hi : i < ps.length := (List.getElem?_eq_some_iff.mp hk).1
    have e1 : m1 i = m k := by
      rw [hm1 i (by omega)]
      unfold mpK
      rw [hk]
      rfl
    obtain ⟨o', h1, v, h2, -⟩ := hlivep hk
    exact ⟨e1, by rw [e1, hmm k v h2, h2]⟩
  have hback : ∀ {i : Nat} {v : Value}, m1 i = some v → m2 (backN ps n0 i) = some v := by
    intro i v hv
    unfold backN
    cases hk : ps[i]? with
    | some k => simp only; rw [(hpm hk).2]; exact hv
    | none =>
      have hi : ps.length ≤ i := List.getElem?_eq_none_iff.mp hk
      show (if n0 + (i - ps.length) < n0 then _ else m1 (ps.length + (n0 + (i - ps.length) - n0))) = _
      rw [if_neg (by omega), show ps.length + (n0 + (i - ps.length) - n0) = i by omega]
      exact hv
  have hbackC : ∀ (x : CV) (u : Value), RepC m1 w' Z1 x u → RepC m2 w' Z1 (backC ps n0 x) u := by
    intro x u hx
    cases x with
    | i x => exact hx
    | loc id j => obtain ⟨g, n, c, h1, h2⟩ := hx; exact ⟨g, n, c, hback h1, h2⟩
    | el id i sz j => obtain ⟨g, n, c, h1, h2⟩ := hx; exact ⟨g, n, c, hback h1, h2⟩
    | os id => exact ⟨hback hx.1, hx.2⟩
  have hkpt : ∀ b, b < w.heap.size → (∀ (i k : Nat) (v : Value), ps[i]? = some k → m k = some v → v.ownBlock ≠ some b) → w'.heap[b]? = w.heap[b]? := fun b h1 h2 => (hs.kp b ⟨h1, h2⟩).2
  have hkZ : ∀ b, Z b → w'.heap[b]? = w.heap[b]? := fun b hz => hkpt b (h.zb b hz) fun i k v hk hv hb => by
    obtain ⟨o', h1, v', h2, -⟩ := hlivep hk
    exact (h.az k v b ⟨o', h1⟩ hv hb).1 hz
  have hZZ : ∀ b, Z b → Z1 b := hs.z0
  have hFk : ∀ b, F.kept b → kept' b := fun b hb => ⟨Nat.lt_of_lt_of_le (h.kp b hb).1 h.sz, fun i k v hk hv hbb => by
    obtain ⟨o', h1, v', h2, -⟩ := hlivep hk
    exact (h.az k v b ⟨o', h1⟩ hv hbb).2 hb⟩
  have hZ1 : ∀ b, Z1 b → Z b ∨ ¬ kept' b := hs.zn
  -- where an object of the new state comes from
  let φ := backC ps n0
  let ob2 : List Slot := setAll σ.ob ps (obs'.map (Slot.map φ)) ++ (obs'.drop ps.length).map (Slot.map φ)
  have hl2 : (setAll σ.ob ps (obs'.map (Slot.map φ))).length = n0 := setAll_len ..
  have hpl : ∀ k ∈ ps, k < σ.ob.length := fun k hk => by
    obtain ⟨i, hi, e⟩ := List.mem_iff_getElem.mp hk
    obtain ⟨o', h1, -⟩ := hlivep (i := i) (k := k) (by rw [List.getElem?_eq_getElem hi, e])
    exact (List.getElem?_eq_some_iff.mp h1).1
  have hwhere : ∀ (id : Nat), (id < n0 ∧ id ∉ ps ∧ ob2[id]? = σ.ob[id]?) ∨ ∃ i, backN ps n0 i = id ∧ (id < n0 → ps[i]? = some id) ∧ ob2[id]? = obs'[i]?.map (Slot.map φ) ∧ m2 id = m1 i := by
    intro id
    by_cases h1 : id < n0
    · by_cases h2 : id ∈ ps
      · obtain ⟨i, hi, e⟩ := List.mem_iff_getElem.mp h2
        have hk : ps[i]? = some id := by rw [List.getElem?_eq_getElem hi, e]
        refine .inr ⟨i, by unfold backN; rw [hk], fun _ => hk, ?_, (hpm hk).2⟩
        show (_ ++ _)[id]? = _
        rw [List.getElem?_append_left (by omega), setAll_at ps _ _ i id o2 (by simpa using hl) hpl hk, List.getElem?_map]
      · refine .inl ⟨h1, h2, ?_⟩
        show (_ ++ _)[id]? = _
        rw [List.getElem?_append_left (by omega), setAll_other _ _ _ _ h2]
    · refine .inr ⟨ps.length + (id - n0), ?_, fun h' => absurd h' h1, ?_, ?_⟩
      · unfold backN
        rw [List.getElem?_eq_none (by omega)]
        simp only
        omega
      · show (_ ++ _)[id]? = _
        rw [List.getElem?_append_right (by omega), hl2, List.getElem?_map, List.getElem?_drop]
      · show (if id < n0 then _ else _) = _
        rw [if_neg h1]
  have hsl : ∀ {s : Option Slot} {o' : AObj}, s.map (Slot.map φ) = some (.live o') → ∃ o1, s = some (.live o1) ∧ o' = o1.map φ := by
    intro s o' hs'
    cases s with
    | none => cases hs'
    | some s =>
      cases s with
      | free => simp [Slot.map] at hs'
      | dead => simp [Slot.map] at hs'
      | live o1 => simp [Slot.map] at hs'; exact ⟨o1, rfl, hs'.symm⟩
  have hlive2 : ∀ {id : Nat}, St.live ⟨σ.tm, ob2⟩ id → (σ.live id ∧ id < n0 ∧ id ∉ ps) ∨ ∃ i, backN ps n0 i = id ∧ St.live ⟨[some r], obs'⟩ i ∧ m2 id = m1 i := by
    rintro id ⟨o', ho'⟩
    have ho' : ob2[id]? = some (.live o') := ho'
    rcases hwhere id with ⟨h1, h2, h3⟩ | ⟨i, h1, -, h2, h3⟩
    · rw [h3] at ho'; exact .inl ⟨⟨o', ho'⟩, h1, h2⟩
    · rw [h2] at ho'
      obtain ⟨o1, h4, -⟩ := hsl ho'
      exact .inr ⟨i, h1, ⟨o1, h4⟩, h3⟩
  have hold : ∀ {id : Nat} {v : Value} {b : Nat}, σ.live id → id ∉ ps → m id = some v → v.ownBlock = some b → kept' b := by
    rintro id v b ⟨o', hl'⟩ hni hv hb
    obtain ⟨v', h1, h2⟩ := h.ob id o' hl'
    obtain rfl := Option.some.inj (hv.symm.trans h1)
    refine ⟨h2.lt hb, fun i k v' hk hv' hb' => ?_⟩
    obtain ⟨o'', h3, v'', h4, -⟩ := hlivep hk
    have := h.ap id k v v' b ⟨o', hl'⟩ ⟨o'', h3⟩ hv hv' hb hb'
    subst this
    exact hni (List.mem_of_getElem? hk)
  have hm2old : ∀ {id : Nat}, id < n0 → m2 id = m id := fun h' => by
    show (if _ < n0 then _ else _) = _
    rw [if_pos h']
  have hfin : Sim F m2 Z1 ⟨σ.tm, ob2⟩ a w' := by
    refine ⟨h.tsz, fun t x hx => ?_, fun id o' hl' => ?_, fun id hi => ?_, fun id id' v v' b hl1 hl2' hv hv' hb1 hb2 => ?_, fun id v b hl1 hv hb1 => ?_, hs.zb, fun b hb => hZZ b (h.z0 b hb), fun b hb => ?_, fun b hb => ?_, Nat.le_trans h.sz hs.sz, hs.os.trans h.os, h.df, hs.tape.trans h.tape, hs.output.trans h.output, hs.tb, fun i hi => by obtain ⟨v, h1, h2⟩ := h.mi i hi; exact ⟨v, h1, hmm _ _ h2⟩⟩
    · obtain ⟨u', h1, h2⟩ := h.tm t x hx
      exact ⟨u', h1, h2.keep hmm hkZ hZZ⟩
    · have hl' : ob2[id]? = some (.live o') := hl'
      rcases hwhere id with ⟨h1, h2, h3⟩ | ⟨i, h1, -, h2, h3⟩
      · rw [h3] at hl'
        obtain ⟨v, h4, h5⟩ := h.ob id o' hl'
        refine ⟨v, hmm _ _ h4, h5.keep hmm hkZ hZZ fun b hb => ?_⟩
        have hk := hold ⟨o', hl'⟩ h2 h4 hb
        exact hkpt b hk.1 hk.2
      · rw [h2] at hl'
        obtain ⟨o1, h4, rfl⟩ := hsl hl'
        obtain ⟨v, h5, h6⟩ := hs.ob i o1 h4
        refine ⟨v, h3.trans h5, ?_⟩
        cases o1 with
        | box e cs =>
          obtain ⟨g, us, e1, e2, e3⟩ := h6
          refine ⟨g, us, e1, e2, by rw [List.length_map]; exact e3.1, fun j x u hx hu => ?_⟩
          rw [List.getElem?_map] at hx
          cases he : cs[j]? with
          | none => rw [he] at hx; cases hx
          | some y => rw [he] at hx; obtain rfl := Option.some.inj hx; exact hbackC _ _ (e3.2 j y u he hu)
        | row e sz xs => exact h6
        | rowG g e sz xs hot =>
          obtain ⟨c, uss, e0, e1, e2, e3⟩ := h6
          refine ⟨c, uss, e0, e1, e2.imp fun i' j' y u h' => ?_, e3⟩
          unfold ovl at h' ⊢
          cases hot with
          | none => exact h'
          | some q =>
            simp only [Option.map_some] at h' ⊢
            split at h'
            · rename_i hc; rw [if_pos hc]; exact hbackC _ _ h'
            · rename_i hc; rw [if_neg hc]; exact h'
    · have hi : ob2[id]? = some .free ∨ ob2[id]? = none := hi
      rcases hwhere id with ⟨h1, h2, h3⟩ | ⟨i, h1, hpi, h2, h3⟩
      · rw [h3] at hi
        rw [hm2old h1]
        exact h.fr id hi
      · rw [h3]
        rw [h2] at hi
        refine hs.fr i ?_
        show obs'[i]? = some .free ∨ obs'[i]? = none
        cases hs' : obs'[i]? with
        | none => exact .inr rfl
        | some s =>
          rw [hs'] at hi
          cases s with
          | free => exact .inl rfl
          | dead => simp [Slot.map] at hi
          | live o1 => simp [Slot.map] at hi
    · rcases hlive2 hl1 with ⟨hl, h1, h2⟩ | ⟨i, h1, hl, h3⟩ <;> rcases hlive2 hl2' with ⟨hl', h1', h2'⟩ | ⟨i', h1', hl', h3'⟩
      · rw [hm2old h1] at hv
        rw [hm2old h1'] at hv'
        exact h.ap id id' v v' b hl hl' hv hv' hb1 hb2
      · rw [hm2old h1] at hv
        rw [h3'] at hv'
        exact absurd (hold hl h2 hv hb1) (hs.az i' v' b hl' hv' hb2).2
      · rw [hm2old h1'] at hv'
        rw [h3] at hv
        exact absurd (hold hl' h2' hv' hb2) (hs.az i v b hl hv hb1).2
      · rw [h3] at hv
        rw [h3'] at hv'
        have := hs.ap i i' v v' b hl hl' hv hv' hb1 hb2
        rw [← h1, ← h1', this]
    · rcases hlive2 hl1 with ⟨hl, h1, h2⟩ | ⟨i, h1, hl, h3⟩
      · rw [hm2old h1] at hv
        have h4 := h.az id v b hl hv hb1
        refine ⟨fun hz => ?_, h4.2⟩
        rcases hZ1 b hz with h5 | h5
        · exact h4.1 h5
        · exact h5 (hold hl h2 hv hb1)
      · rw [h3] at hv
        have h4 := hs.az i v b hl hv hb1
        exact ⟨h4.1, fun hk => h4.2 (hFk b hk)⟩
    · rcases hZ1 b hb with h5 | h5
      · exact h.zn b h5
      · exact .inr fun hk => h5 (hFk b hk)
    · have h5 := hFk b hb
      have h6 := h.kp b hb
      exact ⟨h6.1, (hkpt b h5.1 h5.2).trans h6.2⟩
  refine hK m2 Z1 _ _ (hfin.putO o.dst ?_) (Act.put_defers ..)
  obtain ⟨u', h1, h2⟩ := hs.tm 0 r rfl
  have : u' = u := by simpa using h1.symm
  subst this
  cases r with
  | t x =>
    cases x with
    | c x => exact hbackC _ _ h2
    | agg xs =>
      obtain ⟨us, e, hc'⟩ := h2
      refine ⟨us, e, by rw [List.length_map]; exact hc'.1, fun j x u hx hu => ?_⟩
      rw [List.getElem?_map] at hx
      cases he' : xs[j]? with
      | none => rw [he'] at hx; cases hx
      | some y => rw [he'] at hx; obtain rfl := Option.some.inj hx; exact hbackC _ _ (hc'.2 j y u he' hu)
  | tup xs =>
    obtain ⟨us, e, hc'⟩ := h2
    refine ⟨us, e, by rw [List.length_map]; exact hc'.1, fun j x u hx hu => ?_⟩
    rw [List.getElem?_map] at hx
    cases he' : xs[j]? with
    | none => rw [he'] at hx; cases hx
    | some y =>
      rw [he'] at hx
      obtain rfl := Option.some.inj hx
      have h3 := hc'.2 j y u he' hu
      cases y with
      | c x => exact hbackC _ _ h3
      | agg ys =>
        obtain ⟨us2, e2, hc2⟩ := h3
        refine ⟨us2, e2, by rw [List.length_map]; exact hc2.1, fun j x u hx hu => ?_⟩
        rw [List.getElem?_map] at hx
        cases he2 : ys[j]? with
        | none => rw [he2] at hx; cases hx
        | some y => rw [he2] at hx; obtain rfl := Option.some.inj hx; exact hbackC _ _ (hc2.2 j y u he2 hu)
end Go.Proofs.YtljdidlkiknknaaDoor.AB
namespace Go.Proofs.YtljdidlkiknknaaDoor.AB
open Go Go.RowKit Go.Proofs.YtljdidlkiknknaaDoorW.PrintWords Go.Proofs.YtljdidlkiknknaaDoorW.PrintMore
set_option linter.unusedSimpArgs false
set_option linter.unusedVariables false
section
variable {P : Program} {F : Frm} {o : Oper} {σ : St}
def intOf2 (x : Option AV) : Option (IntKind × Int) := match x with
  | some (.t (.c (.i (.v (.int k n))))) => some (k, n)
  | _ => none
theorem Sim.int2 {m : Mp} {Z : Nat → Prop} {a : Act} {w : World} (h : Sim F m Z σ a w) {x : Operand} {k : IntKind} {n : Int} (hn : intOf2 (σ.ev x) = some (k, n)) : a.eval x = .int k n := by
  unfold intOf2 at hn
  split at hn
  · rename_i k' n' he
    simp only [Option.some.injEq, Prod.mk.injEq] at hn
    obtain ⟨rfl, rfl⟩ := hn
    have h1 : RepI w Z (.v (.int k' n')) (a.eval x) := h.ev he
    generalize a.eval x = u at h1
    cases h1
    rfl
  · cases hn
def shlV (k : IntKind) (x y : Int) : Int := k.wrap (x * 2 ^ (min y.toNat k.bits))
def shrV (k : IntKind) (x y : Int) : Int := x.fdiv (2 ^ (min y.toNat k.bits))
theorem stp_shl {t u : Nat} {x y : Operand} {k k' : IntKind} {b c : Int} (ho : o.op = .binOp .shl t x y u) (hx : intOf2 (σ.ev x) = some (k, b)) (hy : intOf2 (σ.ev y) = some (k', c)) (hob : Obs [0 ≤ c]) : Stp P F o σ (σ.put o.dst (.t (.c (.i (.v (.int k (shlV k b c))))))) := by
  intro m Z a w h K Q hK
  have h0 := hob.1
  refine wp_value (u := .int k (shlV k b c)) (w' := w) ?_ (hK m Z _ _ (h.putO o.dst (x := .t (.c (.i (.v (.int k (shlV k b c)))))) (RepI.v rfl)) (Act.put_defers ..))
  unfold execOp shlV
  rw [ho]
  simp only [h.int2 hx, h.int2 hy, eqGuard, binOp, Op.shift]
  simp [show ¬ c < 0 by omega]
theorem stp_shr {t u : Nat} {x y : Operand} {k k' : IntKind} {b c : Int} (ho : o.op = .binOp .shr t x y u) (hx : intOf2 (σ.ev x) = some (k, b)) (hy : intOf2 (σ.ev y) = some (k', c)) (hob : Obs [0 ≤ c]) : Stp P F o σ (σ.put o.dst (.t (.c (.i (.v (.int k (shrV k b c))))))) := by
  intro m Z a w h K Q hK
  have h0 := hob.1
  refine wp_value (u := .int k (shrV k b c)) (w' := w) ?_ (hK m Z _ _ (h.putO o.dst (x := .t (.c (.i (.v (.int k (shrV k b c)))))) (RepI.v rfl)) (Act.put_defers ..))
  unfold execOp shrV
  rw [ho]
  simp only [h.int2 hx, h.int2 hy, eqGuard, binOp, Op.shift]
  simp [show ¬ c < 0 by omega]
theorem stp_quo {t u : Nat} {x y : Operand} {k : IntKind} {b c : Int} (ho : o.op = .binOp .quo t x y u) (hx : intOf2 (σ.ev x) = some (k, b)) (hy : intOf2 (σ.ev y) = some (k, c)) (hob : Obs [c ≠ 0]) : Stp P F o σ (σ.put o.dst (.t (.c (.i (.v (.int k (k.wrap (b.tdiv c)))))))) := by
  intro m Z a w h K Q hK
  have h0 := hob.1
  refine wp_value (u := .int k (k.wrap (b.tdiv c))) (w' := w) ?_ (hK m Z _ _ (h.putO o.dst (x := .t (.c (.i (.v (.int k (k.wrap (b.tdiv c))))))) (RepI.v rfl)) (Act.put_defers ..))
  unfold execOp
  rw [ho]
  simp only [h.int2 hx, h.int2 hy, eqGuard, binOp, Op.intDiv]
  simp [h0]
theorem stp_rem {t u : Nat} {x y : Operand} {k : IntKind} {b c : Int} (ho : o.op = .binOp .rem t x y u) (hx : intOf2 (σ.ev x) = some (k, b)) (hy : intOf2 (σ.ev y) = some (k, c)) (hob : Obs [c ≠ 0]) : Stp P F o σ (σ.put o.dst (.t (.c (.i (.v (.int k (b.tmod c))))))) := by
  intro m Z a w h K Q hK
  have h0 := hob.1
  refine wp_value (u := .int k (b.tmod c)) (w' := w) ?_ (hK m Z _ _ (h.putO o.dst (x := .t (.c (.i (.v (.int k (b.tmod c)))))) (RepI.v rfl)) (Act.put_defers ..))
  unfold execOp
  rw [ho]
  simp only [h.int2 hx, h.int2 hy, eqGuard, binOp, Op.intDiv]
  simp [h0]
def isNilP : Operand → Bool
  | .const (.pointer none) => true
  | _ => false
def ptrT (P : Program) (t : TypeId) : Bool := match P.underlying t with
  | some (.pointer e) => P.pointee t == e
  | _ => false
/-- A pointer that is told is not nil. -/
theorem stp_eqNil {t u : Nat} {op : BinOp} {x y : Operand} {xa : AV} {p : Place} (hop : op = .eql ∨ op = .neq) (ho : o.op = .binOp op t x y u) (hx : σ.ev x = some xa) (hp : xa.place = some p) (hy : isNilP y = true) (ht : ptrT P t = true) : Stp P F o σ (σ.put o.dst (.t (.c (.i (.v (.bool (op == .neq))))))) := by
  intro m Z a w h K Q hK
  have hr := h.ev hx
  have hu : ∃ g, a.eval x = .pointer (some g) := by
    unfold AV.place at hp
    split at hp
    · obtain ⟨g, n, c, -, e⟩ := hr; exact ⟨_, e⟩
    · obtain ⟨g, n, c, -, e⟩ := hr; exact ⟨_, e⟩
    · rename_i cs
      have hr : RepI w Z (.pt cs) (a.eval x) := hr
      generalize a.eval x = u at hr
      cases hr with
      | pt val hb hcell hrep => exact ⟨_, rfl⟩
    · cases hp
  obtain ⟨g, hu⟩ := hu
  have hyn : a.eval y = .pointer none := by
    unfold isNilP at hy
    split at hy
    · rfl
    · cases hy
  have htt : P.underlying t = some (.pointer (P.pointee t)) := by
    unfold ptrT at ht
    split at ht
    · rename_i e he
      rw [he]
      simp at ht
      rw [ht]
    · cases ht
  have hq := run_equal_pointer_nil (P := P) (w := w) t (some g) htt
  refine wp_value (u := .bool (op == .neq)) (w' := w) ?_ (hK m Z _ _ (h.putO o.dst (x := .t (.c (.i (.v (.bool (op == .neq)))))) (RepI.v rfl)) (Act.put_defers ..))
  unfold execOp
  rw [ho]
  rcases hop with rfl | rfl
  · simp only [hu, hyn, eqGuard, binOp]
    simp [hq]
  · simp only [hu, hyn, eqGuard, binOp]
    simp [hq]
inductive Gs where
  | ys (ys : List IV)
  | r (x : AV)
  | fz (id : Nat)
  | b (b : Bool)
  | a (n : Nat)
  | g (ps : List Nat) (r : AV) (obs : List Slot)
theorem stp_nilCheck {x : Operand} {y : AV} {p : Place} (ho : o.op = .nilCheck x) (hx : σ.ev x = some y) (hp : y.place = some p) : Stp P F o σ (σ.put o.dst y) := by
  intro m Z a w h K Q hK
  have hr := h.ev hx
  have hu : ∃ g, a.eval x = .pointer (some g) := by
    unfold AV.place at hp
    split at hp
    · obtain ⟨g, n, c, -, e⟩ := hr; exact ⟨_, e⟩
    · obtain ⟨g, n, c, -, e⟩ := hr; exact ⟨_, e⟩
    · rename_i cs
      have hr : RepI w Z (.pt cs) (a.eval x) := hr
      generalize a.eval x = u at hr
      cases hr with
      | pt val hb hcell hrep => exact ⟨_, rfl⟩
    · cases hp
  obtain ⟨g, hu⟩ := hu
  refine wp_value (u := a.eval x) (w' := w) ?_ (hK m Z _ _ (h.putO o.dst hr) (Act.put_defers ..))
  unfold execOp
  rw [ho]
  simp only [hu]
  rfl
def unC : List TV → Option (List IV)
  | [] => some []
  | .c (.i x) :: l => (unC l).map (x :: ·)
  | _ => none
theorem unC_spec : ∀ {ts : List TV} {xs : List IV}, unC ts = some xs → ts = xs.map fun x => .c (.i x)
  | [], xs, h => by simp only [unC, Option.some.injEq] at h; subst h; rfl
  | .c (.i x) :: l, xs, h => by
    simp only [unC, Option.map_eq_some_iff] at h
    obtain ⟨ys, hy, rfl⟩ := h
    rw [unC_spec hy]
    rfl
  | .c (.loc _ _) :: l, xs, h => by simp [unC] at h
  | .c (.el _ _ _ _) :: l, xs, h => by simp [unC] at h
  | .c (.os _) :: l, xs, h => by simp [unC] at h
  | .agg _ :: l, xs, h => by simp [unC] at h
theorem stp_makeFunc {f : FuncId} {cap : Array Operand} {ts : List TV} {xs : List IV} (ho : o.op = .makeFunc (.func f) #[] cap) (he : evArgs σ cap.toList = some ts) (hx : unC ts = some xs) : Stp P F o σ (σ.put o.dst (.t (.c (.i (.fn (.func f) xs))))) := by
  intro m Z a w h K Q hK
  obtain rfl := unC_spec hx
  have ha := h.args _ he
  refine wp_value (u := .func (.func f) #[] (cap.map a.eval)) (w' := w) ?_ (hK m Z _ _ (h.putO o.dst (x := .t (.c (.i (.fn (.func f) xs)))) ?_) (Act.put_defers ..))
  · unfold execOp
    rw [ho]
    simp [Instr.makeFunc]
  · refine RepI.fn (by have := ha.1; simpa using this.symm) fun j y u hy hu => ?_
    have h2 := ha.2 j (.c (.i y)) u (by rw [List.getElem?_map, hy]; rfl) (by
      have e : (cap.map a.eval)[j]? = (cap.toList.map a.eval)[j]? := by simp
      rw [← e]; exact hu)
    exact h2
theorem stp_callV {t : Tmp} {f : FuncId} {cap : List IV} {as_ : Array Operand} {ats : Array TypeId} {ts : List TV} {r : AV} (ho : o.op = .call { callee := .value (.tmp t), args := as_, argTypes := ats }) (ht : σ.ev (.tmp t) = some (.t (.c (.i (.fn (.func f) cap))))) (he : evArgs σ as_.toList = some ts) (hi : ts.all TV.imm = true)
    (hob : Obs [Ok P f (ts ++ cap.map fun x => .c (.i x)) r]) : Stp P F o σ (σ.put o.dst r) := by
  intro m Z a w h K Q hK
  obtain ⟨⟨⟨fn, hf, hn, hb⟩, hok⟩, -⟩ := hob
  have ha := h.args _ he
  have ht' := h.ev ht
  have ht' : RepI w Z (.fn (.func f) cap) (a.eval (.tmp t)) := ht'
  generalize hu : a.eval (.tmp t) = u at ht'
  cases ht' with
  | fn hl hrep =>
    rename_i vs
    have ha' : All2 (RepT noM w Z) (ts ++ cap.map fun x => .c (.i x)) (as_.toList.map a.eval ++ vs.toList) := by
      refine All2.append ⟨ha.1, fun j x u hx hu => (ha.2 j x u hx hu).imm (List.all_eq_true.mp hi x (List.mem_of_getElem? hx))⟩ ⟨by simp [hl], fun j x u hx hu => ?_⟩
      rw [List.getElem?_map] at hx
      cases hy : cap[j]? with
      | none => rw [hy] at hx; cases hx
      | some y =>
        rw [hy] at hx
        obtain rfl := Option.some.inj hx
        exact hrep j y u hy (by simpa using hu)
    have hc := hok w Z _ h.tb h.zb ha'
    have hrun : (execOp a.eval o).run P w = .ok (.enter f (as_.toList.map a.eval ++ vs.toList).toArray) w := by
      have hn2 : ¬ fn.name = "runtime.NumGoroutine" := by simpa using hn
      have hb2 : ¬ fn.body = none := fun e => by rw [e] at hb; cases hb
      have hm : (as_.toList.map a.eval ++ vs.toList).toArray = as_.map a.eval ++ vs := by rw [← Array.toList_inj]; simp
      unfold execOp
      rw [ho, hm]
      simp [resolve, hu, Deferred.ofValue, invoke, callFunc, hf, hn2, hb2]
    unfold Oper.wp
    rw [hrun]
    refine Calls.mono hc ?_
    rintro e w' ⟨u, Z', rfl, hb, hz, hn', hr⟩
    refine hK m Z' _ _ ((h.ext hb hz hn').putO o.dst ?_) (Act.put_defers ..)
    exact RepV.keep hr (fun i v hv => by cases hv) (fun _ _ => rfl) fun _ h => h
def scalarO (P : Program) (o : Oper) (gs : List Gs) (σ : St) : Option (List Prop × St × List Gs) :=
  if scalarOp o.op = true ∧ o.op.operands.toList.all σ.plain = true then match pureOp P σ o with
    | some u => if scal u = true then some ([], σ.put o.dst (.t (.c (.i (.v u)))), gs) else none
    | none => none
  else none
def room1 (σ : St) : St := { σ with ob := σ.ob ++ List.replicate 1 .free }
def stepO (P : Program) (o : Oper) (gs : List Gs) (σ : St) : Option (List Prop × St × List Gs) :=
  match o.op with
  | .move x | .assign x => match σ.ev x with
    | some y => some ([], σ.put o.dst y, gs)
    | none => none
  | .alloc t => match zeroC P t with
    | some us => some ([], St.put { σ with ob := (room1 σ).ob.set σ.ob.length (.live (.box t (us.map fun u => .i (.v u)))) } o.dst (.t (.c (.loc σ.ob.length 0))), gs)
    | none => none
  | .box t x => match (σ.ev x).bind AV.tv with
    | some z => some ([], St.put { σ with ob := (room1 σ).ob.set σ.ob.length (.live (.box t z.cells)) } o.dst (.t (.c (.loc σ.ob.length 0))), gs)
    | none => none
  | .load t x => match (σ.ev x).bind AV.place, aggP P t, sizeP P t with
    | some (.el id i sz j), some ag, some n => match gs with
      | .ys ys :: gs => match σ.read (.el id i sz j) n ys with
        | some (ob, cs) => match mkT ag cs with
          | some z => some (ob, σ.put o.dst (.t z), gs)
          | none => none
        | none => none
      | _ => none
    | some p, some ag, some n => match σ.read p n [] with
      | some (ob, cs) => match mkT ag cs with
        | some z => some (ob, σ.put o.dst (.t z), gs)
        | none => none
      | none => none
    | _, _, _ => none
  | .store t x y => match o.dst, (σ.ev x).bind AV.place, (σ.ev y).bind AV.tv, sizeP P t with
    | none, some (.el id i sz j), some z, some n => match gs with
      | .ys ys :: gs => if n = z.cells.length then match σ.write (.el id i sz j) z.cells ys with
          | some (ob, σ') => some (ob, σ', gs)
          | none => none
        else none
      | _ => none
    | none, some p, some z, some n => if n = z.cells.length then match σ.write p z.cells [] with
        | some (ob, σ') => some (ob, σ', gs)
        | none => none
      else none
    | _, _, _, _ => none
  | .fieldAddr s x f => match fieldP P s f with
    | some (off, _) => match (σ.ev x).bind (AV.shift off) with
      | some z => some ([], σ.put o.dst z, gs)
      | none => none
    | none => none
  | .field s x f => match fieldP P s f, (σ.ev x).bind AV.aggs with
    | some (off, ft), some cs => match aggP P ft, sizeP P ft with
      | some ag, some n => if off + n ≤ cs.length then match mkT ag (cutC cs off n) with
          | some z => some ([], σ.put o.dst (.t z), gs)
          | none => none
        else none
      | _, _ => none
    | _, _ => none
  | .indexAddr t x y => match elemP P t, (σ.ev y).bind AV.int with
    | some e, some i => match sizeP P e, (σ.ev x).bind AV.isl, (σ.ev x).bind AV.own with
      | some sz, some (sz', xs), _ => match gs with
        | .ys ys :: gs => if sz = sz' then some ([0 ≤ i, xs[i.toNat]? = some ys], σ.put o.dst (.t (.c (.i (.pt ys)))), gs) else none
        | _ => none
      | some sz, none, some id => match σ.row id with
        | some (_, sz', xs) => if sz = sz' then some ([0 ≤ i, i < xs.length], σ.put o.dst (.t (.c (.el id i.toNat sz 0))), gs) else none
        | none => none
      | _, _, _ => none
    | _, _ => none
  | .index t x y => match P.underlying t, (σ.ev x).bind AV.str, (σ.ev y).bind AV.int with
    | some .string, some s, some i => some ([0 ≤ i, i < s.size], σ.put o.dst (.t (.c (.i (.v (.int .u8 (byteAt s i)))))), gs)
    | _, _, _ => none
  | .slice t x lo hi none => match optInt σ lo, optInt σ hi with
    | some l, some r => match P.underlying t, (σ.ev x).bind AV.str, (σ.ev x).bind AV.isl with
      | some .string, some s, _ => some ([0 ≤ l.getD 0, l.getD 0 ≤ r.getD s.size, r.getD s.size ≤ s.size], σ.put o.dst (.t (.c (.i (.v (.string (s.extract (l.getD 0).toNat (r.getD s.size).toNat)))))), gs)
      | some (.slice e), _, some (sz, xs) => if sizeP P e = some sz then some ([0 ≤ l.getD 0, l.getD 0 ≤ r.getD xs.length, r.getD xs.length ≤ xs.length], σ.put o.dst (.t (.c (.i (.sl sz (cutC xs (l.getD 0).toNat ((r.getD xs.length).toNat - (l.getD 0).toNat)))))), gs) else none
      | _, _, _ => none
    | _, _ => none
  | .extract x i => match σ.ev x with
    | some (.tup xs) => match xs[i]? with
      | some y => some ([], σ.put o.dst (.t y), gs)
      | none => none
    | _ => none
  | .build t parts => match zeroC P t, placesP P t, evParts σ parts.toList with
    | some us, some pl, some ps => match fillC (pl.toArray[·]?) (us.map fun u => .i (.v u)) ps with
      | some cs => some ([], σ.put o.dst (.t (.agg cs)), gs)
      | none => none
    | _, _, _ => none
  | .buildSlice t len parts => match elemP P t, evParts σ parts.toList with
    | some e, some ps => match elP P e with
      | some (zs, sz, _) => if len * sz ≤ 16777216 then match (fillC (fun i => some (i * sz, sz)) (List.replicate len (zs.map fun u => CV.i (.v u))).flatten ps).bind unI with
          | some is => some ([], St.put { σ with ob := (room1 σ).ob.set σ.ob.length (.live (.row e sz (chunk sz len is))) } o.dst (.t (.c (.os σ.ob.length))), gs)
          | none => none
        else none
      | none => none
    | _, _ => none
  | .makeSlice t x y => match elemP P t, (σ.ev x).bind AV.int, (σ.ev y).bind AV.int with
    | some e, some n, some n' => match elP P e with
      | some (zs, sz, by_) => some ([n' = n, 0 ≤ n, (by_ : Int) * n ≤ 281474976710656], St.put { σ with ob := (room1 σ).ob.set σ.ob.length (.live (.row e sz (List.replicate n.toNat (zs.map fun u => IV.v u)))) } o.dst (.t (.c (.os σ.ob.length))), gs)
      | none => none
    | _, _, _ => none
  | .call ⟨.builtin .len, as_, ats⟩ => match as_.toList, ats.toList with
    | [x], [t] => match σ.ev x, elemP P t, P.underlying t with
      | some xa, some _, _ => match σ.len xa with
        | some n => some ([], σ.put o.dst (.t (.c (.i (.v (.int .i64 (n : Int)))))), gs)
        | none => none
      | some xa, none, some .string => match xa.str with
        | some s => some ([], σ.put o.dst (.t (.c (.i (.v (.int .i64 (s.size : Int)))))), gs)
        | none => none
      | _, _, _ => none
    | _, _ => none
  | .call ⟨.builtin .append, as_, ats⟩ => match as_.toList, ats.toList with
    | [x, y], [t, t'] => if t' = t then match σ.ev x, σ.ev y, elemP P t with
        | some xa, some ya, some e => match elP P e with
          | some (_, sz, by_) => match (room1 σ).spend e sz xa, σ.elems sz ya with
            | some (xs, σ'), some ys => some ([(xs.length + ys.length) * by_ ≤ 140737488355328], St.put { σ' with ob := σ'.ob.set σ.ob.length (.live (.row e sz (xs ++ ys))) } o.dst (.t (.c (.os σ.ob.length))), gs)
            | _, _ => none
          | none => none
        | _, _, _ => none
      else none
    | _, _ => none
  | .call ⟨.value (.func f), as_, _⟩ => match gs, evArgs σ as_.toList with
    | .r r :: gs, some ts => if ts.all TV.imm = true then some ([Ok P f ts r], σ.put o.dst r, gs) else none
    | .g ps r obs' :: gs, some ts => match renTL ps ts, packO σ ps ps with
      | some args, some obs => if ps.length ≤ obs'.length then some ([OkG P f args obs r obs'], St.put ⟨σ.tm, setAll σ.ob ps (obs'.map (Slot.map (backC ps σ.ob.length))) ++ (obs'.drop ps.length).map (Slot.map (backC ps σ.ob.length))⟩ o.dst (r.map (backC ps σ.ob.length)), gs) else none
      | _, _ => none
    | _, _ => none
  | .call ⟨.value (.tmp t), as_, _⟩ => match gs, evArgs σ as_.toList, σ.ev (.tmp t) with
    | .r r :: gs, some ts, some (.t (.c (.i (.fn (.func f) cap)))) => if ts.all TV.imm = true then some ([Ok P f (ts ++ cap.map fun x => .c (.i x)) r], σ.put o.dst r, gs) else none
    | _, _, _ => none
  | .nilCheck x => match σ.ev x with
    | some y => match y.place with
      | some _ => some ([], σ.put o.dst y, gs)
      | none => none
    | none => none
  | .makeFunc (.func f) first cap => match first.toList, (evArgs σ cap.toList).bind unC with
    | [], some xs => some ([], σ.put o.dst (.t (.c (.i (.fn (.func f) xs)))), gs)
    | _, _ => none
  | .binOp .add t x y u => match (σ.ev x).bind AV.str, (σ.ev y).bind AV.str with
    | some s, some r => some ([s.size + r.size ≤ 9223372036854775807], σ.put o.dst (.t (.c (.i (.v (.string (s ++ r)))))), gs)
    | _, _ => scalarO P o gs σ
  | .binOp .shl t x y u => match intOf2 (σ.ev x), intOf2 (σ.ev y) with
    | some (k, b), some (_, c) => some ([0 ≤ c], σ.put o.dst (.t (.c (.i (.v (.int k (shlV k b c)))))), gs)
    | _, _ => none
  | .binOp .shr t x y u => match intOf2 (σ.ev x), intOf2 (σ.ev y) with
    | some (k, b), some (_, c) => some ([0 ≤ c], σ.put o.dst (.t (.c (.i (.v (.int k (shrV k b c)))))), gs)
    | _, _ => none
  | .binOp .quo t x y u => match intOf2 (σ.ev x), intOf2 (σ.ev y) with
    | some (k, b), some (k', c) => if k' = k then some ([c ≠ 0], σ.put o.dst (.t (.c (.i (.v (.int k (k.wrap (b.tdiv c))))))), gs) else none
    | _, _ => none
  | .binOp .rem t x y u => match intOf2 (σ.ev x), intOf2 (σ.ev y) with
    | some (k, b), some (k', c) => if k' = k then some ([c ≠ 0], σ.put o.dst (.t (.c (.i (.v (.int k (b.tmod c)))))), gs) else none
    | _, _ => none
  | .binOp .eql t x y u => match (σ.ev x).bind AV.place with
    | some _ => if isNilP y = true ∧ ptrT P t = true then some ([], σ.put o.dst (.t (.c (.i (.v (.bool (BinOp.eql == .neq)))))), gs) else none
    | none => scalarO P o gs σ
  | .binOp .neq t x y u => match (σ.ev x).bind AV.place with
    | some _ => if isNilP y = true ∧ ptrT P t = true then some ([], σ.put o.dst (.t (.c (.i (.v (.bool (BinOp.neq == .neq)))))), gs) else none
    | none => scalarO P o gs σ
  | _ => scalarO P o gs σ
theorem room1_free (σ : St) : (room1 σ).ob[σ.ob.length]? = some .free := by simp [room1]
theorem bind_some {α β : Type} {x : Option α} {f : α → Option β} {y : β} (h : x.bind f = some y) : ∃ z, x = some z ∧ f z = some y := by
  cases x with
  | none => cases h
  | some z => exact ⟨z, rfl, h⟩
theorem Stp.room {σ' : St} (h : Stp P F o (room1 σ) σ') : Stp P F o σ σ' := fun m Z a w hs K Q hK => h m Z a w (hs.room 1) K Q hK
theorem scalarO_ok {gs gs' : List Gs} {σ' : St} {ob : List Prop} (h : scalarO P o gs σ = some (ob, σ', gs')) : Stp P F o σ σ' := by
  unfold scalarO at h
  split at h
  · rename_i hc
    split at h
    · rename_i u hu
      split at h
      · rename_i hs
        simp only [Option.some.injEq, Prod.mk.injEq] at h
        obtain ⟨-, rfl, -⟩ := h
        exact stp_scalar hc.1 (fun x hx => List.all_eq_true.mp hc.2 x hx) hu hs
      · cases h
    · cases h
  · cases h
end
end Go.Proofs.YtljdidlkiknknaaDoor.AB
namespace Go.Proofs.YtljdidlkiknknaaDoor.AB
open Go Go.RowKit Go.Proofs.YtljdidlkiknknaaDoorW.PrintWords Go.Proofs.YtljdidlkiknknaaDoorW.PrintMore
set_option linter.unusedSimpArgs false
set_option linter.unusedVariables false
section
variable {P : Program} {F : Frm} {o : Oper} {σ : St}
theorem ev_room (σ : St) (x : Operand) : (room1 σ).ev x = σ.ev x := by cases x <;> rfl
theorem evParts_room (σ : St) : ∀ l : List (Nat × Operand), evParts (room1 σ) l = evParts σ l
  | [] => rfl
  | (i, x) :: l => by simp only [evParts, ev_room, evParts_room σ l]
theorem row_room {id e sz : Nat} {xs : List (List IV)} (h : σ.row id = some (e, sz, xs)) : (room1 σ).row id = some (e, sz, xs) := by
  have h1 := St.row_ob h
  have hlt := (List.getElem?_eq_some_iff.mp h1).1
  unfold St.row
  have : (room1 σ).ob[id]? = some (.live (.row e sz xs)) := by
    show (σ.ob ++ List.replicate 1 .free)[id]? = _
    rw [List.getElem?_append_left hlt, h1]
  rw [this]
theorem elems_room {sz : Nat} {x : AV} {xs : List (List IV)} (h : σ.elems sz x = some xs) : (room1 σ).elems sz x = some xs := by
  unfold St.elems at h ⊢
  split at h
  · exact h
  · exact h
  · rename_i id
    split at h
    · rename_i e sz' xs' hr
      rw [row_room hr]
      exact h
    · cases h
  · cases h
theorem spend_free {e sz : Nat} {x : AV} {xs : List (List IV)} {σ' : St} (h : (room1 σ).spend e sz x = some (xs, σ')) : σ'.ob[σ.ob.length]? = some .free := by
  unfold St.spend at h
  split at h
  · simp only [Option.some.injEq, Prod.mk.injEq] at h
    obtain ⟨-, rfl⟩ := h
    exact room1_free σ
  · rename_i id
    split at h
    · rename_i e' sz' xs' hr
      split at h
      · simp only [Option.some.injEq, Prod.mk.injEq] at h
        obtain ⟨-, rfl⟩ := h
        have h1 := St.row_ob hr
        have : id ≠ σ.ob.length := by
          intro e
          rw [e, room1_free] at h1
          cases h1
        show ((room1 σ).ob.set id .dead)[σ.ob.length]? = _
        rw [List.getElem?_set_ne this, room1_free]
      · cases h
    · cases h
  · cases h
set_option maxHeartbeats 1000000 in
theorem stepO_ok {gs gs' : List Gs} {σ' : St} {ob : List Prop} (h : stepO P o gs σ = some (ob, σ', gs')) (hob : Obs ob) : Stp P F o σ σ' := by
  unfold stepO at h
  split at h
  · rename_i x ho
    split at h
    · rename_i y hy
      simp only [Option.some.injEq, Prod.mk.injEq] at h
      obtain ⟨-, rfl, -⟩ := h
      exact stp_move (.inl ho) hy
    · cases h
  · rename_i x ho
    split at h
    · rename_i y hy
      simp only [Option.some.injEq, Prod.mk.injEq] at h
      obtain ⟨-, rfl, -⟩ := h
      exact stp_move (.inr ho) hy
    · cases h
  · rename_i t ho
    split at h
    · rename_i us hz
      simp only [Option.some.injEq, Prod.mk.injEq] at h
      obtain ⟨-, rfl, -⟩ := h
      exact Stp.room (stp_alloc ho hz (room1_free σ))
    · cases h
  · rename_i t x ho
    split at h
    · rename_i z hz
      simp only [Option.some.injEq, Prod.mk.injEq] at h
      obtain ⟨-, rfl, -⟩ := h
      obtain ⟨y, hy, hz⟩ := bind_some hz
      exact Stp.room (stp_box ho (by cases x <;> exact hy) hz (room1_free σ))
    · cases h
  · rename_i t x ho
    split at h
    · rename_i id i sz j ag n hp hag hsz
      obtain ⟨y, hy, hp⟩ := bind_some hp
      split at h
      · rename_i ys gs1
        split at h
        · rename_i ob' cs hr
          split at h
          · rename_i z hz
            simp only [Option.some.injEq, Prod.mk.injEq] at h
            obtain ⟨rfl, rfl, -⟩ := h
            exact stp_load ho hy hp hag hsz hr hz hob
          · cases h
        · cases h
      · cases h
    · rename_i p ag n _ hp hag hsz
      obtain ⟨y, hy, hp⟩ := bind_some hp
      split at h
      · rename_i ob' cs hr
        split at h
        · rename_i z hz
          simp only [Option.some.injEq, Prod.mk.injEq] at h
          obtain ⟨rfl, rfl, -⟩ := h
          exact stp_load ho hy hp hag hsz hr hz hob
        · cases h
      · cases h
    · cases h
  · rename_i t x y ho
    split at h
    · rename_i id i sz j z n hd hp hz hsz
      obtain ⟨xa, hx, hp⟩ := bind_some hp
      obtain ⟨ya, hy, hz⟩ := bind_some hz
      split at h
      · rename_i ys gs1
        split at h
        · rename_i hn
          split at h
          · rename_i ob' σ1 hr
            simp only [Option.some.injEq, Prod.mk.injEq] at h
            obtain ⟨rfl, rfl, -⟩ := h
            exact stp_store ho hd hx hp hy hz (hn ▸ hsz) hr hob
          · cases h
        · cases h
      · cases h
    · rename_i p z n _ hd hp hz hsz
      obtain ⟨xa, hx, hp⟩ := bind_some hp
      obtain ⟨ya, hy, hz⟩ := bind_some hz
      split at h
      · rename_i hn
        split at h
        · rename_i ob' σ1 hr
          simp only [Option.some.injEq, Prod.mk.injEq] at h
          obtain ⟨rfl, rfl, -⟩ := h
          exact stp_store ho hd hx hp hy hz (hn ▸ hsz) hr hob
        · cases h
      · cases h
    · cases h
  · rename_i s x f ho
    split at h
    · rename_i off ft hf
      split at h
      · rename_i z hz
        obtain ⟨y, hy, hz⟩ := bind_some hz
        simp only [Option.some.injEq, Prod.mk.injEq] at h
        obtain ⟨-, rfl, -⟩ := h
        exact stp_fieldAddr ho hy hf hz
      · cases h
    · cases h
  · rename_i s x f ho
    split at h
    · rename_i off ft cs hf hc
      obtain ⟨y, hy, hc⟩ := bind_some hc
      split at h
      · rename_i ag n hag hsz
        split at h
        · rename_i hl
          split at h
          · rename_i z hz
            simp only [Option.some.injEq, Prod.mk.injEq] at h
            obtain ⟨-, rfl, -⟩ := h
            exact stp_field ho hy hf hc hag hsz hl hz
          · cases h
        · cases h
      · cases h
    · cases h
  · rename_i t x y ho
    split at h
    · rename_i e i he hi
      obtain ⟨ya, hy, hi⟩ := bind_some hi
      split at h
      · rename_i sz sz' xs _ hsz hs
        obtain ⟨xa, hx, hs⟩ := bind_some hs
        split at h
        · rename_i ys gs1
          split at h
          · rename_i e1
            subst e1
            simp only [Option.some.injEq, Prod.mk.injEq] at h
            obtain ⟨rfl, rfl, -⟩ := h
            exact stp_indexI ho hx hy hs hi he hsz hob
          · cases h
        · cases h
      · rename_i sz id hsz _ hs
        obtain ⟨xa, hx, hs⟩ := bind_some hs
        split at h
        · rename_i e' sz' xs hr
          split at h
          · rename_i e1
            subst e1
            simp only [Option.some.injEq, Prod.mk.injEq] at h
            obtain ⟨rfl, rfl, -⟩ := h
            exact stp_indexO ho hx hy hs hr hi he hsz hob
          · cases h
        · cases h
      · cases h
    · cases h
  · rename_i t x y ho
    split at h
    · rename_i s i ht hs hi
      obtain ⟨xa, hx, hs⟩ := bind_some hs
      obtain ⟨ya, hy, hi⟩ := bind_some hi
      simp only [Option.some.injEq, Prod.mk.injEq] at h
      obtain ⟨rfl, rfl, -⟩ := h
      exact stp_indexS ho hx hy hs hi ht hob
    · cases h
  · rename_i t x lo hi ho
    split at h
    · rename_i l r hl hr
      split at h
      · rename_i s _ ht hs
        obtain ⟨xa, hx, hs⟩ := bind_some hs
        simp only [Option.some.injEq, Prod.mk.injEq] at h
        obtain ⟨rfl, rfl, -⟩ := h
        exact stp_sliceS ho hx hs hl hr ht hob
      · rename_i e _ sz xs ht hs
        obtain ⟨xa, hx, hs⟩ := bind_some hs
        split at h
        · rename_i hsz
          simp only [Option.some.injEq, Prod.mk.injEq] at h
          obtain ⟨rfl, rfl, -⟩ := h
          exact stp_sliceI ho hx hs hl hr (by unfold elemP; rw [ht]) hsz hob
        · cases h
      · cases h
    · cases h
  · rename_i x i ho
    split at h
    · rename_i xs hx
      split at h
      · rename_i y hy
        simp only [Option.some.injEq, Prod.mk.injEq] at h
        obtain ⟨-, rfl, -⟩ := h
        exact stp_extract ho hx hy
      · cases h
    · cases h
  · rename_i t parts ho
    split at h
    · rename_i us pl ps hz hp he
      split at h
      · rename_i cs hf
        simp only [Option.some.injEq, Prod.mk.injEq] at h
        obtain ⟨-, rfl, -⟩ := h
        exact stp_build ho hz hp he hf
      · cases h
    · cases h
  · rename_i t len parts ho
    split at h
    · rename_i e ps ht he
      split at h
      · rename_i zs sz by_ hel
        split at h
        · rename_i hsm
          split at h
          · rename_i is hi
            obtain ⟨cs, hf, hi⟩ := bind_some hi
            simp only [Option.some.injEq, Prod.mk.injEq] at h
            obtain ⟨-, rfl, -⟩ := h
            exact Stp.room (stp_buildSlice ho ht hel hsm (σ := room1 σ) (by rw [← he]; exact evParts_room σ _) hf hi (room1_free σ))
          · cases h
        · cases h
      · cases h
    · cases h
  · rename_i t x y ho
    split at h
    · rename_i e n n' ht hx hy
      obtain ⟨xa, hx1, hxi⟩ := bind_some hx
      obtain ⟨ya, hy1, hyi⟩ := bind_some hy
      split at h
      · rename_i zs sz by_ hel
        simp only [Option.some.injEq, Prod.mk.injEq] at h
        obtain ⟨rfl, rfl, -⟩ := h
        obtain ⟨e1, h2⟩ := hob
        subst e1
        exact Stp.room (stp_makeSlice ho (σ := room1 σ) ((ev_room σ x).trans hx1) ((ev_room σ y).trans hy1) hxi hyi ht hel (room1_free σ) h2)
      · cases h
    · cases h
  · rename_i as_ ats ho
    split at h
    · rename_i x t ha hat
      have e1 : as_ = #[x] := by rw [← Array.toList_inj, ha]
      have e2 : ats = #[t] := by rw [← Array.toList_inj, hat]
      subst e1 e2
      split at h
      · rename_i xa e _ hx ht
        split at h
        · rename_i n hn
          simp only [Option.some.injEq, Prod.mk.injEq] at h
          obtain ⟨-, rfl, -⟩ := h
          exact stp_len ho hx hn ht
        · cases h
      · rename_i xa hx _ ht
        split at h
        · rename_i s hs
          simp only [Option.some.injEq, Prod.mk.injEq] at h
          obtain ⟨-, rfl, -⟩ := h
          exact stp_lenS ho hx hs ht
        · cases h
      · cases h
    · cases h
  · rename_i as_ ats ho
    split at h
    · rename_i x y t t' ha hat
      split at h
      · rename_i et
        subst et
        have e1 : as_ = #[x, y] := by rw [← Array.toList_inj, ha]
        have e2 : ats = #[t', t'] := by rw [← Array.toList_inj, hat]
        subst e1 e2
        split at h
        · rename_i xa ya e hx hy ht
          split at h
          · rename_i zs sz by_ hel
            split at h
            · rename_i xs σ1 ys hs hys
              simp only [Option.some.injEq, Prod.mk.injEq] at h
              obtain ⟨rfl, rfl, -⟩ := h
              exact Stp.room (stp_append ho (σ := room1 σ) (by cases x <;> exact hx) (by cases y <;> exact hy) ht hel hs (elems_room hys) (spend_free hs) hob)
            · cases h
          · cases h
        · cases h
      · cases h
    · cases h
  · rename_i f as_ ats ho
    split at h
    · rename_i r gs1 ts he
      split at h
      · rename_i hi
        simp only [Option.some.injEq, Prod.mk.injEq] at h
        obtain ⟨rfl, rfl, -⟩ := h
        exact stp_call ho he hi hob
      · cases h
    · rename_i ps r obs' gs1 ts he
      split at h
      · rename_i args obs ha hp
        split at h
        · rename_i hl
          simp only [Option.some.injEq, Prod.mk.injEq] at h
          obtain ⟨rfl, rfl, -⟩ := h
          exact stp_callG ho he ha hp hl hob
        · cases h
      · cases h
    · cases h
  · rename_i t as_ ats ho
    split at h
    · rename_i r gs1 ts f cap he ht
      split at h
      · rename_i hi
        simp only [Option.some.injEq, Prod.mk.injEq] at h
        obtain ⟨rfl, rfl, -⟩ := h
        exact stp_callV ho ht he hi hob
      · cases h
    · cases h
  · rename_i x ho
    split at h
    · rename_i y hy
      split at h
      · rename_i p hp
        simp only [Option.some.injEq, Prod.mk.injEq] at h
        obtain ⟨-, rfl, -⟩ := h
        exact stp_nilCheck ho hy hp
      · cases h
    · cases h
  · rename_i f first cap ho
    split at h
    · rename_i xs hf hx
      obtain ⟨ts, he, hx⟩ := bind_some hx
      have e1 : first = #[] := by rw [← Array.toList_inj, hf]
      subst e1
      simp only [Option.some.injEq, Prod.mk.injEq] at h
      obtain ⟨-, rfl, -⟩ := h
      exact stp_makeFunc ho he hx
    · cases h
  · rename_i t x y u ho
    split at h
    · rename_i s r hs hr
      obtain ⟨xa, hx, hs⟩ := bind_some hs
      obtain ⟨ya, hy, hr⟩ := bind_some hr
      simp only [Option.some.injEq, Prod.mk.injEq] at h
      obtain ⟨rfl, rfl, -⟩ := h
      exact stp_concat ho hx hy hs hr hob
    · exact scalarO_ok h
  · rename_i t x y u ho
    split at h
    · rename_i k b _ c hx hy
      simp only [Option.some.injEq, Prod.mk.injEq] at h
      obtain ⟨rfl, rfl, -⟩ := h
      exact stp_shl ho hx hy hob
    · cases h
  · rename_i t x y u ho
    split at h
    · rename_i k b _ c hx hy
      simp only [Option.some.injEq, Prod.mk.injEq] at h
      obtain ⟨rfl, rfl, -⟩ := h
      exact stp_shr ho hx hy hob
    · cases h
  · rename_i t x y u ho
    split at h
    · rename_i k b k' c hx hy
      split at h
      · rename_i e
        subst e
        simp only [Option.some.injEq, Prod.mk.injEq] at h
        obtain ⟨rfl, rfl, -⟩ := h
        exact stp_quo ho hx hy hob
      · cases h
    · cases h
  · rename_i t x y u ho
    split at h
    · rename_i k b k' c hx hy
      split at h
      · rename_i e
        subst e
        simp only [Option.some.injEq, Prod.mk.injEq] at h
        obtain ⟨rfl, rfl, -⟩ := h
        exact stp_rem ho hx hy hob
      · cases h
    · cases h
  · rename_i t x y u ho
    split at h
    · rename_i p hp
      obtain ⟨xa, hx, hp⟩ := bind_some hp
      split at h
      · rename_i hc
        simp only [Option.some.injEq, Prod.mk.injEq] at h
        obtain ⟨-, rfl, -⟩ := h
        exact stp_eqNil (.inl rfl) ho hx hp hc.1 hc.2
      · cases h
    · exact scalarO_ok h
  · rename_i t x y u ho
    split at h
    · rename_i p hp
      obtain ⟨xa, hx, hp⟩ := bind_some hp
      split at h
      · rename_i hc
        simp only [Option.some.injEq, Prod.mk.injEq] at h
        obtain ⟨-, rfl, -⟩ := h
        exact stp_eqNil (.inr rfl) ho hx hp hc.1 hc.2
      · cases h
    · exact scalarO_ok h
  · exact scalarO_ok h
end
section
variable {P : Program} {F : Frm} {o : Oper} {σ : St}
def St.rowG (σ : St) (id : Nat) : Option (Nat × Nat × Nat × List (List IV) × Option (Nat × Nat × CV)) := match σ.ob[id]? with
  | some (.live (.rowG g e sz xs hot)) => some (g, e, sz, xs, hot)
  | _ => none
theorem St.rowG_ob {id g e sz : Nat} {xs : List (List IV)} {hot : Option (Nat × Nat × CV)} (h : σ.rowG id = some (g, e, sz, xs, hot)) : σ.ob[id]? = some (.live (.rowG g e sz xs hot)) := by
  unfold St.rowG at h
  split at h
  · rename_i g' e' sz' xs' hot' he
    simp only [Option.some.injEq, Prod.mk.injEq] at h
    obtain ⟨rfl, rfl, rfl, rfl, rfl⟩ := h
    exact he
  · cases h
theorem OvlRep.row {m : Mp} {w : World} {Z : Nat → Prop} {xs : List (List IV)} {uss : List (List Value)} (h : OvlRep m w Z none xs uss) : All2 (ICells w Z) xs uss :=
  ⟨h.1, fun i ys us h1 h2 => ⟨(h.2 i ys us h1 h2).1, fun j y u h3 h4 => (h.2 i ys us h1 h2).2 j y u h3 h4⟩⟩
theorem OvlRep.of_row {m : Mp} {w : World} {Z : Nat → Prop} {xs : List (List IV)} {uss : List (List Value)} (h : All2 (ICells w Z) xs uss) : OvlRep m w Z none xs uss :=
  ⟨h.1, fun i ys us h1 h2 => ⟨(h.2 i ys us h1 h2).1, fun j y u h3 h4 => (h.2 i ys us h1 h2).2 j y u h3 h4⟩⟩
/-- What is read there: a plain part of an element, or the one cell that is told apart. -/
def St.readG (σ : St) (id i sz j n : Nat) (gs : List Gs) : Option (List Prop × List CV × List Gs) := match σ.rowG id with
  | some (_, _, sz', xs, none) => match gs with
    | .ys ys :: gs => if sz = sz' ∧ j + n ≤ sz ∧ ys.length = sz then some ([xs[i]? = some ys], ivs (cutC ys j n), gs) else none
    | _ => none
  | some (_, _, sz', xs, some (hi, hj, c)) => if sz = sz' ∧ n = 1 ∧ j = hj ∧ hj < sz then some ([hi = i, i < xs.length], [c], gs) else none
  | none => none
theorem Sim.readG {m : Mp} {Z : Nat → Prop} {a : Act} {w : World} (h : Sim F m Z σ a w) {id i sz j n : Nat} {u : Value} (hx : RepC m w Z (.el id i sz j) u) {gs gs' : List Gs} {cs : List CV} {ob : List Prop} (hr : σ.readG id i sz j n gs = some (ob, cs, gs')) (hob : Obs ob) :
    cs.length = n ∧ ∃ b off us, u = .pointer (some ⟨b, off, none⟩) ∧ (∀ (j : Nat) (v : Value), us[j]? = some v → w.cell? ⟨b, off + j, none⟩ = some v) ∧ Cells m w Z cs us := by
  have cells : ∀ {g n' c' e xs hot}, σ.ob[id]? = some (.live (.rowG g e sz xs hot)) → m id = some (.slice (some ⟨g, 0, none⟩) n' c') → ∃ uss, OvlRep m w Z hot xs uss ∧ (∀ us ∈ uss, us.length = sz) ∧ ∀ (us : List Value) (k : Nat) (v : Value), uss[i]? = some us → k < sz → us[k]? = some v → w.cell? ⟨g, i * sz + k, none⟩ = some v := by
    intro g n' c' e xs hot hb h1
    obtain ⟨v, h2, c, uss, e0, ho, hc, hs⟩ := h.ob id _ hb
    refine ⟨uss, hc, hs, fun us k v hu hk hv => ?_⟩
    have := flat_get' hs hu hk
    rw [hv] at this
    exact ownsRow_cell ho e0 _ this
  obtain ⟨g, n', c', h1, rfl⟩ := hx
  unfold St.readG at hr
  split at hr
  · rename_i g' e sz' xs hb
    have hob' := St.rowG_ob hb
    obtain ⟨v, h2, c0, uss0, e0, -⟩ := h.ob id _ hob'
    obtain rfl := Option.some.inj (h1.symm.trans h2)
    simp only [Value.slice.injEq, Option.some.injEq, Addr.mk.injEq, and_true, true_and] at e0
    obtain ⟨rfl, rfl, rfl⟩ := e0
    split at hr
    · rename_i ys gs1
      split at hr
      · rename_i hl
        obtain ⟨rfl, hl, hy⟩ := hl
        simp only [Option.some.injEq, Prod.mk.injEq] at hr
        obtain ⟨rfl, rfl, rfl⟩ := hr
        obtain ⟨uss, hc, hs, hcell⟩ := cells hob' h1
        have hxi := hob.1
        obtain ⟨us, hu, hcu⟩ := hc.row.get hxi
        have hul := hs us (List.mem_of_getElem? hu)
        refine ⟨by unfold ivs; rw [List.length_map]; exact cutC_len (by omega), g, i * sz + j, cutC us j n, rfl, fun k v hv => ?_, ICells.cells (hcu.cut j n)⟩
        have hk := cutC_get hv
        have hkl : j + k < us.length := (List.getElem?_eq_some_iff.mp hk).1
        rw [Nat.add_assoc]
        exact hcell us (j + k) v hu (by omega) hk
      · cases hr
    · cases hr
  · rename_i g' e sz' xs hi hj c hb
    have hob' := St.rowG_ob hb
    obtain ⟨v, h2, c0, uss0, e0, -⟩ := h.ob id _ hob'
    obtain rfl := Option.some.inj (h1.symm.trans h2)
    simp only [Value.slice.injEq, Option.some.injEq, Addr.mk.injEq, and_true, true_and] at e0
    obtain ⟨rfl, rfl, rfl⟩ := e0
    split at hr
    · rename_i hl
      obtain ⟨rfl, rfl, rfl, hjs⟩ := hl
      simp only [Option.some.injEq, Prod.mk.injEq] at hr
      obtain ⟨rfl, rfl, rfl⟩ := hr
      obtain ⟨rfl, hil, -⟩ := hob
      obtain ⟨uss, hc, hs, hcell⟩ := cells hob' h1
      have hxi : xs[hi]? = some xs[hi] := List.getElem?_eq_getElem hil
      have hui : uss[hi]? = some (uss[hi]'(by have := hc.1; omega)) := List.getElem?_eq_getElem _
      have hul := hs _ (List.mem_of_getElem? hui)
      have h3 := hc.2 hi _ _ hxi hui
      have huj : (uss[hi]'(by have := hc.1; omega))[j]? = some ((uss[hi]'(by have := hc.1; omega))[j]'(by omega)) := List.getElem?_eq_getElem _
      have hyj : xs[hi][j]? = some (xs[hi][j]'(by have := h3.1; omega)) := List.getElem?_eq_getElem _
      have h4 := h3.2 j _ _ hyj huj
      unfold ovl at h4
      simp only [and_self, if_true] at h4
      refine ⟨rfl, g, hi * sz + j, [_], rfl, fun k v hv => ?_, All2.cons h4 All2.nil⟩
      cases k with
      | zero =>
        simp at hv
        subst hv
        rw [Nat.add_zero]
        exact hcell _ j _ hui hjs huj
      | succ k => simp at hv
    · cases hr
  · cases hr
/-- What is written there. -/
def St.writeG (σ : St) (id i sz j : Nat) (seg : List CV) (gs : List Gs) : Option (List Prop × St × List Gs) := match σ.rowG id with
  | some (g, e, sz', xs, hot) => match hot, unI seg, gs with
    | none, some sg, .ys ys :: gs => if sz = sz' ∧ j + sg.length ≤ sz ∧ ys.length = sz then some ([xs[i]? = some ys], { σ with ob := σ.ob.set id (.live (.rowG g e sz (xs.set i (laidC ys j sg)) none)) }, gs) else none
    | some (hi, hj, _), none, gs => match seg with
      | [c] => if sz = sz' ∧ j = hj ∧ hj < sz then some ([hi = i, i < xs.length], { σ with ob := σ.ob.set id (.live (.rowG g e sz xs (some (hi, hj, c)))) }, gs) else none
      | _ => none
    | _, _, _ => none
  | none => none
theorem Sim.writeG {m : Mp} {Z : Nat → Prop} {a : Act} {w : World} (h : Sim F m Z σ a w) {id i sz j : Nat} {u : Value} (hx : RepC m w Z (.el id i sz j) u) {seg : List CV} {useg : List Value} (hsg : Cells m w Z seg useg) {gs gs' : List Gs} {ob : List Prop} {σ' : St} (hr : σ.writeG id i sz j seg gs = some (ob, σ', gs')) (hob : Obs ob) :
    ∃ g off cur e, u = .pointer (some ⟨g, off, none⟩) ∧ w.heap[g]? = some (.cells cur e (0, 0)) ∧ off + useg.length ≤ cur.size ∧ Sim F m Z σ' a (w.setCells g off useg) := by
  have hsl := hsg.1
  obtain ⟨g, n', c', h1, rfl⟩ := hx
  unfold St.writeG at hr
  split at hr
  case h_2 => cases hr
  rename_i g' e sz' xs hot hb
  have hob' := St.rowG_ob hb
  obtain ⟨v, h2, c0, uss, e0, ho, hc, hs⟩ := h.ob id _ hob'
  obtain rfl := Option.some.inj (h1.symm.trans h2)
  simp only [Value.slice.injEq, Option.some.injEq, Addr.mk.injEq, and_true, true_and] at e0
  obtain ⟨rfl, rfl, rfl⟩ := e0
  have haz := h.az id _ g ⟨_, hob'⟩ h2 rfl
  have main : ∀ (us : List Value) (hot' : Option (Nat × Nat × CV)) (xs' : List (List IV)), uss[i]? = some us → j + useg.length ≤ sz → sz = sz' → xs'.length = xs.length →
      (∀ w', (∀ b, Z b → w'.heap[b]? = w.heap[b]?) → OvlRep m w' Z hot' xs' (uss.set i (laidC us j useg))) →
      ∃ g1 off cur e1, Value.pointer (some ⟨g, i * sz + j, none⟩) = .pointer (some ⟨g1, off, none⟩) ∧ w.heap[g1]? = some (.cells cur e1 (0, 0)) ∧ off + useg.length ≤ cur.size ∧ Sim F m Z { σ with ob := σ.ob.set id (.live (.rowG g e sz xs' hot')) } a (w.setCells g1 off useg) := by
    rintro us hot' xs' hu hfit rfl hxl hrep
    have hul := hs us (List.mem_of_getElem? hu)
    have hil := (List.getElem?_eq_some_iff.mp hu).1
    have hfl := flat_len' hs
    have hxu := hc.1
    have hfit2 : i * sz + j + useg.length ≤ uss.flatten.length := by
      rw [hfl]
      have : (i + 1) * sz ≤ uss.length * sz := Nat.mul_le_mul_right _ hil
      rw [Nat.succ_mul] at this
      omega
    obtain ⟨ho2, cur, hh, hfc⟩ := own_laid ho (i * sz + j) hfit2
    obtain ⟨s1, s2, s3, s4⟩ := setCells_same g useg (i * sz + j) w
    have hk : ∀ b, b < w.heap.size → some g ≠ some b → (w.setCells g (i * sz + j) useg).heap[b]? = w.heap[b]? := fun b _ hne => setCells_far useg (i * sz + j) b (fun e => hne (by rw [e]))
    refine ⟨g, i * sz + j, cur, e, rfl, hh, hfc, h.upd id _ (some g) ⟨s1, s2, s3, by omega⟩ ?_ hk (fun _ _ => rfl) (fun _ hv => hv) (St.lt_of_ob hob') (by simp) ?_⟩
    · rintro b e'
      obtain rfl := Option.some.inj e'
      exact ⟨haz.1, haz.2, fun i v hi hl hv hb => hi (h.ap i id v _ g hl ⟨_, hob'⟩ hv h2 hb rfl)⟩
    · intro o ho'
      obtain rfl := Slot.live.inj ho'
      have hkz : ∀ b, Z b → (w.setCells g (i * sz + j) useg).heap[b]? = w.heap[b]? := fun b hz => hk b (h.zb b hz) fun e => haz.1 (by rw [Option.some.inj e]; exact hz)
      refine ⟨_, h2, ⟨c', uss.set i (laidC us j useg), by rw [hxl], ?_, hrep _ hkz, ?_⟩, fun b hb => .inl (by simpa [Value.ownBlock] using hb)⟩
      · rw [hxl, flat_laid' hs hu (by omega)]
        exact ho2
      · intro us' hu'
        rcases List.mem_or_eq_of_mem_set hu' with h5 | h5
        · exact hs us' h5
        · rw [h5, laidC_len (by omega)]; exact hul
  have hxu := hc.1
  split at hr
  · rename_i sg ys gs1 hsg0
    obtain rfl := unI_spec hsg0
    have hsg' := Cells.ivs hsg
    have hsl' := hsg'.1
    split at hr
    · rename_i hl
      obtain ⟨rfl, hl, hy⟩ := hl
      simp only [Option.some.injEq, Prod.mk.injEq] at hr
      obtain ⟨rfl, rfl, rfl⟩ := hr
      have hxi := hob.1
      have hcr := hc.row
      obtain ⟨us, hu, hcu⟩ := hcr.get hxi
      have hul := hs us (List.mem_of_getElem? hu)
      refine main us none _ hu (by omega) rfl (by simp) fun w' hk => OvlRep.of_row ?_
      exact All2.imp (hcr.set i (All2.laid hcu hsg' j)) fun _ _ h => ICells.keep h hk fun _ h => h
    · cases hr
  · rename_i hi hj d _
    split at hr
    · rename_i c hun
      split at hr
      · rename_i hl
        obtain ⟨rfl, rfl, hjs⟩ := hl
        simp only [Option.some.injEq, Prod.mk.injEq] at hr
        obtain ⟨rfl, rfl, rfl⟩ := hr
        obtain ⟨rfl, hil, -⟩ := hob
        have hui : uss[hi]? = some (uss[hi]'(by omega)) := List.getElem?_eq_getElem _
        have hul := hs _ (List.mem_of_getElem? hui)
        obtain ⟨v1, rfl⟩ : ∃ v1, useg = [v1] := List.length_eq_one_iff.mp hsl.symm
        refine main _ (some (hi, j, c)) xs hui (by simp; omega) rfl rfl fun w' hk => ⟨by simp [hxu], fun i' ys us h3 h4 => ?_⟩
        have hkk : ∀ {x : CV} {u : Value}, RepC m w Z x u → RepC m w' Z x u := fun hx => hx.keep (fun _ _ h => h) hk fun _ h => h
        have hv1 : RepC m w Z c v1 := hsg.2 0 _ _ rfl rfl
        by_cases e1 : hi = i'
        · subst e1
          rw [List.getElem?_set_self (by omega)] at h4
          obtain rfl := Option.some.inj h4
          have h5 := hc.2 hi ys _ h3 hui
          refine ⟨by rw [laidC_len (by simp; omega)]; exact h5.1, fun j' y u h6 h7 => ?_⟩
          by_cases e2 : j = j'
          · subst e2
            have : (laidC uss[hi] j [v1])[j]? = some v1 := by
              unfold laidC
              rw [List.append_assoc, List.getElem?_append_right (by simp; omega)]
              simp
              rw [show j - min j uss[hi].length = 0 by omega]
              rfl
            rw [this] at h7
            obtain rfl := Option.some.inj h7
            unfold ovl
            simp only [and_self, if_true]
            exact hkk hv1
          · have h8 : (laidC uss[hi] j [v1])[j']? = uss[hi][j']? := by
              unfold laidC
              rw [List.append_assoc]
              by_cases hlt : j' < j
              · rw [List.getElem?_append_left (by simp; omega), List.getElem?_take_of_lt hlt]
              · rw [List.getElem?_append_right (by simp; omega), List.getElem?_append_right (by simp; omega), List.getElem?_drop]
                congr 1
                simp
                omega
            rw [h8] at h7
            have h9 := h5.2 j' y u h6 h7
            unfold ovl at h9 ⊢
            simp only [show ¬ (j' = j) from fun e => e2 e.symm, and_false, if_false] at h9 ⊢
            exact hkk h9
        · rw [List.getElem?_set_ne e1] at h4
          have h5 := hc.2 i' ys us h3 h4
          refine ⟨h5.1, fun j' y u h6 h7 => ?_⟩
          have h9 := h5.2 j' y u h6 h7
          unfold ovl at h9 ⊢
          simp only [show ¬ (i' = hi) from fun e => e1 e.symm, false_and, if_false] at h9 ⊢
          exact hkk h9
      · cases hr
    · cases hr
  · cases hr
theorem stp_loadG {t : TypeId} {x : Operand} {id i sz j n : Nat} {ag : Bool} {gs gs' : List Gs} {cs : List CV} {ob : List Prop} {z : TV} (ho : o.op = .load t x) (hx : σ.ev x = some (.t (.c (.el id i sz j)))) (hag : aggP P t = some ag) (hsz : sizeP P t = some n)
    (hr : σ.readG id i sz j n gs = some (ob, cs, gs')) (hz : mkT ag cs = some z) (hob : Obs ob) : Stp P F o σ (σ.put o.dst (.t z)) := by
  intro m Z a w h K Q hK
  obtain ⟨hl, b, off, us, hu, hc, hcs⟩ := h.readG (h.ev hx) hr hob
  obtain ⟨h1, h2⟩ := mkT_rep hcs hz
  have hrun := run_load_cells (P := P) (w := w) hag (by rw [hsz, ← hl, hcs.1]) hc h2
  exact wp_value (u := mkV ag us) (by unfold execOp; rw [ho]; simp only [hu, Sem.run_bind, hrun, Result.andThen_ok, Sem.run_pure]) (hK m Z _ _ (h.putO o.dst h1) (Act.put_defers ..))
theorem stp_storeG {t : TypeId} {x y : Operand} {id i sz j : Nat} {ya : AV} {z : TV} {gs gs' : List Gs} {ob : List Prop} {σ' : St} (ho : o.op = .store t x y) (hd : o.dst = none) (hx : σ.ev x = some (.t (.c (.el id i sz j)))) (hy : σ.ev y = some ya) (hz : ya.tv = some z)
    (hsz : sizeP P t = some z.cells.length) (hr : σ.writeG id i sz j z.cells gs = some (ob, σ', gs')) (hob : Obs ob) : Stp P F o σ σ' := by
  intro m Z a w h K Q hK
  have hc := ((h.ev hy).tv hz).cells
  obtain ⟨g, off, cur, e, hu, hh, hfit, h2⟩ := h.writeG (h.ev hx) hc hr hob
  have hrun := run_store_run (P := P) t (a.eval y) (a.eval y).cells.toList hh rfl (by rw [← hc.1]; exact hsz) hfit hc.one
  refine wp_skip' (w' := w.setCells g off (a.eval y).cells.toList) (by unfold execOp; rw [ho]; simp only [hu, Sem.run_bind, hrun, Result.andThen_ok, Sem.run_pure]) ?_
  rw [hd]
  exact hK m Z _ _ h2 rfl
theorem stp_indexG {t e e' sz id g : Nat} {x y : Operand} {xa ya : AV} {xs : List (List IV)} {hot : Option (Nat × Nat × CV)} {i : Int} (ho : o.op = .indexAddr t x y) (hx : σ.ev x = some xa) (hy : σ.ev y = some ya) (hs : xa.own = some id) (hr : σ.rowG id = some (g, e', sz, xs, hot)) (hi : ya.int = some i) (ht : elemP P t = some e) (hsz : sizeP P e = some sz)
    (hob : Obs [0 ≤ i, i < xs.length]) : Stp P F o σ (σ.put o.dst (.t (.c (.el id i.toNat sz 0)))) := by
  intro m Z a w h K Q hK
  obtain ⟨h0, hg, -⟩ := hob
  obtain ⟨k, hk⟩ := (h.ev hy).int hi
  have hm := (h.ev hx).own hs
  obtain ⟨v, h2, c, uss, rfl, -⟩ := h.ob id _ (St.rowG_ob hr)
  have hu := Option.some.inj (hm.symm.trans h2)
  refine wp_value (u := .pointer (some ⟨g, 0 + i.toNat * sz, none⟩)) (by unfold execOp; rw [ho]; simp only [hu, hk, Sem.run_bind, run_indexAt' ht hsz h0 hg, Result.andThen_ok, Sem.run_pure]) (hK m Z _ _ (h.putO o.dst (x := .t (.c (.el id i.toNat sz 0))) ?_) (Act.put_defers ..))
  exact ⟨g, _, c, h2, by simp⟩
/-- A pointer into a row whose block is named, told by the block. -/
def rawC (σ : St) : CV → CV
  | .el id i sz j => match σ.rowG id with
    | some (g, _) => .i (.op (.pointer (some ⟨g, i * sz + j, none⟩)))
    | none => .el id i sz j
  | x => x
theorem Sim.rawC {m : Mp} {Z : Nat → Prop} {a : Act} {w : World} (h : Sim F m Z σ a w) {x : CV} {u : Value} (hx : RepC m w Z x u) : RepC m w Z (AB.rawC σ x) u := by
  cases x with
  | el id i sz j =>
    unfold AB.rawC
    simp only
    split
    · rename_i g q hr
      obtain ⟨e, sz', xs, hot⟩ := q
      obtain ⟨v, h2, c, uss, rfl, -⟩ := h.ob id _ (St.rowG_ob hr)
      obtain ⟨g', n', c', h1, rfl⟩ := hx
      obtain rfl := (by simpa using h1.symm.trans h2 : g' = g ∧ _).1
      exact RepI.op rfl
    · exact hx
  | _ => exact hx
theorem Sim.rawT {m : Mp} {Z : Nat → Prop} {a : Act} {w : World} (h : Sim F m Z σ a w) {x : TV} {u : Value} (hx : RepT m w Z x u) : RepT m w Z (x.map (AB.rawC σ)) u := by
  cases x with
  | c x => exact h.rawC (x := x) hx
  | agg xs =>
    obtain ⟨us, e, hc⟩ := hx
    refine ⟨us, e, by rw [List.length_map]; exact hc.1, fun j x u hx hu => ?_⟩
    rw [List.getElem?_map] at hx
    cases he : xs[j]? with
    | none => rw [he] at hx; cases hx
    | some y => rw [he] at hx; obtain rfl := Option.some.inj hx; exact h.rawC (hc.2 j y u he hu)
theorem rowG_room (σ : St) (id : Nat) : (room1 σ).rowG id = σ.rowG id := by
  unfold St.rowG room1
  simp only
  by_cases hl : id < σ.ob.length
  · rw [List.getElem?_append_left hl]
  · rw [List.getElem?_append_right (by omega), List.getElem?_eq_none (l := σ.ob) (by omega)]
    cases id - σ.ob.length with
    | zero => rfl
    | succ k => rfl
theorem rawC_room (σ : St) : rawC (room1 σ) = rawC σ := by
  funext x
  cases x with
  | el id i sz j => unfold rawC; simp only [rowG_room]
  | _ => rfl
def evPartsR (σ : St) (l : List (Nat × Operand)) : Option (List (Nat × TV)) := (evParts σ l).map fun ps => ps.map fun p => (p.1, p.2.map (rawC σ))
theorem Sim.partsR {m : Mp} {Z : Nat → Prop} {a : Act} {w : World} (h : Sim F m Z σ a w) {l : List (Nat × Operand)} {r : List (Nat × TV)} (he : evPartsR σ l = some r) : All2 (fun (p : Nat × TV) (q : Nat × Value) => p.1 = q.1 ∧ RepT m w Z p.2 q.2) r (l.map fun q => (q.1, a.eval q.2)) := by
  obtain ⟨ps, hp, rfl⟩ := Option.map_eq_some_iff.1 he
  have h1 := h.parts l hp
  refine ⟨by rw [List.length_map]; exact h1.1, fun j x u hx hu => ?_⟩
  rw [List.getElem?_map] at hx
  cases hy : ps[j]? with
  | none => rw [hy] at hx; cases hx
  | some y =>
    rw [hy] at hx
    obtain rfl := Option.some.inj hx
    have h2 := h1.2 j y u hy hu
    exact ⟨h2.1, h.rawT h2.2⟩
end
def unV : List CV → Option (List Value)
  | [] => some []
  | .i (.v u) :: l => (unV l).map (u :: ·)
  | _ => none
theorem unV_len : ∀ {cs : List CV} {us : List Value}, unV cs = some us → us.length = cs.length
  | [], us, h => by
    simp only [unV, Option.some.injEq] at h
    subst h
    rfl
  | .i (.v u) :: l, us, h => by
    simp only [unV, Option.map_eq_some_iff] at h
    obtain ⟨us', h1, rfl⟩ := h
    simp [unV_len h1]
theorem unV_rep {m : Mp} {w : World} {Z : Nat → Prop} : ∀ {cs : List CV} {us vs : List Value}, unV cs = some us → Cells m w Z cs vs → vs = us
  | [], us, vs, h, hc => by
    simp only [unV, Option.some.injEq] at h
    subst h
    exact List.length_eq_zero_iff.mp hc.1.symm
  | .i (.v u) :: l, us, vs, h, hc => by
    simp only [unV, Option.map_eq_some_iff] at h
    obtain ⟨us', h1, rfl⟩ := h
    cases vs with
    | nil => simp [All2] at hc
    | cons v vs =>
      have h0 : RepI w Z (.v u) v := hc.2 0 _ _ rfl rfl
      cases h0
      have hr : Cells m w Z l vs := ⟨by simpa using hc.1, fun j x y h1 h2 => hc.2 (j + 1) x y h1 h2⟩
      rw [unV_rep h1 hr]
def eqV (P : Program) (t : TypeId) (a b : Value) : Option Bool := match P.underlying t, a, b with
  | some (.int _), .int k x, .int k' y => if k = k' then some (x == y) else none
  | some .bool, .bool x, .bool y => some (x == y)
  | some .string, .string x, .string y => some (x.toList == y.toList)
  | _, _, _ => none
theorem eqV_ok {P : Program} {t : TypeId} {a b : Value} {r : Bool} (h : eqV P t a b = some r) (d : Nat) (w : World) : (Op.equalIn (d + 1) t a b).run P w = .ok r w := by
  unfold eqV at h
  split at h
  · rename_i k0 k x k' y hu
    split at h
    · rename_i hk
      subst hk
      obtain rfl := Option.some.inj h
      exact run_equalIn_int w d t k k0 x y hu
    · cases h
  · rename_i x y hu
    obtain rfl := Option.some.inj h
    exact run_equalIn_bool w d t x y hu
  · rename_i x y hu
    obtain rfl := Option.some.inj h
    exact run_equalIn_string w d t x y hu
  · cases h
theorem eqV_part {P : Program} {t : TypeId} {a b : Value} {r : Bool} (h : eqV P t a b = some r) {cs : Array Value} {off : Nat} {v : Value} (hv : cs[off]? = some v) (w : World) : (part t cs off).run P w = .ok v w := by
  have hb : (isAgg t).run P w = .ok false w := by
    unfold eqV at h
    split at h
    · rename_i hu
      simp only [isAgg, Sem.run_bind, run_underlying hu, Result.andThen_ok]
      rfl
    · rename_i hu
      simp only [isAgg, Sem.run_bind, run_underlying hu, Result.andThen_ok]
      rfl
    · rename_i hu
      simp only [isAgg, Sem.run_bind, run_underlying hu, Result.andThen_ok]
      rfl
    · cases h
  simp [part, hb, hv]
def eqF (P : Program) (us vs : List Value) : List Field → Option Bool
  | [] => some true
  | f :: fs => if f.name = "_" then none else match us[f.offset]?, vs[f.offset]? with
    | some a, some b => match eqV P f.type a b, eqF P us vs fs with
      | some r, some s => some (r && s)
      | _, _ => none
    | _, _ => none
theorem eqF_ok {P : Program} {us vs : List Value} (d : Nat) (w : World) : ∀ {fs : List Field} {r : Bool}, eqF P us vs fs = some r → (Op.eqFields (d + 1) us.toArray vs.toArray fs).run P w = .ok r w
  | [], r, h => by
    obtain rfl := Option.some.inj h
    simp [Op.eqFields]
  | f :: fs, r, h => by
    rw [eqF] at h
    split at h
    · cases h
    · rename_i hn
      split at h
      · rename_i a b ha hb
        split at h
        · rename_i r' s' h1 h2
          obtain rfl := Option.some.inj h
          have e1 := eqV_part h1 (cs := us.toArray) (off := f.offset) (v := a) (by simpa using ha) w
          have e2 := eqV_part h1 (cs := vs.toArray) (off := f.offset) (v := b) (by simpa using hb) w
          have e3 := eqV_ok h1 d w
          have e4 := eqF_ok d w h2
          rw [Op.eqFields]
          simp only [if_pos (show f.name ≠ "_" from hn), Sem.run_bind, e1, e2, e3, Result.andThen_ok]
          cases r'
          · simp
          · simpa using e4
        · cases h
      · cases h
def eqA (P : Program) (t : TypeId) (us vs : List Value) : Option Bool := match P.underlying t with
  | some (.struct fs) => if P.stoodInHeld t = false ∧ P.eqGuardType P.depth t = false then eqF P us vs fs.toList else none
  | _ => none
def eqOp : BinOp → Option Bool
  | .eql => some false
  | .neq => some true
  | _ => none
theorem eqA_run {P : Program} {t : TypeId} {us vs : List Value} {r : Bool} (h : eqA P t us vs = some r) (w : World) : (Op.equalIn 10000 t (.agg us.toArray) (.agg vs.toArray)).run P w = .ok r w ∧ P.eqGuardType P.depth t = false := by
  unfold eqA at h
  split at h
  · rename_i fs hu
    split at h
    · rename_i hc
      have hf : P.fieldsOf t = fs := by simp [Program.fieldsOf, hu]
      refine ⟨?_, hc.2⟩
      rw [show (10000 : Nat) = 9998 + 1 + 1 from rfl, run_equalIn_struct (P := P) w (9998 + 1) t us.toArray vs.toArray (by rw [hf]; exact hu) hc.1, hf]
      exact eqF_ok 9998 w h
    · cases h
  · cases h
section
variable {P : Program} {F : Frm} {o : Oper} {σ : St}
theorem stp_eqA {op : BinOp} {t u : TypeId} {x y : Operand} {ya yb : AV} {cs ds : List CV} {us vs : List Value} {ng r : Bool} (ho : o.op = .binOp op t x y u) (hop : eqOp op = some ng) (hx : σ.ev x = some ya) (hy : σ.ev y = some yb) (h1 : ya.aggs = some cs) (h2 : yb.aggs = some ds) (hu : unV cs = some us) (hv : unV ds = some vs) (hr : eqA P t us vs = some r) :
    Stp P F o σ (σ.put o.dst (.t (.c (.i (.v (.bool (bif ng then !r else r))))))) := by
  intro m Z a w h K Q hK
  have ex : a.eval x = .agg us.toArray := by
    have hq := h.ev hx
    unfold AV.aggs at h1
    split at h1
    · obtain rfl := Option.some.inj h1
      obtain ⟨vs', e, hc⟩ := hq
      rw [e, unV_rep hu hc]
    · cases h1
  have ey : a.eval y = .agg vs.toArray := by
    have hq := h.ev hy
    unfold AV.aggs at h2
    split at h2
    · obtain rfl := Option.some.inj h2
      obtain ⟨vs', e, hc⟩ := hq
      rw [e, unV_rep hv hc]
    · cases h2
  obtain ⟨e1, e2⟩ := eqA_run hr w
  refine wp_value (u := .bool (bif ng then !r else r)) (w' := w) ?_ (hK m Z _ _ (h.putO o.dst (x := .t (.c (.i (.v (.bool (bif ng then !r else r)))))) (RepI.v rfl)) (Act.put_defers ..))
  have hg := run_eqGuard_agg (P := P) w op t x y us.toArray vs.toArray e2
  unfold execOp
  rw [ho]
  simp only [ex, ey]
  cases op <;> simp only [eqOp, Option.some.injEq, reduceCtorEq] at hop
  · subst hop
    simp [hg, run_eql_struct, e1]
  · subst hop
    simp [hg, run_neq_struct, e1]
end
section
variable {P : Program} {F : Frm} {o : Oper} {σ : St}
def arrP (P : Program) (t : TypeId) : Option (Nat × TypeId) := match P.underlying t with
  | some (.array n e) => some (n, e)
  | _ => none
theorem arrP_spec {t e n : Nat} (h : arrP P t = some (n, e)) : P.underlying t = some (.array n e) := by
  unfold arrP at h
  split at h
  · rename_i n' e' hu
    simp only [Option.some.injEq, Prod.mk.injEq] at h
    obtain ⟨rfl, rfl⟩ := h
    exact hu
  · cases h
def AV.ptI : AV → Option (List IV)
  | .t (.c (.i (.pt cs))) => some cs
  | _ => none
theorem stp_indexA {t e n sz : Nat} {x y : Operand} {xa ya : AV} {cs ys : List IV} {i : Int} (ho : o.op = .indexAddr t x y) (hx : σ.ev x = some xa) (hy : σ.ev y = some ya) (hs : xa.ptI = some cs) (hi : ya.int = some i) (ht : arrP P t = some (n, e)) (hsz : sizeP P e = some sz)
    (hob : Obs [0 ≤ i, i < (n : Int), cutC cs (i.toNat * sz) sz = ys]) : Stp P F o σ (σ.put o.dst (.t (.c (.i (.pt ys))))) := by
  intro m Z a w h K Q hK
  obtain ⟨h0, h1, rfl, -⟩ := hob
  obtain ⟨k, hk⟩ := (h.ev hy).int hi
  have hr := h.ev hx
  have hu := arrP_spec ht
  obtain ⟨i0, hi0, hsz0⟩ := Option.map_eq_some_iff.1 hsz
  subst hsz0
  unfold AV.ptI at hs
  split at hs
  · rename_i cs'
    obtain rfl := Option.some.inj hs
    have hr : RepI w Z (.pt cs') (a.eval x) := hr
    generalize hux : a.eval x = u at hr
    cases hr with
    | pt val hb hcell hrep =>
      rename_i b o'
      refine wp_value (u := .pointer (some ⟨b, o' + i.toNat * i0.size, none⟩)) (w' := w) ?_ (hK m Z _ _ (h.putO o.dst (x := .t (.c (.i (.pt (cutC cs' (i.toNat * i0.size) i0.size))))) ?_) (Act.put_defers ..))
      · unfold execOp
        rw [ho]
        simp [hux, hk, Instr.indexAt, run_underlying hu, asIntOf, Instr.sureAddr, h0, h1, sizeOf, typeInfo, hi0, add_o]
      · refine RepI.pt (fun j => val (i.toNat * i0.size + j)) hb (fun j hj => ?_) (fun j y hy => hrep _ y (cutC_get hy))
        have hj2 := (List.getElem?_eq_some_iff.mp (cutC_get (List.getElem?_eq_getElem hj))).1
        rw [Nat.add_assoc]
        exact hcell _ hj2
  · cases hs
def byteC : List IV → Int
  | [.v (.int _ n)] => n
  | _ => 0
def bytesI (l : List Int) : ByteArray := l.foldl (fun r n => r.push (UInt8.ofNat n.toNat)) ByteArray.empty
def bytesC (xs : List (List IV)) : ByteArray := bytesI (xs.map byteC)
def bytesOk (xs : List (List IV)) : Prop := ∀ ys ∈ xs, ∃ n, ys = [.v (.int .u8 n)]
def isBytes (P : Program) (s d : TypeId) : Bool := match P.underlying s, P.underlying d with
  | some (.slice e), some .string => match P.underlying e, sizeP P e with
    | some (.int .u8), some 1 => true
    | _, _ => false
  | _, _ => false
theorem bytes_flat {w : World} {Z : Nat → Prop} : ∀ {xs : List (List IV)} {uss : List (List Value)}, bytesOk xs → All2 (ICells w Z) xs uss → uss.flatten = (xs.map byteC).map (Value.int .u8)
  | [], uss, _, h => by
    have := h.1
    match uss, this with
    | [], _ => rfl
  | x :: xs, uss, hb, h => by
    have hl := h.1
    match uss, hl with
    | us :: uss, _ =>
      obtain ⟨n, rfl⟩ := hb x (by simp)
      have h0 : ICells w Z [.v (.int .u8 n)] us := h.2 0 _ us rfl rfl
      have hl0 := h0.1
      match us, hl0 with
      | [u], _ =>
        have h1 : RepI w Z (.v (.int .u8 n)) u := h0.2 0 _ u rfl rfl
        cases h1
        have ih := bytes_flat (xs := xs) (uss := uss) (fun y hy => hb y (by simp [hy])) ⟨by simpa using h.1, fun j y v hy hv => h.2 (j + 1) y v (by simpa using hy) (by simpa using hv)⟩
        simp [ih, byteC]
theorem stp_bytesS {s d : TypeId} {x : Operand} {xa : AV} {xs : List (List IV)} (ho : o.op = .convert s d x) (ht : isBytes P s d = true) (hx : σ.ev x = some xa) (hn : σ.elems 1 xa = some xs) (hob : Obs [bytesOk xs]) : Stp P F o σ (σ.put o.dst (.t (.c (.i (.v (.string (bytesC xs))))))) := by
  intro m Z a w h K Q hK
  have hb := hob.1
  unfold isBytes at ht
  split at ht
  · rename_i e hs hd
    split at ht
    · rename_i he hse
      obtain ⟨A, c, uss, hu, hA, h1, h2, h3⟩ := h.elems (h.ev hx) hn
      have hflat := bytes_flat hb h1
      have hl : uss.length = xs.length := h1.1.symm
      have hfl : uss.flatten.length = xs.length := by rw [hflat]; simp
      refine wp_value (u := .string (bytesC xs)) (w' := w) ?_ (hK m Z _ _ (h.putO o.dst (x := .t (.c (.i (.v (.string (bytesC xs)))))) (RepI.v rfl)) (Act.put_defers ..))
      unfold execOp
      rw [ho]
      simp only [Sem.run_bind, hu, run_convert_bytes_string (P := P) w s d e A xs.length c hs he hd]
      cases A with
      | none =>
        have := hA rfl
        rw [hu] at this
        simp only [Value.slice.injEq, true_and] at this
        have hx0 : xs = [] := List.eq_nil_of_length_eq_zero this.1
        subst hx0
        rfl
      | some ad =>
        have hrun : (loadCells ad xs.length).run P w = .ok ((xs.map byteC).map (Value.int .u8)).toArray w := by
          have := run_loadCells_list (P := P) (w := w) ad uss.flatten (fun j v hj => h3 ad rfl j v hj)
          rw [hfl, hflat] at this
          exact this
        rw [run_bytesToString w ad xs.length c (xs.map byteC) hrun]
        rfl
    · cases ht
  · cases ht
/-- One step, and these. -/
def stepY (P : Program) (o : Oper) (gs : List Gs) (σ : St) : Option (List Prop × St × List Gs) :=
  match stepO P o gs σ with
  | some r => some r
  | none => match o.op with
    | .indexAddr t x y => match (σ.ev x).bind AV.ptI, (σ.ev y).bind AV.int, arrP P t, gs with
      | some cs, some i, some (n, e), .ys ys :: gs => match sizeP P e with
        | some sz => some ([0 ≤ i, i < (n : Int), cutC cs (i.toNat * sz) sz = ys], σ.put o.dst (.t (.c (.i (.pt ys)))), gs)
        | none => none
      | _, some i, _, gs => match elemP P t, (σ.ev x).bind AV.own with
        | some e, some id => match sizeP P e, σ.rowG id with
          | some sz, some (_, _, sz', xs, _) => if sz = sz' then some ([0 ≤ i, i < xs.length], σ.put o.dst (.t (.c (.el id i.toNat sz 0))), gs) else none
          | _, _ => none
        | _, _ => none
      | _, _, _, _ => none
    | .load t x => match σ.ev x, aggP P t, sizeP P t with
      | some (.t (.c (.el id i sz j))), some ag, some n => match σ.readG id i sz j n gs with
        | some (ob, cs, gs') => match mkT ag cs with
          | some z => some (ob, σ.put o.dst (.t z), gs')
          | none => none
        | none => none
      | _, _, _ => none
    | .store t x y => match o.dst, σ.ev x, (σ.ev y).bind AV.tv, sizeP P t with
      | none, some (.t (.c (.el id i sz j))), some z, some n => if n = z.cells.length then σ.writeG id i sz j z.cells gs else none
      | _, _, _, _ => none
    | .buildSlice t len parts => match elemP P t, evPartsR σ parts.toList with
      | some e, some ps => match elP P e with
        | some (zs, sz, _) => if len * sz ≤ 16777216 then match (fillC (fun i => some (i * sz, sz)) (List.replicate len (zs.map fun u => CV.i (.v u))).flatten ps).bind unI with
            | some is => some ([], St.put { σ with ob := (room1 σ).ob.set σ.ob.length (.live (.row e sz (chunk sz len is))) } o.dst (.t (.c (.os σ.ob.length))), gs)
            | none => none
          else none
        | none => none
      | _, _ => none
    | .convert s d x => if isBytes P s d = true then match (σ.ev x).bind (σ.elems 1) with
        | some xs => some ([bytesOk xs], σ.put o.dst (.t (.c (.i (.v (.string (bytesC xs)))))), gs)
        | none => none
      else none
    | .binOp op t x y _ => match eqOp op, (σ.ev x).bind AV.aggs, (σ.ev y).bind AV.aggs with
      | some ng, some cs, some ds => match unV cs, unV ds with
        | some us, some vs => match eqA P t us vs with
          | some r => some ([], σ.put o.dst (.t (.c (.i (.v (.bool (bif ng then !r else r)))))), gs)
          | none => none
        | _, _ => none
      | _, _, _ => none
    | _ => none
theorem stepY_ok {gs gs' : List Gs} {σ' : St} {ob : List Prop} (h : stepY P o gs σ = some (ob, σ', gs')) (hob : Obs ob) : Stp P F o σ σ' := by
  unfold stepY at h
  split at h
  · rename_i r hr
    obtain rfl := Option.some.inj h
    exact stepO_ok hr hob
  · split at h
    · rename_i t x y ho
      split at h
      · rename_i cs i n e ys gs1 hx hy ht _
        obtain ⟨xa, hx, hs⟩ := bind_some hx
        obtain ⟨ya, hy, hi⟩ := bind_some hy
        split at h
        · rename_i sz hsz
          simp only [Option.some.injEq, Prod.mk.injEq] at h
          obtain ⟨rfl, rfl, -⟩ := h
          exact stp_indexA ho hx hy hs hi ht hsz hob
        · cases h
      · have hy := ‹(σ.ev y).bind AV.int = some _›
        obtain ⟨ya, hy, hi⟩ := bind_some hy
        split at h
        · rename_i e id he hx
          obtain ⟨xa, hx, hs⟩ := bind_some hx
          split at h
          · rename_i sz g e' sz' xs hot hsz hr
            split at h
            · rename_i e1
              subst e1
              simp only [Option.some.injEq, Prod.mk.injEq] at h
              obtain ⟨rfl, rfl, -⟩ := h
              exact stp_indexG ho hx hy hs hr hi he hsz hob
            · cases h
          · cases h
        · cases h
      · cases h
    · rename_i t x ho
      split at h
      · rename_i id i sz j ag n hx hag hsz
        split at h
        · rename_i ob' cs gs2 hr
          split at h
          · rename_i z hz
            simp only [Option.some.injEq, Prod.mk.injEq] at h
            obtain ⟨rfl, rfl, -⟩ := h
            exact stp_loadG ho hx hag hsz hr hz hob
          · cases h
        · cases h
      · cases h
    · rename_i t x y ho
      split at h
      · rename_i id i sz j z n hd hx hy hsz
        obtain ⟨ya, hy, hz⟩ := bind_some hy
        split at h
        · rename_i hn
          exact stp_storeG ho hd hx hy hz (hn ▸ hsz) h hob
        · cases h
      · cases h
    · rename_i t len parts ho
      split at h
      · rename_i e ps he hps
        split at h
        · rename_i zs sz by_ hel
          split at h
          · rename_i hsm
            split at h
            · rename_i is hf
              obtain ⟨cs, hf, hi⟩ := bind_some hf
              simp only [Option.some.injEq, Prod.mk.injEq] at h
              obtain ⟨-, rfl, -⟩ := h
              have hps' : evPartsR (room1 σ) parts.toList = some ps := by
                obtain ⟨qs, hq, rfl⟩ := Option.map_eq_some_iff.1 hps
                unfold evPartsR
                rw [evParts_room, hq]
                simp only [Option.map_some, rawC_room]
              exact Stp.room (stp_buildSliceR ho he hel hsm (fun m Z a w hs => hs.partsR hps') hf hi (room1_free σ))
            · cases h
          · cases h
        · cases h
      · cases h
    · rename_i s d x ho
      split at h
      · rename_i ht
        split at h
        · rename_i xs hx
          obtain ⟨xa, hx, hn⟩ := bind_some hx
          simp only [Option.some.injEq, Prod.mk.injEq] at h
          obtain ⟨rfl, rfl, -⟩ := h
          exact stp_bytesS ho ht hx hn hob
        · cases h
      · cases h
    · rename_i op t x y u ho
      split at h
      · rename_i ng cs ds hop hx hy
        obtain ⟨xa, hx, h1⟩ := bind_some hx
        obtain ⟨ya, hy, h2⟩ := bind_some hy
        split at h
        · rename_i us vs hu hv
          split at h
          · rename_i r hr
            simp only [Option.some.injEq, Prod.mk.injEq] at h
            obtain ⟨-, rfl, -⟩ := h
            exact stp_eqA ho hop hx hy h1 h2 hu hv hr
          · cases h
        · cases h
      · cases h
    · cases h
theorem bytesOk_map {l : List Int} : bytesOk (l.map fun x => [.v (.int .u8 x)]) := by
  intro ys hy
  obtain ⟨n, -, rfl⟩ := List.mem_map.mp hy
  exact ⟨n, rfl⟩
theorem bytesC_map (l : List Int) : bytesC (l.map fun x => [.v (.int .u8 x)]) = bytesI l := by
  unfold bytesC
  rw [List.map_map]
  congr 1
  induction l with
  | nil => rfl
  | cons x l ih => simp only [List.map_cons, ih]; rfl
/-- An element of a table. -/
def inR (i : Int) (n : Nat) : Bool := decide (0 ≤ i) && decide (i < (n : Int))
theorem tab_el {α : Type} [Inhabited α] (e : α → List IV) {cs : List IV} {l : List α} {sz : Nat} {i : Int} (h : cs = (l.map e).flatten) (hsz : ∀ x, (e x).length = sz) (c : inR i l.length = true) : cutC cs (i.toNat * sz) sz = e (l.getD i.toNat default) := by
  subst h
  have h1 : 0 ≤ i ∧ i < (l.length : Int) := by simpa [inR] using c
  generalize hk : i.toNat = k
  have hk2 : k < l.length := by omega
  clear hk h1 c
  have hd : default = (default : α) := rfl
  induction l generalizing k with
  | nil => simp at hk2
  | cons x l ih =>
    cases k with
    | zero =>
      simp only [List.map_cons, List.flatten_cons, cutC, Nat.zero_mul, List.drop_zero]
      rw [List.take_append_of_le_length (by rw [hsz]; exact Nat.le_refl _), List.take_of_length_le (by rw [hsz]; exact Nat.le_refl _)]
      rfl
    | succ k =>
      have := ih k (by simpa using hk2)
      simp only [List.map_cons, List.flatten_cons, cutC] at this ⊢
      rw [List.drop_append, List.drop_of_length_le (by rw [hsz, Nat.succ_mul]; omega), List.nil_append, hsz, show (k + 1) * sz - sz = k * sz by rw [Nat.succ_mul]; omega]
      rw [this]
      rfl
end
end Go.Proofs.YtljdidlkiknknaaDoor.AB
namespace Go.Proofs.YtljdidlkiknknaaDoor.AB
open Go Go.RowKit Go.Proofs.YtljdidlkiknknaaDoorW.PrintWords Go.Proofs.YtljdidlkiknknaaDoorW.PrintMore
set_option linter.unusedSimpArgs false
set_option linter.unusedVariables false
section
variable {P : Program} {F : Frm} {σ : St}
theorem Obs_app {l l' : List Prop} : Obs (l ++ l') → Obs l ∧ Obs l' := by
  induction l with
  | nil => exact fun h => ⟨trivial, h⟩
  | cons p l ih => exact fun h => ⟨⟨h.1, (ih h.2).1⟩, (ih h.2).2⟩
def SimX (F : Frm) (σ : St) (a : Act) (w : World) : Prop := ∃ m Z, Sim F m Z σ a w
def fzs : List Gs → St → Option (St × List Gs)
  | .fz id :: gs, σ => (σ.freeze id).bind fun σ' => fzs gs σ'
  | gs, σ => some (σ, gs)
theorem fzs_ok : ∀ {gs gs' : List Gs} {σ σ' : St}, fzs gs σ = some (σ', gs') → ∀ {a : Act} {w : World}, SimX F σ a w → SimX F σ' a w
  | [], gs', σ, σ', h, a, w, hs => by simp only [fzs, Option.some.injEq, Prod.mk.injEq] at h; obtain ⟨rfl, -⟩ := h; exact hs
  | .ys _ :: gs, gs', σ, σ', h, a, w, hs => by simp only [fzs, Option.some.injEq, Prod.mk.injEq] at h; obtain ⟨rfl, -⟩ := h; exact hs
  | .r _ :: gs, gs', σ, σ', h, a, w, hs => by simp only [fzs, Option.some.injEq, Prod.mk.injEq] at h; obtain ⟨rfl, -⟩ := h; exact hs
  | .a _ :: gs, gs', σ, σ', h, a, w, hs => by simp only [fzs, Option.some.injEq, Prod.mk.injEq] at h; obtain ⟨rfl, -⟩ := h; exact hs
  | .g _ _ _ :: gs, gs', σ, σ', h, a, w, hs => by simp only [fzs, Option.some.injEq, Prod.mk.injEq] at h; obtain ⟨rfl, -⟩ := h; exact hs
  | .b _ :: gs, gs', σ, σ', h, a, w, hs => by simp only [fzs, Option.some.injEq, Prod.mk.injEq] at h; obtain ⟨rfl, -⟩ := h; exact hs
  | .fz id :: gs, gs', σ, σ', h, a, w, hs => by
    simp only [fzs] at h
    obtain ⟨σ1, h1, h2⟩ := bind_some h
    obtain ⟨m, Z, hm⟩ := hs
    obtain ⟨Z', h3⟩ := hm.freeze h1
    exact fzs_ok h2 ⟨m, Z', h3⟩
/-- Operations ahead of which something may be given up. -/
def asksFz : Op → Bool
  | .call _ | .store .. | .buildSlice .. | .box .. | .build .. | .makeFunc .. => true
  | _ => false
def AV.bool : AV → Option Bool
  | .t (.c (.i (.v (.bool b)))) => some b
  | _ => none
theorem RepV.bool {m : Mp} {w : World} {Z : Nat → Prop} {x : AV} {u : Value} {b : Bool} (h : RepV m w Z x u) (hs : x.bool = some b) : u = .bool b := by
  unfold AV.bool at hs
  split at hs
  · rename_i b'
    obtain rfl := Option.some.inj hs
    have h1 : RepI w Z (.v (.bool b')) u := h
    cases h1
    rfl
  · cases hs
def nrm : List Gs → List Gs
  | .a 0 :: gs => nrm gs
  | gs => gs
/-- A test: guessed, or computed. -/
def askV (v : Bool) (gs : List Gs) : Option (List Prop × Bool × List Gs) := match nrm gs with
  | .b g :: gs => some ([v = g], g, gs)
  | .a (n + 1) :: gs => some ([], v, .a n :: gs)
  | _ => none
theorem askV_ok {v g : Bool} {gs gs' : List Gs} {ob : List Prop} (h : askV v gs = some (ob, g, gs')) (hob : Obs ob) : v = g := by
  unfold askV at h
  split at h
  · simp only [Option.some.injEq, Prod.mk.injEq] at h
    obtain ⟨rfl, rfl, -⟩ := h
    exact hob.1
  · simp only [Option.some.injEq, Prod.mk.injEq] at h
    exact h.2.1
  · cases h
def stepF (P : Program) (o : Oper) (gs : List Gs) (σ : St) : Option (List Prop × St × List Gs) :=
  if asksFz o.op = true then (fzs (nrm gs) σ).bind fun r => stepY P o r.2 r.1 else stepY P o (nrm gs) σ
theorem stepF_ok {o : Oper} {gs gs' : List Gs} {σ' : St} {ob : List Prop} (h : stepF P o gs σ = some (ob, σ', gs')) (hob : Obs ob) {a : Act} {w : World} (hs : SimX F σ a w) (K : Act → World → Prop) (Q : Exit → Act → World → Prop) (hK : ∀ a' w', SimX F σ' a' w' → K a' w') : o.wp P a w K Q := by
  unfold stepF at h
  split at h
  · obtain ⟨⟨σ1, gs1⟩, h1, h2⟩ := bind_some h
    obtain ⟨m, Z, hm⟩ := fzs_ok (F := F) h1 hs
    exact stepY_ok h2 hob m Z a w hm K Q fun m' Z' a' w' h3 _ => hK a' w' ⟨m', Z', h3⟩
  · obtain ⟨m, Z, hm⟩ := hs
    exact stepY_ok h hob m Z a w hm K Q fun m' Z' a' w' h3 _ => hK a' w' ⟨m', Z', h3⟩
def askB (σ : St) (kn : List (Nat × Bool)) (t : Nat) (gs : List Gs) : Option (List Prop × Bool × St × List (Nat × Bool) × List Gs) :=
  match (σ.ev (.tmp t)).bind AV.bool with
  | none => none
  | some v => match kn.lookup t with
    | some g => some ([v = g], g, σ, kn, gs)
    | none => (askV v gs).map fun q => (q.1, q.2.1, σ, (t, q.2.1) :: kn, q.2.2)
theorem askB_ok {σ σ' : St} {kn kn' : List (Nat × Bool)} {t : Nat} {gs gs' : List Gs} {g : Bool} {ob : List Prop} (h : askB σ kn t gs = some (ob, g, σ', kn', gs')) (hob : Obs ob) {a : Act} {w : World} (hs : SimX F σ a w) : SimX F σ' a w ∧ a.tmps[t]? = some (.bool g) := by
  unfold askB at h
  split at h
  · cases h
  · rename_i v hv
    obtain ⟨x, hx, hv⟩ := bind_some hv
    obtain ⟨m, Z, hm⟩ := hs
    simp only [St.ev] at hx
    split at hx
    · rename_i y he
      obtain rfl := Option.some.inj hx
      obtain ⟨u, h1, h2⟩ := hm.tm t y he
      have hu := h2.bool hv
      subst hu
      split at h
      · rename_i g' hk
        simp only [Option.some.injEq, Prod.mk.injEq] at h
        obtain ⟨rfl, rfl, rfl, -, -⟩ := h
        have hvg := hob.1
        subst hvg
        exact ⟨⟨m, Z, hm⟩, h1⟩
      · obtain ⟨⟨ob', g', gs0⟩, hq, h⟩ := Option.map_eq_some_iff.1 h
        simp only [Prod.mk.injEq] at h
        obtain ⟨rfl, rfl, rfl, -, -⟩ := h
        have hvg := askV_ok hq hob
        subst hvg
        exact ⟨⟨m, Z, hm⟩, h1⟩
    · cases hx
/-- One operation: a choice between two asks, others go their way. -/
def stepK (P : Program) (o : Oper) (kn : List (Nat × Bool)) (gs : List Gs) (σ : St) : Option (List Prop × St × List (Nat × Bool) × List Gs) := match o.op with
  | .pick (.tmp c) x y => (askB σ kn c gs).bind fun r => (r.2.2.1.ev (if r.2.1 then x else y)).map fun z => (r.1, r.2.2.1.put o.dst z, r.2.2.2.1, r.2.2.2.2)
  | _ => (stepF P o gs σ).map fun r => (r.1, r.2.1, kn, r.2.2)
theorem stepK_ok {o : Oper} {kn kn' : List (Nat × Bool)} {gs gs' : List Gs} {σ' : St} {ob : List Prop} (h : stepK P o kn gs σ = some (ob, σ', kn', gs')) (hob : Obs ob) {a : Act} {w : World} (hs : SimX F σ a w) (K : Act → World → Prop) (Q : Exit → Act → World → Prop) (hK : ∀ a' w', SimX F σ' a' w' → K a' w') : o.wp P a w K Q := by
  unfold stepK at h
  split at h
  · rename_i c x y ho
    obtain ⟨⟨ob1, g, σ1, kn1, gs1⟩, h1, h2⟩ := bind_some h
    obtain ⟨z, hz, h2⟩ := Option.map_eq_some_iff.1 h2
    simp only [Prod.mk.injEq] at h2
    obtain ⟨rfl, rfl, -, -⟩ := h2
    obtain ⟨⟨m, Z, hm⟩, ht⟩ := askB_ok h1 hob hs
    have he : a.eval (.tmp c) = .bool g := by simp [Act.eval, Array.getD_eq_getD_getElem?, ht]
    have hr : (execOp a.eval o).run P w = .ok (.value (a.eval (if g then x else y))) w := by
      unfold execOp
      rw [ho]
      simp only [he]
      cases g <;> simp [asBool]
    exact wp_value hr (hK _ _ ⟨m, Z, hm.putO o.dst (hm.ev hz)⟩)
  · obtain ⟨⟨ob1, σ1, gs1⟩, h1, h2⟩ := Option.map_eq_some_iff.1 h
    simp only [Prod.mk.injEq] at h2
    obtain ⟨rfl, rfl, -, -⟩ := h2
    exact stepF_ok h1 hob hs K Q hK
/-- What was not carried out. -/
def skipped : Option AV → Bool
  | some (.tup []) => true
  | _ => false
theorem skipped_ok {t : Nat} (h : skipped (σ.ev (.tmp t)) = true) {a : Act} {w : World} (hs : SimX F σ a w) : a.tmps[t]? = some undef := by
  obtain ⟨m, Z, hm⟩ := hs
  unfold skipped at h
  split at h
  · rename_i he
    simp only [St.ev] at he
    split at he
    · rename_i y hy
      obtain rfl := Option.some.inj he
      obtain ⟨u, h1, us, rfl, h2⟩ := hm.tm t _ hy
      have : us = [] := List.eq_nil_of_length_eq_zero h2.1.symm
      subst this
      exact h1
    · cases he
  · cases h
theorem SimX.skip {o : Oper} {a : Act} {w : World} (hs : SimX F σ a w) : SimX F (σ.put o.dst (.tup [])) (a.put o.dst undef) w := by
  obtain ⟨m, Z, hm⟩ := hs
  exact ⟨m, Z, hm.putO o.dst (u := undef) ⟨[], rfl, All2.nil⟩⟩
def runOps (P : Program) (ops : Array Oper) : List Oper → List (Nat × Bool) → List Gs → St → Option (List Prop × St × List Gs)
  | [], _, gs, σ => some ([], σ, gs)
  | o :: l, kn, gs, σ => match o.guard with
    | none => (stepK P o kn gs σ).bind fun r => (runOps P ops l r.2.2.1 r.2.2.2 r.2.1).map fun q => (r.1 ++ q.1, q.2)
    | some (j, want) => match (ops[j]?).bind (·.dst) with
      | none => none
      | some d => if skipped (σ.ev (.tmp d)) = true then runOps P ops l kn gs (σ.put o.dst (.tup [])) else (askB σ kn d gs).bind fun r =>
        if (r.2.1 == want) = true then (stepK P o r.2.2.2.1 r.2.2.2.2 r.2.2.1).bind fun r' => (runOps P ops l r'.2.2.1 r'.2.2.2 r'.2.1).map fun q => (r.1 ++ (r'.1 ++ q.1), q.2)
        else (runOps P ops l r.2.2.2.1 r.2.2.2.2 (r.2.2.1.put o.dst (.tup []))).map fun q => (r.1 ++ q.1, q.2)
theorem runOps_ok {ops : Array Oper} {Q : Exit → Act → World → Prop} : ∀ (l : List Oper) {kn : List (Nat × Bool)} {gs gs' : List Gs} {σ σ' : St} {ob : List Prop}, runOps P ops l kn gs σ = some (ob, σ', gs') → Obs ob → ∀ {a : Act} {w : World}, SimX F σ a w → (∀ a' w', SimX F σ' a' w' → Q .normal a' w') → wpList P ops Q l a w
  | [], kn, gs, gs', σ, σ', ob, h, _, a, w, hs, hQ => by
    simp only [runOps, Option.some.injEq, Prod.mk.injEq] at h
    obtain ⟨-, rfl, -⟩ := h
    exact hQ a w hs
  | o :: l, kn, gs, gs', σ, σ', ob, h, hob, a, w, hs, hQ => by
    simp only [runOps] at h
    split at h
    · rename_i hg
      obtain ⟨⟨ob1, σ1, kn1, gs1⟩, h1, h2⟩ := bind_some h
      obtain ⟨⟨ob2, σ2, gs2⟩, h3, h4⟩ := Option.map_eq_some_iff.1 h2
      simp only [Prod.mk.injEq] at h4
      obtain ⟨rfl, rfl, rfl⟩ := h4
      obtain ⟨o1, o2⟩ := Obs_app hob
      exact wpList_plain hg fun K hK => stepK_ok h1 o1 hs K Q fun a' w' h5 => hK a' w' (runOps_ok l h3 o2 h5 hQ)
    · rename_i j want hg
      split at h
      · cases h
      · rename_i d hd
        split at h
        · rename_i hsk
          have ht := skipped_ok hsk hs
          have hwant : ¬ Region.wanted o (yielded ops a.tmps) = true := by
            have hy : yielded ops a.tmps j = none := by simp [yielded, hd, ht, undef]
            simp [Region.wanted, hg, hy]
          unfold wpList
          rw [if_neg hwant]
          exact runOps_ok l h hob hs.skip hQ
        obtain ⟨⟨ob0, g, σ0, kn0, gs0⟩, h0, h⟩ := bind_some h
        have hy : ∀ {a : Act}, a.tmps[d]? = some (.bool g) → yielded ops a.tmps j = some g := fun ht => by simp [yielded, hd, ht]
        simp only at h
        split at h
        · rename_i hw
          obtain ⟨⟨ob1, σ1, kn1, gs1⟩, h1, h2⟩ := bind_some h
          obtain ⟨⟨ob2, σ2, gs2⟩, h3, h4⟩ := Option.map_eq_some_iff.1 h2
          simp only [Prod.mk.injEq] at h4
          obtain ⟨rfl, rfl, rfl⟩ := h4
          obtain ⟨oa, ob'⟩ := Obs_app hob
          obtain ⟨o1, o2⟩ := Obs_app ob'
          obtain ⟨hs0, ht⟩ := askB_ok h0 oa hs
          have hwant : Region.wanted o (yielded ops a.tmps) = true := by
            simp only [Region.wanted, hg, hy ht]
            simpa using hw
          unfold wpList
          rw [if_pos hwant]
          exact .inl (stepK_ok h1 o1 hs0 _ Q fun a' w' h5 => runOps_ok l h3 o2 h5 hQ)
        · rename_i hw
          obtain ⟨⟨ob2, σ2, gs2⟩, h3, h4⟩ := Option.map_eq_some_iff.1 h
          simp only [Prod.mk.injEq] at h4
          obtain ⟨rfl, rfl, rfl⟩ := h4
          obtain ⟨oa, o2⟩ := Obs_app hob
          obtain ⟨⟨m, Z, hm⟩, ht⟩ := askB_ok h0 oa hs
          have hwant : ¬ Region.wanted o (yielded ops a.tmps) = true := by
            simp only [Region.wanted, hg, hy ht]
            simpa using hw
          unfold wpList
          rw [if_neg hwant]
          exact runOps_ok l h3 o2 (SimX.skip ⟨m, Z, hm⟩) hQ
inductive It where
  | code (c : Code)
  | blk (id : Nat)
  | inv (R : Act → World → Prop)
inductive AE where
  | normal
  | exit (id : Nat)
  | ret
def AE.x : AE → Exit
  | .normal => .normal
  | .exit id => .exit id
  | .ret => .ret
def den (P : Program) (Q : Exit → Act → World → Prop) : List It → Exit → Act → World → Prop
  | [] => Q
  | .code c :: K => Exit.then (fun a w => c.wp P (den P Q K) a w) (den P Q K)
  | .blk id :: K => Exit.inBlock id (den P Q K)
  | .inv R :: K => Exit.then R (den P Q K)
inductive Stop where
  | fin (e : AE) (σ : St)
  | head (body : Code) (K : List It) (σ : St)
  | draw (id : Nat) (ops : Array Oper) (K : List It) (σ : St)
  | inv (R : Act → World → Prop) (σ : St)
def run (P : Program) : Nat → List It → AE → St → List Gs → Option (List Prop × Stop)
  | 0, _, _, _, _ => none
  | _ + 1, [], e, σ, _ => some ([], .fin e σ)
  | n + 1, .code c :: K, .normal, σ, gs => match c with
    | .skip => run P n K .normal σ gs
    | .label _ => run P n K .normal σ gs
    | .region _ ops false => (runOps P ops ops.toList [] gs σ).bind fun r => (run P n K .normal r.2.1 r.2.2).map fun q => (r.1 ++ q.1, q.2)
    | .region id ops true => some ([], .draw id ops K σ)
    | .seq a b => run P n (.code a :: .code b :: K) .normal σ gs
    | .cond c a b => ((σ.ev c).bind AV.bool).bind fun v => (askV v gs).bind fun r => (run P n (.code (if r.2.1 then a else b) :: K) .normal σ r.2.2).map fun q => (r.1 ++ q.1, q.2)
    | .block id c => run P n (.code c :: .blk id :: K) .normal σ gs
    | .loop body => some ([], .head body K σ)
    | .exit id => run P n K (.exit id) σ gs
    | .ret => run P n K .ret σ gs
    | _ => none
  | n + 1, .code _ :: K, e, σ, gs => run P n K e σ gs
  | n + 1, .blk id :: K, .exit id', σ, gs => if id' = id then run P n K .normal σ gs else run P n K (.exit id') σ gs
  | n + 1, .blk _ :: K, e, σ, gs => run P n K e σ gs
  | _ + 1, .inv R :: _, .normal, σ, _ => some ([], .inv R σ)
  | n + 1, .inv _ :: K, e, σ, gs => run P n K e σ gs
def AX (P : Program) (F : Frm) (Q : Exit → Act → World → Prop) (K : List It) (e : AE) (σ : St) : Prop := ∀ a w, SimX F σ a w → den P Q K e.x a w
def StopOk (P : Program) (F : Frm) (Q : Exit → Act → World → Prop) : Stop → Prop
  | .fin e σ => ∀ a w, SimX F σ a w → Q e.x a w
  | .head body K σ => AX P F Q (.code (.loop body) :: K) .normal σ
  | .draw id ops K σ => AX P F Q (.code (.region id ops true) :: K) .normal σ
  | .inv R σ => ∀ a w, SimX F σ a w → R a w
theorem run_ok {Q : Exit → Act → World → Prop} : ∀ (n : Nat) (K : List It) (e : AE) (σ : St) (gs : List Gs) {ob : List Prop} {s : Stop}, run P n K e σ gs = some (ob, s) → Obs ob → StopOk P F Q s → AX P F Q K e σ
  | 0, K, e, σ, gs, ob, s, h, _, _ => by simp [run] at h
  | n + 1, [], e, σ, gs, ob, s, h, _, hst => by
    simp only [run, Option.some.injEq, Prod.mk.injEq] at h
    obtain ⟨-, rfl⟩ := h
    exact hst
  | n + 1, .code c :: K, .normal, σ, gs, ob, s, h, hob, hst => by
    intro a w hs
    show c.wp P (den P Q K) a w
    unfold run at h
    split at h
    · exact wp_skip (run_ok n K .normal σ gs h hob hst a w hs)
    · exact wp_label (run_ok n K .normal σ gs h hob hst a w hs)
    · obtain ⟨⟨ob1, σ1, gs1⟩, h1, h2⟩ := bind_some h
      obtain ⟨⟨ob2, s2⟩, h3, h4⟩ := Option.map_eq_some_iff.1 h2
      simp only [Prod.mk.injEq] at h4
      obtain ⟨rfl, rfl⟩ := h4
      obtain ⟨o1, o2⟩ := Obs_app hob
      exact wp_region_list (runOps_ok _ h1 o1 hs fun a' w' h5 => run_ok n K .normal σ1 gs1 h3 o2 hst a' w' h5)
    · simp only [Option.some.injEq, Prod.mk.injEq] at h
      obtain ⟨-, rfl⟩ := h
      exact hst a w hs
    · exact wp_seq (run_ok n _ .normal σ gs h hob hst a w hs)
    · obtain ⟨v, hv, h⟩ := bind_some h
      obtain ⟨⟨ob1, g, gs0⟩, hq, h⟩ := bind_some h
      obtain ⟨xa, hx, hv⟩ := bind_some hv
      obtain ⟨⟨ob2, s2⟩, h3, h4⟩ := Option.map_eq_some_iff.1 h
      simp only [Prod.mk.injEq] at h4
      obtain ⟨rfl, rfl⟩ := h4
      obtain ⟨o1, o2⟩ := Obs_app hob
      have hvg := askV_ok hq o1
      have hs' := hs
      obtain ⟨m, Z, hm⟩ := hs'
      have he := (hm.ev hx).bool hv
      rw [hvg] at he
      exact wp_cond he (run_ok n _ .normal σ gs0 h3 o2 hst a w hs)
    · exact wp_block (run_ok n _ .normal σ gs h hob hst a w hs)
    · simp only [Option.some.injEq, Prod.mk.injEq] at h
      obtain ⟨-, rfl⟩ := h
      exact hst a w hs
    · rename_i id
      exact wp_exit (run_ok n K (.exit id) σ gs h hob hst a w hs)
    · exact wp_ret (run_ok n K .ret σ gs h hob hst a w hs)
    · cases h
  | n + 1, .code c :: K, .exit id, σ, gs, ob, s, h, hob, hst => fun a w hs => run_ok n K (.exit id) σ gs (by simpa only [run] using h) hob hst a w hs
  | n + 1, .code c :: K, .ret, σ, gs, ob, s, h, hob, hst => fun a w hs => run_ok n K .ret σ gs (by simpa only [run] using h) hob hst a w hs
  | n + 1, .blk id :: K, .normal, σ, gs, ob, s, h, hob, hst => fun a w hs => run_ok n K .normal σ gs (by simpa only [run] using h) hob hst a w hs
  | n + 1, .blk id :: K, .ret, σ, gs, ob, s, h, hob, hst => fun a w hs => run_ok n K .ret σ gs (by simpa only [run] using h) hob hst a w hs
  | n + 1, .blk id :: K, .exit id', σ, gs, ob, s, h, hob, hst => by
    intro a w hs
    simp only [run] at h
    show Exit.inBlock id (den P Q K) (.exit id') a w
    unfold Exit.inBlock
    simp only
    by_cases e : id' = id
    · rw [if_pos e] at h ⊢
      exact run_ok n K .normal σ gs h hob hst a w hs
    · rw [if_neg e] at h ⊢
      exact run_ok n K (.exit id') σ gs h hob hst a w hs
  | n + 1, .inv R :: K, .normal, σ, gs, ob, s, h, hob, hst => by
    simp only [run, Option.some.injEq, Prod.mk.injEq] at h
    obtain ⟨-, rfl⟩ := h
    exact hst
  | n + 1, .inv R :: K, .exit id, σ, gs, ob, s, h, hob, hst => fun a w hs => run_ok n K (.exit id) σ gs (by simpa only [run] using h) hob hst a w hs
  | n + 1, .inv R :: K, .ret, σ, gs, ob, s, h, hob, hst => fun a w hs => run_ok n K .ret σ gs (by simpa only [run] using h) hob hst a w hs
/-- A loop: states told by x, of which each round leads to one of a smaller measure. -/
theorem loop_ok {Q : Exit → Act → World → Prop} {ι : Type} (st : ι → St) (I : ι → Prop) (μ : ι → Nat) {body : Code} {K : List It} (x0 : ι) (h0 : I x0)
    (round : ∀ x, I x → ∀ R : Act → World → Prop, (∀ y a w, I y → μ y < μ x → SimX F (st y) a w → R a w) → AX P F Q (.code body :: .inv R :: K) .normal (st x)) : AX P F Q (.code (.loop body) :: K) .normal (st x0) := by
  intro a w hs
  let J (a : Act) (w : World) (n : Nat) : Prop := ∃ x, I x ∧ SimX F (st x) a w ∧ μ x = n
  have hmin : ∀ a w, (∃ n, J a w n) → ∃ n, J a w n ∧ ∀ k, J a w k → n ≤ k := by
    intro a w ⟨n, hn⟩
    induction n using Nat.strongRecOn with
    | _ n ih =>
      by_cases hk : ∃ k, k < n ∧ J a w k
      · obtain ⟨k, h1, h2⟩ := hk
        exact ih k h1 h2
      · exact ⟨n, hn, fun k hj => Nat.le_of_not_lt fun hlt => hk ⟨k, hlt, hj⟩⟩
  let M (a : Act) (w : World) : Nat := Classical.epsilon fun n => J a w n ∧ ∀ k, J a w k → n ≤ k
  have hM : ∀ a w, (∃ n, J a w n) → J a w (M a w) ∧ ∀ k, J a w k → M a w ≤ k := fun a w h => Classical.epsilon_spec (hmin a w h)
  refine wp_loop (fun a w => ∃ n, J a w n) M ⟨μ x0, x0, h0, hs, rfl⟩ ?_
  intro a w hJ
  obtain ⟨⟨x, hx, hsx, hxm⟩, hle⟩ := hM a w hJ
  refine round x hx (fun a' w' => (∃ n, J a' w' n) ∧ M a' w' < M a w) (fun y a' w' hy hlt hsy => ?_) a w hsx
  have hj : ∃ n, J a' w' n := ⟨μ y, y, hy, hsy, rfl⟩
  exact ⟨hj, Nat.lt_of_le_of_lt ((hM a' w' hj).2 _ ⟨y, hy, hsy, rfl⟩) (by omega)⟩
end
end Go.Proofs.YtljdidlkiknknaaDoor.AB
namespace Go.Proofs.YtljdidlkiknknaaDoor.AB
open Go Go.RowKit Go.Proofs.YtljdidlkiknknaaDoorW.PrintWords Go.Proofs.YtljdidlkiknknaaDoorW.PrintMore
set_option linter.unusedSimpArgs false
set_option linter.unusedVariables false
section
variable {P : Program} {F : Frm} {σ : St}
def AV.imm : AV → Bool
  | .t x => x.imm
  | .tup xs => xs.all TV.imm
theorem RepV.imm {m m' : Mp} {w : World} {Z : Nat → Prop} {x : AV} {u : Value} (h : RepV m w Z x u) (hi : x.imm = true) : RepV m' w Z x u := by
  cases x with
  | t x => exact RepT.imm (x := x) h hi
  | tup xs =>
    obtain ⟨us, e, hc⟩ := h
    simp only [AV.imm, List.all_eq_true] at hi
    exact ⟨us, e, hc.1, fun j x u hx hu => (hc.2 j x u hx hu).imm (hi x (List.mem_of_getElem? hx))⟩
/-- What the results read as. -/
def res1 (P : Program) (σ : St) : ResultVar → Option TV
  | .tmp t => (σ.ev (.tmp t)).bind AV.tv
  | .cell a t => match (σ.ev (.tmp a)).bind AV.place, aggP P t, sizeP P t with
    | some p, some ag, some n => (σ.read p n []).bind fun r => match r.1 with
      | [] => mkT ag r.2
      | _ => none
    | _, _, _ => none
def resL (P : Program) (σ : St) : List ResultVar → Option (List TV)
  | [] => some []
  | x :: l => match res1 P σ x, resL P σ l with
    | some y, some r => some (y :: r)
    | _, _ => none
def resP (P : Program) (σ : St) (l : List ResultVar) : Option AV := match resL P σ l with
  | some [x] => some (.t x)
  | some xs => some (.tup xs)
  | none => none
def oneRes (tmps : Array Value) : ResultVar → Sem Value
  | .tmp t => pure (tmps.getD t undef)
  | .cell a t => do loadVar t (← asAddr (tmps.getD a undef))
theorem res1_ok {m : Mp} {Z : Nat → Prop} {a : Act} {w : World} (h : Sim F m Z σ a w) {x : ResultVar} {y : TV} (hx : res1 P σ x = some y) : ∃ u, (oneRes a.tmps x).run P w = .ok u w ∧ RepT m w Z y u := by
  cases x with
  | tmp t =>
    obtain ⟨z, hz, hy⟩ := bind_some hx
    exact ⟨_, rfl, (h.ev hz).tv hy⟩
  | cell b t =>
    simp only [res1] at hx
    split at hx
    · rename_i p ag n hp hag hsz
      obtain ⟨z, hz, hp⟩ := bind_some hp
      obtain ⟨⟨ob, cs⟩, hr, hm⟩ := bind_some hx
      cases ob with
      | cons q l => cases hm
      | nil =>
        obtain ⟨hl, g, off, us, hu, hc, hcs⟩ := h.read (h.ev hz) hp hr trivial
        obtain ⟨h1, h2⟩ := mkT_rep hcs hm
        have hrun := run_load_cells (P := P) (w := w) hag (by rw [hsz, ← hl, hcs.1]) hc h2
        refine ⟨_, ?_, h1⟩
        have hu' : a.tmps.getD b undef = .pointer (some ⟨g, off, none⟩) := hu
        show (do loadVar t (← asAddr (a.tmps.getD b undef)) : Sem Value).run P w = _
        rw [hu']
        simpa [asAddr, Instr.loadAt, Instr.sureAddr] using hrun
    · cases hx
theorem resL_ok {m : Mp} {Z : Nat → Prop} {a : Act} {w : World} (h : Sim F m Z σ a w) : ∀ (l : List ResultVar) {ys : List TV}, resL P σ l = some ys → ∃ us, (l.mapM (oneRes a.tmps)).run P w = .ok us w ∧ All2 (RepT m w Z) ys us
  | [], ys, e => by simp only [resL, Option.some.injEq] at e; subst e; exact ⟨[], rfl, All2.nil⟩
  | x :: l, ys, e => by
    simp only [resL] at e
    split at e
    · rename_i y r hy hr
      obtain rfl := Option.some.inj e
      obtain ⟨u, h1, h2⟩ := res1_ok h hy
      obtain ⟨us, h3, h4⟩ := resL_ok h l hr
      exact ⟨u :: us, by simp [List.mapM_cons, h1, h3], All2.cons h2 h4⟩
    · cases e
theorem resP_ok {fn : Func} {m : Mp} {Z : Nat → Prop} {a : Act} {w : World} (h : Sim F m Z σ a w) {r : AV} (hr : resP P σ fn.results.toList = some r) : ∃ u, (results fn a.tmps).run P w = .ok u w ∧ RepV m w Z r u := by
  unfold resP at hr
  have key : ∀ ys, resL P σ fn.results.toList = some ys → ∃ us, All2 (RepT m w Z) ys us ∧ (results fn a.tmps).run P w = .ok (if h : us.length = 1 then us[0] else .tuple us.toArray) w := by
    intro ys hy
    obtain ⟨us, h1, h2⟩ := resL_ok h _ hy
    refine ⟨us, h2, ?_⟩
    have he : results fn a.tmps = (do
        let vs ← fn.results.mapM (oneRes a.tmps)
        pure (if h : vs.size = 1 then vs[0] else .tuple vs)) := by
      unfold results
      congr 1
    have hl : (fn.results.mapM (oneRes a.tmps)).run P w = .ok us.toArray w := by
      rw [show fn.results = fn.results.toList.toArray from by simp, List.mapM_toArray]
      simp [h1]
    rw [he]
    simp only [Sem.run_bind, hl, Result.andThen_ok, Sem.run_pure]
    by_cases hu : us.length = 1
    · simp [hu]
    · simp [hu]
  split at hr
  · rename_i x hx
    obtain rfl := Option.some.inj hr
    obtain ⟨us, h1, h2⟩ := key _ hx
    have hl := h1.1
    match us, hl with
    | [u], _ => exact ⟨u, h2, h1.2 0 x u rfl rfl⟩
  · rename_i xs hne hx
    obtain rfl := Option.some.inj hr
    obtain ⟨us, h1, h2⟩ := key _ hx
    have hu : us.length ≠ 1 := by
      intro e
      rw [← h1.1] at e
      match xs, e with
      | [x], _ => exact hne x rfl
    rw [dif_neg hu] at h2
    exact ⟨_, h2, us, rfl, h1⟩
  · cases hr
/-- The state at a function's door. -/
def entry (args : List TV) (n : Nat) : St := ⟨args.map (fun x => some (.t x)) ++ List.replicate (n - args.length) none, []⟩
/-- What is left at a function's end. -/
def QF (P : Program) (F : Frm) (fn : Func) (r : AV) (e : Exit) (a : Act) (w : World) : Prop := (e = .normal ∨ e = .ret) ∧ ∃ σ, SimX F σ a w ∧ resP P σ fn.results.toList = some r ∧ r.imm = true
end
end Go.Proofs.YtljdidlkiknknaaDoor.AB
