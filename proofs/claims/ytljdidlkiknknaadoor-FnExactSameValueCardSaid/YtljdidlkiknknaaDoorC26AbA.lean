/-
  What a call does, told without addresses: a state, steps, and that the code follows them.
-/
import Derived.Test.YtljdidlkiknknaaDoorC26WWords
import Derived.OrdersHeld
import Derived.Deep.RegionHeld3
import Derived.Laws.BitsLemmas
import Derived.RowKit
import Derived.Test.YtljdidlkiknknaaDoorC26WMore
import Derived.Test.YtljdidlkiknknaaDoorC26WApart
import Derived.Great.BuildSlice
import Derived.Laws.OwnMore
import Derived.Laws.MakeOwn
import Derived.Maps.AppendAt
namespace Go.Proofs.YtljdidlkiknknaaDoor.AB
open Go Go.RowKit Go.Proofs.YtljdidlkiknknaaDoorW.PrintWords Go.Proofs.YtljdidlkiknknaaDoorW.PrintMore
set_option linter.unusedSimpArgs false
set_option linter.unusedVariables false
/-- The package's variables that stand as they were laid: the block, the type, the cells. -/
def tab6 : List Int := List.replicate 128 240 ++ List.replicate 66 241 ++ List.replicate 30 2 ++ [19] ++ List.replicate 12 3 ++ [35, 3, 3, 52, 4, 4, 4, 68] ++ List.replicate 11 241
def tab7 : List (Int × Int) := [(128, 191), (160, 191), (128, 159), (144, 191), (128, 143), (0, 0), (0, 0), (0, 0), (0, 0), (0, 0), (0, 0), (0, 0), (0, 0), (0, 0), (0, 0), (0, 0)]
def tab6c : List Value := tab6.map (Value.int .u8)
def tab7c : List Value := (tab7.map fun p => [Value.int .u8 p.1, Value.int .u8 p.2]).flatten
def TT : List (Nat × Nat × List Value) := [(6, 226, tab6c), (7, 229, tab7c)]
inductive IV where
  | v (x : Value)
  | sl (sz : Nat) (xs : List (List IV))
  | pt (cs : List IV)
  | fn (f : Fn) (cap : List IV)
  | op (x : Value)
def scal : Value → Bool
  | .bool _ | .int _ _ | .float _ _ | .string _ | .pointer none | .slice none 0 0 | .nilFunc | .nilIface => true
  | _ => false
theorem scal_one {x : Value} (h : scal x = true) : x.oneCell' = true := by cases x <;> first | rfl | (simp [scal] at h)
inductive RepI (w : World) (Z : Nat → Prop) : IV → Value → Prop
  | v {x : Value} (h : scal x = true) : RepI w Z (.v x) x
  | nil {sz : Nat} (A : Option Addr) (c : Nat) (hA : A = Option.none → c = 0) : RepI w Z (.sl sz []) (.slice A 0 c)
  | sl {sz : Nat} {xs : List (List IV)} {b o c : Nat} (val : Nat → Nat → Value) (hb : Z b) (hc : xs.length ≤ c) (hm : c ≤ 9223372036854775807)
      (hsz : ∀ ys ∈ xs, ys.length = sz) (hcell : ∀ i j, i < xs.length → j < sz → w.cell? ⟨b, o + (i * sz + j), none⟩ = some (val i j))
      (hrep : ∀ (i j : Nat) (ys : List IV) (y : IV), xs[i]? = some ys → ys[j]? = some y → RepI w Z y (val i j)) : RepI w Z (.sl sz xs) (.slice (some ⟨b, o, none⟩) xs.length c)
  | pt {cs : List IV} {b o : Nat} (val : Nat → Value) (hb : Z b) (hcell : ∀ j, j < cs.length → w.cell? ⟨b, o + j, none⟩ = some (val j))
      (hrep : ∀ (j : Nat) (y : IV), cs[j]? = some y → RepI w Z y (val j)) : RepI w Z (.pt cs) (.pointer (some ⟨b, o, none⟩))
  | fn {f : Fn} {cap : List IV} {vs : Array Value} (hl : vs.size = cap.length) (hrep : ∀ (j : Nat) (y : IV) (u : Value), cap[j]? = some y → vs[j]? = some u → RepI w Z y u) : RepI w Z (.fn f cap) (.func f #[] vs)
  | op {x : Value} (h : x.oneCell' = true) : RepI w Z (.op x) x
theorem cell_same {w w' : World} {b : Nat} (h : w'.heap[b]? = w.heap[b]?) (o : Nat) : w'.cell? ⟨b, o, none⟩ = w.cell? ⟨b, o, none⟩ := by
  unfold World.cell?
  simp only [h]
theorem RepI.keep {w w' : World} {Z Z' : Nat → Prop} {x : IV} {u : Value} (h : RepI w Z x u) (hk : ∀ b, Z b → w'.heap[b]? = w.heap[b]?) (hz : ∀ b, Z b → Z' b) : RepI w' Z' x u := by
  induction h with
  | v h => exact .v h
  | nil A c hA => exact .nil A c hA
  | sl val hb hc hm hsz hcell hrep ih => exact .sl val (hz _ hb) hc hm hsz (fun i j hi hj => by rw [cell_same (hk _ hb)]; exact hcell i j hi hj) ih
  | pt val hb hcell hrep ih => exact .pt val (hz _ hb) (fun j hj => by rw [cell_same (hk _ hb)]; exact hcell j hj) ih
  | fn hl hrep ih => exact .fn hl ih
  | op h => exact .op h
theorem RepI.one {w : World} {Z : Nat → Prop} {x : IV} {u : Value} (h : RepI w Z x u) : u.oneCell' = true := by
  cases h with
  | v h => exact scal_one h
  | nil A c hA => rfl
  | sl => rfl
  | pt => rfl
  | fn => rfl
  | op h => exact h
def All2 {α β : Type} (R : α → β → Prop) (xs : List α) (us : List β) : Prop := xs.length = us.length ∧ ∀ (j : Nat) (x : α) (u : β), xs[j]? = some x → us[j]? = some u → R x u
namespace All2
variable {α β : Type} {R R' : α → β → Prop} {xs xs' : List α} {us us' : List β}
theorem nil : All2 R ([] : List α) ([] : List β) := ⟨rfl, fun j x u h => by simp at h⟩
theorem cons {x : α} {u : β} (h0 : R x u) (h : All2 R xs us) : All2 R (x :: xs) (u :: us) := by
  refine ⟨by simp [h.1], fun j y v hy hv => ?_⟩
  cases j with
  | zero => simp at hy hv; subst hy; subst hv; exact h0
  | succ j => simp at hy hv; exact h.2 j y v hy hv
theorem imp (h : All2 R xs us) (hi : ∀ x u, R x u → R' x u) : All2 R' xs us := ⟨h.1, fun j x u hx hu => hi x u (h.2 j x u hx hu)⟩
theorem get (h : All2 R xs us) {j : Nat} {x : α} (hx : xs[j]? = some x) : ∃ u, us[j]? = some u ∧ R x u := by
  have hl : j < us.length := h.1 ▸ (List.getElem?_eq_some_iff.mp hx).1
  exact ⟨us[j], List.getElem?_eq_getElem hl, h.2 j x _ hx (List.getElem?_eq_getElem hl)⟩
theorem getR (h : All2 R xs us) {j : Nat} {u : β} (hu : us[j]? = some u) : ∃ x, xs[j]? = some x ∧ R x u := by
  have hl : j < xs.length := h.1 ▸ (List.getElem?_eq_some_iff.mp hu).1
  exact ⟨xs[j], List.getElem?_eq_getElem hl, h.2 j _ u (List.getElem?_eq_getElem hl) hu⟩
theorem take (h : All2 R xs us) (n : Nat) : All2 R (xs.take n) (us.take n) := by
  refine ⟨by simp [h.1], fun j x u hx hu => ?_⟩
  rw [List.getElem?_take] at hx hu
  split at hx
  · rename_i hj; rw [if_pos hj] at hu; exact h.2 j x u hx hu
  · simp at hx
theorem drop (h : All2 R xs us) (n : Nat) : All2 R (xs.drop n) (us.drop n) := by
  refine ⟨by simp [h.1], fun j x u hx hu => ?_⟩
  rw [List.getElem?_drop] at hx hu
  exact h.2 _ x u hx hu
theorem append (h : All2 R xs us) (h' : All2 R xs' us') : All2 R (xs ++ xs') (us ++ us') := by
  refine ⟨by simp [h.1, h'.1], fun j x u hx hu => ?_⟩
  by_cases hj : j < xs.length
  · rw [List.getElem?_append_left hj] at hx
    rw [List.getElem?_append_left (h.1 ▸ hj)] at hu
    exact h.2 j x u hx hu
  · rw [List.getElem?_append_right (by omega)] at hx
    rw [List.getElem?_append_right (by have := h.1; omega), ← h.1] at hu
    exact h'.2 _ x u hx hu
theorem set (h : All2 R xs us) (n : Nat) {x : α} {u : β} (h0 : R x u) : All2 R (xs.set n x) (us.set n u) := by
  refine ⟨by simp [h.1], fun j y v hy hv => ?_⟩
  by_cases e : n = j
  · subst e
    rw [List.getElem?_set_self'] at hy hv
    cases hx : xs[n]? with
    | none => rw [hx] at hy; simp at hy
    | some x1 =>
      cases hu : us[n]? with
      | none => rw [hu] at hv; simp at hv
      | some u1 => rw [hx] at hy; rw [hu] at hv; simp at hy hv; subst hy; subst hv; exact h0
  · rw [List.getElem?_set_ne e] at hy hv
    exact h.2 j y v hy hv
theorem rep (n : Nat) {x : α} {u : β} (h0 : R x u) : All2 R (List.replicate n x) (List.replicate n u) := by
  refine ⟨by simp, fun j y v hy hv => ?_⟩
  rw [List.getElem?_replicate] at hy hv
  split at hy
  · rename_i hj; rw [if_pos hj] at hv; simp at hy hv; subst hy; subst hv; exact h0
  · simp at hy
end All2
inductive CV where
  | i (x : IV)
  | loc (id j : Nat)
  | el (id i sz j : Nat)
  | os (id : Nat)
inductive TV where
  | c (x : CV)
  | agg (xs : List CV)
inductive AV where
  | t (x : TV)
  | tup (xs : List TV)
abbrev Mp := Nat → Option Value
def RepC (m : Mp) (w : World) (Z : Nat → Prop) : CV → Value → Prop
  | .i x, u => RepI w Z x u
  | .loc id j, u => ∃ g n c, m id = some (.slice (some ⟨g, 0, none⟩) n c) ∧ u = .pointer (some ⟨g, j, none⟩)
  | .el id i sz j, u => ∃ g n c, m id = some (.slice (some ⟨g, 0, none⟩) n c) ∧ u = .pointer (some ⟨g, i * sz + j, none⟩)
  | .os id, u => m id = some u ∧ ∃ A n c, u = .slice A n c
abbrev Cells (m : Mp) (w : World) (Z : Nat → Prop) (xs : List CV) (us : List Value) : Prop := All2 (RepC m w Z) xs us
abbrev ICells (w : World) (Z : Nat → Prop) (xs : List IV) (us : List Value) : Prop := All2 (RepI w Z) xs us
def RepT (m : Mp) (w : World) (Z : Nat → Prop) : TV → Value → Prop
  | .c x, u => RepC m w Z x u
  | .agg xs, u => ∃ us : List Value, u = .agg us.toArray ∧ Cells m w Z xs us
def RepV (m : Mp) (w : World) (Z : Nat → Prop) : AV → Value → Prop
  | .t x, u => RepT m w Z x u
  | .tup xs, u => ∃ us : List Value, u = .tuple us.toArray ∧ All2 (RepT m w Z) xs us
section
variable {m m' : Mp} {w w' : World} {Z Z' : Nat → Prop}
theorem RepC.keep {x : CV} {u : Value} (h : RepC m w Z x u) (hm : ∀ i v, m i = some v → m' i = some v) (hk : ∀ b, Z b → w'.heap[b]? = w.heap[b]?) (hz : ∀ b, Z b → Z' b) : RepC m' w' Z' x u := by
  cases x with
  | i x => exact RepI.keep h hk hz
  | loc id j => obtain ⟨g, n, c, h1, h2⟩ := h; exact ⟨g, n, c, hm _ _ h1, h2⟩
  | el id i sz j => obtain ⟨g, n, c, h1, h2⟩ := h; exact ⟨g, n, c, hm _ _ h1, h2⟩
  | os id => exact ⟨hm _ _ h.1, h.2⟩
theorem RepC.one {x : CV} {u : Value} (h : RepC m w Z x u) : u.oneCell' = true := by
  cases x with
  | i x => exact RepI.one h
  | loc id j => obtain ⟨g, n, c, h1, rfl⟩ := h; rfl
  | el id i sz j => obtain ⟨g, n, c, h1, rfl⟩ := h; rfl
  | os id => obtain ⟨_, A, n, c, rfl⟩ := h; rfl
theorem Cells.keep {x : List CV} {u : List Value} (h : Cells m w Z x u) (hm : ∀ i v, m i = some v → m' i = some v) (hk : ∀ b, Z b → w'.heap[b]? = w.heap[b]?) (hz : ∀ b, Z b → Z' b) : Cells m' w' Z' x u := All2.imp h fun _ _ h => h.keep hm hk hz
theorem ICells.keep {x : List IV} {u : List Value} (h : ICells w Z x u) (hk : ∀ b, Z b → w'.heap[b]? = w.heap[b]?) (hz : ∀ b, Z b → Z' b) : ICells w' Z' x u := All2.imp h fun _ _ h => RepI.keep h hk hz
def ivs (cs : List IV) : List CV := cs.map .i
theorem ICells.cells {x : List IV} {u : List Value} (h : ICells w Z x u) : Cells m w Z (ivs x) u := by
  refine ⟨by simp [ivs, h.1], fun j y v hy hv => ?_⟩
  unfold ivs at hy
  rw [List.getElem?_map] at hy
  cases hx : x[j]? with
  | none => rw [hx] at hy; cases hy
  | some z => rw [hx] at hy; obtain rfl := Option.some.inj hy; exact h.2 j z v hx hv
def unI : List CV → Option (List IV)
  | [] => some []
  | .i x :: l => (unI l).map (x :: ·)
  | _ => none
theorem unI_spec : ∀ {cs : List CV} {xs : List IV}, unI cs = some xs → cs = ivs xs
  | [], xs, h => by simp only [unI, Option.some.injEq] at h; subst h; rfl
  | .i x :: l, xs, h => by
    simp only [unI, Option.map_eq_some_iff] at h
    obtain ⟨ys, hy, rfl⟩ := h
    rw [unI_spec hy]
    rfl
  | .loc _ _ :: l, xs, h => by simp [unI] at h
  | .el _ _ _ _ :: l, xs, h => by simp [unI] at h
  | .os _ :: l, xs, h => by simp [unI] at h
theorem Cells.ivs {x : List IV} {u : List Value} (h : Cells m w Z (AB.ivs x) u) : ICells w Z x u := by
  refine ⟨by have := h.1; simpa [AB.ivs] using this, fun j y v hy hv => h.2 j (.i y) v ?_ hv⟩
  unfold AB.ivs
  rw [List.getElem?_map, hy]
  rfl
theorem Cells.one {x : List CV} {u : List Value} (h : Cells m w Z x u) : ∀ q ∈ u, q.oneCell' = true := by
  intro q hq
  obtain ⟨j, hj, e⟩ := List.mem_iff_getElem.mp hq
  obtain ⟨y, _, hy⟩ := h.getR (j := j) (u := q) (by rw [List.getElem?_eq_getElem hj, e])
  exact hy.one
theorem RepT.keep {x : TV} {u : Value} (h : RepT m w Z x u) (hm : ∀ i v, m i = some v → m' i = some v) (hk : ∀ b, Z b → w'.heap[b]? = w.heap[b]?) (hz : ∀ b, Z b → Z' b) : RepT m' w' Z' x u := by
  cases x with
  | c x => exact RepC.keep (x := x) h hm hk hz
  | agg xs => obtain ⟨us, e, h⟩ := h; exact ⟨us, e, Cells.keep h hm hk hz⟩
theorem RepV.keep {x : AV} {u : Value} (h : RepV m w Z x u) (hm : ∀ i v, m i = some v → m' i = some v) (hk : ∀ b, Z b → w'.heap[b]? = w.heap[b]?) (hz : ∀ b, Z b → Z' b) : RepV m' w' Z' x u := by
  cases x with
  | t x => exact RepT.keep (x := x) h hm hk hz
  | tup xs => obtain ⟨us, e, h⟩ := h; exact ⟨us, e, All2.imp h fun _ _ h => h.keep hm hk hz⟩
/-- The cells of a value: a struct's, or the one. -/
def TV.cells : TV → List CV
  | .c x => [x]
  | .agg xs => xs
theorem RepT.cells {x : TV} {u : Value} (h : RepT m w Z x u) : Cells m w Z x.cells u.cells.toList := by
  cases x with
  | c x =>
    have h1 : RepC m w Z x u := h
    have : u.cells.toList = [u] := by
      have := h1.one
      cases u <;> first | rfl | (simp [Value.oneCell'] at this)
    rw [this]
    exact All2.cons h1 All2.nil
  | agg xs => obtain ⟨us, rfl, h⟩ := h; exact h
end
inductive AObj where
  | box (e : Nat) (cs : List CV)
  | row (e sz : Nat) (xs : List (List IV))
  | rowG (g e sz : Nat) (xs : List (List IV)) (hot : Option (Nat × Nat × CV))
inductive Slot where
  | free
  | dead
  | live (o : AObj)
structure St where
  tm : List (Option AV)
  ob : List Slot
/-- The cells of a row of which one cell may be told apart. -/
def ovl (hot : Option (Nat × Nat × CV)) (i j : Nat) (y : IV) : CV := match hot with
  | some (hi, hj, c) => if i = hi ∧ j = hj then c else .i y
  | none => .i y
def OvlRep (m : Mp) (w : World) (Z : Nat → Prop) (hot : Option (Nat × Nat × CV)) (xs : List (List IV)) (uss : List (List Value)) : Prop :=
  xs.length = uss.length ∧ ∀ (i : Nat) (ys : List IV) (us : List Value), xs[i]? = some ys → uss[i]? = some us → ys.length = us.length ∧ ∀ (j : Nat) (y : IV) (u : Value), ys[j]? = some y → us[j]? = some u → RepC m w Z (ovl hot i j y) u
theorem OvlRep.imp {m m' : Mp} {w w' : World} {Z Z' : Nat → Prop} {hot hot' : Option (Nat × Nat × CV)} {xs : List (List IV)} {uss : List (List Value)} (h : OvlRep m w Z hot xs uss) (hi : ∀ i j y u, RepC m w Z (ovl hot i j y) u → RepC m' w' Z' (ovl hot' i j y) u) : OvlRep m' w' Z' hot' xs uss :=
  ⟨h.1, fun i ys us h1 h2 => ⟨(h.2 i ys us h1 h2).1, fun j y u h3 h4 => hi i j y u ((h.2 i ys us h1 h2).2 j y u h3 h4)⟩⟩
def ObRep (m : Mp) (w : World) (Z : Nat → Prop) : AObj → Value → Prop
  | .box e cs, v => ∃ g us, v = .slice (some ⟨g, 0, none⟩) 1 1 ∧ w.heap[g]? = some (.cells us.toArray e (0, 0)) ∧ Cells m w Z cs us
  | .row e sz xs, v => ∃ uss : List (List Value), w.ownsRow 0 e sz v xs.length uss.flatten ∧ All2 (ICells w Z) xs uss ∧ ∀ us ∈ uss, us.length = sz
  | .rowG g e sz xs hot, v => ∃ (c : Nat) (uss : List (List Value)), v = .slice (some ⟨g, 0, none⟩) xs.length c ∧ w.ownsRow 0 e sz v xs.length uss.flatten ∧ OvlRep m w Z hot xs uss ∧ ∀ us ∈ uss, us.length = sz
theorem ObRep.keep {m m' : Mp} {w w' : World} {Z Z' : Nat → Prop} {o : AObj} {v : Value} (h : ObRep m w Z o v) (hm : ∀ i v, m i = some v → m' i = some v) (hk : ∀ b, Z b → w'.heap[b]? = w.heap[b]?) (hz : ∀ b, Z b → Z' b) (hv : ∀ b, v.ownBlock = some b → w'.heap[b]? = w.heap[b]?) : ObRep m' w' Z' o v := by
  cases o with
  | box e cs =>
    obtain ⟨g, us, rfl, hh, hc⟩ := h
    exact ⟨g, us, rfl, by rw [hv g rfl]; exact hh, Cells.keep hc hm hk hz⟩
  | row e sz xs =>
    obtain ⟨uss, h1, h2, h3⟩ := h
    exact ⟨uss, own_move h1 hv, All2.imp h2 fun _ _ h => ICells.keep h hk hz, h3⟩
  | rowG g e sz xs hot =>
    obtain ⟨c, uss, rfl, h1, h2, h3⟩ := h
    exact ⟨c, uss, rfl, own_move h1 hv, h2.imp fun _ _ _ _ h => h.keep hm hk hz, h3⟩
theorem ObRep.lt {m : Mp} {w : World} {Z : Nat → Prop} {o : AObj} {v : Value} {b : Nat} (h : ObRep m w Z o v) (hb : v.ownBlock = some b) : b < w.heap.size := by
  cases o with
  | box e cs =>
    obtain ⟨g, us, rfl, hh, _⟩ := h
    simp only [Value.ownBlock, Option.some.injEq] at hb
    subst hb
    exact blk_lt hh
  | row e sz xs => obtain ⟨uss, h1, _⟩ := h; exact own_lt h1 b hb
  | rowG g e sz xs hot => obtain ⟨c, uss, rfl, h1, _⟩ := h; exact own_lt h1 b hb
structure Frm where
  w0 : World
  kept : Nat → Prop
  Z0 : Nat → Prop
  k : Nat
  m0 : Mp
def St.live (σ : St) (id : Nat) : Prop := ∃ o, σ.ob[id]? = some (.live o)
def TabOk (w : World) (Z : Nat → Prop) : Prop := ∀ q ∈ TT, Z q.1 ∧ ∀ (j : Nat) (v : Value), q.2.2[j]? = some v → w.cell? ⟨q.1, j, none⟩ = some v
theorem TabOk.keep {w w' : World} {Z Z' : Nat → Prop} (h : TabOk w Z) (hk : ∀ b, Z b → w'.heap[b]? = w.heap[b]?) (hz : ∀ b, Z b → Z' b) : TabOk w' Z' := fun q hq => ⟨hz _ (h q hq).1, fun j v hv => by rw [cell_same (hk _ (h q hq).1)]; exact (h q hq).2 j v hv⟩
structure Sim (F : Frm) (m : Mp) (Z : Nat → Prop) (σ : St) (a : Act) (w : World) : Prop where
  tsz : a.tmps.size = σ.tm.length
  tm : ∀ (t : Nat) (x : AV), σ.tm[t]? = some (some x) → ∃ u, a.tmps[t]? = some u ∧ RepV m w Z x u
  ob : ∀ (id : Nat) (o : AObj), σ.ob[id]? = some (.live o) → ∃ v, m id = some v ∧ ObRep m w Z o v
  fr : ∀ (id : Nat), (σ.ob[id]? = some .free ∨ σ.ob[id]? = none) → m id = none
  ap : ∀ id id' v v' b, σ.live id → σ.live id' → m id = some v → m id' = some v' → v.ownBlock = some b → v'.ownBlock = some b → id = id'
  az : ∀ id v b, σ.live id → m id = some v → v.ownBlock = some b → ¬ Z b ∧ ¬ F.kept b
  zb : ∀ b, Z b → b < w.heap.size
  z0 : ∀ b, F.Z0 b → Z b
  zn : ∀ b, Z b → F.Z0 b ∨ ¬ F.kept b
  kp : ∀ b, F.kept b → b < F.w0.heap.size ∧ w.heap[b]? = F.w0.heap[b]?
  sz : F.w0.heap.size ≤ w.heap.size
  os : w.os = F.w0.os
  df : a.defers = []
  tape : w.tape = F.w0.tape
  output : w.output = F.w0.output
  tb : TabOk w Z
  mi : ∀ i, i < F.k → ∃ v, F.m0 i = some v ∧ m i = some v
end Go.Proofs.YtljdidlkiknknaaDoor.AB
namespace Go.Proofs.YtljdidlkiknknaaDoor.AB
open Go Go.RowKit Go.Proofs.YtljdidlkiknknaaDoorW.PrintWords Go.Proofs.YtljdidlkiknknaaDoorW.PrintMore
set_option linter.unusedSimpArgs false
set_option linter.unusedVariables false
namespace Sim
variable {F : Frm} {m m' : Mp} {Z Z' : Nat → Prop} {σ : St} {a : Act} {w w' : World}
theorem upd (h : Sim F m Z σ a w) (id : Nat) (s : Slot) (E : Option Nat)
    (hs : w'.os = w.os ∧ w'.tape = w.tape ∧ w'.output = w.output ∧ w.heap.size ≤ w'.heap.size)
    (hE : ∀ b, E = some b → ¬ Z b ∧ ¬ F.kept b ∧ ∀ i v, i ≠ id → σ.live i → m i = some v → v.ownBlock ≠ some b)
    (hk : ∀ b, b < w.heap.size → E ≠ some b → w'.heap[b]? = w.heap[b]?)
    (hm : ∀ i, i ≠ id → m' i = m i) (hmi : ∀ v, m id = some v → m' id = some v) (hlt : id < σ.ob.length) (hnf : s ≠ .free)
    (ho : ∀ o, s = .live o → ∃ v, m' id = some v ∧ ObRep m' w' Z o v ∧ ∀ b, v.ownBlock = some b → E = some b ∨ w.heap.size ≤ b) :
    Sim F m' Z { σ with ob := σ.ob.set id s } a w' := by
  have hmm : ∀ i v, m i = some v → m' i = some v := by
    intro i v hv
    by_cases e : i = id
    · subst e; exact hmi v hv
    · rw [hm i e]; exact hv
  have hZ : ∀ b, Z b → w'.heap[b]? = w.heap[b]? := fun b hb => hk b (h.zb b hb) fun e => (hE b e).1 hb
  have hlive : ∀ i, i ≠ id → St.live { σ with ob := σ.ob.set id s } i → σ.live i := by
    rintro i hi ⟨o, ho⟩
    exact ⟨o, by simpa only [List.getElem?_set_ne (Ne.symm hi)] using ho⟩
  have hold : ∀ i v b, i ≠ id → σ.live i → m i = some v → v.ownBlock = some b → b < w.heap.size ∧ E ≠ some b := by
    rintro i v b hi ⟨o, hlo⟩ hv hb
    obtain ⟨v', hv', hr⟩ := h.ob i o hlo
    obtain rfl := Option.some.inj (hv.symm.trans hv')
    exact ⟨hr.lt hb, fun e => (hE b e).2.2 i v hi ⟨o, hlo⟩ hv hb⟩
  have hnew : ∀ o v b, s = .live o → m' id = some v → v.ownBlock = some b → E = some b ∨ w.heap.size ≤ b := by
    intro o v b e hv hb
    obtain ⟨v', hv', -, h3⟩ := ho o e
    obtain rfl := Option.some.inj (hv.symm.trans hv')
    exact h3 b hb
  have hself : St.live { σ with ob := σ.ob.set id s } id → ∃ o, s = .live o := by
    rintro ⟨o, hl⟩
    have hl : (σ.ob.set id s)[id]? = some (Slot.live o) := hl
    rw [List.getElem?_set_self hlt] at hl
    exact ⟨o, Option.some.inj hl⟩
  refine ⟨h.tsz, ?_, ?_, ?_, ?_, ?_, fun b hb => Nat.lt_of_lt_of_le (h.zb b hb) hs.2.2.2, h.z0, h.zn, ?_, Nat.le_trans h.sz hs.2.2.2, hs.1.trans h.os, h.df, hs.2.1.trans h.tape, hs.2.2.1.trans h.output, h.tb.keep hZ fun _ h => h, fun i hi => by obtain ⟨v, h1, h2⟩ := h.mi i hi; exact ⟨v, h1, hmm _ _ h2⟩⟩
  · intro t x hx
    obtain ⟨u, h1, h2⟩ := h.tm t x hx
    exact ⟨u, h1, h2.keep hmm hZ fun _ h => h⟩
  · intro i o hl
    by_cases e : i = id
    · subst e
      have hl : (σ.ob.set i s)[i]? = some (Slot.live o) := hl
      rw [List.getElem?_set_self hlt] at hl
      obtain ⟨v, h1, h2, -⟩ := ho o (Option.some.inj hl)
      exact ⟨v, h1, h2⟩
    · have hl' : σ.ob[i]? = some (Slot.live o) := by simpa only [List.getElem?_set_ne (Ne.symm e)] using hl
      obtain ⟨v, h1, h2⟩ := h.ob i o hl'
      refine ⟨v, hmm _ _ h1, h2.keep hmm hZ (fun _ h => h) fun b hb => ?_⟩
      have := hold i v b e ⟨o, hl'⟩ h1 hb
      exact hk b this.1 this.2
  · intro i hi
    by_cases e : i = id
    · subst e
      have hi : (σ.ob.set i s)[i]? = some Slot.free ∨ (σ.ob.set i s)[i]? = none := hi
      rw [List.getElem?_set_self hlt] at hi
      rcases hi with hi | hi
      · exact absurd (Option.some.inj hi) hnf
      · cases hi
    · rw [hm i e]
      exact h.fr i (by simpa only [List.getElem?_set_ne (Ne.symm e)] using hi)
  · intro i i' v v' b hi hi' hv hv' hb hb'
    by_cases e : i = id <;> by_cases e' : i' = id
    · rw [e, e']
    · subst e
      obtain ⟨o, ho'⟩ := hself hi
      rw [hm i' e'] at hv'
      have h1 := hold i' v' b e' (hlive i' e' hi') hv' hb'
      rcases hnew o v b ho' hv hb with h2 | h2
      · exact absurd h2 h1.2
      · omega
    · subst e'
      obtain ⟨o, ho'⟩ := hself hi'
      rw [hm i e] at hv
      have h1 := hold i v b e (hlive i e hi) hv hb
      rcases hnew o v' b ho' hv' hb' with h2 | h2
      · exact absurd h2 h1.2
      · omega
    · rw [hm i e] at hv
      rw [hm i' e'] at hv'
      exact h.ap i i' v v' b (hlive i e hi) (hlive i' e' hi') hv hv' hb hb'
  · intro i v b hi hv hb
    by_cases e : i = id
    · subst e
      obtain ⟨o, ho'⟩ := hself hi
      rcases hnew o v b ho' hv hb with h2 | h2
      · exact ⟨(hE b h2).1, (hE b h2).2.1⟩
      · exact ⟨fun hz => by have := h.zb b hz; omega, fun hz => by have := (h.kp b hz).1; have := h.sz; omega⟩
    · rw [hm i e] at hv
      exact h.az i v b (hlive i e hi) hv hb
  · intro b hb
    have h1 := h.kp b hb
    exact ⟨h1.1, (hk b (Nat.lt_of_lt_of_le h1.1 h.sz) fun e => (hE b e).2.1 hb).trans h1.2⟩
/-- The world grows, and what is told of it. -/
theorem ext (h : Sim F m Z σ a w) (hb : Below w.heap.size w w') (hz : ∀ b, Z b → Z' b) (hn : ∀ b, Z' b → Z b ∨ (w.heap.size ≤ b ∧ b < w'.heap.size)) : Sim F m Z' σ a w' := by
  have hk : ∀ b, Z b → w'.heap[b]? = w.heap[b]? := fun b hz => hb.block b (h.zb b hz)
  refine ⟨h.tsz, ?_, ?_, h.fr, h.ap, ?_, ?_, fun b hb => hz b (h.z0 b hb), ?_, ?_, Nat.le_trans h.sz hb.size, hb.os.trans h.os, h.df, hb.tape.trans h.tape, hb.output.trans h.output, h.tb.keep hk hz, h.mi⟩
  · intro t x hx
    obtain ⟨u, h1, h2⟩ := h.tm t x hx
    exact ⟨u, h1, h2.keep (fun _ _ h => h) hk hz⟩
  · intro id o ho
    obtain ⟨v, h1, h2⟩ := h.ob id o ho
    exact ⟨v, h1, h2.keep (fun _ _ h => h) hk hz fun b hv => hb.block b (h2.lt hv)⟩
  · intro id v b hl hv hb'
    have h1 := h.az id v b hl hv hb'
    refine ⟨fun hz' => ?_, h1.2⟩
    rcases hn b hz' with h2 | h2
    · exact h1.1 h2
    · obtain ⟨o, ho⟩ := hl
      obtain ⟨v', hv', hr⟩ := h.ob id o ho
      obtain rfl := Option.some.inj (hv.symm.trans hv')
      have := hr.lt hb'
      omega
  · intro b hz'
    rcases hn b hz' with h2 | h2
    · exact Nat.lt_of_lt_of_le (h.zb b h2) hb.size
    · exact h2.2
  · intro b hz'
    rcases hn b hz' with h2 | h2
    · exact h.zn b h2
    · exact .inr fun hk => by have := (h.kp b hk).1; have := h.sz; omega
  · intro b hb'
    have h1 := h.kp b hb'
    exact ⟨h1.1, (hb.block b (Nat.lt_of_lt_of_le h1.1 h.sz)).trans h1.2⟩
theorem drewN (h : Sim F m Z σ a w) (n : Nat) : Sim F m Z σ a (w.drewN n) := h.ext (pw_below_drewN (Below.refl _ _) n) (fun _ h => h) fun _ h => .inl h
/-- A temporary is told. -/
theorem put (h : Sim F m Z σ a w) (d : Nat) {x : AV} {u : Value} (hx : RepV m w Z x u) : Sim F m Z { σ with tm := σ.tm.set d (some x) } (a.put (some d) u) w := by
  refine ⟨by simp [Act.put, h.tsz], ?_, h.ob, h.fr, h.ap, h.az, h.zb, h.z0, h.zn, h.kp, h.sz, h.os, h.df, h.tape, h.output, h.tb, h.mi⟩
  intro t y hy
  have hy : (σ.tm.set d (some x))[t]? = some (some y) := hy
  show ∃ u', (a.tmps.setIfInBounds d u)[t]? = some u' ∧ _
  by_cases e : d = t
  · subst e
    have hl : d < σ.tm.length := by
      have := (List.getElem?_eq_some_iff.mp hy).1
      simpa using this
    rw [List.getElem?_set_self hl] at hy
    obtain rfl := Option.some.inj (Option.some.inj hy)
    exact ⟨u, by rw [Array.getElem?_setIfInBounds_self_of_lt (by rw [h.tsz]; exact hl)], hx⟩
  · rw [List.getElem?_set_ne e] at hy
    rw [Array.getElem?_setIfInBounds_ne e]
    exact h.tm t y hy
/-- More places for what is to be made. -/
theorem room (h : Sim F m Z σ a w) (n : Nat) : Sim F m Z { σ with ob := σ.ob ++ List.replicate n .free } a w := by
  have hg : ∀ (id : Nat) (o : AObj), (σ.ob ++ List.replicate n Slot.free)[id]? = some (.live o) → σ.ob[id]? = some (.live o) := by
    intro id o ho
    by_cases hi : id < σ.ob.length
    · rwa [List.getElem?_append_left hi] at ho
    · rw [List.getElem?_append_right (by omega), List.getElem?_replicate] at ho
      split at ho <;> simp at ho
  have hlv : ∀ id, St.live { σ with ob := σ.ob ++ List.replicate n .free } id → σ.live id := fun id ⟨o, ho⟩ => ⟨o, hg id o ho⟩
  refine ⟨h.tsz, h.tm, fun id o ho => h.ob id o (hg id o ho), fun id hi => ?_, fun id id' v v' b hl hl' => h.ap id id' v v' b (hlv _ hl) (hlv _ hl'), fun id v b hl => h.az id v b (hlv _ hl), h.zb, h.z0, h.zn, h.kp, h.sz, h.os, h.df, h.tape, h.output, h.tb, h.mi⟩
  refine h.fr id ?_
  have hi : (σ.ob ++ List.replicate n Slot.free)[id]? = some Slot.free ∨ (σ.ob ++ List.replicate n Slot.free)[id]? = none := hi
  by_cases hlt : id < σ.ob.length
  · rwa [List.getElem?_append_left hlt] at hi
  · exact .inr (List.getElem?_eq_none (by omega))
end Sim
/-- What an operand tells. -/
def St.ev (σ : St) : Operand → Option AV
  | .tmp t => match σ.tm[t]? with
    | some (some x) => some x
    | _ => none
  | .const v => if scal v = true then some (.t (.c (.i (.v v)))) else none
  | .func f => some (.t (.c (.i (.fn (.func f) []))))
  | .global g => match TT.find? (fun q => q.1 == g) with
    | some q => if q.2.2.all scal = true then some (.t (.c (.i (.pt (q.2.2.map .v))))) else none
    | none => none
theorem Sim.ev {F : Frm} {m : Mp} {Z : Nat → Prop} {σ : St} {a : Act} {w : World} (h : Sim F m Z σ a w) {x : Operand} {y : AV} (hx : σ.ev x = some y) : RepV m w Z y (a.eval x) := by
  cases x with
  | tmp t =>
    simp only [St.ev] at hx
    split at hx
    · rename_i x' e
      obtain rfl := Option.some.inj hx
      obtain ⟨u, h1, h2⟩ := h.tm t _ e
      have : a.eval (.tmp t) = u := by simp [Act.eval, Array.getD_eq_getD_getElem?, h1]
      rw [this]; exact h2
    · cases hx
  | const v =>
    simp only [St.ev] at hx
    split at hx
    · rename_i hs
      obtain rfl := Option.some.inj hx
      exact RepI.v hs
    · cases hx
  | func f =>
    simp only [St.ev] at hx
    obtain rfl := Option.some.inj hx
    exact RepI.fn (vs := #[]) rfl (fun j y u hy => by simp at hy)
  | global g =>
    simp only [St.ev] at hx
    split at hx
    · rename_i q hq
      split at hx
      · rename_i hs
        obtain rfl := Option.some.inj hx
        obtain ⟨hz, hh⟩ := h.tb q (List.mem_of_find?_eq_some hq)
        have hg : q.1 = g := by simpa using List.find?_some hq
        subst hg
        refine RepI.pt (fun j => q.2.2.getD j undef) hz (fun j hj => ?_) (fun j y hy => ?_)
        · have hj : j < q.2.2.length := by simpa using hj
          rw [Nat.zero_add]
          exact hh j _ (by rw [List.getD_eq_getElem?_getD, List.getElem?_eq_getElem hj]; rfl)
        · rw [List.getElem?_map] at hy
          cases hx : q.2.2[j]? with
          | none => rw [hx] at hy; cases hy
          | some u =>
            rw [hx] at hy
            obtain rfl := Option.some.inj hy
            have : q.2.2.getD j undef = u := by rw [List.getD_eq_getElem?_getD, hx]; rfl
            rw [this]
            exact RepI.v (List.all_eq_true.mp hs u (List.mem_of_getElem? hx))
      · cases hx
    · cases hx
def semPure (P : Program) {α : Type} : Sem α → Option α
  | .pure x => some x
  | .program k => semPure P (k P)
  | _ => none
theorem semPure_run {P : Program} {α : Type} : ∀ (s : Sem α) {x : α}, semPure P s = some x → ∀ w, s.run P w = .ok x w
  | .pure y, x, h, w => by simp only [semPure, Option.some.injEq] at h; subst h; rfl
  | .program k, x, h, w => by
    have : (Sem.program k).run P w = (k P).run P w := rfl
    rw [this]
    exact semPure_run (k P) h w
  | .load .., _, h, _ | .store .., _, h, _ | .new .., _, h, _ | .shape .., _, h, _ | .freeze .., _, h, _ | .frozen .., _, h, _ | .getObj .., _, h, _ | .setObj .., _, h, _ | .choose .., _, h, _ | .sys .., _, h, _ | .mark .., _, h, _ | .halt .., _, h, _ => by simp [semPure] at h
def AV.sc : AV → Option Value
  | .t (.c (.i (.v u))) => some u
  | _ => none
theorem RepV.sc {m : Mp} {w : World} {Z : Nat → Prop} {x : AV} {u v : Value} (h : RepV m w Z x u) (hs : x.sc = some v) : u = v ∧ scal v = true := by
  unfold AV.sc at hs
  split at hs
  · rename_i u'
    obtain rfl := Option.some.inj hs
    have h1 : RepI w Z (.v u') u := h
    cases h1 with
    | v h => exact ⟨rfl, h⟩
  · cases hs
/-- What the operands hold, where all are plain. -/
def St.rho (σ : St) (x : Operand) : Value := match (σ.ev x).bind AV.sc with
  | some u => u
  | none => undef
def scalarOp : Op → Bool
  | .binOp .. | .unOp .. | .convert .. | .index .. | .move _ | .assign _ | .pick .. => true
  | .slice _ _ _ _ none => true
  | _ => false
def St.plain (σ : St) (x : Operand) : Bool := ((σ.ev x).bind AV.sc).isSome
theorem Sim.rho {F : Frm} {m : Mp} {Z : Nat → Prop} {σ : St} {a : Act} {w : World} (h : Sim F m Z σ a w) {x : Operand} (hx : σ.plain x = true) : a.eval x = σ.rho x ∧ scal (σ.rho x) = true := by
  unfold St.plain at hx
  unfold St.rho
  cases e : σ.ev x with
  | none => rw [e] at hx; simp at hx
  | some y =>
    rw [e] at hx
    cases e2 : y.sc with
    | none => simp [e2] at hx
    | some u => simpa [e2] using (h.ev e).sc e2
end Go.Proofs.YtljdidlkiknknaaDoor.AB
namespace Go.Proofs.YtljdidlkiknknaaDoor.AB
open Go Go.RowKit Go.Proofs.YtljdidlkiknknaaDoorW.PrintWords Go.Proofs.YtljdidlkiknknaaDoorW.PrintMore
set_option linter.unusedSimpArgs false
set_option linter.unusedVariables false
theorem scalarOp_agree (ρ ρ' : Operand → Value) (o : Oper) (hs : scalarOp o.op = true) (h : ∀ x ∈ o.op.operands.toList, ρ x = ρ' x) : execOp ρ o = execOp ρ' o := by
  unfold execOp
  cases ho : o.op with
  | slice t x lo hi mx =>
    rw [ho] at hs h
    cases mx with
    | some m => simp [scalarOp] at hs
    | none =>
      simp only [Op.operands] at h
      have hx : ρ x = ρ' x := h x (by simp)
      have hl : lo.map ρ = lo.map ρ' := by
        cases lo with
        | none => rfl
        | some l => exact congrArg some (h l (by simp))
      have hh : hi.map ρ = hi.map ρ' := by
        cases hi with
        | none => rfl
        | some l => exact congrArg some (h l (by simp))
      simp only [hx, hl, hh, Option.map_none]
  | binOp op t x y u => rw [ho] at h; simp only [Op.operands] at h; simp only [h x (by simp), h y (by simp)]
  | unOp op t x => rw [ho] at h; simp only [Op.operands] at h; simp only [h x (by simp)]
  | convert s d x => rw [ho] at h; simp only [Op.operands] at h; simp only [h x (by simp)]
  | index t x y => rw [ho] at h; simp only [Op.operands] at h; simp only [h x (by simp), h y (by simp)]
  | move x => rw [ho] at h; simp only [Op.operands] at h; simp only [h x (by simp)]
  | assign x => rw [ho] at h; simp only [Op.operands] at h; simp only [h x (by simp)]
  | pick c x y => rw [ho] at h; simp only [Op.operands] at h; simp only [h c (by simp), h x (by simp), h y (by simp)]
  | _ => (rw [ho] at hs; try (simp [scalarOp] at hs))
def pureOp (P : Program) (σ : St) (o : Oper) : Option Value := match semPure P (execOp σ.rho o) with
  | some (.value u) => some u
  | _ => none
def St.put (σ : St) (d : Option Nat) (x : AV) : St := match d with
  | some d => { σ with tm := σ.tm.set d (some x) }
  | none => σ
theorem Sim.putO {F : Frm} {m : Mp} {Z : Nat → Prop} {σ : St} {a : Act} {w : World} (h : Sim F m Z σ a w) (d : Option Nat) {x : AV} {u : Value} (hx : RepV m w Z x u) : Sim F m Z (σ.put d x) (a.put d u) w := by
  cases d with
  | none => exact h
  | some d => exact h.put d hx
/-- An operation leads from one state to the next, whatever the world is. -/
def Stp (P : Program) (F : Frm) (o : Oper) (σ σ' : St) : Prop := ∀ m Z a w, Sim F m Z σ a w → ∀ (K : Act → World → Prop) (Q : Exit → Act → World → Prop), (∀ m' Z' a' w', Sim F m' Z' σ' a' w' → a'.defers = a.defers → K a' w') → o.wp P a w K Q
theorem Act.put_defers (a : Act) (d : Option Tmp) (u : Value) : (a.put d u).defers = a.defers := by cases d <;> rfl
theorem wp_value {P : Program} {o : Oper} {a : Act} {w w' : World} {K : Act → World → Prop} {Q : Exit → Act → World → Prop} {u : Value} (hr : (execOp a.eval o).run P w = .ok (.value u) w') (h : K (a.put o.dst u) w') : o.wp P a w K Q := by
  unfold Oper.wp
  rw [hr]
  exact h
theorem wp_skip' {P : Program} {o : Oper} {a : Act} {w w' : World} {K : Act → World → Prop} {Q : Exit → Act → World → Prop} (hr : (execOp a.eval o).run P w = .ok .skip w') (h : K (a.put o.dst undef) w') : o.wp P a w K Q := by
  unfold Oper.wp
  rw [hr]
  exact h
section
variable {P : Program} {F : Frm} {o : Oper} {σ : St}
theorem stp_scalar {u : Value} (hs : scalarOp o.op = true) (hp : ∀ x ∈ o.op.operands.toList, σ.plain x = true) (hv : pureOp P σ o = some u) (hu : scal u = true) : Stp P F o σ (σ.put o.dst (.t (.c (.i (.v u))))) := by
  intro m Z a w h K Q hK
  have e : execOp a.eval o = execOp σ.rho o := scalarOp_agree _ _ o hs fun x hx => (h.rho (hp x hx)).1
  have hr : (execOp a.eval o).run P w = .ok (.value u) w := by
    rw [e]
    unfold pureOp at hv
    split at hv
    · rename_i u' hu'
      obtain rfl := Option.some.inj hv
      exact semPure_run _ hu' w
    · cases hv
  exact wp_value hr (hK m Z _ _ (h.putO o.dst (RepI.v hu)) (Act.put_defers ..))
theorem stp_move {x : Operand} {y : AV} (ho : o.op = .move x ∨ o.op = .assign x) (hx : σ.ev x = some y) : Stp P F o σ (σ.put o.dst y) := by
  intro m Z a w h K Q hK
  have hr : (execOp a.eval o).run P w = .ok (.value (a.eval x)) w := by
    unfold execOp
    rcases ho with ho | ho <;> rw [ho] <;> rfl
  exact wp_value hr (hK m Z _ _ (h.putO o.dst (h.ev hx)) (Act.put_defers ..))
/-- A new object of one's own. -/
theorem Sim.new {m : Mp} {Z : Nat → Prop} {a : Act} {w : World} (h : Sim F m Z σ a w) {id : Nat} (hf : σ.ob[id]? = some .free) (e : Nat) {cs : List CV} {us : List Value} (hc : Cells m w Z cs us) :
    ∃ m', m' id = some (.slice (some ⟨w.heap.size, 0, none⟩) 1 1) ∧ (∀ i v, m i = some v → m' i = some v) ∧ Sim F m' Z { σ with ob := σ.ob.set id (.live (.box e cs)) } a (w.alloc (.cells us.toArray e (0, 0))) := by
  have hn : m id = none := h.fr id (.inl hf)
  have hlt : id < σ.ob.length := (List.getElem?_eq_some_iff.mp hf).1
  have hmm : ∀ i v, m i = some v → (fun i => if i = id then some (Value.slice (some ⟨w.heap.size, 0, none⟩) 1 1) else m i) i = some v := by
    intro i v hv
    by_cases e : i = id
    · subst e; rw [hn] at hv; cases hv
    · simp [e, hv]
  have hk : ∀ b, b < w.heap.size → (w.alloc (.cells us.toArray e (0, 0))).heap[b]? = w.heap[b]? := fun b hb => Below.heap_alloc w _ b hb
  have ha := below_alloc (Below.refl w.heap.size w) (.cells us.toArray e (0, 0))
  refine ⟨fun i => if i = id then some (.slice (some ⟨w.heap.size, 0, none⟩) 1 1) else m i, by simp, hmm, ?_⟩
  refine h.upd id _ none ⟨ha.os, ha.tape, ha.output, ha.size⟩ (fun b hb => by cases hb) (fun b hb _ => hk b hb) (fun i hi => by simp [hi]) (fun v hv => hmm id v hv) hlt (by simp) ?_
  intro o ho
  obtain rfl := Slot.live.inj ho
  refine ⟨_, by simp, ⟨w.heap.size, us, rfl, blk_new w _, Cells.keep hc hmm (fun b hb => hk b (h.zb b hb)) fun _ h => h⟩, ?_⟩
  intro b hb
  simp only [Value.ownBlock, Option.some.injEq] at hb
  exact .inr (by omega)
/-- The cells of a new variable. -/
def zeroC (P : Program) (t : TypeId) : Option (List Value) := match P.info? t with
  | some i => match i.zero with
    | some z => if z.cells.toList.all scal then some z.cells.toList else none
    | none => none
  | none => none
theorem cells_scal {m : Mp} {w : World} {Z : Nat → Prop} : ∀ {us : List Value}, us.all scal = true → Cells m w Z (us.map fun u => .i (.v u)) us
  | [], _ => All2.nil
  | u :: us, h => by
    simp only [List.all_cons, Bool.and_eq_true] at h
    exact All2.cons (RepI.v h.1) (cells_scal h.2)
theorem run_alloc_new {P : Program} {w : World} {t : TypeId} {us : List Value} (hz : zeroC P t = some us) : (Instr.alloc t true (.tuple #[])).run P w = .ok (.pointer (some ⟨w.heap.size, 0, none⟩)) (w.alloc (.cells us.toArray t (0, 0))) ∧ us.all scal = true := by
  unfold zeroC at hz
  split at hz
  · rename_i i hi
    split at hz
    · rename_i z hzz
      split at hz
      · rename_i hs
        obtain rfl := Option.some.inj hz
        refine ⟨?_, hs⟩
        simp [Instr.alloc, zeroValue, typeInfo, hi, hzz, newVar, newRow]
      · cases hz
    · cases hz
  · cases hz
theorem stp_alloc {t : TypeId} {us : List Value} {id : Nat} (ho : o.op = .alloc t) (hz : zeroC P t = some us) (hf : σ.ob[id]? = some .free) :
    Stp P F o σ (St.put { σ with ob := σ.ob.set id (.live (.box t (us.map fun u => .i (.v u)))) } o.dst (.t (.c (.loc id 0)))) := by
  intro m Z a w h K Q hK
  obtain ⟨hr, hs⟩ := run_alloc_new (w := w) hz
  obtain ⟨m', h1, -, h2⟩ := h.new hf t (cells_scal (m := m) (w := w) (Z := Z) hs)
  refine wp_value (u := .pointer (some ⟨w.heap.size, 0, none⟩)) (by unfold execOp; rw [ho]; simp only [Sem.run_bind, hr, Result.andThen_ok, Sem.run_pure]) (hK m' Z _ _ (h2.putO o.dst ?_) (Act.put_defers ..))
  exact ⟨_, _, _, h1, rfl⟩
def AV.tv : AV → Option TV
  | .t x => some x
  | _ => none
theorem RepV.tv {m : Mp} {w : World} {Z : Nat → Prop} {x : AV} {u : Value} {y : TV} (h : RepV m w Z x u) (hs : x.tv = some y) : RepT m w Z y u := by
  cases x with
  | t x => simp only [AV.tv, Option.some.injEq] at hs; subst hs; exact h
  | tup xs => simp [AV.tv] at hs
theorem stp_box {t : TypeId} {x : Operand} {y : AV} {z : TV} {id : Nat} (ho : o.op = .box t x) (hx : σ.ev x = some y) (hy : y.tv = some z) (hf : σ.ob[id]? = some .free) :
    Stp P F o σ (St.put { σ with ob := σ.ob.set id (.live (.box t z.cells)) } o.dst (.t (.c (.loc id 0)))) := by
  intro m Z a w h K Q hK
  have hc := ((h.ev hx).tv hy).cells
  obtain ⟨m', h1, -, h2⟩ := h.new hf t hc
  refine wp_value (u := .pointer (some ⟨w.heap.size, 0, none⟩)) (w' := w.alloc (.cells (a.eval x).cells t (0, 0))) (by unfold execOp; rw [ho]; simp [Instr.box, newVar, newRow]) (hK m' Z _ _ (h2.putO o.dst ?_) (Act.put_defers ..))
  exact ⟨_, _, _, h1, rfl⟩
def aggP (P : Program) (t : TypeId) : Option Bool := match P.underlying t with
  | some (.struct _) | some (.array ..) => some true
  | some _ => some false
  | none => none
def sizeP (P : Program) (t : TypeId) : Option Nat := (P.info? t).map (·.size)
def mkT (ag : Bool) (cs : List CV) : Option TV := match ag, cs with
  | true, cs => some (.agg cs)
  | false, [c] => some (.c c)
  | false, _ => none
def mkV (ag : Bool) (us : List Value) : Value := if ag then .agg us.toArray else us.headD undef
theorem mkT_rep {m : Mp} {w : World} {Z : Nat → Prop} {ag : Bool} {cs : List CV} {us : List Value} {x : TV} (h : Cells m w Z cs us) (hx : mkT ag cs = some x) : RepT m w Z x (mkV ag us) ∧ (ag = false → us.length = 1) := by
  unfold mkT at hx
  split at hx
  · obtain rfl := Option.some.inj hx
    exact ⟨⟨us, rfl, h⟩, fun e => by cases e⟩
  · obtain rfl := Option.some.inj hx
    have hl := h.1
    match us, hl with
    | [u], _ => exact ⟨h.2 0 _ _ rfl rfl, fun _ => rfl⟩
  · cases hx
theorem add_o (b o j : Nat) : (⟨b, o, none⟩ : Addr).add j = ⟨b, o + j, none⟩ := by unfold Addr.add; split <;> simp_all
theorem run_load_cells {P : Program} {w : World} {t : TypeId} {b o : Nat} {us : List Value} {ag : Bool} (hag : aggP P t = some ag) (hsz : sizeP P t = some us.length) (hc : ∀ j u, us[j]? = some u → w.cell? ⟨b, o + j, none⟩ = some u) (h1 : ag = false → us.length = 1) :
    (Instr.loadAt t (.pointer (some ⟨b, o, none⟩))).run P w = .ok (mkV ag us) w := by
  obtain ⟨i, hi, hs⟩ := Option.map_eq_some_iff.1 hsz
  have hl := run_loadCells_list (P := P) (w := w) ⟨b, o, none⟩ us (fun j v hj => by rw [add_o]; exact hc j v hj)
  unfold aggP at hag
  split at hag
  · rename_i fs hu
    obtain rfl := Option.some.inj hag
    simp [Instr.loadAt, Instr.sureAddr, loadVar, isAgg, run_underlying hu, sizeOf, typeInfo, hi, hs, hl, mkV]
  · rename_i n e hu
    obtain rfl := Option.some.inj hag
    simp [Instr.loadAt, Instr.sureAddr, loadVar, isAgg, run_underlying hu, sizeOf, typeInfo, hi, hs, hl, mkV]
  · rename_i d hn1 hn2 hu
    obtain rfl := Option.some.inj hag
    have hl1 := h1 rfl
    match us, hl1 with
    | [u], _ =>
      have := hc 0 u rfl
      rw [Nat.add_zero] at this
      have hb : (isAgg t).run P w = .ok false w := by
        simp only [isAgg, Sem.run_bind, run_underlying hu, Result.andThen_ok]
        cases d <;> first | rfl | exact absurd hu (hn1 _) | exact absurd hu (hn2 _ _)
      simp [Instr.loadAt, Instr.sureAddr, loadVar, hb, this, mkV]
  · cases hag
end
end Go.Proofs.YtljdidlkiknknaaDoor.AB
namespace Go.Proofs.YtljdidlkiknknaaDoor.AB
open Go Go.RowKit Go.Proofs.YtljdidlkiknknaaDoorW.PrintWords Go.Proofs.YtljdidlkiknknaaDoorW.PrintMore
set_option linter.unusedSimpArgs false
set_option linter.unusedVariables false
section
variable {P : Program} {F : Frm} {o : Oper} {σ : St}
/-- What stands from place j on, n cells. -/
def cutC {α : Type} (cs : List α) (j n : Nat) : List α := (cs.drop j).take n
theorem cutC_len {α : Type} {cs : List α} {j n : Nat} (h : j + n ≤ cs.length) : (cutC cs j n).length = n := by unfold cutC; simp; omega
theorem cutC_get {α : Type} {cs : List α} {j n i : Nat} {u : α} (h : (cutC cs j n)[i]? = some u) : cs[j + i]? = some u := by
  unfold cutC at h
  rw [List.getElem?_take] at h
  split at h
  · rwa [List.getElem?_drop] at h
  · cases h
theorem All2.cut {α β : Type} {R : α → β → Prop} {xs : List α} {us : List β} (h : All2 R xs us) (j n : Nat) : All2 R (cutC xs j n) (cutC us j n) := (h.drop j).take n
/-- The object of an id. -/
def St.box (σ : St) (id : Nat) : Option (Nat × List CV) := match σ.ob[id]? with
  | some (.live (.box e cs)) => some (e, cs)
  | _ => none
def St.row (σ : St) (id : Nat) : Option (Nat × Nat × List (List IV)) := match σ.ob[id]? with
  | some (.live (.row e sz xs)) => some (e, sz, xs)
  | _ => none
theorem St.box_ob {id e : Nat} {cs : List CV} (h : σ.box id = some (e, cs)) : σ.ob[id]? = some (.live (.box e cs)) := by
  unfold St.box at h
  split at h
  · rename_i e' cs' he
    simp only [Option.some.injEq, Prod.mk.injEq] at h
    obtain ⟨rfl, rfl⟩ := h
    exact he
  · cases h
theorem St.row_ob {id e sz : Nat} {xs : List (List IV)} (h : σ.row id = some (e, sz, xs)) : σ.ob[id]? = some (.live (.row e sz xs)) := by
  unfold St.row at h
  split at h
  · rename_i e' sz' xs' he
    simp only [Option.some.injEq, Prod.mk.injEq] at h
    obtain ⟨rfl, rfl, rfl⟩ := h
    exact he
  · cases h
theorem flat_get' {α : Type} {uss : List (List α)} {sz : Nat} (h : ∀ us ∈ uss, us.length = sz) {i j : Nat} {us : List α} (hi : uss[i]? = some us) (hj : j < sz) : uss.flatten[i * sz + j]? = us[j]? := by
  induction uss generalizing i with
  | nil => simp at hi
  | cons x uss ih =>
    have hx : x.length = sz := h x (by simp)
    cases i with
    | zero =>
      simp at hi; subst hi
      rw [List.flatten_cons, Nat.zero_mul, Nat.zero_add, List.getElem?_append_left (by omega)]
    | succ i =>
      simp at hi
      rw [List.flatten_cons, List.getElem?_append_right (by rw [hx, Nat.succ_mul]; omega), hx, show (i + 1) * sz + j - sz = i * sz + j by rw [Nat.succ_mul]; omega]
      exact ih (fun us hu => h us (by simp [hu])) hi
theorem ownsRow_cell {w : World} {e sz n : Nat} {v : Value} {g : Nat} {k c : Nat} {xs : List Value} (h : w.ownsRow 0 e sz v n xs) (hv : v = .slice (some ⟨g, 0, none⟩) k c) (i : Nat) {u : Value} (hu : xs[i]? = some u) : w.cell? ⟨g, i, none⟩ = some u := by
  have hl : i < xs.length := (List.getElem?_eq_some_iff.mp hu).1
  have h1 : xs.length = n * sz := h.1
  obtain ⟨A, c', e'⟩ := own_slice h
  rw [e'] at hv
  simp only [Value.slice.injEq] at hv
  obtain ⟨rfl, rfl, rfl⟩ := hv
  subst e'
  exact (World.ownsRow.cellAt h i (by omega)).trans hu
/-- What stands in a place: a place of one's own, or one that is read alone. -/
inductive Place where
  | box (id j : Nat)
  | el (id i sz j : Nat)
  | pt (cs : List IV)
def AV.place : AV → Option Place
  | .t (.c (.loc id j)) => some (.box id j)
  | .t (.c (.el id i sz j)) => some (.el id i sz j)
  | .t (.c (.i (.pt cs))) => some (.pt cs)
  | _ => none
/-- What is read there: n cells; ys: the element, where it stands in a row. -/
def St.read (σ : St) (p : Place) (n : Nat) (ys : List IV) : Option (List Prop × List CV) := match p with
  | .box id j => match σ.box id with
    | some (_, cs) => if j + n ≤ cs.length then some ([], cutC cs j n) else none
    | none => none
  | .el id i sz j => match σ.row id with
    | some (_, sz', xs) => if sz = sz' ∧ j + n ≤ sz ∧ ys.length = sz then some ([xs[i]? = some ys], ivs (cutC ys j n)) else none
    | none => none
  | .pt cs => if n ≤ cs.length then some ([], ivs (cs.take n)) else none
def Obs : List Prop → Prop
  | [] => True
  | p :: l => p ∧ Obs l
theorem Sim.read {m : Mp} {Z : Nat → Prop} {a : Act} {w : World} (h : Sim F m Z σ a w) {x : AV} {u : Value} (hx : RepV m w Z x u) {p : Place} (hp : x.place = some p) {n : Nat} {ys : List IV} {cs : List CV} {ob : List Prop} (hr : σ.read p n ys = some (ob, cs)) (hob : Obs ob) :
    cs.length = n ∧ ∃ b off us, u = .pointer (some ⟨b, off, none⟩) ∧ (∀ (j : Nat) (v : Value), us[j]? = some v → w.cell? ⟨b, off + j, none⟩ = some v) ∧ Cells m w Z cs us := by
  unfold AV.place at hp
  split at hp
  · rename_i id j
    obtain rfl := Option.some.inj hp
    simp only [St.read] at hr
    split at hr
    · rename_i e cs' hb
      split at hr
      · rename_i hl
        simp only [Option.some.injEq, Prod.mk.injEq] at hr
        obtain ⟨-, rfl⟩ := hr
        obtain ⟨g, n', c', h1, rfl⟩ := hx
        obtain ⟨v, h2, h3⟩ := h.ob id _ (St.box_ob hb)
        obtain ⟨g', us, rfl, hh, hc⟩ := h3
        obtain rfl := (by simpa using h1.symm.trans h2 : g = g' ∧ _).1
        refine ⟨cutC_len hl, g, j, cutC us j n, rfl, fun i v hv => ?_, hc.cut j n⟩
        rw [blk_cell hh]
        simpa using cutC_get hv
      · cases hr
    · cases hr
  · rename_i id i sz j
    obtain rfl := Option.some.inj hp
    simp only [St.read] at hr
    split at hr
    · rename_i e sz' xs hb
      split at hr
      · rename_i hl
        obtain ⟨rfl, hl, hy⟩ := hl
        simp only [Option.some.injEq, Prod.mk.injEq] at hr
        obtain ⟨rfl, rfl⟩ := hr
        have hxi := hob.1
        obtain ⟨g, n', c', h1, rfl⟩ := hx
        obtain ⟨v, h2, h3⟩ := h.ob id _ (St.row_ob hb)
        obtain ⟨uss, ho, hc, hs⟩ := h3
        obtain rfl := Option.some.inj (h1.symm.trans h2)
        obtain ⟨us, hu, hcu⟩ := hc.get hxi
        refine ⟨by unfold ivs; rw [List.length_map]; exact cutC_len (by omega), g, i * sz + j, cutC us j n, rfl, fun k v hv => ?_, ICells.cells (hcu.cut j n)⟩
        have hk := cutC_get hv
        have hkl : j + k < us.length := (List.getElem?_eq_some_iff.mp hk).1
        have hul := hs us (List.mem_of_getElem? hu)
        have := flat_get' hs hu (j := j + k) (by omega)
        rw [hk] at this
        rw [Nat.add_assoc]
        exact ownsRow_cell ho rfl _ this
      · cases hr
    · cases hr
  · rename_i cs'
    obtain rfl := Option.some.inj hp
    simp only [St.read] at hr
    split at hr
    · rename_i hl
      simp only [Option.some.injEq, Prod.mk.injEq] at hr
      obtain ⟨-, rfl⟩ := hr
      have hx : RepI w Z (.pt cs') u := hx
      cases hx with
      | pt val hb hcell hrep =>
        rename_i b off
        refine ⟨by simp [ivs]; omega, b, off, (List.range n).map val, rfl, fun i v hv => ?_, by simp [ivs]; omega, fun i x v hx hv => ?_⟩
        · rw [List.getElem?_map] at hv
          cases hi : (List.range n)[i]? with
          | none => rw [hi] at hv; cases hv
          | some k =>
            rw [hi] at hv
            have h1 := List.getElem?_eq_some_iff.mp hi
            obtain ⟨h2, h3⟩ := h1
            simp at h2 h3 hv
            subst h3; subst hv
            exact hcell i (by omega)
        · rw [List.getElem?_map] at hv
          cases hi : (List.range n)[i]? with
          | none => rw [hi] at hv; cases hv
          | some k =>
            rw [hi] at hv
            obtain ⟨h2, h3⟩ := List.getElem?_eq_some_iff.mp hi
            simp at h2 h3 hv
            subst h3; subst hv
            unfold ivs at hx
            rw [List.getElem?_map, List.getElem?_take, if_pos h2] at hx
            cases hc : cs'[i]? with
            | none => rw [hc] at hx; cases hx
            | some y => rw [hc] at hx; simp at hx; subst hx; exact hrep i y hc
    · cases hr
  · cases hp
theorem stp_load {t : TypeId} {x : Operand} {y : AV} {p : Place} {n : Nat} {ag : Bool} {ys : List IV} {cs : List CV} {ob : List Prop} {z : TV} (ho : o.op = .load t x) (hx : σ.ev x = some y) (hp : y.place = some p) (hag : aggP P t = some ag) (hsz : sizeP P t = some n)
    (hr : σ.read p n ys = some (ob, cs)) (hz : mkT ag cs = some z) (hob : Obs ob) : Stp P F o σ (σ.put o.dst (.t z)) := by
  intro m Z a w h K Q hK
  obtain ⟨hl, b, off, us, hu, hc, hcs⟩ := h.read (h.ev hx) hp hr hob
  obtain ⟨h1, h2⟩ := mkT_rep hcs hz
  have hrun := run_load_cells (P := P) (w := w) hag (by rw [hsz, ← hl, hcs.1]) hc h2
  exact wp_value (u := mkV ag us) (by unfold execOp; rw [ho]; simp only [hu, Sem.run_bind, hrun, Result.andThen_ok, Sem.run_pure]) (hK m Z _ _ (h.putO o.dst h1) (Act.put_defers ..))
end
end Go.Proofs.YtljdidlkiknknaaDoor.AB
namespace Go.Proofs.YtljdidlkiknknaaDoor.AB
open Go Go.RowKit Go.Proofs.YtljdidlkiknknaaDoorW.PrintWords Go.Proofs.YtljdidlkiknknaaDoorW.PrintMore
set_option linter.unusedSimpArgs false
set_option linter.unusedVariables false
section
variable {P : Program} {F : Frm} {o : Oper} {σ : St}
def laidC {α : Type} (cs : List α) (j : Nat) (seg : List α) : List α := cs.take j ++ seg ++ cs.drop (j + seg.length)
theorem laidC_len {α : Type} {cs seg : List α} {j : Nat} (h : j + seg.length ≤ cs.length) : (laidC cs j seg).length = cs.length := by
  unfold laidC
  simp only [List.length_append, List.length_take, List.length_drop]
  omega
theorem All2.laid {α β : Type} {R : α → β → Prop} {xs seg : List α} {us useg : List β} (h : All2 R xs us) (h' : All2 R seg useg) (j : Nat) : All2 R (laidC xs j seg) (laidC us j useg) := by
  unfold laidC
  rw [← h'.1]
  exact ((h.take j).append h').append (h.drop _)
theorem flat_len' {α : Type} {uss : List (List α)} {sz : Nat} (h : ∀ us ∈ uss, us.length = sz) : uss.flatten.length = uss.length * sz := by
  induction uss with
  | nil => simp
  | cons x uss ih =>
    rw [List.flatten_cons, List.length_append, ih (fun us hu => h us (by simp [hu])), h x (by simp), List.length_cons, Nat.succ_mul]
    omega
theorem flat_laid' {α : Type} {uss : List (List α)} {sz : Nat} (h : ∀ us ∈ uss, us.length = sz) {i j : Nat} {us seg : List α} (hi : uss[i]? = some us) (hj : j + seg.length ≤ sz) : (uss.set i (laidC us j seg)).flatten = laidC uss.flatten (i * sz + j) seg := by
  induction uss generalizing i with
  | nil => simp at hi
  | cons x uss ih =>
    have hx : x.length = sz := h x (by simp)
    cases i with
    | zero =>
      simp at hi; subst hi
      rw [List.set_cons_zero, List.flatten_cons, List.flatten_cons, Nat.zero_mul, Nat.zero_add]
      unfold laidC
      rw [List.take_append_of_le_length (by omega), List.drop_append_of_le_length (by omega)]
      simp
    | succ i =>
      simp at hi
      rw [List.set_cons_succ, List.flatten_cons, ih (fun us hu => h us (by simp [hu])) hi, List.flatten_cons]
      unfold laidC
      have e1 : (i + 1) * sz + j = sz + (i * sz + j) := by rw [Nat.succ_mul]; omega
      rw [e1, show sz + (i * sz + j) + seg.length = sz + (i * sz + j + seg.length) by omega, ← hx, List.take_length_add_append, List.drop_length_add_append]
      simp
theorem own_laid {w : World} {e sz n g c : Nat} {xs seg : List Value} (h : w.ownsRow 0 e sz (.slice (some ⟨g, 0, none⟩) n c) n xs) (j : Nat) (hfit : j + seg.length ≤ xs.length) :
    (w.setCells g j seg).ownsRow 0 e sz (.slice (some ⟨g, 0, none⟩) n c) n (laidC xs j seg) ∧ ∃ cur : Array Value, w.heap[g]? = some (.cells cur e (0, 0)) ∧ j + seg.length ≤ cur.size := by
  have hl := h.1
  rcases h.2 with ⟨hv, _⟩ | ⟨g', cap', cur, hv, hb, hh, hnc, hcm, hcs, ht⟩
  · cases hv
  simp only [Value.slice.injEq, Option.some.injEq, Addr.mk.injEq, and_true, true_and] at hv
  obtain ⟨rfl, rfl⟩ := hv
  have hle : xs.length ≤ cur.size := by
    have : n * sz ≤ c * sz := Nat.mul_le_mul_right _ hnc
    omega
  obtain ⟨cur', h3, h4, h5⟩ := setCells_row seg j w cur hh (by omega)
  refine ⟨⟨by rw [laidC_len hfit, hl], .inr ⟨g, c, cur', rfl, hb, h3, hnc, hcm, by rw [h4, hcs], ?_⟩⟩, cur, hh, by omega⟩
  rw [h5]
  unfold laidC
  have hx : cur.toList.take (n * sz) = xs := ht
  rw [← hl]
  have h6 : xs.take j = cur.toList.take j := by rw [← hx, List.take_take]; congr 1; omega
  have h7 : xs.drop (j + seg.length) = (cur.toList.drop (j + seg.length)).take (xs.length - (j + seg.length)) := by
    conv => lhs; rw [← hx, List.drop_take]
    rw [hl]
  have hlt : (cur.toList.take j).length = j := by rw [List.length_take]; simp; omega
  rw [h6, h7, List.take_append, List.take_of_length_le (by rw [List.length_append, hlt]; omega), List.length_append, hlt]
/-- What is written there. -/
def St.write (σ : St) (p : Place) (seg : List CV) (ys : List IV) : Option (List Prop × St) := match p with
  | .box id j => match σ.box id with
    | some (e, cs) => if j + seg.length ≤ cs.length then some ([], { σ with ob := σ.ob.set id (.live (.box e (laidC cs j seg))) }) else none
    | none => none
  | .el id i sz j => match σ.row id with
    | some (e, sz', xs) => match unI seg with
      | some sg => if sz = sz' ∧ j + sg.length ≤ sz ∧ ys.length = sz then some ([xs[i]? = some ys], { σ with ob := σ.ob.set id (.live (.row e sz (xs.set i (laidC ys j sg)))) }) else none
      | none => none
    | none => none
  | .pt _ => none
theorem St.lt_of_ob {id : Nat} {s : Slot} (h : σ.ob[id]? = some s) : id < σ.ob.length := (List.getElem?_eq_some_iff.mp h).1
theorem Sim.write {m : Mp} {Z : Nat → Prop} {a : Act} {w : World} (h : Sim F m Z σ a w) {x : AV} {u : Value} (hx : RepV m w Z x u) {p : Place} (hp : x.place = some p) {seg : List CV} {ys : List IV} {useg : List Value} (hsg : Cells m w Z seg useg) {ob : List Prop} {σ' : St} (hr : σ.write p seg ys = some (ob, σ')) (hob : Obs ob) :
    ∃ g off cur e, u = .pointer (some ⟨g, off, none⟩) ∧ w.heap[g]? = some (.cells cur e (0, 0)) ∧ off + useg.length ≤ cur.size ∧ Sim F m Z σ' a (w.setCells g off useg) := by
  have hsl := hsg.1
  unfold AV.place at hp
  split at hp
  · rename_i id j
    obtain rfl := Option.some.inj hp
    simp only [St.write] at hr
    split at hr
    · rename_i e cs' hb
      split at hr
      · rename_i hl
        simp only [Option.some.injEq, Prod.mk.injEq] at hr
        obtain ⟨-, rfl⟩ := hr
        obtain ⟨g, n', c', h1, rfl⟩ := hx
        have hob := St.box_ob hb
        obtain ⟨v, h2, h3⟩ := h.ob id _ hob
        obtain ⟨g', us, rfl, hh, hc⟩ := h3
        obtain rfl := (by simpa using h1.symm.trans h2 : g = g' ∧ _).1
        have haz := h.az id _ g ⟨_, hob⟩ h2 rfl
        have hul := hc.1
        have hfit : j + useg.length ≤ us.toArray.size := by simp; omega
        obtain ⟨s1, s2, s3, s4⟩ := setCells_same g useg j w
        have hk : ∀ b, b < w.heap.size → some g ≠ some b → (w.setCells g j useg).heap[b]? = w.heap[b]? := fun b _ hne => setCells_far useg j b (fun e => hne (by rw [e]))
        refine ⟨g, j, us.toArray, e, rfl, hh, hfit, h.upd id _ (some g) ⟨s1, s2, s3, by omega⟩ ?_ hk (fun _ _ => rfl) (fun _ hv => hv) (St.lt_of_ob hob) (by simp) ?_⟩
        · rintro b e'
          obtain rfl := Option.some.inj e'
          exact ⟨haz.1, haz.2, fun i v hi hl hv hb => hi (h.ap i id v _ g hl ⟨_, hob⟩ hv h2 hb rfl)⟩
        · intro o ho
          obtain rfl := Slot.live.inj ho
          obtain ⟨cur', h3, h4, h5⟩ := setCells_row useg j w us.toArray hh hfit
          refine ⟨_, h2, ⟨g, laidC us j useg, rfl, ?_, ?_⟩, fun b hb => .inl (by simpa [Value.ownBlock] using hb)⟩
          · rw [h3]
            have : cur' = (laidC us j useg).toArray := by
              rw [← Array.toList_inj]
              simpa [laidC] using h5
            rw [this]
          · have hkz : ∀ b, Z b → (w.setCells g j useg).heap[b]? = w.heap[b]? := fun b hz => hk b (h.zb b hz) fun e => haz.1 (by rw [Option.some.inj e]; exact hz)
            exact Cells.keep (hc.laid hsg j) (fun _ _ h => h) hkz fun _ h => h
      · cases hr
    · cases hr
  · rename_i id i sz j
    obtain rfl := Option.some.inj hp
    simp only [St.write] at hr
    split at hr
    · rename_i e sz' xs hb
      split at hr
      case h_2 => cases hr
      rename_i sg hsg0
      obtain rfl := unI_spec hsg0
      have hsg' := Cells.ivs hsg
      have hsl' := hsg'.1
      split at hr
      · rename_i hl
        obtain ⟨rfl, hl, hy⟩ := hl
        simp only [Option.some.injEq, Prod.mk.injEq] at hr
        obtain ⟨rfl, rfl⟩ := hr
        have hxi := hob.1
        obtain ⟨g, n', c', h1, rfl⟩ := hx
        have hob := St.row_ob hb
        obtain ⟨v, h2, h3⟩ := h.ob id _ hob
        obtain ⟨uss, ho, hc, hs⟩ := h3
        obtain rfl := Option.some.inj (h1.symm.trans h2)
        obtain ⟨us, hu, hcu⟩ := hc.get hxi
        have hul := hs us (List.mem_of_getElem? hu)
        have hil := (List.getElem?_eq_some_iff.mp hu).1
        have hfl := flat_len' hs
        have hn : n' = xs.length := by
          obtain ⟨A, c2, e2⟩ := own_slice ho
          simp only [Value.slice.injEq] at e2
          exact e2.2.1
        subst hn
        have hfit : i * sz + j + useg.length ≤ uss.flatten.length := by
          rw [hfl]
          have : (i + 1) * sz ≤ uss.length * sz := Nat.mul_le_mul_right _ hil
          rw [Nat.succ_mul] at this
          omega
        obtain ⟨ho2, cur, hh, hcur⟩ := own_laid ho (i * sz + j) hfit
        have haz := h.az id _ g ⟨_, hob⟩ h2 rfl
        obtain ⟨s1, s2, s3, s4⟩ := setCells_same g useg (i * sz + j) w
        have hk : ∀ b, b < w.heap.size → some g ≠ some b → (w.setCells g (i * sz + j) useg).heap[b]? = w.heap[b]? := fun b _ hne => setCells_far useg _ b (fun e => hne (by rw [e]))
        refine ⟨g, i * sz + j, cur, e, rfl, hh, hcur, h.upd id _ (some g) ⟨s1, s2, s3, by omega⟩ ?_ hk (fun _ _ => rfl) (fun _ hv => hv) (St.lt_of_ob hob) (by simp) ?_⟩
        · rintro b e'
          obtain rfl := Option.some.inj e'
          exact ⟨haz.1, haz.2, fun i v hi hl hv hb => hi (h.ap i id v _ g hl ⟨_, hob⟩ hv h2 hb rfl)⟩
        · intro o ho'
          obtain rfl := Slot.live.inj ho'
          have hkz : ∀ b, Z b → (w.setCells g (i * sz + j) useg).heap[b]? = w.heap[b]? := fun b hz => hk b (h.zb b hz) fun e => haz.1 (by rw [Option.some.inj e]; exact hz)
          refine ⟨_, h2, ⟨uss.set i (laidC us j useg), ?_, ?_, ?_⟩, fun b hb => .inl (by simpa [Value.ownBlock] using hb)⟩
          · rw [List.length_set, flat_laid' hs hu (by omega)]
            exact ho2
          · exact All2.imp (hc.set i (All2.laid hcu hsg' j)) fun _ _ h => ICells.keep h hkz fun _ h => h
          · intro us' hu'
            rcases List.mem_or_eq_of_mem_set hu' with h5 | h5
            · exact hs us' h5
            · rw [h5, laidC_len (by omega)]; exact hul
      · cases hr
    · cases hr
  · rename_i cs'
    obtain rfl := Option.some.inj hp
    simp [St.write] at hr
  · cases hp
theorem stp_store {t : TypeId} {x y : Operand} {xa ya : AV} {p : Place} {z : TV} {ys : List IV} {ob : List Prop} {σ' : St} (ho : o.op = .store t x y) (hd : o.dst = none) (hx : σ.ev x = some xa) (hp : xa.place = some p) (hy : σ.ev y = some ya) (hz : ya.tv = some z)
    (hsz : sizeP P t = some z.cells.length) (hr : σ.write p z.cells ys = some (ob, σ')) (hob : Obs ob) : Stp P F o σ σ' := by
  intro m Z a w h K Q hK
  have hc := ((h.ev hy).tv hz).cells
  obtain ⟨g, off, cur, e, hu, hh, hfit, h2⟩ := h.write (h.ev hx) hp hc hr hob
  have hrun := run_store_run (P := P) t (a.eval y) (a.eval y).cells.toList hh rfl (by rw [← hc.1]; exact hsz) hfit hc.one
  refine wp_skip' (w' := w.setCells g off (a.eval y).cells.toList) (by unfold execOp; rw [ho]; simp only [hu, Sem.run_bind, hrun, Result.andThen_ok, Sem.run_pure]) ?_
  rw [hd]
  exact hK m Z _ _ h2 rfl
end
end Go.Proofs.YtljdidlkiknknaaDoor.AB
namespace Go.Proofs.YtljdidlkiknknaaDoor.AB
open Go Go.RowKit Go.Proofs.YtljdidlkiknknaaDoorW.PrintWords Go.Proofs.YtljdidlkiknknaaDoorW.PrintMore
set_option linter.unusedSimpArgs false
set_option linter.unusedVariables false
section
variable {P : Program} {F : Frm} {o : Oper} {σ : St}
def fieldP (P : Program) (s : TypeId) (f : Nat) : Option (Nat × Nat) := match P.underlying s with
  | some (.struct fs) => match fs[f]? with
    | some fd => match sizeP P fd.type with
      | some 0 => none
      | some _ => some (fd.offset, fd.type)
      | none => none
    | none => none
  | _ => none
theorem fieldP_spec {s : TypeId} {f off ft : Nat} (h : fieldP P s f = some (off, ft)) : ∃ fs fd n, P.underlying s = some (.struct fs) ∧ fs[f]? = some fd ∧ sizeP P fd.type = some n ∧ n ≠ 0 ∧ fd.offset = off ∧ fd.type = ft := by
  unfold fieldP at h
  split at h
  · rename_i fs hu
    split at h
    · rename_i fd hf
      split at h
      · cases h
      · rename_i n hn hs
        simp only [Option.some.injEq, Prod.mk.injEq] at h
        exact ⟨fs, fd, n, hu, hf, hs, hn, h.1, h.2⟩
      · cases h
    · cases h
  · cases h
theorem run_fieldAt {w : World} {s : TypeId} {f off ft b o' : Nat} (h : fieldP P s f = some (off, ft)) : (Instr.fieldAt s (.pointer (some ⟨b, o', none⟩)) f).run P w = .ok (.pointer (some ⟨b, o' + off, none⟩)) w := by
  obtain ⟨fs, fd, n, h1, h2, h3, h4, rfl, rfl⟩ := fieldP_spec h
  obtain ⟨i, hi, hs⟩ := Option.map_eq_some_iff.1 h3
  subst hs
  simp [Instr.fieldAt, run_underlying h1, h2, Instr.sureAddr, fieldPlace, sizeOf, typeInfo, hi, h4, add_o]
def AV.shift (off : Nat) : AV → Option AV
  | .t (.c (.loc id j)) => some (.t (.c (.loc id (j + off))))
  | .t (.c (.el id i sz j)) => some (.t (.c (.el id i sz (j + off))))
  | .t (.c (.i (.pt cs))) => some (.t (.c (.i (.pt (cs.drop off)))))
  | _ => none
theorem shift_rep {m : Mp} {w : World} {Z : Nat → Prop} {x y : AV} {u : Value} {off : Nat} (h : RepV m w Z x u) (hs : x.shift off = some y) : ∃ b o', u = .pointer (some ⟨b, o', none⟩) ∧ RepV m w Z y (.pointer (some ⟨b, o' + off, none⟩)) := by
  unfold AV.shift at hs
  split at hs
  · obtain rfl := Option.some.inj hs
    obtain ⟨g, n, c, h1, rfl⟩ := h
    exact ⟨g, _, rfl, g, n, c, h1, rfl⟩
  · obtain rfl := Option.some.inj hs
    obtain ⟨g, n, c, h1, rfl⟩ := h
    exact ⟨g, _, rfl, g, n, c, h1, by simp only [Nat.add_assoc]⟩
  · rename_i cs
    obtain rfl := Option.some.inj hs
    have h : RepI w Z (.pt cs) u := h
    cases h with
    | pt val hb hcell hrep =>
      rename_i b o'
      refine ⟨b, o', rfl, RepI.pt (fun j => val (off + j)) hb (fun j hj => ?_) (fun j y hy => ?_)⟩
      · rw [Nat.add_assoc]
        exact hcell (off + j) (by simp at hj; omega)
      · rw [List.getElem?_drop] at hy
        exact hrep _ y hy
  · cases hs
theorem stp_fieldAddr {s f off ft : Nat} {x : Operand} {y z : AV} (ho : o.op = .fieldAddr s x f) (hx : σ.ev x = some y) (hf : fieldP P s f = some (off, ft)) (hz : y.shift off = some z) : Stp P F o σ (σ.put o.dst z) := by
  intro m Z a w h K Q hK
  obtain ⟨b, o', hu, hr⟩ := shift_rep (h.ev hx) hz
  exact wp_value (by unfold execOp; rw [ho]; simp only [hu, Sem.run_bind, run_fieldAt hf, Result.andThen_ok, Sem.run_pure]) (hK m Z _ _ (h.putO o.dst hr) (Act.put_defers ..))
/-- A field of a struct's value. -/
def AV.aggs : AV → Option (List CV)
  | .t (.agg cs) => some cs
  | _ => none
theorem stp_field {s f off ft n : Nat} {x : Operand} {y : AV} {cs : List CV} {ag : Bool} {z : TV} (ho : o.op = .field s x f) (hx : σ.ev x = some y) (hf : fieldP P s f = some (off, ft)) (hy : y.aggs = some cs) (hag : aggP P ft = some ag) (hsz : sizeP P ft = some n) (hl : off + n ≤ cs.length)
    (hz : mkT ag (cutC cs off n) = some z) : Stp P F o σ (σ.put o.dst (.t z)) := by
  intro m Z a w h K Q hK
  have hr := h.ev hx
  unfold AV.aggs at hy
  split at hy
  · rename_i cs'
    obtain rfl := Option.some.inj hy
    obtain ⟨us, hu, hc⟩ := hr
    have hc2 := All2.cut hc off n
    obtain ⟨h1, h2⟩ := mkT_rep hc2 hz
    obtain ⟨fs, fd, n', g1, g2, g3, g4, rfl, rfl⟩ := fieldP_spec hf
    obtain ⟨i, hi, hs⟩ := Option.map_eq_some_iff.1 hsz
    have hcl := hc.1
    have hrun : (part fd.type us.toArray fd.offset).run P w = .ok (mkV ag (cutC us fd.offset n)) w := by
      unfold aggP at hag
      split at hag
      · rename_i fs' hu'
        obtain rfl := Option.some.inj hag
        simp [part, isAgg, run_underlying hu', sizeOf, typeInfo, hi, hs, mkV, cutC]
      · rename_i n' e hu'
        obtain rfl := Option.some.inj hag
        simp [part, isAgg, run_underlying hu', sizeOf, typeInfo, hi, hs, mkV, cutC]
      · rename_i d hn1 hn2 hu'
        obtain rfl := Option.some.inj hag
        have hl1 := h2 rfl
        have hb : (isAgg fd.type).run P w = .ok false w := by
          simp only [isAgg, Sem.run_bind, run_underlying hu', Result.andThen_ok]
          cases d <;> first | rfl | exact absurd hu' (hn1 _) | exact absurd hu' (hn2 _ _)
        match hus : cutC us fd.offset n, hl1 with
        | [u], _ =>
          have : us[fd.offset]? = some u := by
            have := cutC_get (cs := us) (j := fd.offset) (n := n) (i := 0) (u := u) (by rw [hus]; rfl)
            simpa using this
          simp [part, hb, this, mkV]
      · cases hag
    exact wp_value (u := mkV ag (cutC us fd.offset n)) (by unfold execOp; rw [ho]; simp [hu, Instr.field, run_underlying g1, g2, asAgg, hrun]) (hK m Z _ _ (h.putO o.dst h1) (Act.put_defers ..))
  · cases hy
def elemP (P : Program) (t : TypeId) : Option TypeId := match P.underlying t with
  | some (.slice e) => some e
  | _ => none
theorem elemP_spec {t e : TypeId} (h : elemP P t = some e) : P.underlying t = some (.slice e) := by
  unfold elemP at h
  split at h
  · rename_i e' hu
    obtain rfl := Option.some.inj h
    exact hu
  · cases h
theorem run_indexAt' {w : World} {t e s n c b o' : Nat} {k : IntKind} {i : Int} (ht : elemP P t = some e) (hs : sizeP P e = some s) (h0 : 0 ≤ i) (h1 : i < n) : (Instr.indexAt t (.slice (some ⟨b, o', none⟩) n c) (.int k i)).run P w = .ok (.pointer (some ⟨b, o' + i.toNat * s, none⟩)) w := by
  have hu := elemP_spec ht
  obtain ⟨i0, hi, hsz⟩ := Option.map_eq_some_iff.1 hs
  subst hsz
  simp [Instr.indexAt, run_underlying hu, asIntOf, h0, h1, sizeOf, typeInfo, hi, add_o]
def AV.int : AV → Option Int
  | .t (.c (.i (.v (.int _ n)))) => some n
  | _ => none
theorem RepV.int {m : Mp} {w : World} {Z : Nat → Prop} {x : AV} {u : Value} {n : Int} (h : RepV m w Z x u) (hs : x.int = some n) : ∃ k, u = .int k n := by
  unfold AV.int at hs
  split at hs
  · rename_i k n'
    obtain rfl := Option.some.inj hs
    have h1 : RepI w Z (.v (.int k n')) u := h
    cases h1
    exact ⟨k, rfl⟩
  · cases hs
def AV.isl : AV → Option (Nat × List (List IV))
  | .t (.c (.i (.sl sz xs))) => some (sz, xs)
  | _ => none
theorem stp_indexI {t e sz : Nat} {x y : Operand} {xa ya : AV} {xs : List (List IV)} {i : Int} {ys : List IV} (ho : o.op = .indexAddr t x y) (hx : σ.ev x = some xa) (hy : σ.ev y = some ya) (hs : xa.isl = some (sz, xs)) (hi : ya.int = some i) (ht : elemP P t = some e) (hsz : sizeP P e = some sz)
    (hob : Obs [0 ≤ i, xs[i.toNat]? = some ys]) : Stp P F o σ (σ.put o.dst (.t (.c (.i (.pt ys))))) := by
  intro m Z a w h K Q hK
  obtain ⟨h0, hg, -⟩ := hob
  have hxl : i.toNat < xs.length := (List.getElem?_eq_some_iff.mp hg).1
  obtain ⟨k, hk⟩ := (h.ev hy).int hi
  have hr := h.ev hx
  unfold AV.isl at hs
  split at hs
  · rename_i sz' xs'
    simp only [Option.some.injEq, Prod.mk.injEq] at hs
    obtain ⟨rfl, rfl⟩ := hs
    have hr : RepI w Z (.sl sz' xs') (a.eval x) := hr
    generalize hu : a.eval x = u at hr
    cases hr with
    | nil A c hA => simp at hxl
    | sl val hb hc hm hsz' hcell hrep =>
      rename_i b o' c
      have hyl := hsz' ys (List.mem_of_getElem? hg)
      refine wp_value (u := .pointer (some ⟨b, o' + i.toNat * sz', none⟩)) (by unfold execOp; rw [ho]; simp only [hu, hk, Sem.run_bind, run_indexAt' ht hsz h0 (show i < (xs'.length : Int) by omega), Result.andThen_ok, Sem.run_pure]) (hK m Z _ _ (h.putO o.dst (x := .t (.c (.i (.pt ys)))) ?_) (Act.put_defers ..))
      exact RepI.pt (fun j => val i.toNat j) hb (fun j hj => by rw [Nat.add_assoc]; exact hcell _ j hxl (by omega)) (fun j y hy => hrep _ j ys y hg hy)
  · cases hs
def AV.own : AV → Option Nat
  | .t (.c (.os id)) => some id
  | _ => none
theorem RepV.own {m : Mp} {w : World} {Z : Nat → Prop} {x : AV} {u : Value} {id : Nat} (h : RepV m w Z x u) (hs : x.own = some id) : m id = some u := by
  unfold AV.own at hs
  split at hs
  · obtain rfl := Option.some.inj hs
    exact h.1
  · cases hs
/-- A row's header. -/
theorem Sim.rowOf {m : Mp} {Z : Nat → Prop} {a : Act} {w : World} (h : Sim F m Z σ a w) {id e sz : Nat} {xs : List (List IV)} (hr : σ.row id = some (e, sz, xs)) {u : Value} (hu : m id = some u) : ∃ A c, u = .slice A xs.length c ∧ xs.length ≤ c ∧ c ≤ 9223372036854775807 ∧ (0 < xs.length → ∃ g, A = some ⟨g, 0, none⟩) := by
  obtain ⟨v, h2, h3⟩ := h.ob id _ (St.row_ob hr)
  obtain rfl := Option.some.inj (hu.symm.trans h2)
  obtain ⟨uss, ho, hc, hs⟩ := h3
  rcases ho.2 with ⟨hv, h0⟩ | ⟨g, cap, cur, hv, _, _, h1, h2, _⟩
  · exact ⟨none, 0, by rw [hv, h0], by omega, by omega, fun h => by omega⟩
  · exact ⟨some ⟨g, 0, none⟩, cap, hv, h1, by simp only [maxLen] at h2; omega, fun _ => ⟨g, rfl⟩⟩
theorem stp_indexO {t e e' sz id : Nat} {x y : Operand} {xa ya : AV} {xs : List (List IV)} {i : Int} (ho : o.op = .indexAddr t x y) (hx : σ.ev x = some xa) (hy : σ.ev y = some ya) (hs : xa.own = some id) (hr : σ.row id = some (e', sz, xs)) (hi : ya.int = some i) (ht : elemP P t = some e) (hsz : sizeP P e = some sz)
    (hob : Obs [0 ≤ i, i < xs.length]) : Stp P F o σ (σ.put o.dst (.t (.c (.el id i.toNat sz 0)))) := by
  intro m Z a w h K Q hK
  obtain ⟨h0, hg, -⟩ := hob
  obtain ⟨k, hk⟩ := (h.ev hy).int hi
  have hm := (h.ev hx).own hs
  obtain ⟨A, c, hu, hc, -, hA⟩ := h.rowOf hr hm
  obtain ⟨g, rfl⟩ := hA (by omega)
  refine wp_value (u := .pointer (some ⟨g, 0 + i.toNat * sz, none⟩)) (by unfold execOp; rw [ho]; simp only [hu, hk, Sem.run_bind, run_indexAt' ht hsz h0 hg, Result.andThen_ok, Sem.run_pure]) (hK m Z _ _ (h.putO o.dst (x := .t (.c (.el id i.toNat sz 0))) ?_) (Act.put_defers ..))
  exact ⟨g, _, c, hu ▸ hm, by simp⟩
def St.len (σ : St) : AV → Option Nat
  | .t (.c (.i (.sl _ xs))) => some xs.length
  | .t (.c (.i (.v (.slice none 0 0)))) => some 0
  | .t (.c (.os id)) => (σ.row id).map fun r => r.2.2.length
  | _ => none
theorem Sim.len {m : Mp} {Z : Nat → Prop} {a : Act} {w : World} (h : Sim F m Z σ a w) {x : AV} {u : Value} {n : Nat} (hx : RepV m w Z x u) (hn : σ.len x = some n) : ∃ A c, u = .slice A n c ∧ n ≤ 9223372036854775807 := by
  unfold St.len at hn
  split at hn
  · rename_i sz xs
    obtain rfl := Option.some.inj hn
    have hx : RepI w Z (.sl sz xs) u := hx
    cases hx with
    | nil A c hA => exact ⟨A, c, rfl, by simp⟩
    | sl val hb hc hm hsz' hcell hrep => exact ⟨_, _, rfl, by omega⟩
  · obtain rfl := Option.some.inj hn
    have hx : RepI w Z (.v (.slice none 0 0)) u := hx
    cases hx
    exact ⟨none, 0, rfl, by omega⟩
  · rename_i id
    obtain ⟨⟨e, sz, xs⟩, hr, rfl⟩ := Option.map_eq_some_iff.1 hn
    obtain ⟨A, c, hu, h1, h2, -⟩ := h.rowOf hr hx.1
    exact ⟨A, c, hu, by simp only; omega⟩
  · cases hn
theorem stp_len {t e : Nat} {x : Operand} {xa : AV} {n : Nat} (ho : o.op = .call { callee := .builtin .len, args := #[x], argTypes := #[t] }) (hx : σ.ev x = some xa) (hn : σ.len xa = some n) (ht : elemP P t = some e) : Stp P F o σ (σ.put o.dst (.t (.c (.i (.v (.int .i64 (n : Int))))))) := by
  intro m Z a w h K Q hK
  obtain ⟨A, c, hu, -⟩ := h.len (h.ev hx) hn
  have hut := elemP_spec ht
  exact wp_value (u := .int .i64 (n : Int)) (by unfold execOp; rw [ho]; simp [resolve, invoke, builtin, Builtin.len_, hu, run_underlying hut, goInt]) (hK m Z _ _ (h.putO o.dst (x := .t (.c (.i (.v (.int .i64 (n : Int)))))) (RepI.v rfl)) (Act.put_defers ..))
def AV.str : AV → Option ByteArray
  | .t (.c (.i (.v (.string s)))) => some s
  | _ => none
theorem RepV.str {m : Mp} {w : World} {Z : Nat → Prop} {x : AV} {u : Value} {s : ByteArray} (h : RepV m w Z x u) (hs : x.str = some s) : u = .string s := by
  unfold AV.str at hs
  split at hs
  · rename_i s'
    obtain rfl := Option.some.inj hs
    have h1 : RepI w Z (.v (.string s')) u := h
    cases h1
    rfl
  · cases hs
theorem stp_lenS {t : Nat} {x : Operand} {xa : AV} {s : ByteArray} (ho : o.op = .call { callee := .builtin .len, args := #[x], argTypes := #[t] }) (hx : σ.ev x = some xa) (hn : xa.str = some s) (ht : P.underlying t = some .string) : Stp P F o σ (σ.put o.dst (.t (.c (.i (.v (.int .i64 (s.size : Int))))))) := by
  intro m Z a w h K Q hK
  have hu := (h.ev hx).str hn
  exact wp_value (u := .int .i64 (s.size : Int)) (by unfold execOp; rw [ho]; simp [resolve, invoke, builtin, Builtin.len_, hu, run_underlying ht, goInt]) (hK m Z _ _ (h.putO o.dst (x := .t (.c (.i (.v (.int .i64 (s.size : Int)))))) (RepI.v rfl)) (Act.put_defers ..))
theorem stp_extract {x : Operand} {xs : List TV} {i : Nat} {y : TV} (ho : o.op = .extract x i) (hx : σ.ev x = some (.tup xs)) (hy : xs[i]? = some y) : Stp P F o σ (σ.put o.dst (.t y)) := by
  intro m Z a w h K Q hK
  obtain ⟨us, hu, hc⟩ := h.ev hx
  obtain ⟨u, h1, h2⟩ := hc.get hy
  exact wp_value (u := u) (by unfold execOp; rw [ho]; simp [hu, Instr.extract, h1]) (hK m Z _ _ (h.putO o.dst (x := .t y) h2) (Act.put_defers ..))
end
end Go.Proofs.YtljdidlkiknknaaDoor.AB
namespace Go.Proofs.YtljdidlkiknknaaDoor.AB
open Go Go.RowKit Go.Proofs.YtljdidlkiknknaaDoorW.PrintWords Go.Proofs.YtljdidlkiknknaaDoorW.PrintMore
set_option linter.unusedSimpArgs false
set_option linter.unusedVariables false
section
variable {P : Program} {F : Frm} {o : Oper} {σ : St}
def byteAt (s : ByteArray) (i : Int) : Int := match s[i.toNat]? with
  | some b => b.toNat
  | none => 0
theorem stp_concat {t u : Nat} {x y : Operand} {xa ya : AV} {s r : ByteArray} (ho : o.op = .binOp .add t x y u) (hx : σ.ev x = some xa) (hy : σ.ev y = some ya) (hs : xa.str = some s) (hr : ya.str = some r) (hob : Obs [s.size + r.size ≤ 9223372036854775807]) : Stp P F o σ (σ.put o.dst (.t (.c (.i (.v (.string (s ++ r))))))) := by
  intro m Z a w h K Q hK
  have h1 := (h.ev hx).str hs
  have h2 := (h.ev hy).str hr
  have h3 := hob.1
  refine wp_value (u := .string (s ++ r)) (w' := w) ?_ (hK m Z _ _ (h.putO o.dst (x := .t (.c (.i (.v (.string (s ++ r)))))) (RepI.v rfl)) (Act.put_defers ..))
  have h4 : ¬ (IntKind.i64.max < ((s.size + r.size : Nat) : Int)) := by simp [IntKind.max, IntKind.signed, IntKind.bits]; omega
  unfold execOp
  rw [ho]
  simp only [h1, h2, eqGuard, binOp, Op.stringOp]
  simp
  simp at h4
  omega
theorem stp_indexS {t : Nat} {x y : Operand} {xa ya : AV} {s : ByteArray} {i : Int} (ho : o.op = .index t x y) (hx : σ.ev x = some xa) (hy : σ.ev y = some ya) (hs : xa.str = some s) (hi : ya.int = some i) (ht : P.underlying t = some .string) (hob : Obs [0 ≤ i, i < s.size]) : Stp P F o σ (σ.put o.dst (.t (.c (.i (.v (.int .u8 (byteAt s i))))))) := by
  intro m Z a w h K Q hK
  have h1 := (h.ev hx).str hs
  obtain ⟨k, h2⟩ := (h.ev hy).int hi
  obtain ⟨h3, h4, -⟩ := hob
  have h5 : i.toNat < s.size := by omega
  refine wp_value (u := .int .u8 (byteAt s i)) (w' := w) ?_ (hK m Z _ _ (h.putO o.dst (x := .t (.c (.i (.v (.int .u8 (byteAt s i)))))) (RepI.v rfl)) (Act.put_defers ..))
  have h6 : s[i.toNat]? = some s[i.toNat] := getElem?_pos s i.toNat h5
  unfold execOp byteAt
  rw [ho]
  simp [h1, h2, Instr.index, run_underlying ht, asIntOf, h3, h6]
def optInt (σ : St) : Option Operand → Option (Option Int)
  | none => some none
  | some x => ((σ.ev x).bind AV.int).map some
theorem Sim.optInt {m : Mp} {Z : Nat → Prop} {a : Act} {w : World} (h : Sim F m Z σ a w) {x : Option Operand} {n : Option Int} (hn : optInt σ x = some n) : ∃ v, x.map a.eval = v ∧ (∀ i, n = some i → ∃ k, v = some (.int k i)) ∧ (n = none → v = none) := by
  cases x with
  | none => simp only [AB.optInt, Option.some.injEq] at hn; subst hn; exact ⟨none, rfl, fun i e => by (cases e), fun _ => rfl⟩
  | some x =>
    simp only [AB.optInt, Option.map_eq_some_iff] at hn
    obtain ⟨i, hi, rfl⟩ := hn
    cases hx : σ.ev x with
    | none => rw [hx] at hi; cases hi
    | some xa =>
      rw [hx] at hi
      obtain ⟨k, hk⟩ := (h.ev hx).int hi
      exact ⟨_, rfl, fun j e => by obtain rfl := Option.some.inj e; exact ⟨k, by simp [hk]⟩, fun e => by cases e⟩
theorem run_bounds {w : World} (isS : Bool) {len cap : Nat} {lo hi : Option Int} {vl vh : Option Value} (hl : ∀ i, lo = some i → ∃ k, vl = some (.int k i)) (hl0 : lo = none → vl = none) (hh : ∀ i, hi = some i → ∃ k, vh = some (.int k i)) (hh0 : hi = none → vh = none)
    (h0 : 0 ≤ lo.getD 0) (h1 : lo.getD 0 ≤ hi.getD len) (h2 : hi.getD len ≤ len) (hc : len ≤ cap) : (Instr.sliceBounds isS len cap vl vh none).run P w = .ok ((lo.getD 0).toNat, (hi.getD len).toNat, cap) w := by
  cases lo with
  | none =>
    obtain rfl := hl0 rfl
    cases hi with
    | none => obtain rfl := hh0 rfl; simp [Instr.sliceBounds]
    | some j =>
      obtain ⟨k, rfl⟩ := hh j rfl
      simp only [Option.getD_none, Option.getD_some] at h0 h1 h2
      have : 0 ≤ j ∧ j ≤ cap := ⟨h1, by omega⟩
      simp [Instr.sliceBounds, Instr.sliceBound, asIntOf, this]
  | some i =>
    obtain ⟨k, rfl⟩ := hl i rfl
    cases hi with
    | none =>
      obtain rfl := hh0 rfl
      simp only [Option.getD_none, Option.getD_some] at h0 h1 h2
      simp [Instr.sliceBounds, Instr.sliceBound, asIntOf, h0, h1]
    | some j =>
      obtain ⟨k', rfl⟩ := hh j rfl
      simp only [Option.getD_none, Option.getD_some] at h0 h1 h2
      have h3 : 0 ≤ j ∧ j ≤ cap := ⟨by omega, by omega⟩
      have h4 : 0 ≤ i ∧ i ≤ (j.toNat : Int) := ⟨h0, by omega⟩
      simp [Instr.sliceBounds, Instr.sliceBound, asIntOf, h3, h4]
      omega
theorem stp_sliceS {t : Nat} {x : Operand} {lo hi : Option Operand} {xa : AV} {s : ByteArray} {l r : Option Int} (ho : o.op = .slice t x lo hi none) (hx : σ.ev x = some xa) (hs : xa.str = some s) (hl : optInt σ lo = some l) (hr : optInt σ hi = some r) (ht : P.underlying t = some .string)
    (hob : Obs [0 ≤ l.getD 0, l.getD 0 ≤ r.getD s.size, r.getD s.size ≤ s.size]) : Stp P F o σ (σ.put o.dst (.t (.c (.i (.v (.string (s.extract (l.getD 0).toNat (r.getD s.size).toNat))))))) := by
  intro m Z a w h K Q hK
  have h1 := (h.ev hx).str hs
  obtain ⟨vl, e1, e2, e3⟩ := h.optInt hl
  obtain ⟨vr, f1, f2, f3⟩ := h.optInt hr
  obtain ⟨h3, h4, h5, -⟩ := hob
  have hb := run_bounds (P := P) (w := w) false e2 e3 f2 f3 h3 h4 h5 (Nat.le_refl _)
  refine wp_value (u := .string (s.extract (l.getD 0).toNat (r.getD s.size).toNat)) (w' := w) ?_ (hK m Z _ _ (h.putO o.dst (x := .t (.c (.i (.v (.string (s.extract (l.getD 0).toNat (r.getD s.size).toNat)))))) (RepI.v rfl)) (Act.put_defers ..))
  unfold execOp
  rw [ho]
  simp only [Option.map_none, e1, f1, h1]
  simp [Instr.sliceAt, run_underlying ht, Instr.slice, hb]
theorem stp_sliceI {t e sz : Nat} {x : Operand} {lo hi : Option Operand} {xa : AV} {xs : List (List IV)} {l r : Option Int} (ho : o.op = .slice t x lo hi none) (hx : σ.ev x = some xa) (hs : xa.isl = some (sz, xs)) (hl : optInt σ lo = some l) (hr : optInt σ hi = some r) (ht : elemP P t = some e) (hsz : sizeP P e = some sz)
    (hob : Obs [0 ≤ l.getD 0, l.getD 0 ≤ r.getD xs.length, r.getD xs.length ≤ xs.length]) : Stp P F o σ (σ.put o.dst (.t (.c (.i (.sl sz (cutC xs (l.getD 0).toNat ((r.getD xs.length).toNat - (l.getD 0).toNat))))))) := by
  intro m Z a w h K Q hK
  obtain ⟨vl, e1, e2, e3⟩ := h.optInt hl
  obtain ⟨vr, f1, f2, f3⟩ := h.optInt hr
  obtain ⟨h3, h4, h5, -⟩ := hob
  have hut := elemP_spec ht
  obtain ⟨i0, hi0, hsz0⟩ := Option.map_eq_some_iff.1 hsz
  have hrep := h.ev hx
  unfold AV.isl at hs
  split at hs
  · rename_i sz' xs'
    simp only [Option.some.injEq, Prod.mk.injEq] at hs
    obtain ⟨rfl, rfl⟩ := hs
    have hrep : RepI w Z (.sl sz' xs') (a.eval x) := hrep
    have key : ∃ A c, a.eval x = .slice A xs'.length c ∧ xs'.length ≤ c ∧ RepI w Z (.sl sz' (cutC xs' (l.getD 0).toNat ((r.getD xs'.length).toNat - (l.getD 0).toNat)))
        (.slice (if c = (l.getD 0).toNat then A else A.map (·.add ((l.getD 0).toNat * sz'))) ((r.getD xs'.length).toNat - (l.getD 0).toNat) (c - (l.getD 0).toNat)) := by
      generalize (l.getD 0).toNat = p at *
      generalize hq : (r.getD xs'.length).toNat = q at *
      have hql : q ≤ xs'.length := by omega
      generalize a.eval x = u at hrep
      cases hrep with
      | nil A c hA =>
        refine ⟨A, c, rfl, by simp, ?_⟩
        have : q - p = 0 := by simp at hql; omega
        rw [this]
        have e : cutC ([] : List (List IV)) p 0 = [] := by simp [cutC]
        rw [e]
        refine RepI.nil _ _ fun h => ?_
        have : A = none := by
          cases A with
          | none => rfl
          | some a => split at h <;> simp at h
        have := hA this
        omega
      | sl val hb hc hm hsz' hcell hrep =>
        rename_i b o' c
        refine ⟨_, c, rfl, hc, ?_⟩
        by_cases hz : q - p = 0
        · rw [hz]
          have e : cutC xs' p 0 = [] := by simp [cutC]
          rw [e]
          exact RepI.nil _ _ fun h => by split at h <;> simp at h
        · have hp : p + (q - p) ≤ xs'.length := by omega
          have hcl := cutC_len hp
          rw [if_neg (by omega), Option.map_some, add_o]
          conv => arg 4; rw [← hcl]
          refine RepI.sl (fun i j => val (p + i) j) hb (by omega) (by omega) (fun ys hy => hsz' ys ?_) (fun i j hi hj => ?_) (fun i j ys y hi hj => hrep _ j ys y (cutC_get hi) hj)
          · exact List.mem_of_mem_drop (List.mem_of_mem_take hy)
          · have := hcell (p + i) j (by omega) hj
            rw [show o' + p * sz' + (i * sz' + j) = o' + ((p + i) * sz' + j) by rw [Nat.add_mul]; omega]
            exact this
    obtain ⟨A, c, hu, hc, hrp⟩ := key
    have hb := run_bounds (P := P) (w := w) true e2 e3 f2 f3 h3 h4 h5 hc
    refine wp_value (u := _) (w' := w) ?_ (hK m Z _ _ (h.putO o.dst (x := .t (.c (.i (.sl sz' (cutC xs' (l.getD 0).toNat ((r.getD xs'.length).toNat - (l.getD 0).toNat)))))) hrp) (Act.put_defers ..))
    unfold execOp
    rw [ho]
    simp only [Option.map_none, e1, f1, hu]
    simp [Instr.sliceAt, run_underlying hut, Instr.slice, hb, sizeOf, typeInfo, hi0, hsz0]
  · cases hs
def fillC (place : Nat → Option (Nat × Nat)) (cs : List CV) : List (Nat × TV) → Option (List CV)
  | [] => some cs
  | (i, x) :: rest => match place i with
    | none => none
    | some (off, size) => if x.cells.length = size ∧ off + x.cells.length ≤ cs.length then fillC place (laidC cs off x.cells) rest else none
theorem foldl_laid (off : Nat) : ∀ (seg : List Value) (k : Nat) (arr : Array Value), off + k + seg.length ≤ arr.size →
    ((seg.zipIdx k).foldl (fun (cs : Array Value) (p : Value × Nat) => cs.setIfInBounds (off + p.2) p.1) arr).toList = laidC arr.toList (off + k) seg
  | [], k, arr, h => by simp [laidC]
  | v :: seg, k, arr, h => by
    simp only [List.length_cons] at h
    rw [List.zipIdx_cons, List.foldl_cons, foldl_laid off seg (k + 1) _ (by simp; omega)]
    unfold laidC
    simp only [Array.toList_setIfInBounds, List.length_cons]
    have ho : off + k < arr.toList.length := by rw [Array.length_toList]; omega
    rw [show off + (k + 1) = off + k + 1 by omega, List.take_set, List.drop_set_of_lt (by omega), show off + k + 1 + seg.length = off + k + (seg.length + 1) by omega]
    rw [List.take_succ_eq_append_getElem ho, List.set_append_right _ _ (by simp; omega)]
    simp [Nat.min_eq_left (Nat.le_of_lt (by simpa using ho))]
theorem fill_rep {m : Mp} {w : World} {Z : Nat → Prop} (place : Nat → Option (Nat × Nat)) : ∀ (ps : List (Nat × TV)) (pv : List (Nat × Value)) (cs cs' : List CV) (us : List Value), All2 (fun (p : Nat × TV) (q : Nat × Value) => p.1 = q.1 ∧ RepT m w Z p.2 q.2) ps pv → Cells m w Z cs us → fillC place cs ps = some cs' →
    ∃ us', Instr.fill place us.toArray pv = some us'.toArray ∧ Cells m w Z cs' us'
  | [], [], cs, cs', us, _, hc, hf => by
    simp only [fillC, Option.some.injEq] at hf
    subst hf
    exact ⟨us, rfl, hc⟩
  | [], q :: pv, _, _, _, h, _, _ => by have := h.1; simp at this
  | p :: ps, [], _, _, _, h, _, _ => by have := h.1; simp at this
  | (i, x) :: ps, (i', v) :: pv, cs, cs', us, h, hc, hf => by
    obtain ⟨e, hr⟩ := h.2 0 _ _ rfl rfl
    simp only at e hr
    subst e
    have h' : All2 (fun (p : Nat × TV) (q : Nat × Value) => p.1 = q.1 ∧ RepT m w Z p.2 q.2) ps pv := ⟨by have := h.1; simpa using this, fun j a b ha hb => h.2 (j + 1) a b (by simpa using ha) (by simpa using hb)⟩
    simp only [fillC] at hf
    have hcx := hr.cells
    have hcl := hcx.1
    have hul := hc.1
    split at hf
    · cases hf
    · rename_i off size hp
      split at hf
      · rename_i hcond
        obtain ⟨us', h1, h2⟩ := fill_rep place ps pv (laidC cs off x.cells) cs' (laidC us off v.cells.toList) h' (hc.laid hcx off) hf
        refine ⟨us', ?_, h2⟩
        have hfo : Array.foldl (fun (cs : Array Value) (p : Value × Nat) => cs.setIfInBounds (off + p.2) p.1) us.toArray v.cells.zipIdx = (laidC us off v.cells.toList).toArray := by
          rw [← Array.foldl_toList, ← Array.toList_inj]
          have := foldl_laid off v.cells.toList 0 us.toArray (by simp; simp at hcl; omega)
          simpa using this
        have hsz : ¬ (v.cells.size ≠ size ∨ off + v.cells.size > us.toArray.size) := by simp; simp at hcl; omega
        rw [Array.length_toList] at hcl
        simp only [Instr.fill, hp]
        rw [if_neg (by simpa using hsz)]
        rw [← h1]
        congr 1
      · cases hf
end
end Go.Proofs.YtljdidlkiknknaaDoor.AB
namespace Go.Proofs.YtljdidlkiknknaaDoor.AB
open Go Go.RowKit Go.Proofs.YtljdidlkiknknaaDoorW.PrintWords Go.Proofs.YtljdidlkiknknaaDoorW.PrintMore
set_option linter.unusedSimpArgs false
set_option linter.unusedVariables false
section
variable {P : Program} {F : Frm} {o : Oper} {σ : St}
def evParts (σ : St) : List (Nat × Operand) → Option (List (Nat × TV))
  | [] => some []
  | (i, x) :: l => match (σ.ev x).bind AV.tv, evParts σ l with
    | some y, some r => some ((i, y) :: r)
    | _, _ => none
theorem Sim.parts {m : Mp} {Z : Nat → Prop} {a : Act} {w : World} (h : Sim F m Z σ a w) : ∀ (l : List (Nat × Operand)) {r : List (Nat × TV)}, evParts σ l = some r →
    All2 (fun (p : Nat × TV) (q : Nat × Value) => p.1 = q.1 ∧ RepT m w Z p.2 q.2) r (l.map fun p => (p.1, a.eval p.2))
  | [], r, e => by simp only [evParts, Option.some.injEq] at e; subst e; exact All2.nil
  | (i, x) :: l, r, e => by
    simp only [evParts] at e
    split at e
    · rename_i y r' hy hr
      obtain rfl := Option.some.inj e
      cases hx : σ.ev x with
      | none => rw [hx] at hy; cases hy
      | some xa =>
        rw [hx] at hy
        exact All2.cons ⟨rfl, (h.ev hx).tv hy⟩ (h.parts l hr)
    · cases e
def placesP (P : Program) (t : TypeId) : Option (List (Nat × Nat)) := match P.underlying t with
  | some (.struct fields) => fields.toList.mapM fun f => (P.info? f.type).map fun i => (f.offset, i.size)
  | _ => none
theorem stp_build {t : Nat} {parts : Array (Nat × Operand)} {us : List Value} {pl : List (Nat × Nat)} {ps : List (Nat × TV)} {cs : List CV} (ho : o.op = .build t parts) (hz : zeroC P t = some us) (hp : placesP P t = some pl) (he : evParts σ parts.toList = some ps)
    (hf : fillC (pl.toArray[·]?) (us.map fun u => .i (.v u)) ps = some cs) : Stp P F o σ (σ.put o.dst (.t (.agg cs))) := by
  intro m Z a w h K Q hK
  have h1 := h.parts _ he
  have hzz : ∃ i z, P.info? t = some i ∧ i.zero = some z ∧ z.cells.toList = us ∧ us.all scal = true := by
    unfold zeroC at hz
    split at hz
    · rename_i i hi
      split at hz
      · rename_i z hzz
        split at hz
        · rename_i hs
          obtain rfl := Option.some.inj hz
          exact ⟨i, z, hi, hzz, rfl, hs⟩
        · cases hz
      · cases hz
    · cases hz
  obtain ⟨i, z, hi, hz0, hzu, hs⟩ := hzz
  obtain ⟨us', h2, h3⟩ := fill_rep (m := m) (w := w) (Z := Z) (pl.toArray[·]?) ps _ _ cs us h1 (cells_scal hs) hf
  have hb : P.built t (parts.map fun (i, x) => (i, a.eval x)).toList = some us'.toArray := by
    unfold placesP at hp
    split at hp
    · rename_i fs hu
      unfold Program.built
      rw [hi, hu]
      simp only [hz0, hp]
      rw [← h2]
      congr 1
      · rw [← hzu]
      · simp
    · cases hp
  exact wp_value (u := .agg us'.toArray) (w' := w) (by unfold execOp; rw [ho]; simp only [Sem.run_bind, run_build w t _ _ hb, Result.andThen_ok, Sem.run_pure]) (hK m Z _ _ (h.putO o.dst (x := .t (.agg cs)) ⟨us', rfl, h3⟩) (Act.put_defers ..))
theorem Sim.newRow {m : Mp} {Z : Nat → Prop} {a : Act} {w : World} (h : Sim F m Z σ a w) {id : Nat} (hf : σ.ob[id]? = some .free) (e sz : Nat) {xs : List (List IV)} {uss : List (List Value)} (hc : All2 (ICells w Z) xs uss) (hs : ∀ us ∈ uss, us.length = sz) (hm : xs.length ≤ maxLen) {cells : Array Value} (hce : cells.toList = uss.flatten) :
    ∃ m', m' id = some (.slice (some ⟨w.heap.size, 0, none⟩) xs.length xs.length) ∧ Sim F m' Z { σ with ob := σ.ob.set id (.live (.row e sz xs)) } a (w.alloc (.cells cells e (0, 0))) := by
  have hn : m id = none := h.fr id (.inl hf)
  have hlt : id < σ.ob.length := (List.getElem?_eq_some_iff.mp hf).1
  have hmm : ∀ i v, m i = some v → (fun i => if i = id then some (Value.slice (some ⟨w.heap.size, 0, none⟩) xs.length xs.length) else m i) i = some v := by
    intro i v hv
    by_cases e : i = id
    · subst e; rw [hn] at hv; cases hv
    · simp [e, hv]
  have hk : ∀ b, b < w.heap.size → (w.alloc (.cells cells e (0, 0))).heap[b]? = w.heap[b]? := fun b hb => Below.heap_alloc w _ b hb
  have ha := below_alloc (Below.refl w.heap.size w) (.cells cells e (0, 0))
  have hfl : uss.flatten.length = xs.length * sz := by rw [flat_len' hs, hc.1]
  refine ⟨fun i => if i = id then some (.slice (some ⟨w.heap.size, 0, none⟩) xs.length xs.length) else m i, by simp, ?_⟩
  refine h.upd id _ none ⟨ha.os, ha.tape, ha.output, ha.size⟩ (fun b hb => by cases hb) (fun b hb _ => hk b hb) (fun i hi => by simp [hi]) (fun v hv => hmm id v hv) hlt (by simp) ?_
  intro o ho
  obtain rfl := Slot.live.inj ho
  refine ⟨_, by simp, ⟨uss, ⟨hfl, .inr ⟨w.heap.size, xs.length, cells, rfl, Nat.zero_le _, blk_new w _, Nat.le_refl _, hm, ?_, ?_⟩⟩, ?_, hs⟩, ?_⟩
  · rw [← Array.length_toList, hce, hfl]
  · rw [hce, List.take_of_length_le (by omega)]
  · exact All2.imp hc fun _ _ h' => ICells.keep h' (fun b hb => hk b (h.zb b hb)) fun _ h => h
  · intro b hb
    simp only [Value.ownBlock, Option.some.injEq] at hb
    exact .inr (by omega)
def chunk {α : Type} (sz : Nat) : Nat → List α → List (List α)
  | 0, _ => []
  | n + 1, cs => cs.take sz :: chunk sz n (cs.drop sz)
theorem chunk_len {α : Type} (sz : Nat) : ∀ (n : Nat) (cs : List α), (chunk sz n cs).length = n
  | 0, _ => rfl
  | n + 1, cs => by simp [chunk, chunk_len sz n]
theorem chunk_flat {α : Type} (sz : Nat) : ∀ (n : Nat) (cs : List α), cs.length = n * sz → (chunk sz n cs).flatten = cs ∧ ∀ us ∈ chunk sz n cs, us.length = sz
  | 0, cs, h => by
    have : cs = [] := List.eq_nil_of_length_eq_zero (by omega)
    subst this
    exact ⟨rfl, fun us hu => by simp [chunk] at hu⟩
  | n + 1, cs, h => by
    rw [Nat.succ_mul] at h
    obtain ⟨h1, h2⟩ := chunk_flat sz n (cs.drop sz) (by simp; omega)
    refine ⟨by simp [chunk, h1], fun us hu => ?_⟩
    simp only [chunk, List.mem_cons] at hu
    rcases hu with rfl | hu
    · simp; omega
    · exact h2 us hu
theorem chunk_rep {α β : Type} {R : α → β → Prop} (sz : Nat) : ∀ (n : Nat) {xs : List α} {us : List β}, All2 R xs us → All2 (All2 R) (chunk sz n xs) (chunk sz n us)
  | 0, _, _, _ => All2.nil
  | n + 1, _, _, h => All2.cons (h.take sz) (chunk_rep sz n (h.drop sz))
theorem made_flat' {z : Array Value} {sz : Nat} (hz : z.size = sz) (hs : 0 < sz) (n : Nat) : (madeCells z (n * sz)).toList = (List.replicate n z.toList).flatten := by
  have hr : ∀ us ∈ List.replicate n z.toList, us.length = sz := fun us hu => by rw [List.eq_of_mem_replicate hu]; simpa using hz
  have hl : ((List.replicate n z.toList).flatten).length = n * sz := by rw [flat_len' hr, List.length_replicate]
  apply List.ext_getElem?
  intro k
  by_cases hk : k < n * sz
  · have h1 : k / sz < n := by rw [Nat.div_lt_iff_lt_mul hs]; exact hk
    have h2 : k % sz < sz := Nat.mod_lt _ hs
    have h3 : k / sz * sz + k % sz = k := by rw [Nat.mul_comm]; exact Nat.div_add_mod k sz
    have h4 := flat_get' hr (i := k / sz) (j := k % sz) (us := z.toList) (by rw [List.getElem?_replicate, if_pos h1]) h2
    rw [h3] at h4
    rw [h4]
    simp [madeCells, hz, hk]
    rw [getElem!_pos z (k % sz) (by rw [hz]; exact h2), Array.getElem?_eq_getElem]
  · rw [List.getElem?_eq_none (by rw [Array.length_toList, size_madeCells]; omega), List.getElem?_eq_none (by rw [hl]; omega)]
/-- An element type: its zero cells, its size, its bytes. -/
def elP (P : Program) (e : TypeId) : Option (List Value × Nat × Nat) := match P.info? e with
  | some i => match i.zero with
    | some z => if z.cells.toList.all scal = true ∧ z.cells.size = i.size ∧ 0 < i.size ∧ 0 < i.bytes then some (z.cells.toList, i.size, i.bytes) else none
    | none => none
  | none => none
theorem elP_spec {e sz by_ : Nat} {zs : List Value} (h : elP P e = some (zs, sz, by_)) : ∃ i z, P.info? e = some i ∧ i.zero = some z ∧ z.cells.toList = zs ∧ zs.all scal = true ∧ z.cells.size = sz ∧ i.size = sz ∧ i.bytes = by_ ∧ 0 < sz ∧ 0 < by_ := by
  unfold elP at h
  split at h
  · rename_i i hi
    split at h
    · rename_i z hz
      split at h
      · rename_i hc
        simp only [Option.some.injEq, Prod.mk.injEq] at h
        obtain ⟨rfl, rfl, rfl⟩ := h
        exact ⟨i, z, hi, hz, rfl, hc.1, hc.2.1, rfl, rfl, hc.2.2.1, hc.2.2.2⟩
      · cases h
    · cases h
  · cases h
theorem rep_flat {m : Mp} {w : World} {Z : Nat → Prop} {zs : List Value} (hs : zs.all scal = true) : ∀ n, Cells m w Z (List.replicate n (zs.map fun u => CV.i (.v u))).flatten (List.replicate n zs).flatten
  | 0 => All2.nil
  | n + 1 => by
    rw [List.replicate_succ, List.replicate_succ, List.flatten_cons, List.flatten_cons]
    exact All2.append (cells_scal hs) (rep_flat hs n)
theorem fillC_len {place : Nat → Option (Nat × Nat)} : ∀ (ps : List (Nat × TV)) {cs cs' : List CV}, fillC place cs ps = some cs' → cs'.length = cs.length
  | [], cs, cs', h => by simp only [fillC, Option.some.injEq] at h; rw [h]
  | (i, x) :: ps, cs, cs', h => by
    simp only [fillC] at h
    split at h
    · cases h
    · split at h
      · rename_i hc
        rw [fillC_len ps h, laidC_len hc.2]
      · cases h
theorem stp_buildSlice {t e len sz by_ : Nat} {parts : Array (Nat × Operand)} {zs : List Value} {ps : List (Nat × TV)} {cs : List CV} {is : List IV} {id : Nat} (ho : o.op = .buildSlice t len parts) (ht : elemP P t = some e) (hel : elP P e = some (zs, sz, by_)) (hsm : len * sz ≤ 16777216) (he : evParts σ parts.toList = some ps)
    (hf : fillC (fun i => some (i * sz, sz)) (List.replicate len (zs.map fun u => CV.i (.v u))).flatten ps = some cs) (hi : unI cs = some is) (hfr : σ.ob[id]? = some .free) :
    Stp P F o σ (St.put { σ with ob := σ.ob.set id (.live (.row e sz (chunk sz len is))) } o.dst (.t (.c (.os id)))) := by
  intro m Z a w h K Q hK
  obtain rfl := unI_spec hi
  clear hi
  obtain ⟨i, z, hi, hz, hzz, hsc, hzs, hsi, hby, hp, -⟩ := elP_spec hel
  have hu := elemP_spec ht
  have hzl : (zs.map fun u => CV.i (.v u)).length = sz := by rw [List.length_map, ← hzz, Array.length_toList, hzs]
  have hrl : ∀ us ∈ List.replicate len (zs.map fun u => CV.i (.v u)), us.length = sz := fun us hu => by rw [List.eq_of_mem_replicate hu]; exact hzl
  have hcl : (ivs is).length = len * sz := by rw [fillC_len ps hf, flat_len' hrl, List.length_replicate]
  obtain ⟨us', h2, h3⟩ := fill_rep (m := m) (w := w) (Z := Z) _ ps _ _ (ivs is) _ (h.parts _ he) (rep_flat hsc len) hf
  have hul : us'.length = len * sz := by rw [← h3.1, hcl]
  obtain ⟨hfl, hfs⟩ := chunk_flat sz len us' hul
  have hmx : len ≤ maxLen := by
    have : len * 1 ≤ len * sz := Nat.mul_le_mul_left _ hp
    simp only [maxLen]; omega
  obtain ⟨m', hm', hsim⟩ := h.newRow hfr e sz (chunk_rep sz len (Cells.ivs h3)) hfs (by rw [chunk_len]; exact hmx) (cells := us'.toArray) (by simp [hfl])
  rw [chunk_len] at hm'
  have hrun : (Instr.buildSlice t len (parts.map fun (i, x) => (i, a.eval x))).run P w = .ok (.slice (some ⟨w.heap.size, 0, none⟩) len len) (w.alloc (.cells us'.toArray e (0, 0))) := by
    by_cases h0 : len * sz = 0
    · have hl0 : len = 0 := by
        rcases Nat.mul_eq_zero.mp h0 with h | h
        · exact h
        · omega
      subst hl0
      have hus : us' = [] := List.eq_nil_of_length_eq_zero (by simpa using hul)
      subst hus
      simp only [List.replicate_zero, List.flatten_nil] at h2
      have h2' : Instr.fill (fun i => some (i * sz, sz)) #[] (parts.map fun (i, x) => (i, a.eval x)).toList = some #[] := by simpa using h2
      simp [Instr.buildSlice, run_underlying hu, sizeOf, typeInfo, zeroValue, hi, hz, hsi, newRow]
      simp at h2'
      rw [show (Array.range 0).map (fun x => (default : Value)) = #[] from Array.eq_empty_of_size_eq_zero (by simp)]
      simp [h2']
    · refine run_buildSlice w t e len _ us'.toArray i z hu hi hz (by rw [hsi]; omega) (by rw [hsi]; exact h0) ?_
      rw [hsi]
      have hmd : (Array.range (len * sz)).map (z.cells[· % z.cells.size]!) = ((List.replicate len zs).flatten).toArray := by
        rw [← Array.toList_inj, ← hzz]
        exact made_flat' hzs hp len
      rw [hmd, ← h2]
      congr 1
      simp
  refine wp_value (u := .slice (some ⟨w.heap.size, 0, none⟩) len len) (by unfold execOp; rw [ho]; simp only [Sem.run_bind, hrun, Result.andThen_ok, Sem.run_pure]) (hK m' Z _ _ (hsim.putO o.dst (x := .t (.c (.os id))) ⟨hm', _, _, _, rfl⟩) (Act.put_defers ..))
theorem stp_buildSliceR {t e len sz by_ : Nat} {parts : Array (Nat × Operand)} {zs : List Value} {ps : List (Nat × TV)} {cs : List CV} {is : List IV} {id : Nat} (ho : o.op = .buildSlice t len parts) (ht : elemP P t = some e) (hel : elP P e = some (zs, sz, by_)) (hsm : len * sz ≤ 16777216) (he : ∀ m Z a w, Sim F m Z σ a w → All2 (fun (p : Nat × TV) (q : Nat × Value) => p.1 = q.1 ∧ RepT m w Z p.2 q.2) ps (parts.toList.map fun q => (q.1, a.eval q.2)))
    (hf : fillC (fun i => some (i * sz, sz)) (List.replicate len (zs.map fun u => CV.i (.v u))).flatten ps = some cs) (hi : unI cs = some is) (hfr : σ.ob[id]? = some .free) :
    Stp P F o σ (St.put { σ with ob := σ.ob.set id (.live (.row e sz (chunk sz len is))) } o.dst (.t (.c (.os id)))) := by
  intro m Z a w h K Q hK
  obtain rfl := unI_spec hi
  clear hi
  obtain ⟨i, z, hi, hz, hzz, hsc, hzs, hsi, hby, hp, -⟩ := elP_spec hel
  have hu := elemP_spec ht
  have hzl : (zs.map fun u => CV.i (.v u)).length = sz := by rw [List.length_map, ← hzz, Array.length_toList, hzs]
  have hrl : ∀ us ∈ List.replicate len (zs.map fun u => CV.i (.v u)), us.length = sz := fun us hu => by rw [List.eq_of_mem_replicate hu]; exact hzl
  have hcl : (ivs is).length = len * sz := by rw [fillC_len ps hf, flat_len' hrl, List.length_replicate]
  obtain ⟨us', h2, h3⟩ := fill_rep (m := m) (w := w) (Z := Z) _ ps _ _ (ivs is) _ (he m Z a w h) (rep_flat hsc len) hf
  have hul : us'.length = len * sz := by rw [← h3.1, hcl]
  obtain ⟨hfl, hfs⟩ := chunk_flat sz len us' hul
  have hmx : len ≤ maxLen := by
    have : len * 1 ≤ len * sz := Nat.mul_le_mul_left _ hp
    simp only [maxLen]; omega
  obtain ⟨m', hm', hsim⟩ := h.newRow hfr e sz (chunk_rep sz len (Cells.ivs h3)) hfs (by rw [chunk_len]; exact hmx) (cells := us'.toArray) (by simp [hfl])
  rw [chunk_len] at hm'
  have hrun : (Instr.buildSlice t len (parts.map fun (i, x) => (i, a.eval x))).run P w = .ok (.slice (some ⟨w.heap.size, 0, none⟩) len len) (w.alloc (.cells us'.toArray e (0, 0))) := by
    by_cases h0 : len * sz = 0
    · have hl0 : len = 0 := by
        rcases Nat.mul_eq_zero.mp h0 with h | h
        · exact h
        · omega
      subst hl0
      have hus : us' = [] := List.eq_nil_of_length_eq_zero (by simpa using hul)
      subst hus
      simp only [List.replicate_zero, List.flatten_nil] at h2
      have h2' : Instr.fill (fun i => some (i * sz, sz)) #[] (parts.map fun (i, x) => (i, a.eval x)).toList = some #[] := by simpa using h2
      simp [Instr.buildSlice, run_underlying hu, sizeOf, typeInfo, zeroValue, hi, hz, hsi, newRow]
      simp at h2'
      rw [show (Array.range 0).map (fun x => (default : Value)) = #[] from Array.eq_empty_of_size_eq_zero (by simp)]
      simp [h2']
    · refine run_buildSlice w t e len _ us'.toArray i z hu hi hz (by rw [hsi]; omega) (by rw [hsi]; exact h0) ?_
      rw [hsi]
      have hmd : (Array.range (len * sz)).map (z.cells[· % z.cells.size]!) = ((List.replicate len zs).flatten).toArray := by
        rw [← Array.toList_inj, ← hzz]
        exact made_flat' hzs hp len
      rw [hmd, ← h2]
      congr 1
      simp
  refine wp_value (u := .slice (some ⟨w.heap.size, 0, none⟩) len len) (by unfold execOp; rw [ho]; simp only [Sem.run_bind, hrun, Result.andThen_ok, Sem.run_pure]) (hK m' Z _ _ (hsim.putO o.dst (x := .t (.c (.os id))) ⟨hm', _, _, _, rfl⟩) (Act.put_defers ..))
theorem icells_scal {w : World} {Z : Nat → Prop} : ∀ {us : List Value}, us.all scal = true → ICells w Z (us.map fun u => .v u) us
  | [], _ => All2.nil
  | u :: us, h => by
    simp only [List.all_cons, Bool.and_eq_true] at h
    exact All2.cons (RepI.v h.1) (icells_scal h.2)
theorem stp_makeSlice {t e sz by_ : Nat} {x y : Operand} {xa ya : AV} {zs : List Value} {n : Int} {id : Nat} (ho : o.op = .makeSlice t x y) (hx : σ.ev x = some xa) (hy : σ.ev y = some ya) (hxi : xa.int = some n) (hyi : ya.int = some n) (ht : elemP P t = some e) (hel : elP P e = some (zs, sz, by_)) (hfr : σ.ob[id]? = some .free)
    (hob : Obs [0 ≤ n, (by_ : Int) * n ≤ 281474976710656]) :
    Stp P F o σ (St.put { σ with ob := σ.ob.set id (.live (.row e sz (List.replicate n.toNat (zs.map fun u => IV.v u)))) } o.dst (.t (.c (.os id)))) := by
  intro m Z a w h K Q hK
  obtain ⟨i, z, hi, hz, hzz, hsc, hzs, hsi, hby, hp, hbp⟩ := elP_spec hel
  have hu := elemP_spec ht
  obtain ⟨h0, h1, -⟩ := hob
  obtain ⟨k1, e1⟩ := (h.ev hx).int hxi
  obtain ⟨k2, e2⟩ := (h.ev hy).int hyi
  have hn : n ≤ 281474976710656 := by
    have : (1 : Int) * n ≤ (by_ : Int) * n := Int.mul_le_mul_of_nonneg_right (by omega) h0
    omega
  have hrun := run_make (P := P) (w := w) t e i z hu hi hz k1 k2 n n h0 (by omega) (by rw [hby]; exact h1) (by omega)
  rw [hsi] at hrun
  have hrl : ∀ us ∈ List.replicate n.toNat zs, us.length = sz := fun us hu => by rw [List.eq_of_mem_replicate hu, ← hzz, Array.length_toList, hzs]
  obtain ⟨m', hm', hsim⟩ := h.newRow hfr e sz (All2.rep n.toNat (icells_scal (w := w) (Z := Z) hsc)) hrl (by simp only [List.length_replicate, maxLen]; omega) (cells := madeCells z.cells (n.toNat * sz)) (by rw [made_flat' hzs hp, hzz])
  simp only [List.length_replicate] at hm'
  refine wp_value (u := .slice (some ⟨w.heap.size, 0, none⟩) n.toNat n.toNat) (by unfold execOp; rw [ho]; simp only [e1, e2, Sem.run_bind, hrun, Result.andThen_ok, Sem.run_pure]) (hK m' Z _ _ (hsim.putO o.dst (x := .t (.c (.os id))) ⟨hm', _, _, _, rfl⟩) (Act.put_defers ..))
end
end Go.Proofs.YtljdidlkiknknaaDoor.AB
namespace Go.Proofs.YtljdidlkiknknaaDoor.AB
open Go Go.RowKit Go.Proofs.YtljdidlkiknknaaDoorW.PrintWords Go.Proofs.YtljdidlkiknknaaDoorW.PrintMore
set_option linter.unusedSimpArgs false
set_option linter.unusedVariables false
section
variable {P : Program} {F : Frm} {o : Oper} {σ : St}
theorem Sim.kill {m : Mp} {Z : Nat → Prop} {a : Act} {w : World} (h : Sim F m Z σ a w) {id : Nat} {o : AObj} (hl : σ.ob[id]? = some (.live o)) : Sim F m Z { σ with ob := σ.ob.set id .dead } a w :=
  h.upd id .dead none ⟨rfl, rfl, rfl, Nat.le_refl _⟩ (fun b hb => by cases hb) (fun _ _ _ => rfl) (fun _ _ => rfl) (fun _ hv => hv) (List.getElem?_eq_some_iff.mp hl).1 (by simp) (fun o ho => by cases ho)
theorem Sim.grow {m : Mp} {Z : Nat → Prop} {a : Act} {w w' : World} (h : Sim F m Z σ a w) {id e sz : Nat} (hf : σ.ob[id]? = some .free) {v v' : Value} {xs : List (List IV)} {uss : List (List Value)}
    (hfree : ∀ b, v.ownBlock = some b → ¬ Z b ∧ ¬ F.kept b ∧ ∀ i v', σ.live i → m i = some v' → v'.ownBlock ≠ some b) (hg : w.grownBy w' v.ownBlock) (hat : v'.ownBlock = v.ownBlock ∨ v'.ownBlock = some w.heap.size)
    (hown : w'.ownsRow 0 e sz v' xs.length uss.flatten) (hc : All2 (ICells w Z) xs uss) (hs : ∀ us ∈ uss, us.length = sz) :
    ∃ m', m' id = some v' ∧ Sim F m' Z { σ with ob := σ.ob.set id (.live (.row e sz xs)) } a w' := by
  have hn : m id = none := h.fr id (.inl hf)
  have hlt : id < σ.ob.length := (List.getElem?_eq_some_iff.mp hf).1
  have hmm : ∀ i v, m i = some v → (fun i => if i = id then some v' else m i) i = some v := by
    intro i v hv
    by_cases e : i = id
    · subst e; rw [hn] at hv; cases hv
    · simp [e, hv]
  have hk : ∀ b, b < w.heap.size → v.ownBlock ≠ some b → w'.heap[b]? = w.heap[b]? := fun b hb hne => hg.block b hb (fun e => hne e.symm)
  refine ⟨fun i => if i = id then some v' else m i, by simp, ?_⟩
  refine h.upd id _ v.ownBlock ⟨hg.os, hg.tape, hg.output, hg.size⟩ (fun b hb => ⟨(hfree b hb).1, (hfree b hb).2.1, fun i v'' _ hl hv => (hfree b hb).2.2 i v'' hl hv⟩) hk (fun i hi => by simp [hi]) (fun v hv => hmm id v hv) hlt (by simp) ?_
  intro o ho
  obtain rfl := Slot.live.inj ho
  refine ⟨v', by simp, ⟨uss, hown, ?_, hs⟩, ?_⟩
  · exact All2.imp hc fun _ _ h' => ICells.keep h' (fun b hb => hk b (h.zb b hb) fun e => (hfree b e).1 hb) fun _ h => h
  · intro b hb
    rcases hat with hat | hat
    · exact .inl (hat.symm.trans hb)
    · rw [hat] at hb; exact .inr (by have := Option.some.inj hb; omega)
/-- The elements of a slice, as cells. -/
def St.elems (σ : St) (sz : Nat) : AV → Option (List (List IV))
  | .t (.c (.i (.sl sz' xs))) => if sz' = sz then some xs else none
  | .t (.c (.i (.v (.slice none 0 0)))) => some []
  | .t (.c (.os id)) => match σ.row id with
    | some (_, sz', xs) => if sz' = sz then some xs else none
    | none => none
  | _ => none
theorem Sim.elems {m : Mp} {Z : Nat → Prop} {a : Act} {w : World} (h : Sim F m Z σ a w) {x : AV} {u : Value} {sz : Nat} {xs : List (List IV)} (hx : RepV m w Z x u) (hn : σ.elems sz x = some xs) :
    ∃ A c uss, u = .slice A xs.length c ∧ (A = none → u = .slice none 0 0) ∧ All2 (ICells w Z) xs uss ∧ (∀ us ∈ uss, us.length = sz) ∧ ∀ ad, A = some ad → ∀ (j : Nat) (v : Value), uss.flatten[j]? = some v → w.cell? (ad.add j) = some v := by
  unfold St.elems at hn
  split at hn
  · rename_i sz' xs'
    split at hn
    · rename_i e
      subst e
      obtain rfl := Option.some.inj hn
      have hx : RepI w Z (.sl sz' xs') u := hx
      cases hx with
      | nil A c hA => exact ⟨A, c, [], rfl, (fun e => by rw [e, hA e]; done), All2.nil, fun us hu => by simp at hu, fun ad _ j v hv => by simp at hv⟩
      | sl val hb hc hm hsz hcell hrep =>
        rename_i b o' c
        have hlen : ∀ us ∈ (List.range xs'.length).map (fun i => (List.range sz').map (val i)), us.length = sz' := by
          intro us hu
          obtain ⟨i, _, rfl⟩ := List.mem_map.mp hu
          simp
        refine ⟨some ⟨b, o', none⟩, c, (List.range xs'.length).map (fun i => (List.range sz').map (val i)), by simp, (fun e => by cases e), ?_, hlen, ?_⟩
        · refine ⟨by simp, fun i ys us hi hu => ?_⟩
          rw [List.getElem?_map] at hu
          have hil := (List.getElem?_eq_some_iff.mp hi).1
          have hr : (List.range xs'.length)[i]? = some i := by rw [List.getElem?_range hil]
          rw [hr] at hu
          obtain rfl := Option.some.inj hu
          have hzl := hsz ys (List.mem_of_getElem? hi)
          refine ⟨by simp [hzl], fun j y v hy hv => ?_⟩
          rw [List.getElem?_map] at hv
          have hjl := (List.getElem?_eq_some_iff.mp hy).1
          have hr : (List.range sz')[j]? = some j := by rw [List.getElem?_range (by omega)]
          rw [hr] at hv
          obtain rfl := Option.some.inj hv
          exact hrep i j ys y hi hy
        · intro ad e j v hv
          obtain rfl := Option.some.inj e
          have hjl := (List.getElem?_eq_some_iff.mp hv).1
          rw [flat_len' hlen] at hjl
          simp only [List.length_map, List.length_range] at hjl
          have hs : 0 < sz' := by
            rcases Nat.eq_zero_or_pos sz' with h0 | h0
            · rw [h0] at hjl; simp at hjl
            · exact h0
          have h1 : j / sz' < xs'.length := by rw [Nat.div_lt_iff_lt_mul hs]; exact hjl
          have h2 : j % sz' < sz' := Nat.mod_lt _ hs
          have h3 : j / sz' * sz' + j % sz' = j := by rw [Nat.mul_comm]; exact Nat.div_add_mod j sz'
          have h4 := flat_get' hlen (i := j / sz') (j := j % sz') (us := (List.range sz').map (val (j / sz'))) (by rw [List.getElem?_map, List.getElem?_range h1]; rfl) h2
          rw [h3, hv, List.getElem?_map, List.getElem?_range h2] at h4
          obtain rfl := Option.some.inj h4
          have := hcell _ _ h1 h2
          rw [h3] at this
          rw [add_o]
          exact this
    · cases hn
  · obtain rfl := Option.some.inj hn
    have hx : RepI w Z (.v (.slice none 0 0)) u := hx
    cases hx
    exact ⟨none, 0, [], rfl, fun _ => rfl, All2.nil, fun us hu => by simp at hu, fun ad e => by cases e⟩
  · rename_i id
    split at hn
    · rename_i e' sz' xs' hr
      split at hn
      · rename_i e
        subst e
        obtain rfl := Option.some.inj hn
        obtain ⟨v, h2, h3⟩ := h.ob id _ (St.row_ob hr)
        obtain rfl := Option.some.inj (hx.1.symm.trans h2)
        obtain ⟨uss, ho, hc, hs⟩ := h3
        obtain ⟨A, c, hu⟩ := own_slice ho
        refine ⟨A, c, uss, hu, fun e => ?_, hc, hs, fun ad e j v hv => ?_⟩
        · rcases ho.2 with ⟨hv, _⟩ | ⟨g, cap, cur, hv, _⟩
          · exact hv
          · rw [hu, e] at hv; cases hv
        · rcases ho.2 with ⟨hv', _⟩ | ⟨g, cap, cur, hv', _⟩
          · rw [hu, e] at hv'; cases hv'
          · rw [hu, e] at hv'
            simp only [Value.slice.injEq, Option.some.injEq] at hv'
            obtain ⟨rfl, -, -⟩ := hv'
            rw [add_o, Nat.zero_add]
            exact ownsRow_cell ho (by rw [hu, e]) _ hv
      · cases hn
    · cases hn
  · cases hn
theorem flat_cells {w : World} {Z : Nat → Prop} {xs : List (List IV)} {uss : List (List Value)} (h : All2 (ICells w Z) xs uss) : ∀ u ∈ uss.flatten, u.oneCell' = true := by
  intro u hu
  obtain ⟨us, h1, h2⟩ := List.mem_flatten.mp hu
  obtain ⟨i, hi, e⟩ := List.mem_iff_getElem.mp h1
  obtain ⟨ys, _, hy⟩ := h.getR (j := i) (u := us) (by rw [List.getElem?_eq_getElem hi, e])
  obtain ⟨j, hj, e2⟩ := List.mem_iff_getElem.mp h2
  obtain ⟨z, _, hz⟩ := hy.getR (j := j) (u := u) (by rw [List.getElem?_eq_getElem hj, e2])
  exact RepI.one hz
/-- Where a row is taken out of: nothing, or an object that is spent. -/
def St.spend (σ : St) (e sz : Nat) : AV → Option (List (List IV) × St)
  | .t (.c (.i (.v (.slice none 0 0)))) => some ([], σ)
  | .t (.c (.os id)) => match σ.row id with
    | some (e', sz', xs) => if e' = e ∧ sz' = sz then some (xs, { σ with ob := σ.ob.set id .dead }) else none
    | none => none
  | _ => none
theorem Sim.spend {m : Mp} {Z : Nat → Prop} {a : Act} {w : World} (h : Sim F m Z σ a w) {x : AV} {u : Value} {e sz : Nat} {xs : List (List IV)} {σ' : St} (hx : RepV m w Z x u) (hn : σ.spend e sz x = some (xs, σ')) :
    ∃ uss, w.ownsRow 0 e sz u xs.length uss.flatten ∧ All2 (ICells w Z) xs uss ∧ (∀ us ∈ uss, us.length = sz) ∧ Sim F m Z σ' a w ∧ (∀ b, u.ownBlock = some b → ¬ Z b ∧ ¬ F.kept b ∧ ∀ i v', σ'.live i → m i = some v' → v'.ownBlock ≠ some b) := by
  unfold St.spend at hn
  split at hn
  · simp only [Option.some.injEq, Prod.mk.injEq] at hn
    obtain ⟨rfl, rfl⟩ := hn
    have hx : RepI w Z (.v (.slice none 0 0)) u := hx
    cases hx
    exact ⟨[], own_nil w 0 e sz, All2.nil, fun us hu => by simp at hu, h, fun b hb => by cases hb⟩
  · rename_i id
    split at hn
    · rename_i e' sz' xs' hr
      split at hn
      · rename_i hc
        obtain ⟨rfl, rfl⟩ := hc
        simp only [Option.some.injEq, Prod.mk.injEq] at hn
        obtain ⟨rfl, rfl⟩ := hn
        have hob := St.row_ob hr
        obtain ⟨v, h2, h3⟩ := h.ob id _ hob
        obtain rfl := Option.some.inj (hx.1.symm.trans h2)
        obtain ⟨uss, ho, hc, hs⟩ := h3
        refine ⟨uss, ho, hc, hs, h.kill hob, fun b hb => ?_⟩
        have haz := h.az id _ b ⟨_, hob⟩ h2 hb
        refine ⟨haz.1, haz.2, fun i v' hl hv hb' => ?_⟩
        obtain ⟨o', ho'⟩ := hl
        have ho' : (σ.ob.set id .dead)[i]? = some (.live o') := ho'
        by_cases e : id = i
        · subst e
          rw [List.getElem?_set_self (St.lt_of_ob hob)] at ho'
          cases ho'
        · rw [List.getElem?_set_ne e] at ho'
          exact e (h.ap id i _ v' b ⟨_, hob⟩ ⟨_, ho'⟩ h2 hv hb hb')
      · cases hn
    · cases hn
  · cases hn
theorem stp_append {t e sz by_ id : Nat} {x y : Operand} {xa ya : AV} {zs : List Value} {xs ys : List (List IV)} {σ' : St} (ho : o.op = .call { callee := .builtin .append, args := #[x, y], argTypes := #[t, t] }) (hx : σ.ev x = some xa) (hy : σ.ev y = some ya) (ht : elemP P t = some e) (hel : elP P e = some (zs, sz, by_))
    (hs : σ.spend e sz xa = some (xs, σ')) (hys : σ.elems sz ya = some ys) (hfr : σ'.ob[id]? = some .free) (hob : Obs [(xs.length + ys.length) * by_ ≤ 140737488355328]) :
    Stp P F o σ (St.put { σ' with ob := σ'.ob.set id (.live (.row e sz (xs ++ ys))) } o.dst (.t (.c (.os id)))) := by
  intro m Z a w h K Q hK
  obtain ⟨i, z, hi, hz, hzz, hsc, hzs, hsi, hby, hp, hbp⟩ := elP_spec hel
  have hu := elemP_spec ht
  have hbytes := hob.1
  obtain ⟨uss, hown, hc, hl, h', hfree⟩ := h.spend (h.ev hx) hs
  obtain ⟨A, c, uss2, hyv, hA, hc2, hl2, hcell⟩ := h.elems (h.ev hy) hys
  have hn : xs.length + ys.length ≤ 140737488355328 := Nat.le_trans (Nat.le_mul_of_pos_right _ hbp) hbytes
  have hf1 := flat_len' hl
  have hf2 := flat_len' hl2
  have key : ∃ v' w', (Builtin.append_ #[t, t] o.type #[a.eval x, a.eval y]).run P w = .ok v' w' ∧ w'.ownsRow 0 e sz v' (xs ++ ys).length ((uss ++ uss2).flatten) ∧ w.grownBy w' (a.eval x).ownBlock ∧ (v'.ownBlock = (a.eval x).ownBlock ∨ v'.ownBlock = some w.heap.size) := by
    cases hAA : A with
    | none =>
      have h0 := hA hAA
      have hyl : ys.length = 0 := by rw [h0] at hyv; simp only [Value.slice.injEq] at hyv; omega
      have hys0 : ys = [] := List.eq_nil_of_length_eq_zero hyl
      subst hys0
      have hu0 : uss2 = [] := List.eq_nil_of_length_eq_zero (by have := hc2.1; simpa using this.symm)
      subst hu0
      refine ⟨a.eval x, w, ?_, by simpa using hown, World.grownBy.refl w _, .inl rfl⟩
      rw [h0]
      exact run_append_owned_none (P := P) (w := w) 0 t o.type e i sz hu hi _ _ _ hown
    | some ad =>
      subst hAA
      obtain ⟨v', w', r1, r2, r3, -, r5⟩ := run_append_own_at (P := P) (w := w) 0 t o.type e i z sz by_ hu hi hz hsi hby hzs hp (a.eval x) xs.length uss.flatten hown ad ys.length c uss2.flatten (by rw [hf2, hc2.1]) (hcell ad rfl) (flat_cells hc2) (by simp only [maxLen]; omega) hbytes (Nat.zero_le _)
      exact ⟨v', w', by rw [hyv]; exact r1, by rw [List.length_append, List.flatten_append]; exact r2, r3, r5⟩
  obtain ⟨v', w', r1, r2, r3, r5⟩ := key
  obtain ⟨m', hm', hsim⟩ := h'.grow hfr hfree r3 r5 r2 (hc.append hc2) (fun us hu => by
    rcases List.mem_append.mp hu with hu | hu
    · exact hl us hu
    · exact hl2 us hu)
  obtain ⟨A', c', e'⟩ := own_slice r2
  exact wp_value (u := v') (w' := w') (by unfold execOp; rw [ho]; simp [resolve, invoke, builtin, r1]) (hK m' Z _ _ (hsim.putO o.dst (x := .t (.c (.os id))) ⟨hm', _, _, _, e'⟩) (Act.put_defers ..))
end
end Go.Proofs.YtljdidlkiknknaaDoor.AB
