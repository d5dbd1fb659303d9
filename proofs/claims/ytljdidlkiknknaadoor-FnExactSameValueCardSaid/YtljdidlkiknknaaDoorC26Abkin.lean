/-
  What a call does, told without addresses: a state, steps, and that the code follows them.
-/
import Derived.Test.YtljdidlkiknknaaDoorC26Abh1p
import Derived.Test.YtljdidlkiknknaaDoorC26Abkinw
namespace Go.Proofs.YtljdidlkiknknaaDoor.AB
open Go Go.RowKit Go.Proofs.YtljdidlkiknknaaDoorW.PrintWords Go.Proofs.YtljdidlkiknknaaDoorW.PrintMore
set_option linter.unusedSimpArgs false
set_option linter.unusedVariables false
def kin.sem (N : Nat) (l : List Int) : Option (List (List Int) × Bool) := PFnExactFitsType.impl_kin.f N l
theorem reps_one' {α : Type} {R : α → List Value → Prop} {ps : List α} {cs : List Value} (h : Reps R 1 ps cs) : cs.length = ps.length ∧ ∀ (j : Nat) (p : α) (u : Value), ps[j]? = some p → cs[j]? = some u → R p [u] := by
  refine ⟨by have := h.1; omega, fun j p u hp hu => ?_⟩
  have h1 := h.2 j p hp
  have hj := (List.getElem?_eq_some_iff.mp hu)
  obtain ⟨hlt, e⟩ := hj
  rw [Nat.mul_one, List.drop_eq_getElem_cons hlt, List.take_succ_cons, List.take_zero, e] at h1
  exact h1
theorem flat_single (cs : List Value) : (cs.map fun u => [u]).flatten = cs := by
  induction cs with
  | nil => rfl
  | cons u cs ih => rw [List.map_cons, List.flatten_cons, ih]; rfl
theorem row_one {α : Type} {w : World} {Z : Nat → Prop} {base e : Nat} {v : Value} {ps : List α} {cs : List Value} {enc : α → List IV} (ho : w.ownsRow base e 1 v ps.length cs) (hZ : ∀ b, base ≤ b → b < w.heap.size → Z b)
    (hr : ∀ (j : Nat) (p : α) (u : Value), ps[j]? = some p → cs[j]? = some u → ICells w Z (enc p) [u]) : RepI w Z (.sl 1 (ps.map enc)) v := by
  have hl : cs.length = ps.length := by have := ho.1; omega
  have h1 : ObRep noM w Z (.row e 1 (ps.map enc)) v := by
    refine ⟨cs.map fun u => [u], by rw [flat_single, List.length_map]; exact own_less ho (Nat.zero_le _), ⟨by simp [hl], fun j y us hy hu => ?_⟩, fun us hu => ?_⟩
    · rw [List.getElem?_map] at hy hu
      cases hp : ps[j]? with
      | none => rw [hp] at hy; cases hy
      | some p =>
        cases hc : cs[j]? with
        | none => rw [hc] at hu; cases hu
        | some u =>
          rw [hp] at hy
          rw [hc] at hu
          obtain rfl := Option.some.inj hy
          obtain rfl := Option.some.inj hu
          exact hr j p u hp hc
    · obtain ⟨u, -, rfl⟩ := List.mem_map.mp hu
      rfl
  refine RepI.keep (rowI h1) (fun _ _ => rfl) fun b hb => ?_
  rcases hb with hb | hb
  · exact hb
  · exact hZ b (own_base ho b hb) (own_lt ho b hb)
theorem kin.ok (N : Nat) (l : List Int) (r : List (List Int) × Bool) (h : kin.sem N l = some r) : Ok Tryd.prog 82 [tI (.sl 1 (l.map eI))] (.tup [tI (.sl 1 (r.1.map eLI)), tI (bI r.2)]) := by
  refine ⟨⟨Tryd.f82, Tryd.func82, by kernel_rfl, rfl⟩, fun w Z us ht hz ha => ?_⟩
  have hlen := ha.1
  match us, hlen with
  | [u], _ =>
    have hu : RepI w Z (.sl 1 (l.map eI)) u := ha.2 0 _ u rfl rfl
    obtain ⟨A, c, rfl, hl, hC⟩ : ∃ A c, u = .slice A l.length c ∧ l.length ≤ c ∧ Kd.C (Kd.int .i64) w A l.length l := by
      generalize hxs : l.map eI = xs at hu
      cases hu with
      | nil A c hA =>
        have : l = [] := by simpa using hxs
        subst this
        exact ⟨A, c, rfl, Nat.zero_le _, rfl, by simp, fun h => by simp at h⟩
      | sl val hb hc hm hsz hcell hrep =>
        rename_i b o c _
        subst hxs
        rw [List.length_map] at hc
        refine ⟨_, c, by rw [List.length_map], hc, rfl, by omega, fun _ => ⟨⟨b, o, none⟩, rfl, fun j p hp => ⟨[.int .i64 p], rfl, rfl, fun i u hu => ?_⟩⟩⟩
        cases i with
        | succ i => simp at hu
        | zero =>
          simp only [List.getElem?_cons_zero, Option.some.injEq] at hu
          subst hu
          have hj : j < (l.map eI).length := by simpa using (List.getElem?_eq_some_iff.mp hp).1
          have h1 := hcell j 0 hj (by omega)
          have h2 := hrep j 0 (eI p) (nI p) (by rw [List.getElem?_map, hp]; rfl) rfl
          rw [add_o]
          show w.cell? ⟨b, o + (j * 1 + 0), none⟩ = _
          rw [h1]
          generalize val j 0 = q at h2
          have h2 : RepI w Z (.v (.int .i64 p)) q := h2
          cases h2
          rfl
    have hcalls := PFnExactFitsType.impl_kin.calls N A c l r.1 r.2 w hC hl h
    refine Calls.mono hcalls ?_
    rintro e w' ⟨v, rfl, hS, hb⟩
    refine ⟨_, fun b => Z b ∨ (w.heap.size ≤ b ∧ b < w'.heap.size), rfl, hb, fun _ h => .inl h, fun b h => h, ?_⟩
    refine ⟨[v, .bool r.2], rfl, All2.cons ?_ (All2.cons (RepI.v rfl) All2.nil)⟩
    obtain ⟨-, inner, hown, hreps⟩ := Kd.S_R hS
    obtain ⟨hil, hin⟩ := reps_one' hreps
    refine row_one (base := w.heap.size) hown (fun b h1 h2 => .inr ⟨h1, h2⟩) (fun j ks u hk hu => ?_)
    obtain ⟨v', e', -, inner', hown', hreps'⟩ := hin j ks u hk hu
    obtain rfl : u = v' := by simpa using e'
    obtain ⟨hil', hin'⟩ := reps_one' hreps'
    refine All2.cons (row_one (base := w.heap.size) hown' (fun b h1 h2 => .inr ⟨h1, h2⟩) (fun j2 k2 u2 hk2 hu2 => ?_)) All2.nil
    have h3 : [u2] = [Value.int .i64 k2] := hin' j2 k2 u2 hk2 hu2
    obtain rfl : u2 = .int .i64 k2 := by simpa using h3
    exact All2.cons (RepI.v rfl) All2.nil
end Go.Proofs.YtljdidlkiknknaaDoor.AB
