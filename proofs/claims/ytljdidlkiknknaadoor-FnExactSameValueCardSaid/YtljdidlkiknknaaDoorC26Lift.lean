/-
  From a walk of a law (it returns true, and below the heap's old size nothing has turned) to the law's statement, for arguments of whatever readable types.
-/
import Derived.Test.YtljdidlkiknknaaDoorRows
import Derived.Test.YtljdidlkiknknaaDoorC26Open
import Derived.WalkKit
import Derived.ProofKit
import Derived.OpenShut
import Derived.ChangeOld
import Derived.Below
import Derived.SizedLaws
namespace Go.Proofs.YtljdidlkiknknaaDoor.Op
open Go.ChangeShapes Go.WideShapes Go.ChangeAt Go.RowKit

/-- What is known of an argument: its outer form, and all that can be read off cells that read as data of its type. -/
def ArgOk (P : Program) (W : World) (t : TypeId) (v : Value) : Prop :=
  (∃ base, Value.okWide P W .any base t v) ∧ ∀ R, Reads P W t R → R v.cells.toList

section
variable {P : Program} {W : World} {t e : TypeId} {v : Value} {fs : Array Field} {k : IntKind}
theorem ArgOk.reads (h : ArgOk P W t v) {R : List Value → Prop} (hr : Reads P W t R) : R v.cells.toList := h.2 R hr
theorem ArgOk.slice (ht : P.underlying t = some (.slice e)) (h : ArgOk P W t v) : ∃ a n c, v = .slice a n c := by
  obtain ⟨⟨b, ok⟩, _⟩ := h
  exact okWide_slice ht ok
end

theorem trodAll_carry {H : Type} {enc : TypeId × Value → H} {P : Program} (hl : laidOutB P = true) {W W' : World} (hb : Below W.heap.size W W') :
    ∀ {ts : List TypeId} {vs : List Value} {ds : List (DataW H)} {ps : List MemPlace}, (∀ t ∈ ts, P.readableRec t = true ∧ t < P.types.size) → (∀ x ∈ ps, x.block < W.heap.size) →
      DataW.TrodAll enc P W 0 (fun _ => true) true ts vs ds ps → DataW.TrodAll enc P W' 0 (fun b => decide (b < W.heap.size)) true ts vs ds ps
  | [], [], [], ps, _, _, h => h
  | t :: ts, v :: vs, d :: ds, ps, hr, hlt, h => by
    obtain ⟨p, q, h1, h2, rfl⟩ := h
    obtain ⟨r1, r2⟩ := hr t (by simp)
    exact ⟨p, q, Below.trod hl r1 r2 h1 hb (fun x hx => hlt x (List.mem_append_left _ hx)), trodAll_carry hl hb (fun t ht => hr t (by simp [ht])) (fun x hx => hlt x (List.mem_append_right _ hx)) h2, rfl⟩
  | [], _ :: _, _, _, _, _, h => h.elim
  | [], [], _ :: _, _, _, _, h => h.elim
  | _ :: _, [], _, _, _, _, h => h.elim
  | _ :: _, _ :: _, [], _, _, _, h => h.elim

theorem trodAll_at {H : Type} {enc : TypeId × Value → H} {P : Program} {W : World} :
    ∀ {ts : List TypeId} {vs : List Value} {ds : List (DataW H)} {ps : List MemPlace}, DataW.TrodAll enc P W 0 (fun _ => true) true ts vs ds ps →
      (ds.length = ts.length ∧ vs.length = ts.length) ∧ (∀ x ∈ ps, x.block < W.heap.size) ∧ ∀ (j : Nat) (t : TypeId) (v : Value), ts[j]? = some t → vs[j]? = some v → ∃ d p, ds[j]? = some d ∧ DataW.Trod enc P W 0 (fun _ => true) true t v d p
  | [], [], [], ps, h => by
    have h' : ps = [] := h
    subst h'
    exact ⟨⟨rfl, rfl⟩, fun x hx => by simp at hx, fun j t v h => by simp at h⟩
  | t :: ts, v :: vs, d :: ds, ps, h => by
    obtain ⟨p, q, h1, h2, rfl⟩ := h
    obtain ⟨⟨a1, a2⟩, a3, a4⟩ := trodAll_at h2
    refine ⟨⟨by simp [a1], by simp [a2]⟩, fun x hx => ?_, fun j t' v' ht hv => ?_⟩
    · rcases List.mem_append.1 hx with hx | hx
      · obtain ⟨m, hm⟩ := h1
        exact DataW.trod_lt m _ _ _ hm x hx
      · exact a3 x hx
    · cases j with
      | zero =>
        simp only [List.getElem?_cons_zero, Option.some.injEq] at ht hv
        subst ht; subst hv
        exact ⟨d, p, rfl, h1⟩
      | succ j =>
        simp only [List.getElem?_cons_succ] at ht hv ⊢
        exact a4 j t' v' ht hv
  | [], _ :: _, _, _, h => h.elim
  | [], [], _ :: _, _, h => h.elim
  | _ :: _, [], _, _, h => h.elim
  | _ :: _, _ :: _, [], _, h => h.elim

end Go.Proofs.YtljdidlkiknknaaDoor.Op
