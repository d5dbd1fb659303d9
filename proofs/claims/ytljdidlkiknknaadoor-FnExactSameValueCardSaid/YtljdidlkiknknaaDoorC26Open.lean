/-
  Opening the arguments of a law: what the cells of a value that can be read as data of a type are, kind by kind.
-/
import Derived.ChangeArms
import Derived.SizedLaws
import Derived.DataReads
import Derived.WideShapes
import Derived.Deep.Slices
namespace Go.Proofs.YtljdidlkiknknaaDoor.Op
open Go.ChangeShapes Go.WideShapes

/-- Cells that read as type t (all of them within the reach) are as R says. -/
def Reads (P : Program) (W : World) (t : TypeId) (R : List Value → Prop) : Prop :=
  ∀ (H : Type) (enc : TypeId × Value → H) (fuel : Nat) (cs : List Value) (d : DataW H) (ps : List MemPlace),
    DataW.trod enc P W 0 (fun _ => true) true fuel t cs = some (d, ps) → (∀ n ∈ d.weights P t, n ≤ reachBytes) → R cs

section
variable {P : Program} {W : World} {t e : TypeId}

theorem Reads.mono {R R' : List Value → Prop} (h : Reads P W t R) (hr : ∀ cs, R cs → R' cs) : Reads P W t R' :=
  fun H enc fuel cs d ps hx hw => hr _ (h H enc fuel cs d ps hx hw)

theorem Reads.int {k : IntKind} (ht : P.underlying t = some (.int k)) : Reads P W t (fun cs => ∃ n, cs = [.int k n] ∧ (Lit.int k n).wf = true) := by
  intro H enc fuel cs d ps hx _
  obtain ⟨n, h1, _, h3⟩ := DataW.trod_int ht hx
  exact ⟨n, h1, h3⟩

theorem Reads.string (ht : P.underlying t = some .string) : Reads P W t (fun cs => ∃ s : ByteArray, cs = [.string s] ∧ s.size ≤ 140737488351232) := by
  intro H enc fuel cs d ps hx hw
  obtain ⟨s, h1, h2, _⟩ := DataW.trod_string ht hx
  refine ⟨s, h1, ?_⟩
  have hd : d = .lit (.string s.data.toList) := (Prod.mk.inj h2).1
  subst hd
  have h3 := hw s.data.toList.length (by simp only [DataW.weights, List.mem_singleton])
  have h4 : s.data.toList.length = s.size := Array.length_toList
  have h5 : reachBytes = 140737488351232 := rfl
  omega

theorem weightsAll_mem {H : Type} {e : TypeId} : ∀ {ds : List (DataW H)} {d : DataW H}, d ∈ ds → ∀ n ∈ d.weights P e, n ∈ DataW.weightsAll P e ds
  | d0 :: ds, d, hd, n, hn => by
    simp only [DataW.weightsAll, List.mem_append]
    rcases List.mem_cons.1 hd with rfl | hd
    · exact .inl hn
    · exact .inr (weightsAll_mem hd n hn)

theorem Reads.slice {R : List Value → Prop} {sz B : Nat} (ht : P.underlying t = some (.slice e)) (he : Reads P W e R) (hc : P.cellsOf e = sz) (hB : P.bytesOf e = B) :
    Reads P W t (fun cs => ∃ (A : Option Addr) (len cap : Nat), cs = [.slice A len cap] ∧ len ≤ cap ∧ cap ≤ maxLen ∧ len * B ≤ 140737488351232 ∧
      (0 < len → ∃ ad, A = some ad ∧ ∀ i, i < len → ∃ c : List Value, c.length = sz ∧ R c ∧ ∀ j u, c[j]? = some u → W.cell? (ad.add (i * sz + j)) = some u)) := by
  intro H enc fuel cs d ps hx hw
  rcases Deep.open_slice ht hx with ⟨rfl, _⟩ | ⟨a, len, cap, m, n, D, Pl, rfl, _, hl, hm, hmm, hxx, hel⟩
  · exact ⟨none, 0, 0, rfl, Nat.le_refl _, Nat.zero_le _, by omega, fun h => absurd h (Nat.lt_irrefl _)⟩
  · have hd := (Prod.mk.inj hxx).1
    subst hd
    refine ⟨some a, len, cap, rfl, hl, hm, ?_, fun _ => ⟨a, rfl, fun i hi => ?_⟩⟩
    · have h1 := hw _ (by simp only [DataW.weights, ht]; exact List.mem_cons_self)
      have h5 : reachBytes = 140737488351232 := rfl
      rw [hB] at h1
      simp only [List.length_map, List.length_range] at h1
      have h2 : len * B ≤ (len + (m - len)) * B := Nat.mul_le_mul_right _ (by omega)
      omega
    · have him : i < m := by
        rw [hmm]
        simp only [if_true]
        omega
      obtain ⟨c, h1, h2⟩ := hel i him
      rw [hc] at h1
      obtain ⟨_, h3, h4⟩ := World.cells?_some h1
      refine ⟨c, h3, he H enc n c (D i) (Pl i) h2 (fun q hq => ?_), fun j u hu => ?_⟩
      · refine hw q ?_
        simp only [DataW.weights, ht]
        refine List.mem_cons_of_mem _ (List.mem_append_left _ (weightsAll_mem ?_ q hq))
        exact List.mem_map.2 ⟨i, List.mem_range.2 hi, rfl⟩
      · have hj : j < sz := by
          have := (List.getElem?_eq_some_iff.1 hu).1
          omega
        rw [← Deep.add_add, h4 j hj, hu]

theorem Reads.struct {fs : Array Field} {Rs : Nat → List Value → Prop} (ht : P.underlying t = some (.struct fs)) (h : ∀ i f, fs[i]? = some f → Reads P W f.type (Rs i)) :
    Reads P W t (fun cs => cs.length = P.cellsOf t ∧ ∀ i f, fs[i]? = some f → Rs i ((cs.drop f.offset).take (P.cellsOf f.type))) := by
  intro H enc fuel cs d ps hx hw
  obtain ⟨xs, n, _, hd, hl, hlen, hf⟩ := DataW.trod_struct ht hx
  have hd := (Prod.mk.inj hd).1
  subst hd
  refine ⟨hl, fun i f hi => ?_⟩
  have h1 := hf i f hi
  have hilt : i < xs.length := by
    have := (Array.getElem?_eq_some_iff.1 hi).1
    omega
  rw [List.getElem?_eq_getElem hilt] at h1
  refine h i f hi H enc n _ xs[i].1 xs[i].2 h1 (fun q hq => hw q ?_)
  simp only [DataW.weights, ht]
  refine DataW.weights_mem_each (j := i) (t := f.type) (d := xs[i].1) ?_ ?_ q hq
  · simp [hi]
  · simp [hilt]

theorem fieldOf {fs : Array Field} {cs : List Value} {Rs : Nat → List Value → Prop} (h : ∀ i f, fs[i]? = some f → Rs i ((cs.drop f.offset).take (P.cellsOf f.type))) (i : Nat) {f : Field} {o n : Nat}
    (hf : fs[i]? = some f) (ho : f.offset = o) (hc : P.cellsOf f.type = n) : Rs i ((cs.drop o).take n) := by
  subst ho; subst hc
  exact h i f hf

/-- The j-th argument of a call. -/
theorem Reads.arg {H : Type} {enc : TypeId × Value → H} {R : List Value → Prop} {ts : List TypeId} {ds : List (DataW H)} {j : Nat} {v : Value} {d : DataW H} {ps : List MemPlace}
    (hr : Reads P W t R) (hsz : (DataW.weightsEach P ts ds).all (· ≤ reachBytes) = true) (ht : ts[j]? = some t) (hd : ds[j]? = some d)
    (h : DataW.Trod enc P W 0 (fun _ => true) true t v d ps) : R v.cells.toList := by
  obtain ⟨fuel, hf⟩ := h
  refine hr H enc fuel _ d ps hf (fun n hn => ?_)
  have := List.all_eq_true.1 hsz n (DataW.weights_mem_each ht hd n hn)
  simpa using this

/-- A row whose elements are as R says, as a list. -/
theorem pick {α : Type} {len : Nat} {Q : Nat → α → Prop} (h : ∀ i, i < len → ∃ x, Q i x) : ∃ xs : List α, xs.length = len ∧ ∀ i x, xs[i]? = some x → Q i x := by
  induction len with
  | zero => exact ⟨[], rfl, fun i x hx => by simp at hx⟩
  | succ n ih =>
    obtain ⟨xs, hl, hx⟩ := ih (fun i hi => h i (by omega))
    obtain ⟨y, hy⟩ := h n (by omega)
    refine ⟨xs ++ [y], by simp [hl], fun i x hi => ?_⟩
    rcases Nat.lt_or_ge i xs.length with hlt | hge
    · rw [List.getElem?_append_left hlt] at hi
      exact hx i x hi
    · rw [List.getElem?_append_right hge] at hi
      have h0 : i - xs.length = 0 := by
        have := (List.getElem?_eq_some_iff.1 hi).1
        simp at this
        omega
      rw [h0] at hi
      simp at hi
      subst hi
      have : i = n := by omega
      subst this
      exact hy
end
end Go.Proofs.YtljdidlkiknknaaDoor.Op
