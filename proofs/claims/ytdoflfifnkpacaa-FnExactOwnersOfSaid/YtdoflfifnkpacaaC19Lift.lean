/-
  From a walk of a law (it returns true, and below the heap's old size nothing has turned) to the law's statement, for arguments of whatever readable types.
-/
import Derived.Test.YtdoflfifnkpacaaRows
import Derived.Test.YtdoflfifnkpacaaC19Open
import Derived.WalkKit
import Derived.ProofKit
import Derived.OpenShut
import Derived.ChangeOld
import Derived.Below
import Derived.SizedLaws
namespace Go.Proofs.Ytdoflfifnkpacaa.Op
open Go.ChangeShapes Go.WideShapes Go.ChangeAt Go.RowKit

theorem cells_eq {cs : Array Value} {l : List Value} (h : (Value.agg cs).cells.toList = l) : cs = l.toArray := by
  rw [← h]
  simp [Value.cells]

/-- What is known of an argument: its outer form, and all that can be read off cells that read as data of its type. -/
def ArgOk (P : Program) (W : World) (t : TypeId) (v : Value) : Prop :=
  (∃ base, Value.okWide P W .any base t v) ∧ ∀ R, Reads P W t R → R v.cells.toList

section
variable {P : Program} {W : World} {t e : TypeId} {v : Value} {fs : Array Field} {k : IntKind}
theorem ArgOk.reads (h : ArgOk P W t v) {R : List Value → Prop} (hr : Reads P W t R) : R v.cells.toList := h.2 R hr
theorem ArgOk.struct (ht : P.underlying t = some (.struct fs)) (h : ArgOk P W t v) : ∃ cs, v = .agg cs := by
  obtain ⟨⟨b, ok⟩, _⟩ := h
  obtain ⟨cs, h1, _⟩ := okWide_struct ht ok
  exact ⟨cs, h1⟩
theorem ArgOk.int (ht : P.underlying t = some (.int k)) (h : ArgOk P W t v) : ∃ n, v = .int k n := by
  obtain ⟨⟨b, ok⟩, _⟩ := h
  exact okWide_int ht ok
end

theorem trodAll_carry {H : Type} {enc : TypeId × Value → H} {P : Program} (hl : laidOutB P = true) {W W' : World} (hb : Below W.heap.size W W') :
    ∀ {ts : List TypeId} {vs : List Value} {ds : List (DataW H)} {ps : List MemPlace}, (∀ t ∈ ts, P.readableRec t = true ∧ t < P.types.size) → (∀ x ∈ ps, x.block < W.heap.size) →
      DataW.TrodAll enc P W 0 (fun _ => true) true ts vs ds ps → DataW.TrodAll enc P W' 0 (fun b => decide (b < W.heap.size)) true ts vs ds ps
  | [], [], [], ps, _, _, h => h
  | t :: ts, v :: vs, d :: ds, ps, hr, hlt, h => by
    obtain ⟨p, q, h1, h2, rfl⟩ := h
    obtain ⟨r1, r2⟩ := hr t (by simp)
    exact ⟨p, q, Below.trod hl r1 r2 h1 hb (fun x hx => hlt x (List.mem_append_left _ hx)), trodAll_carry hl hb (fun t ht => hr t (by simp [ht])) (fun x hx => hlt x (List.mem_append_right _ hx)) h2, rfl⟩
  | [], _ :: _, _, _, _, _, h => h.elim
  | [], [], _ :: _, _, _, _, h => h.elim
  | _ :: _, [], _, _, _, _, h => h.elim
  | _ :: _, _ :: _, [], _, _, _, h => h.elim

theorem trodAll_at {H : Type} {enc : TypeId × Value → H} {P : Program} {W : World} :
    ∀ {ts : List TypeId} {vs : List Value} {ds : List (DataW H)} {ps : List MemPlace}, DataW.TrodAll enc P W 0 (fun _ => true) true ts vs ds ps →
      (ds.length = ts.length ∧ vs.length = ts.length) ∧ (∀ x ∈ ps, x.block < W.heap.size) ∧ ∀ (j : Nat) (t : TypeId) (v : Value), ts[j]? = some t → vs[j]? = some v → ∃ d p, ds[j]? = some d ∧ DataW.Trod enc P W 0 (fun _ => true) true t v d p
  | [], [], [], ps, h => by
    have h' : ps = [] := h
    subst h'
    exact ⟨⟨rfl, rfl⟩, fun x hx => by simp at hx, fun j t v h => by simp at h⟩
  | t :: ts, v :: vs, d :: ds, ps, h => by
    obtain ⟨p, q, h1, h2, rfl⟩ := h
    obtain ⟨⟨a1, a2⟩, a3, a4⟩ := trodAll_at h2
    refine ⟨⟨by simp [a1], by simp [a2]⟩, fun x hx => ?_, fun j t' v' ht hv => ?_⟩
    · rcases List.mem_append.1 hx with hx | hx
      · obtain ⟨m, hm⟩ := h1
        exact DataW.trod_lt m _ _ _ hm x hx
      · exact a3 x hx
    · cases j with
      | zero =>
        simp only [List.getElem?_cons_zero, Option.some.injEq] at ht hv
        subst ht; subst hv
        exact ⟨d, p, rfl, h1⟩
      | succ j =>
        simp only [List.getElem?_cons_succ] at ht hv ⊢
        exact a4 j t' v' ht hv
  | [], _ :: _, _, _, h => h.elim
  | [], [], _ :: _, _, h => h.elim
  | _ :: _, [], _, _, h => h.elim
  | _ :: _, _ :: _, [], _, h => h.elim

/-- The law's contract, out of its walk. -/
theorem lifted {C : Checked} {os : Os} {f : FuncId} {fn : Func} {s : ChangeSpec} {tb : TypeId} (started : os.Started) {H : Type} {enc : TypeId × Value → H}
    (own : ownKnob C.prog.godebug = none) (laidOut : laidOutB C.prog = true) (noInit : C.prog.inits.idxOf? f = none) (hfn : C.prog.funcs[f]? = some fn)
    (hvars : s.vars = []) (hrt : fn.resultTypes = #[tb]) (hb : C.prog.underlying tb = some .bool)
    (hspec : ∀ ds : List (DataW H), ds.length = fn.params.toList.length → s.fn H ds = { results := [.lit (.bool true)], args := ds })
    (hread : ∀ t ∈ fn.params.toList, C.prog.readableRec t = true ∧ t < C.prog.types.size)
    (witness : ∃ (w : World) (tape : Tape) (i : Input), w.os = os ∧ (w.forCall tape i).Shaped C.prog ∧ i.vars = [] ∧ Input.okWide C.prog (w.forCall tape i) .any w.heap.size f i ∧
      s.pre6 enc C.prog fn [] false (w.forCall tape i).memory i.args ∧ ({ } : Assume).holds C.prog (lone (Frame.enter C.prog f i.args .normal) [] (w.forCall tape i)))
    (walk : ∀ (W : World) (args : List Value), args.length = fn.params.toList.length → (∀ (j : Nat) (t : TypeId) (v : Value), fn.params.toList[j]? = some t → args[j]? = some v → ArgOk C.prog W t v) →
      Calls C.prog f args.toArray W fun e W' => e = .returned (.bool true) ∧ Below W.heap.size W W') :
    ReturnsInHanded {} C os f .any (s.pre6 enc C.prog fn [] false) (s.post enc C.prog fn false true false false) := by
  refine returnsInHanded_of_change_sized (C := C) own started noInit hfn witness ?_
  intro W base args ds gs before hval hW _ hsz _
  have hW' := hW
  obtain ⟨p, q, hA, hV, rfl, hfz, hnd⟩ := hW
  rw [hvars] at hV
  obtain ⟨rfl, rfl⟩ := trodVars_none hV
  obtain ⟨⟨hl1, hl2⟩, hlt, hat⟩ := trodAll_at hA
  have hpv : s.plain.varTypes C.prog = [] := by
    have e : s.plain.vars = [] := hvars
    unfold DataSpec.varTypes
    rw [e]
    rfl
  rw [hpv, List.append_nil, List.append_nil] at hsz
  have key := walk W args.toList (by simpa using hl2) (fun j t v ht hv => by
    obtain ⟨d, p', hd, htr⟩ := hat j t v ht hv
    refine ⟨⟨base, hval j t v (by simpa using ht) (by simpa using hv)⟩, fun R hR => ?_⟩
    exact hR.arg hsz ht hd htr)
  have ea : args.toList.toArray = args := by simp
  rw [ea] at key
  refine key.mono fun e W' ⟨he, bel⟩ => ?_
  subst he
  have hs := hspec ds hl1
  refine ⟨_, rfl, ds, [], p ++ [], [], p, [], hW', ?_, ?_, ?_, bel.frame _, fun h => by cases h⟩
  · rw [List.append_nil, hs, hrt]
    exact trodAll_mk1 (shut_bool hb _)
  · rw [List.append_nil, hs]
    exact trodAll_carry laidOut bel hread hlt hA
  · rw [List.append_nil, hs, hvars]
    rfl
end Go.Proofs.Ytdoflfifnkpacaa.Op
