-- Printed by a program of this session (after the kit's print.sh, with contracts of its own beside): Lean checks it.
import Derived.Test.YtdoflfifnkpacaaC19WOx0
import Derived.Test.YtdoflfifnkpacaaC19WOx8
import Derived.Test.YtdoflfifnkpacaaC19WOx9
namespace Go.Proofs.Ytdoflfifnkpacaa.WO
open Go.RowKit Go.Proofs.YtdoflfifnkpacaaW.PrintWords Go.Proofs.YtdoflfifnkpacaaW.PrintLast Go.Proofs.YtdoflfifnkpacaaW.PrintMore
attribute [local go_sem] max2_int min2_int max_two min_two max_three min_three max_four min_four   -- for this text's walks alone
set_option linter.unusedVariables false
set_option linter.unusedSimpArgs false

theorem eqA169 (d : Nat) (w : World) (x0 y0 x1 y1 : Int) :
  (Op.equalIn (d + 2) 169 (.agg #[.int .i64 x0, .int .i64 x1]) (.agg #[.int .i64 y0, .int .i64 y1])).run Try.prog w = .ok (x0 == y0 && (x1 == y1)) w := by
 refine eqA_of Try.underlying169 (by kernel_rfl) ?_
 refine eqf_cons (by rfl) (by go_simp; rfl) (by go_simp; rfl) (by go_simp) ?_
 exact eqf_last (by rfl) (by go_simp; rfl) (by go_simp; rfl) (by go_simp)
abbrev spot (k : Int × Int) : Value := .agg #[.int .i64 k.1, .int .i64 k.2]
def mL {β : Type} (v : β → Value) : Nat → List ((Int × Int) × β) → List MapEntry
 | _, [] => []
 | i, e :: l => { key := spot e.1, val := v e.2, born := i } :: mL v (i + 1) l
def fi {β : Type} (k : Int × Int) : Nat → List ((Int × Int) × β) → Option (Nat × β)
 | _, [] => none
 | i, e :: l => if (k.1 == e.1.1 && k.2 == e.1.2) = true then some (i, e.2) else fi k (i + 1) l
theorem run_findAsking {β : Type} (v : β → Value) (k : Int × Int) (w : World) : ∀ (l : List ((Int × Int) × β)) (j i : Nat), (Instr.findAsking 169 (spot k) (mL v j l) i).run Try.prog w = .ok ((fi k i l).map fun p => (p.1, v p.2)) w
 | [], _, _ => rfl
 | e :: l, j, i => by
  have h := eqA169 9998 w k.1 e.1.1 k.2 e.1.2
  have ih := run_findAsking v k w l (j + 1) (i + 1)
  simp only [mL, fi, Instr.findAsking, Sem.run_bind]
  rw [show (Op.equal 169 (spot k) (spot e.1)).run Try.prog w = _ from h]
  simp only [Result.andThen_ok]
  by_cases c : (k.1 == e.1.1 && k.2 == e.1.2) = true
  ·rw [if_pos c, if_pos c]
   rfl
  ·rw [if_neg c, if_neg c]
   exact ih
theorem run_findKey169 {β : Type} (v : β → Value) (k : Int × Int) (w : World) (l : List ((Int × Int) × β)) : (Instr.findKey 169 (spot k) (mL v 0 l)).run Try.prog w = .ok ((fi k 0 l).map fun p => (p.1, v p.2)) w := by
 have hu := run_underlying (w := w) Try.underlying169
 cases l with
 | nil =>
  simp only [Instr.findKey, Sem.run_bind, hu, Result.andThen_ok, mL, Instr.findNow]
  rfl
 | cons e l =>
  have h := run_findAsking v k w (e :: l) 0 0
  simp only [Instr.findKey, Sem.run_bind, hu, Result.andThen_ok]
  simp only [mL, Instr.findNow, Instr.sameNow] at h ⊢
  exact h
theorem run_checkKey169 (e : Bool) (k : Int × Int) (w : World) : (Instr.checkKey e 10000 169 (spot k)).run Try.prog w = .ok () w := by
 have h : ∀ z : Int, (Instr.checkKey e 9999 3 (.int .i64 z)).run Try.prog w = .ok () w := fun z => MapKept.run_checkKey (d := .int .i64) Try.underlying3 (show MapKept.IsKey (.int .i64) (.int .i64 z) from rfl) e 9998
 unfold Instr.checkKey
 simp only [Sem.run_bind, run_underlying (w := w) Try.underlying169, Result.andThen_ok]
 simp [Sem.run_bind]
 go_simp
def mapB {β : Type} (v : β → Value) (w : World) (b : Nat) (l : List ((Int × Int) × β)) : Prop := w.heap[b]? = some (.map (mL v 0 l).toArray l.length)
def lk {β : Type} (k : Int × Int) (d : β) (l : List ((Int × Int) × β)) : β := ((fi k 0 l).map (·.2)).getD d
theorem run_look {β : Type} {v : β → Value} {w : World} {b : Nat} {l : List ((Int × Int) × β)} {t e : TypeId} {d : β} (h : mapB v w b l) (ht : Try.prog.underlying t = some (.map 169 e)) (hz : (zeroValue e).run Try.prog w = .ok (v d) w) (k : Int × Int) :
  (Instr.lookup t (.map (some b)) (spot k) false).run Try.prog w = .ok (v (lk k d l)) w := by
 have hu := run_underlying (w := w) ht
 have hg := MapKept.run_getObj_map (P := Try.prog) h
 simp only [Instr.lookup, Sem.run_bind, hu, Result.andThen_ok, hg, Sem.run_pure, run_checkKey169]
 rw [run_findKey169]
 unfold lk
 cases h : fi k 0 l with
 | none =>
  simp only [Option.map_none, Result.andThen_ok, Sem.run_bind, hz, Sem.run_pure]
  rfl
 | some p =>
  simp only [Option.map_some, Result.andThen_ok, Sem.run_pure]
  rfl
/-- A value is laid at a key: where it stands already, else behind the others. -/
def ins {β : Type} (k : Int × Int) (x : β) : List ((Int × Int) × β) → List ((Int × Int) × β)
 | [] => [(k, x)]
 | e :: l => if (k.1 == e.1.1 && k.2 == e.1.2) = true then (e.1, x) :: l else e :: ins k x l
theorem fi_at {β : Type} {k : Int × Int} : ∀ {l : List ((Int × Int) × β)} {i : Nat} {p : Nat × β}, fi k i l = some p → i ≤ p.1 ∧ l[p.1 - i]? = some (k, p.2)
 | [], _, _, h => by simp [fi] at h
 | e :: l, i, p, h => by
  unfold fi at h
  by_cases c : (k.1 == e.1.1 && k.2 == e.1.2) = true
  ·rw [if_pos c] at h
   obtain rfl := Option.some.inj h
   simp only [Bool.and_eq_true, beq_iff_eq] at c
   refine ⟨Nat.le_refl _, ?_⟩
   obtain ⟨⟨a, b⟩, x⟩ := e
   obtain ⟨k1, k2⟩ := k
   simp only at c
   simp [c.1, c.2]
  ·rw [if_neg c] at h
   obtain ⟨h1, h2⟩ := fi_at h
   refine ⟨by omega, ?_⟩
   have : p.1 - i = (p.1 - (i + 1)) + 1 := by omega
   rw [this]
   exact h2
theorem mL_get {β : Type} (v : β → Value) : ∀ (l : List ((Int × Int) × β)) (j n : Nat), (mL v j l)[n]? = (l[n]?).map fun e => { key := spot e.1, val := v e.2, born := j + n }
 | [], _, _ => by simp [mL]
 | e :: l, j, 0 => by simp [mL]
 | e :: l, j, n + 1 => by
  simp only [mL, List.getElem?_cons_succ]
  rw [mL_get v l (j + 1) n]
  have : j + 1 + n = j + (n + 1) := by omega
  rw [this]
theorem mL_len {β : Type} (v : β → Value) : ∀ (l : List ((Int × Int) × β)) (j : Nat), (mL v j l).length = l.length
 | [], _ => rfl
 | e :: l, j => by simp [mL, mL_len v l]
theorem mL_push {β : Type} (v : β → Value) (k : Int × Int) (x : β) : ∀ (l : List ((Int × Int) × β)) (j : Nat), mL v j l ++ [{ key := spot k, val := v x, born := j + l.length }] = mL v j (l ++ [(k, x)])
 | [], j => by simp [mL]
 | e :: l, j => by
  simp only [mL, List.cons_append, List.length_cons]
  rw [← mL_push v k x l (j + 1)]
  have : j + (l.length + 1) = j + 1 + l.length := by omega
  rw [this]
theorem ins_none {β : Type} {k : Int × Int} (x : β) : ∀ {l : List ((Int × Int) × β)} {i : Nat}, fi k i l = none → ins k x l = l ++ [(k, x)]
 | [], _, _ => rfl
 | e :: l, i, h => by
  unfold fi at h
  by_cases c : (k.1 == e.1.1 && k.2 == e.1.2) = true
  ·rw [if_pos c] at h
   cases h
  ·rw [if_neg c] at h
   unfold ins
   rw [if_neg c, ins_none x h, List.cons_append]
theorem ins_some {β : Type} {k : Int × Int} (v : β → Value) (x : β) : ∀ {l : List ((Int × Int) × β)} {i : Nat} {p : Nat × β}, fi k i l = some p → ∀ (j : Nat) (f : MapEntry → MapEntry), (∀ e, e.key = spot k → f e = { key := spot k, val := v x, born := e.born }) → (mL v j l).modify (p.1 - i) f = mL v j (ins k x l)
 | [], _, _, h, _, _, _ => by simp [fi] at h
 | e :: l, i, p, h, j, f, hf => by
  have h0 := fi_at h
  unfold fi at h
  unfold ins
  by_cases c : (k.1 == e.1.1 && k.2 == e.1.2) = true
  ·rw [if_pos c] at h ⊢
   obtain rfl := Option.some.inj h
   have hk : e.1 = k := by
    simp only [Bool.and_eq_true, beq_iff_eq] at c
    obtain ⟨⟨a, b⟩, y⟩ := e
    obtain ⟨k1, k2⟩ := k
    simp only at c ⊢
    rw [c.1, c.2]
   simp only [Nat.sub_self, mL, List.modify_zero_cons]
   rw [hf _ (by rw [hk]), hk]
  ·rw [if_neg c] at h ⊢
   have := (fi_at h).1
   have e1 : p.1 - i = (p.1 - (i + 1)) + 1 := by omega
   rw [e1]
   simp only [mL, List.modify_succ_cons]
   rw [ins_some v x h (j + 1) f hf]
theorem ins_len_some {β : Type} {k : Int × Int} (x : β) : ∀ {l : List ((Int × Int) × β)} {i : Nat} {p : Nat × β}, fi k i l = some p → (ins k x l).length = l.length
 | [], _, _, h => by simp [fi] at h
 | e :: l, i, p, h => by
  unfold fi at h
  unfold ins
  by_cases c : (k.1 == e.1.1 && k.2 == e.1.2) = true
  ·rw [if_pos c]
   rfl
  ·rw [if_neg c] at h ⊢
   simp [ins_len_some x h]
theorem run_keyStays (k : Int × Int) (w : World) : (Instr.keyThatStays (spot k) (spot k)).run Try.prog w = .ok (spot k) w := by
 simp [Instr.keyThatStays, Instr.sameBits, spot]
abbrev putB (w : World) (b : Nat) (o : Obj) : World := { w with heap := w.heap.setIfInBounds b o }
theorem run_upd {β : Type} {v : β → Value} {w : World} {b : Nat} {l : List ((Int × Int) × β)} {t e : TypeId} (h : mapB v w b l) (ht : Try.prog.underlying t = some (.map 169 e)) (k : Int × Int) (x : β) :
  (Instr.mapUpdate t (.map (some b)) (spot k) (v x)).run Try.prog w = .ok () (putB w b (.map (mL v 0 (ins k x l)).toArray (ins k x l).length)) := by
 have hu := run_underlying (w := w) ht
 have hg := MapKept.run_getObj_map (P := Try.prog) h
 simp only [Instr.mapUpdate, Sem.run_bind, hu, Result.andThen_ok, hg, run_checkKey169]
 rw [run_findKey169]
 cases hf : fi k 0 l with
 | none =>
  simp only [Option.map_none, Result.andThen_ok]
  rw [MapKept.run_setObj_map _ h, ins_none x hf]
  have e1 := mL_push v k x l 0
  simp only [Nat.zero_add] at e1
  simp only [List.push_toArray, e1, List.length_append, List.length_singleton]
 | some p =>
  have hk := (fi_at hf).2
  have e1 : (mL v 0 l).toArray[p.1]? = some { key := spot k, val := v p.2, born := p.1 } := by
   simp only [List.getElem?_toArray, mL_get, Nat.zero_add]
   rw [Nat.sub_zero] at hk
   rw [hk]
   rfl
  simp only [Option.map_some, Result.andThen_ok, Sem.run_bind, e1, Option.getD_some, run_keyStays]
  rw [MapKept.run_setObj_map _ h]
  have e2 := ins_some v x hf 0 (fun e => { e with key := spot k, val := v x }) (fun e _ => rfl)
  rw [Nat.sub_zero] at e2
  simp only [List.modify_toArray, e2, ins_len_some x hf]
theorem mapB_put {β : Type} {v : β → Value} {w : World} {b : Nat} {l l' : List ((Int × Int) × β)} (h : mapB v w b l) : mapB v (putB w b (.map (mL v 0 l').toArray l'.length)) b l' := (MapKept.heap_set h).1
theorem putB_far {w : World} {b g : Nat} {o o' : Obj} {x : Option Obj} (h : w.heap[b]? = some o) (hne : g ≠ b) (hg : w.heap[g]? = x) : (putB w b o').heap[g]? = x := ((MapKept.heap_set h).2 g hne).trans hg
theorem putB_below {w0 w : World} {b : Nat} {o : Obj} (h : Below w0.heap.size w0 w) (hb : w0.heap.size ≤ b) : Below w0.heap.size w0 (putB w b o) :=
 ⟨h.os, h.tape, h.output, by show w0.heap.size ≤ (w.heap.setIfInBounds b o).size; simpa using h.size, fun i hi => by
  show (w.heap.setIfInBounds b o)[i]? = _
  rw [Array.getElem?_setIfInBounds_ne (by omega)]
  exact h.block i hi⟩

def ix {β : Type} (k : Int × Int) (l : List ((Int × Int) × β)) : Nat := ((fi k 0 l).map (·.1)).getD l.length
theorem ins_same {β : Type} {k : Int × Int} : ∀ {l : List ((Int × Int) × β)} {i : Nat} {p : Nat × β}, fi k i l = some p → ins k p.2 l = l
 | [], _, _, h => by simp [fi] at h
 | e :: l, i, p, h => by
  unfold fi at h
  unfold ins
  by_cases c : (k.1 == e.1.1 && k.2 == e.1.2) = true
  ·rw [if_pos c] at h ⊢
   obtain rfl := Option.some.inj h
   rfl
  ·rw [if_neg c] at h ⊢
   rw [ins_same h]
theorem run_entry {β : Type} {v : β → Value} {w : World} {b : Nat} {l : List ((Int × Int) × β)} {t e : TypeId} {d : β} (h : mapB v w b l) (ht : Try.prog.underlying t = some (.map 169 e)) (hz : (zeroValue e).run Try.prog w = .ok (v d) w) (k : Int × Int) :
  (Instr.mapEntry t (.map (some b)) (spot k)).run Try.prog w = .ok (.tuple #[v (lk k d l), .int .i64 (ix k l)]) (putB w b (.map (mL v 0 (ins k (lk k d l) l)).toArray (ins k (lk k d l) l).length)) := by
 have hu := run_underlying (w := w) ht
 have hg := MapKept.run_getObj_map (P := Try.prog) h
 simp only [Instr.mapEntry, Sem.run_bind, hu, Result.andThen_ok, hg, run_checkKey169]
 rw [run_findKey169]
 unfold lk ix
 cases hf : fi k 0 l with
 | none =>
  simp only [Option.map_none, Option.getD_none, Result.andThen_ok, Sem.run_bind, hz]
  rw [MapKept.run_setObj_map _ h, ins_none d hf]
  have e1 := mL_push v k d l 0
  simp only [Nat.zero_add] at e1
  simp only [List.push_toArray, e1, List.length_append, List.length_singleton, Result.andThen_ok, Sem.run_pure]
  rfl
 | some p =>
  have hk := (fi_at hf).2
  have e1 : (mL v 0 l).toArray[p.1]? = some { key := spot k, val := v p.2, born := p.1 } := by
   simp only [List.getElem?_toArray, mL_get, Nat.zero_add]
   rw [Nat.sub_zero] at hk
   rw [hk]
   rfl
  simp only [Option.map_some, Option.getD_some, Result.andThen_ok, Sem.run_bind, e1, run_keyStays]
  rw [MapKept.run_setObj_map _ h]
  have e2 : (mL v 0 l).modify p.1 (fun e => { e with key := spot k }) = mL v 0 l := by
   apply List.ext_getElem?
   intro n
   rw [List.getElem?_modify]
   by_cases c : p.1 = n
   ·subst c
    rw [List.getElem?_toArray] at e1
    rw [e1]
    simp
   ·simp [c]
  simp only [List.modify_toArray, e2, ins_same hf, Result.andThen_ok, Sem.run_pure]
  rfl
theorem born_at {β : Type} (v : β → Value) : ∀ (l : List ((Int × Int) × β)) (j n : Nat), n < l.length → (mL v j l).findIdx? (fun e => ((e.born : Nat) : Int) == ((j + n : Nat) : Int)) = some n
 | [], _, _, h => by simp at h
 | e :: l, j, 0, _ => by simp [mL, List.findIdx?_cons]
 | e :: l, j, n + 1, h => by
  have ih := born_at v l (j + 1) n (by simpa using h)
  simp only [mL, List.findIdx?_cons]
  have hne : (((j : Nat) : Int) == ((j + (n + 1) : Nat) : Int)) = false := by
   rw [beq_eq_false_iff_ne]
   omega
  rw [hne]
  have e1 : j + 1 + n = j + (n + 1) := by omega
  rw [e1] at ih
  rw [ih]
  rfl
theorem ix_lt {β : Type} (k : Int × Int) (x : β) (l : List ((Int × Int) × β)) : ix k l < (ins k x l).length := by
 unfold ix
 cases hf : fi k 0 l with
 | none => rw [ins_none x hf]; simp
 | some p =>
  have hk := (fi_at hf).2
  rw [ins_len_some x hf]
  rw [Nat.sub_zero] at hk
  have := (List.getElem?_eq_some_iff.1 hk).1
  simpa using this
theorem ins_val {β : Type} (v : β → Value) (k : Int × Int) (x y : β) : ∀ (l : List ((Int × Int) × β)) (j : Nat), (mL v j (ins k y l)).modify (((fi k j l).map (·.1)).getD (j + l.length) - j) (fun e => { e with val := v x }) = mL v j (ins k x l)
 | [], j => by simp [ins, mL, fi]
 | e :: l, j => by
  by_cases c : (k.1 == e.1.1 && k.2 == e.1.2) = true
  ·have e1 : ins k y (e :: l) = (e.1, y) :: l := by unfold ins; rw [if_pos c]
   have e2 : ins k x (e :: l) = (e.1, x) :: l := by unfold ins; rw [if_pos c]
   have e3 : fi k j (e :: l) = some (j, e.2) := by unfold fi; rw [if_pos c]
   rw [e1, e2, e3]
   simp [mL]
  ·have e1 : ins k y (e :: l) = e :: ins k y l := by
    conv => lhs; unfold ins
    rw [if_neg c]
   have e2 : ins k x (e :: l) = e :: ins k x l := by
    conv => lhs; unfold ins
    rw [if_neg c]
   have e3 : fi k j (e :: l) = fi k (j + 1) l := by
    conv => lhs; unfold fi
    rw [if_neg c]
   have ih := ins_val v k x y l (j + 1)
   rw [e1, e2, e3]
   simp only [mL]
   have hle : j + 1 ≤ ((fi k (j + 1) l).map (·.1)).getD (j + 1 + l.length) := by
    cases hf : fi k (j + 1) l with
    | none => simp
    | some p => have := (fi_at hf).1; simpa using this
   have e4 : j + (e :: l).length = j + 1 + l.length := by simp; omega
   rw [e4]
   generalize ((fi k (j + 1) l).map (·.1)).getD (j + 1 + l.length) = q at *
   have e5 : q - j = (q - (j + 1)) + 1 := by omega
   rw [e5, List.modify_succ_cons, ih]
theorem run_estore {β : Type} {v : β → Value} {w : World} {b : Nat} {l : List ((Int × Int) × β)} {t : TypeId} {y : β} (k : Int × Int) (h : mapB v w b (ins k y l)) (x : β) :
  (Instr.entryStore t (.map (some b)) (.int .i64 (ix k l)) (v x)).run Try.prog w = .ok () (putB w b (.map (mL v 0 (ins k x l)).toArray (ins k x l).length)) := by
 have hg := MapKept.run_getObj_map (P := Try.prog) h
 simp only [Instr.entryStore, Sem.run_bind, Result.andThen_ok, hg]
 have hb := born_at v (ins k y l) 0 (ix k l) (ix_lt k y l)
 have e1 : (mL v 0 (ins k y l)).toArray.findIdx? (fun e => ((e.born : Nat) : Int) == ((ix k l : Nat) : Int)) = some (ix k l) := by
  rw [Go.WideElems.findIdx_arr]
  simpa using hb
 have ha : (asInt (.int .i64 (ix k l : Int))).run Try.prog w = .ok (ix k l : Int) w := by simp [asInt, asIntOf, Result.andThen]
 simp only [ha, Result.andThen_ok, e1]
 rw [MapKept.run_setObj_map _ h]
 have e2 := ins_val v k x y l 0
 simp only [Nat.zero_add, Nat.sub_zero] at e2
 have e3 : (ins k y l).length = (ins k x l).length := by
  have a := congrArg List.length e2
  rw [List.length_modify, mL_len, mL_len] at a
  exact a
 unfold ix
 simp only [List.modify_toArray, e2, e3]
theorem fi_ins {β : Type} (k : Int × Int) (x : β) : ∀ (l : List ((Int × Int) × β)) (i : Nat), ∃ j, fi k i (ins k x l) = some (j, x)
 | [], i => ⟨i, by unfold ins fi; rw [if_pos (by simp)]⟩
 | e :: l, i => by
  by_cases c : (k.1 == e.1.1 && k.2 == e.1.2) = true
  ·refine ⟨i, ?_⟩
   have e1 : ins k x (e :: l) = (e.1, x) :: l := by unfold ins; rw [if_pos c]
   rw [e1]
   unfold fi
   rw [if_pos c]
  ·obtain ⟨j, h⟩ := fi_ins k x l (i + 1)
   refine ⟨j, ?_⟩
   have e1 : ins k x (e :: l) = e :: ins k x l := by
    conv => lhs; unfold ins
    rw [if_neg c]
   rw [e1]
   conv => lhs; unfold fi
   rw [if_neg c]
   exact h
theorem lk_ins {β : Type} (k : Int × Int) (d x : β) (l : List ((Int × Int) × β)) : lk k d (ins k x l) = x := by
 obtain ⟨j, h⟩ := fi_ins k x l 0
 unfold lk
 rw [h]
 rfl

theorem far_ {w : World} {b : Nat} {o : Obj} (h : w.heap[b]? = some o) {p : Addr} (hp : b ≠ p.block) (u : Value) : (w.setCell p u).heap[b]? = some o := (Below.heap_setCell w p u b hp).trans h
theorem blkK {w w' : World} {g b : Nat} {o : Obj} (h : w.heap[b]? = some o) (hk : KeepBut w w' g none) (hne : b ≠ g) : w'.heap[b]? = some o := (hk.2 b (blk_lt h) hne (by simp)).trans h
theorem map_event {P : Program} {ops : Array Oper} {o : Oper} {rest : List Oper} {a : Act} {Q : Exit → Act → World → Prop} {W : World} (hgd : o.guard = none) {N : Tmp} (_hd : o.dst = some N)
  (hrun : (execOp a.eval o).run P W = .ok (.value (.map (some W.heap.size))) (W.alloc (.map #[] 0)))
  (h : ∀ g, g = W.heap.size → ∀ w1, w1.heap[g]? = some (.map #[] 0) → Below W.heap.size W w1 → wpList P ops Q rest (a.put o.dst (.map (some g))) w1) : wpList P ops Q (o :: rest) a W :=
 Kd.event_run hgd hrun (h _ rfl _ (blk_new W _) (below_alloc (Below.refl _ _) _))
theorem skip_event {P : Program} {ops : Array Oper} {o : Oper} {rest : List Oper} {a : Act} {Q : Exit → Act → World → Prop} {W w1 : World} (hgd : o.guard = none) (hN : o.dst = none)
  (hrun : (execOp a.eval o).run P W = .ok .skip w1) (h : ∀ w', w' = w1 → wpList P ops Q rest a w') : wpList P ops Q (o :: rest) a W := by
 refine wpList_plain hgd fun K hK => ?_
 unfold Oper.wp
 rw [hrun]
 show K (a.put o.dst undef) w1
 rw [hN]
 exact hK _ _ (h _ rfl)
theorem gate_mapUpdate {P : Program} {ops : Array Oper} {o : Oper} {rest : List Oper} {a : Act} {Q : Exit → Act → World → Prop} {W : World} {t : TypeId} {m k x : Operand} (_ho : o.op = .mapUpdate t m k x) (h : wpList P ops Q (o :: rest) a W) : wpList P ops Q (o :: rest) a W := h
theorem IsS45_put {w0 W : World} {g b : Nat} {f0 : List S67} {f1 : List S78} {f2 : List S155} {f3 : List Int} {o o' : Obj} (h : IsS45 w0 W g f0 f1 f2 f3) (hb : W.heap[b]? = some o) (hne : g ≠ b) : IsS45 w0 (putB W b o') g f0 f1 f2 f3 := by
 obtain ⟨A0, c0, A1, c1, A2, c2, A3, c3, h1, h2⟩ := h
 exact ⟨A0, c0, A1, c1, A2, c2, A3, c3, putB_far hb hne h1, h2⟩
theorem keep_put {w W : World} {g b : Nat} {o o' : Obj} (h : KeepBut w W g none) (hb : W.heap[b]? = some o) (hge : w.heap.size ≤ b) : KeepBut w (putB W b o') g none :=
 ⟨by show w.heap.size ≤ (W.heap.setIfInBounds b o').size; simpa using h.1, fun i hi hg hr => putB_far hb (by omega) (h.2 i hi hg hr)⟩

theorem four1 {W : World} {g : Nat} {a b c d : Value} {t : TypeId} (h : W.heap[g]? = some (.cells #[a, b, c, d] t (0, 0))) : W.cell? ⟨g, 1, none⟩ = some b := blk_cell h 1
def loanH (p : Int) (L : List ((Int × Int) × Int)) (B : List ((Int × Int) × Bool)) (K : Bool) : List S75 → Int → Bool
 | [], _ => K
 | h :: l, q => if h.f0 = true then (if (h.f4 != lk (p, q) 0 L) = true then false else (if h.f3 = true then loanH p L B K l (q + 1) else (if lk (p, q) false B = true then loanH p L B K l (q + 1) else false))) else loanH p L B K l (q + 1)
def loanT (L : List ((Int × Int) × Int)) (B : List ((Int × Int) × Bool)) : List S78 → Int → Bool
 | [], _ => true
 | t :: l, p => loanH p L B (loanT L B l (p + 1)) t.f0 0
def loanC (s0_0 : List S67) (s0_1 : List S78) (s0_2 : List S155) (s0_3 : List Int) : List S155 → Int → List ((Int × Int) × Int) → List ((Int × Int) × Bool) → Option Bool
 | [], _, L, B => some (loanT L B s0_1 0)
 | x :: l, i, L, B => (impl_World_slot.f s0_0 s0_1 s0_2 s0_3 x.f0 x.f1).bind fun a => (impl_World_slot.f s0_0 s0_1 s0_2 s0_3 x.f2 x.f3).bind fun b =>
   if a.2.2.2.2.2.2 = true then (if b.2.2.2.2.2.2 = true then (if a.2.2.2.1 = true then (if b.2.2.2.1 = true then some false else (if lk (x.f2, x.f3) false B = true then some false else (if (a.2.1 != b.2.1) = true then some false else (if (a.2.2.1 != b.2.2.1) = true then some false else (if (b.2.2.2.2.2.1 != i + 1) = true then some false else
    loanC s0_0 s0_1 s0_2 s0_3 l (i + 1) (ins (x.f0, x.f1) (wrap64 (lk (x.f0, x.f1) 0 L + 1)) L) (ins (x.f2, x.f3) true B)))))) else some false) else some false) else some false
def lo_T11 : Bool × List (List Nat × List Nat) := (true, [([], []), ([], []), ([1], [1]), ([], []), ([3], [3]), ([2, 4], [2, 4]), ([0, 5], [0, 5]), ([6], [6]), ([0, 5, 0, 1, 2, 3, 4, 5], [0, 5]), ([8], [8]), ([0, 9, 7, 8, 0, 1, 2, 3, 4, 5, 6, 7, 8, 9], [0, 7, 9])])
def lo_B11 : List Nat := [0, 0, 2, 0, 8, 30, 63, 127, 63, 319, 1023]
theorem lo_tab11 : rtab .any (opsOf Try.f83 11) = lo_T11 := by kernel_rfl
theorem lo_bits11 : waitsOk lo_T11.2 lo_B11 = true := by kernel_rfl
def impl_World_loansOk.f (s0_0 : List S67) (s0_1 : List S78) (s0_2 : List S155) (s0_3 : List Int) : Option Bool := loanC s0_0 s0_1 s0_2 s0_3 s0_2 0 [] []
set_option maxHeartbeats 4000000 in
set_option maxRecDepth 100000 in
theorem impl_World_loansOk.calls (g : Nat) (s0_0 : List S67) (s0_1 : List S78) (s0_2 : List S155) (s0_3 : List Int) (r : Bool) (w0 w : World) (hI : IsS45 w0 w g s0_0 s0_1 s0_2 s0_3) (hB : Below w0.heap.size w0 w) (hh : impl_World_loansOk.f s0_0 s0_1 s0_2 s0_3 = some r) :
  Calls Try.prog 83 #[.pointer (some ⟨g, 0, none⟩)] w fun e w' => e = .returned (.bool r) ∧ IsS45 w0 w' g s0_0 s0_1 s0_2 s0_3 ∧ Below w0.heap.size w0 w' ∧ KeepBut w w' g none := by
 have HI := Aside0.mk hI
 have HB := Aside0.mk hB
 have HK := Aside0.mk (KeepBut.refl w g none)
 have HH := Aside0.mk hh
 clear hI hB hh
 go_enter Try.func83, Try.ntmps83
 go_wp2_with (first | ((with_reducible refine gate_dst (N := 15) rfl ?_); refine map_event ?hg (N := 15) ?hd ?hr ?_; (case hd => rfl); (case hg => rfl); (case hr => first | (go_simp; done) | (go_simp; rfl)); intro m1 hg_ w1 hbox hb_; have NE0_m1 := Aside0.mk (show g ≠ m1 from by rw [hg_]; exact Nat.ne_of_lt (IsS45.lt HI.out)); have GEm1 := Aside0.mk (show w.heap.size ≤ m1 from by rw [hg_]; exact keep_size HK.out); have GFm1 := Aside0.mk (show w0.heap.size ≤ m1 from by rw [hg_]; exact below_size HB.out); replace HK := Aside0.mk (KeepBut.trans HK.out (KeepBut.of_below hb_ g none) (.inl rfl)); replace HB := Aside0.mk (below_step HB.out hb_); replace HI := Aside0.mk (HI.out.below hb_); have BKm1 := Aside0.mk (show w1.heap[m1]? = some (.map (mL (Value.int .i64) 0 ([] : List ((Int × Int) × Int))).toArray ([] : List ((Int × Int) × Int)).length) from hbox); clear hbox hb_ hg_) | ((with_reducible refine gate_dst (N := 16) rfl ?_); refine map_event ?hg (N := 16) ?hd ?hr ?_; (case hd => rfl); (case hg => rfl); (case hr => first | (go_simp; done) | (go_simp; rfl)); intro m2 hg_ w2 hbox hb_; have NEm1_m2 := Aside0.mk (show m1 ≠ m2 from by rw [hg_]; exact Nat.ne_of_lt (blk_lt BKm1.out)); have NE0_m2 := Aside0.mk (show g ≠ m2 from by rw [hg_]; exact Nat.ne_of_lt (IsS45.lt HI.out)); have GEm2 := Aside0.mk (show w.heap.size ≤ m2 from by rw [hg_]; exact keep_size HK.out); have GFm2 := Aside0.mk (show w0.heap.size ≤ m2 from by rw [hg_]; exact below_size HB.out); replace BKm1 := Aside0.mk (blk_below BKm1.out hb_); replace HK := Aside0.mk (KeepBut.trans HK.out (KeepBut.of_below hb_ g none) (.inl rfl)); replace HB := Aside0.mk (below_step HB.out hb_); replace HI := Aside0.mk (HI.out.below hb_); have BKm2 := Aside0.mk (show w2.heap[m2]? = some (.map (mL Value.bool 0 ([] : List ((Int × Int) × Bool))).toArray ([] : List ((Int × Int) × Bool)).length) from hbox); clear hbox hb_ hg_; obtain ⟨A0, c0, A1, c1, A2, c2, A3, c3, hb0, _, _, _, r2, _⟩ := HI.out; have g2 : w2.cell? ⟨g, 2, none⟩ = some (.slice A2 s0_2.length c2) := blk_cell hb0 2; have R2 := Aside0.mk r2; clear hb0 r2))
 clear g2
 go_loopw [22] (fun v22 wr => ∃ (i : Int) (L : List ((Int × Int) × Int)) (B : List ((Int × Int) × Bool)), v22 = .int .i64 i ∧ Aside0 (0 ≤ i) ∧ Aside0 (i ≤ s0_2.length) ∧ Aside0 (loanC s0_0 s0_1 s0_2 s0_3 (s0_2.drop i.toNat) i L B = some r) ∧ Aside0 (IsS45 w0 wr g s0_0 s0_1 s0_2 s0_3) ∧ Aside0 (Below w0.heap.size w0 wr) ∧ Aside0 (KeepBut w wr g none) ∧ Aside0 (wr.heap[m1]? = some (.map (mL (Value.int .i64) 0 L).toArray L.length)) ∧ Aside0 (wr.heap[m2]? = some (.map (mL Value.bool 0 B).toArray B.length))) (fun v22 _ => s0_2.length - (intOf v22).toNat)
 case atStart => exact ⟨0, [], [], rfl, ⟨Int.le_refl _⟩, ⟨by omega⟩, ⟨by simpa [impl_World_loansOk.f] using HH.out⟩, HI, HB, HK, BKm1, BKm2⟩
 case round =>
  clear HH HI HB HK BKm1 BKm2
  obtain ⟨i, L, B, rfl, I0, I1, HX, HI, HB, HK, BKm1, BKm2⟩ := hrel
  have hx1 := HX.out
  clear HX
  by_cases hlt : i < (s0_2.length : Int)
  ·have p0 : 0 ≤ i := I0.out
   have hd : s0_2.drop i.toNat = rd_T155 s0_2 i :: s0_2.drop (i + 1).toNat := dropI_at s0_2 i z155 p0 hlt
   rw [hd] at hx1
   clear hd
   simp only [loanC] at hx1
   obtain ⟨ad, e, h0, h1, h2, h3⟩ := at_T155 R2.out i p0 hlt
   cases e
   replace h0 := (HB.out.cell (World.block_lt_of_cell? w0 _ h0)).trans h0
   replace h1 := (HB.out.cell (World.block_lt_of_cell? w0 _ h1)).trans h1
   replace h2 := (HB.out.cell (World.block_lt_of_cell? w0 _ h2)).trans h2
   replace h3 := (HB.out.cell (World.block_lt_of_cell? w0 _ h3)).trans h3
   generalize rd_T155 s0_2 i = X at *
   obtain ⟨x0, x1, x2, x3⟩ := X
   dsimp only at h0 h1 h2 h3 hx1
   replace hx1 := Option.bind_eq_some_iff.mp hx1
   obtain ⟨⟨u1, u2, u3, u4, u5, u6, u7⟩, ha, hx1⟩ := hx1
   replace hx1 := Option.bind_eq_some_iff.mp hx1
   obtain ⟨⟨v1, v2, v3, v4, v5, v6, v7⟩, hb, hx1⟩ := hx1
   have HA := Aside0.mk ha
   have HA2 := Aside0.mk hb
   clear ha hb
   dsimp only at hx1
   have HX := Aside0.mk hx1
   clear hx1
   have nlt : (decide (i < (s0_2.length : Int))) = true := decide_eq_true hlt
   have PB : IntKind.i64.wrap (i + 1) = i + 1 := IntWalk.i64_in _ (by have := I1.out; have := Kd.C_max R2.out; omega)
   go_upto_region 7 with (first | ((with_reducible refine gate_dst (N := 6) rfl ?_); refine box_event ?hg (N := 6) ?hd (cs := #[.int .i64 0, .int .i64 0, .int .i64 0, .int .i64 0]) (t := 155) ?hr ?_; (case hd => rfl); (case hg => rfl); (case hr => first | (go_simp; done) | (go_simp; rfl)); intro gx hg_ w3 hbox hb_; have NEm1_gx := Aside0.mk (show m1 ≠ gx from by rw [hg_]; exact Nat.ne_of_lt (blk_lt BKm1.out)); have NEm2_gx := Aside0.mk (show m2 ≠ gx from by rw [hg_]; exact Nat.ne_of_lt (blk_lt BKm2.out)); have NE0_gx := Aside0.mk (show g ≠ gx from by rw [hg_]; exact Nat.ne_of_lt (IsS45.lt HI.out)); have GEgx := Aside0.mk (show w.heap.size ≤ gx from by rw [hg_]; exact keep_size HK.out); have GFgx := Aside0.mk (show w0.heap.size ≤ gx from by rw [hg_]; exact below_size HB.out); replace BKm1 := Aside0.mk (blk_below BKm1.out hb_); replace BKm2 := Aside0.mk (blk_below BKm2.out hb_); replace HK := Aside0.mk (KeepBut.trans HK.out (KeepBut.of_below hb_ g none) (.inl rfl)); replace HB := Aside0.mk (below_step HB.out hb_); replace HI := Aside0.mk (HI.out.below hb_); have BKgx := Aside0.mk hbox; obtain ⟨zc0_, zc1_, zc2_, zc3_, zf0_, zf1_, zf2_, zf3_⟩ := (⟨(blk_cell BKgx.out 0).trans rfl, (blk_cell BKgx.out 1).trans rfl, (blk_cell BKgx.out 2).trans rfl, (blk_cell BKgx.out 3).trans rfl, blk_frozen BKgx.out 0, blk_frozen BKgx.out 1, blk_frozen BKgx.out 2, blk_frozen BKgx.out 3⟩ : w3.cell? ⟨gx, 0, none⟩ = some (.int .i64 0) ∧ w3.cell? ⟨gx, 1, none⟩ = some (.int .i64 0) ∧ w3.cell? ⟨gx, 2, none⟩ = some (.int .i64 0) ∧ w3.cell? ⟨gx, 3, none⟩ = some (.int .i64 0) ∧ w3.frozen? ⟨gx, 0, none⟩ = false ∧ w3.frozen? ⟨gx, 1, none⟩ = false ∧ w3.frozen? ⟨gx, 2, none⟩ = false ∧ w3.frozen? ⟨gx, 3, none⟩ = false); clear hbox hb_ hg_; clear h0 h1 h2 h3) | ((with_reducible refine gate_dst (N := 33) rfl ?_); clear zc0_ zf0_ zc1_ zf1_ zc2_ zf2_ zc3_ zf3_; have n0_ : Aside0 (((((w3.setCell ⟨gx, 0, none⟩ (.int .i64 x0)).setCell ⟨gx, 1, none⟩ (.int .i64 x1)).setCell ⟨gx, 2, none⟩ (.int .i64 x2)).setCell ⟨gx, 3, none⟩ (.int .i64 x3)).heap[gx]? = some (.cells #[.int .i64 x0, .int .i64 x1, .int .i64 x2, .int .i64 x3] 155 (0, 0))) := ⟨(blk_put (cs := #[.int .i64 x0, .int .i64 x1, .int .i64 x2, .int .i64 0]) (blk_put (cs := #[.int .i64 x0, .int .i64 x1, .int .i64 0, .int .i64 0]) (blk_put (cs := #[.int .i64 x0, .int .i64 0, .int .i64 0, .int .i64 0]) (blk_put (cs := #[.int .i64 0, .int .i64 0, .int .i64 0, .int .i64 0]) BKgx.out 0 _ rfl) 1 _ rfl) 2 _ rfl) 3 _ rfl)⟩; have n1_ : Aside0 (((((w3.setCell ⟨gx, 0, none⟩ (.int .i64 x0)).setCell ⟨gx, 1, none⟩ (.int .i64 x1)).setCell ⟨gx, 2, none⟩ (.int .i64 x2)).setCell ⟨gx, 3, none⟩ (.int .i64 x3)).heap[m1]? = some (.map (mL (Value.int .i64) 0 L).toArray L.length)) := ⟨(far_ (far_ (far_ (far_ BKm1.out NEm1_gx.out _) NEm1_gx.out _) NEm1_gx.out _) NEm1_gx.out _)⟩; have n2_ : Aside0 (((((w3.setCell ⟨gx, 0, none⟩ (.int .i64 x0)).setCell ⟨gx, 1, none⟩ (.int .i64 x1)).setCell ⟨gx, 2, none⟩ (.int .i64 x2)).setCell ⟨gx, 3, none⟩ (.int .i64 x3)).heap[m2]? = some (.map (mL Value.bool 0 B).toArray B.length)) := ⟨(far_ (far_ (far_ (far_ BKm2.out NEm2_gx.out _) NEm2_gx.out _) NEm2_gx.out _) NEm2_gx.out _)⟩; have n3_ : Aside0 (IsS45 w0 ((((w3.setCell ⟨gx, 0, none⟩ (.int .i64 x0)).setCell ⟨gx, 1, none⟩ (.int .i64 x1)).setCell ⟨gx, 2, none⟩ (.int .i64 x2)).setCell ⟨gx, 3, none⟩ (.int .i64 x3)) g s0_0 s0_1 s0_2 s0_3) := ⟨(IsS45.far (IsS45.far (IsS45.far (IsS45.far HI.out NE0_gx.out _) NE0_gx.out _) NE0_gx.out _) NE0_gx.out _)⟩; have n4_ : Aside0 (Below w0.heap.size w0 ((((w3.setCell ⟨gx, 0, none⟩ (.int .i64 x0)).setCell ⟨gx, 1, none⟩ (.int .i64 x1)).setCell ⟨gx, 2, none⟩ (.int .i64 x2)).setCell ⟨gx, 3, none⟩ (.int .i64 x3))) := ⟨(Below.setCell (Below.setCell (Below.setCell (Below.setCell HB.out GFgx.out _) GFgx.out _) GFgx.out _) GFgx.out _)⟩; have n5_ : Aside0 (KeepBut w ((((w3.setCell ⟨gx, 0, none⟩ (.int .i64 x0)).setCell ⟨gx, 1, none⟩ (.int .i64 x1)).setCell ⟨gx, 2, none⟩ (.int .i64 x2)).setCell ⟨gx, 3, none⟩ (.int .i64 x3)) g none) := ⟨(keep_far (keep_far (keep_far (keep_far HK.out GEgx.out _) GEgx.out _) GEgx.out _) GEgx.out _)⟩; clear BKgx BKm1 BKm2 HI HB HK; generalize ((((w3.setCell ⟨gx, 0, none⟩ (.int .i64 x0)).setCell ⟨gx, 1, none⟩ (.int .i64 x1)).setCell ⟨gx, 2, none⟩ (.int .i64 x2)).setCell ⟨gx, 3, none⟩ (.int .i64 x3)) = w4 at n0_ n1_ n2_ n3_ n4_ n5_ ⊢; have BKgx := n0_; have BKm1 := n1_; have BKm2 := n2_; have HI := n3_; have HB := n4_; have HK := n5_; clear n0_ n1_ n2_ n3_ n4_ n5_; refine goesL_ (some 33) rfl rfl Try.func130 (by kernel_rfl) rfl #[.pointer (some ⟨g, 0, none⟩), .int .i64 x0, .int .i64 x1] rfl (by (try simp only [List.map_toArray, List.map_cons, List.map_nil]); first | done | rfl) ?_; (with_reducible refine (impl_World_slot.calls g s0_0 s0_1 s0_2 s0_3 x0 x1 u1 u2 u3 u4 u5 u6 u7 w0 _ HI.out HB.out HA.out).mono ?_); rintro e_ w5 ⟨rfl, hi_, hb_, hk_⟩; refine ⟨_, rfl, ?_⟩; replace BKm1 := Aside0.mk (blkK BKm1.out hk_ NE0_m1.out.symm); replace BKm2 := Aside0.mk (blkK BKm2.out hk_ NE0_m2.out.symm); replace BKgx := Aside0.mk (blkK BKgx.out hk_ NE0_gx.out.symm); replace HK := Aside0.mk (KeepBut.trans HK.out hk_ (.inl rfl)); replace HB := Aside0.mk hb_; replace HI := Aside0.mk hi_; clear hi_ hb_ hk_; have cx2_ : w5.cell? ⟨gx, 2, none⟩ = some (.int .i64 x2) := (blk_cell BKgx.out 2).trans rfl; have cx3_ : w5.cell? ⟨gx, 3, none⟩ = some (.int .i64 x3) := (blk_cell BKgx.out 3).trans rfl) | ((with_reducible refine gate_dst (N := 7) rfl ?_); refine box_event ?hg (N := 7) ?hd (cs := #[.bool false, .int .i64 0, .int .i64 0, .bool false, .int .i64 0, .int .i64 0]) (t := 75) ?hr ?_; (case hd => rfl); (case hg => rfl); (case hr => first | (go_simp; done) | (go_simp; rfl)); intro ga hg_ w6 hbox hb_; have NEm1_ga := Aside0.mk (show m1 ≠ ga from by rw [hg_]; exact Nat.ne_of_lt (blk_lt BKm1.out)); have NEm2_ga := Aside0.mk (show m2 ≠ ga from by rw [hg_]; exact Nat.ne_of_lt (blk_lt BKm2.out)); have NEgx_ga := Aside0.mk (show gx ≠ ga from by rw [hg_]; exact Nat.ne_of_lt (blk_lt BKgx.out)); have NE0_ga := Aside0.mk (show g ≠ ga from by rw [hg_]; exact Nat.ne_of_lt (IsS45.lt HI.out)); have GEga := Aside0.mk (show w.heap.size ≤ ga from by rw [hg_]; exact keep_size HK.out); have GFga := Aside0.mk (show w0.heap.size ≤ ga from by rw [hg_]; exact below_size HB.out); replace BKm1 := Aside0.mk (blk_below BKm1.out hb_); replace BKm2 := Aside0.mk (blk_below BKm2.out hb_); replace BKgx := Aside0.mk (blk_below BKgx.out hb_); replace HK := Aside0.mk (KeepBut.trans HK.out (KeepBut.of_below hb_ g none) (.inl rfl)); replace HB := Aside0.mk (below_step HB.out hb_); replace HI := Aside0.mk (HI.out.below hb_); have BKga := Aside0.mk hbox; obtain ⟨zc0_, zc1_, zc2_, zc3_, zc4_, zc5_, zf0_, zf1_, zf2_, zf3_, zf4_, zf5_⟩ := (⟨(blk_cell BKga.out 0).trans rfl, (blk_cell BKga.out 1).trans rfl, (blk_cell BKga.out 2).trans rfl, (blk_cell BKga.out 3).trans rfl, (blk_cell BKga.out 4).trans rfl, (blk_cell BKga.out 5).trans rfl, blk_frozen BKga.out 0, blk_frozen BKga.out 1, blk_frozen BKga.out 2, blk_frozen BKga.out 3, blk_frozen BKga.out 4, blk_frozen BKga.out 5⟩ : w6.cell? ⟨ga, 0, none⟩ = some (.bool false) ∧ w6.cell? ⟨ga, 1, none⟩ = some (.int .i64 0) ∧ w6.cell? ⟨ga, 2, none⟩ = some (.int .i64 0) ∧ w6.cell? ⟨ga, 3, none⟩ = some (.bool false) ∧ w6.cell? ⟨ga, 4, none⟩ = some (.int .i64 0) ∧ w6.cell? ⟨ga, 5, none⟩ = some (.int .i64 0) ∧ w6.frozen? ⟨ga, 0, none⟩ = false ∧ w6.frozen? ⟨ga, 1, none⟩ = false ∧ w6.frozen? ⟨ga, 2, none⟩ = false ∧ w6.frozen? ⟨ga, 3, none⟩ = false ∧ w6.frozen? ⟨ga, 4, none⟩ = false ∧ w6.frozen? ⟨ga, 5, none⟩ = false); have dx2_ : w6.cell? ⟨gx, 2, none⟩ = some (.int .i64 x2) := (blk_cell BKgx.out 2).trans rfl; have dx3_ : w6.cell? ⟨gx, 3, none⟩ = some (.int .i64 x3) := (blk_cell BKgx.out 3).trans rfl; clear cx2_ cx3_; have fx_ := NEgx_ga.out; have fy_ := NEgx_ga.out.symm; clear hbox hb_ hg_) | ((with_reducible refine gate_dst (N := 42) rfl ?_); clear zc0_ zf0_ zc1_ zf1_ zc2_ zf2_ zc3_ zf3_ zc4_ zf4_ zc5_ zf5_; clear dx2_ dx3_ fx_ fy_; have n0_ : Aside0 (((((((w6.setCell ⟨ga, 0, none⟩ (.bool u1)).setCell ⟨ga, 1, none⟩ (.int .i64 u2)).setCell ⟨ga, 2, none⟩ (.int .i64 u3)).setCell ⟨ga, 3, none⟩ (.bool u4)).setCell ⟨ga, 4, none⟩ (.int .i64 u5)).setCell ⟨ga, 5, none⟩ (.int .i64 u6)).heap[ga]? = some (.cells #[.bool u1, .int .i64 u2, .int .i64 u3, .bool u4, .int .i64 u5, .int .i64 u6] 75 (0, 0))) := ⟨(blk_put (cs := #[.bool u1, .int .i64 u2, .int .i64 u3, .bool u4, .int .i64 u5, .int .i64 0]) (blk_put (cs := #[.bool u1, .int .i64 u2, .int .i64 u3, .bool u4, .int .i64 0, .int .i64 0]) (blk_put (cs := #[.bool u1, .int .i64 u2, .int .i64 u3, .bool false, .int .i64 0, .int .i64 0]) (blk_put (cs := #[.bool u1, .int .i64 u2, .int .i64 0, .bool false, .int .i64 0, .int .i64 0]) (blk_put (cs := #[.bool u1, .int .i64 0, .int .i64 0, .bool false, .int .i64 0, .int .i64 0]) (blk_put (cs := #[.bool false, .int .i64 0, .int .i64 0, .bool false, .int .i64 0, .int .i64 0]) BKga.out 0 _ rfl) 1 _ rfl) 2 _ rfl) 3 _ rfl) 4 _ rfl) 5 _ rfl)⟩; have n1_ : Aside0 (((((((w6.setCell ⟨ga, 0, none⟩ (.bool u1)).setCell ⟨ga, 1, none⟩ (.int .i64 u2)).setCell ⟨ga, 2, none⟩ (.int .i64 u3)).setCell ⟨ga, 3, none⟩ (.bool u4)).setCell ⟨ga, 4, none⟩ (.int .i64 u5)).setCell ⟨ga, 5, none⟩ (.int .i64 u6)).heap[m1]? = some (.map (mL (Value.int .i64) 0 L).toArray L.length)) := ⟨(far_ (far_ (far_ (far_ (far_ (far_ BKm1.out NEm1_ga.out _) NEm1_ga.out _) NEm1_ga.out _) NEm1_ga.out _) NEm1_ga.out _) NEm1_ga.out _)⟩; have n2_ : Aside0 (((((((w6.setCell ⟨ga, 0, none⟩ (.bool u1)).setCell ⟨ga, 1, none⟩ (.int .i64 u2)).setCell ⟨ga, 2, none⟩ (.int .i64 u3)).setCell ⟨ga, 3, none⟩ (.bool u4)).setCell ⟨ga, 4, none⟩ (.int .i64 u5)).setCell ⟨ga, 5, none⟩ (.int .i64 u6)).heap[m2]? = some (.map (mL Value.bool 0 B).toArray B.length)) := ⟨(far_ (far_ (far_ (far_ (far_ (far_ BKm2.out NEm2_ga.out _) NEm2_ga.out _) NEm2_ga.out _) NEm2_ga.out _) NEm2_ga.out _) NEm2_ga.out _)⟩; have n3_ : Aside0 (((((((w6.setCell ⟨ga, 0, none⟩ (.bool u1)).setCell ⟨ga, 1, none⟩ (.int .i64 u2)).setCell ⟨ga, 2, none⟩ (.int .i64 u3)).setCell ⟨ga, 3, none⟩ (.bool u4)).setCell ⟨ga, 4, none⟩ (.int .i64 u5)).setCell ⟨ga, 5, none⟩ (.int .i64 u6)).heap[gx]? = some (.cells #[.int .i64 x0, .int .i64 x1, .int .i64 x2, .int .i64 x3] 155 (0, 0))) := ⟨(far_ (far_ (far_ (far_ (far_ (far_ BKgx.out NEgx_ga.out _) NEgx_ga.out _) NEgx_ga.out _) NEgx_ga.out _) NEgx_ga.out _) NEgx_ga.out _)⟩; have n4_ : Aside0 (IsS45 w0 ((((((w6.setCell ⟨ga, 0, none⟩ (.bool u1)).setCell ⟨ga, 1, none⟩ (.int .i64 u2)).setCell ⟨ga, 2, none⟩ (.int .i64 u3)).setCell ⟨ga, 3, none⟩ (.bool u4)).setCell ⟨ga, 4, none⟩ (.int .i64 u5)).setCell ⟨ga, 5, none⟩ (.int .i64 u6)) g s0_0 s0_1 s0_2 s0_3) := ⟨(IsS45.far (IsS45.far (IsS45.far (IsS45.far (IsS45.far (IsS45.far HI.out NE0_ga.out _) NE0_ga.out _) NE0_ga.out _) NE0_ga.out _) NE0_ga.out _) NE0_ga.out _)⟩; have n5_ : Aside0 (Below w0.heap.size w0 ((((((w6.setCell ⟨ga, 0, none⟩ (.bool u1)).setCell ⟨ga, 1, none⟩ (.int .i64 u2)).setCell ⟨ga, 2, none⟩ (.int .i64 u3)).setCell ⟨ga, 3, none⟩ (.bool u4)).setCell ⟨ga, 4, none⟩ (.int .i64 u5)).setCell ⟨ga, 5, none⟩ (.int .i64 u6))) := ⟨(Below.setCell (Below.setCell (Below.setCell (Below.setCell (Below.setCell (Below.setCell HB.out GFga.out _) GFga.out _) GFga.out _) GFga.out _) GFga.out _) GFga.out _)⟩; have n6_ : Aside0 (KeepBut w ((((((w6.setCell ⟨ga, 0, none⟩ (.bool u1)).setCell ⟨ga, 1, none⟩ (.int .i64 u2)).setCell ⟨ga, 2, none⟩ (.int .i64 u3)).setCell ⟨ga, 3, none⟩ (.bool u4)).setCell ⟨ga, 4, none⟩ (.int .i64 u5)).setCell ⟨ga, 5, none⟩ (.int .i64 u6)) g none) := ⟨(keep_far (keep_far (keep_far (keep_far (keep_far (keep_far HK.out GEga.out _) GEga.out _) GEga.out _) GEga.out _) GEga.out _) GEga.out _)⟩; clear BKga BKm1 BKm2 BKgx HI HB HK; generalize ((((((w6.setCell ⟨ga, 0, none⟩ (.bool u1)).setCell ⟨ga, 1, none⟩ (.int .i64 u2)).setCell ⟨ga, 2, none⟩ (.int .i64 u3)).setCell ⟨ga, 3, none⟩ (.bool u4)).setCell ⟨ga, 4, none⟩ (.int .i64 u5)).setCell ⟨ga, 5, none⟩ (.int .i64 u6)) = w7 at n0_ n1_ n2_ n3_ n4_ n5_ n6_ ⊢; have BKga := n0_; have BKm1 := n1_; have BKm2 := n2_; have BKgx := n3_; have HI := n4_; have HB := n5_; have HK := n6_; clear n0_ n1_ n2_ n3_ n4_ n5_ n6_; refine goesL_ (some 42) rfl rfl Try.func130 (by kernel_rfl) rfl #[.pointer (some ⟨g, 0, none⟩), .int .i64 x2, .int .i64 x3] rfl (by (try simp only [List.map_toArray, List.map_cons, List.map_nil]); first | done | rfl) ?_; (with_reducible refine (impl_World_slot.calls g s0_0 s0_1 s0_2 s0_3 x2 x3 v1 v2 v3 v4 v5 v6 v7 w0 _ HI.out HB.out HA2.out).mono ?_); rintro e_ w8 ⟨rfl, hi_, hb_, hk_⟩; refine ⟨_, rfl, ?_⟩; replace BKm1 := Aside0.mk (blkK BKm1.out hk_ NE0_m1.out.symm); replace BKm2 := Aside0.mk (blkK BKm2.out hk_ NE0_m2.out.symm); replace BKgx := Aside0.mk (blkK BKgx.out hk_ NE0_gx.out.symm); replace BKga := Aside0.mk (blkK BKga.out hk_ NE0_ga.out.symm); replace HK := Aside0.mk (KeepBut.trans HK.out hk_ (.inl rfl)); replace HB := Aside0.mk hb_; replace HI := Aside0.mk hi_; clear hi_ hb_ hk_) | ((with_reducible refine gate_dst (N := 9) rfl ?_); refine box_event ?hg (N := 9) ?hd (cs := #[.bool false, .int .i64 0, .int .i64 0, .bool false, .int .i64 0, .int .i64 0]) (t := 75) ?hr ?_; (case hd => rfl); (case hg => rfl); (case hr => first | (go_simp; done) | (go_simp; rfl)); intro gb hg_ w9 hbox hb_; have NEm1_gb := Aside0.mk (show m1 ≠ gb from by rw [hg_]; exact Nat.ne_of_lt (blk_lt BKm1.out)); have NEm2_gb := Aside0.mk (show m2 ≠ gb from by rw [hg_]; exact Nat.ne_of_lt (blk_lt BKm2.out)); have NEgx_gb := Aside0.mk (show gx ≠ gb from by rw [hg_]; exact Nat.ne_of_lt (blk_lt BKgx.out)); have NEga_gb := Aside0.mk (show ga ≠ gb from by rw [hg_]; exact Nat.ne_of_lt (blk_lt BKga.out)); have NE0_gb := Aside0.mk (show g ≠ gb from by rw [hg_]; exact Nat.ne_of_lt (IsS45.lt HI.out)); have GEgb := Aside0.mk (show w.heap.size ≤ gb from by rw [hg_]; exact keep_size HK.out); have GFgb := Aside0.mk (show w0.heap.size ≤ gb from by rw [hg_]; exact below_size HB.out); replace BKm1 := Aside0.mk (blk_below BKm1.out hb_); replace BKm2 := Aside0.mk (blk_below BKm2.out hb_); replace BKgx := Aside0.mk (blk_below BKgx.out hb_); replace BKga := Aside0.mk (blk_below BKga.out hb_); replace HK := Aside0.mk (KeepBut.trans HK.out (KeepBut.of_below hb_ g none) (.inl rfl)); replace HB := Aside0.mk (below_step HB.out hb_); replace HI := Aside0.mk (HI.out.below hb_); have BKgb := Aside0.mk hbox; obtain ⟨zc0_, zc1_, zc2_, zc3_, zc4_, zc5_, zf0_, zf1_, zf2_, zf3_, zf4_, zf5_⟩ := (⟨(blk_cell BKgb.out 0).trans rfl, (blk_cell BKgb.out 1).trans rfl, (blk_cell BKgb.out 2).trans rfl, (blk_cell BKgb.out 3).trans rfl, (blk_cell BKgb.out 4).trans rfl, (blk_cell BKgb.out 5).trans rfl, blk_frozen BKgb.out 0, blk_frozen BKgb.out 1, blk_frozen BKgb.out 2, blk_frozen BKgb.out 3, blk_frozen BKgb.out 4, blk_frozen BKgb.out 5⟩ : w9.cell? ⟨gb, 0, none⟩ = some (.bool false) ∧ w9.cell? ⟨gb, 1, none⟩ = some (.int .i64 0) ∧ w9.cell? ⟨gb, 2, none⟩ = some (.int .i64 0) ∧ w9.cell? ⟨gb, 3, none⟩ = some (.bool false) ∧ w9.cell? ⟨gb, 4, none⟩ = some (.int .i64 0) ∧ w9.cell? ⟨gb, 5, none⟩ = some (.int .i64 0) ∧ w9.frozen? ⟨gb, 0, none⟩ = false ∧ w9.frozen? ⟨gb, 1, none⟩ = false ∧ w9.frozen? ⟨gb, 2, none⟩ = false ∧ w9.frozen? ⟨gb, 3, none⟩ = false ∧ w9.frozen? ⟨gb, 4, none⟩ = false ∧ w9.frozen? ⟨gb, 5, none⟩ = false); clear hbox hb_ hg_))
   clear zc0_ zf0_ zc1_ zf1_ zc2_ zf2_ zc3_ zf3_ zc4_ zf4_ zc5_ zf5_
   have n0_ : Aside0 (((((((w9.setCell ⟨gb, 0, none⟩ (.bool v1)).setCell ⟨gb, 1, none⟩ (.int .i64 v2)).setCell ⟨gb, 2, none⟩ (.int .i64 v3)).setCell ⟨gb, 3, none⟩ (.bool v4)).setCell ⟨gb, 4, none⟩ (.int .i64 v5)).setCell ⟨gb, 5, none⟩ (.int .i64 v6)).heap[gb]? = some (.cells #[.bool v1, .int .i64 v2, .int .i64 v3, .bool v4, .int .i64 v5, .int .i64 v6] 75 (0, 0))) := ⟨(blk_put (cs := #[.bool v1, .int .i64 v2, .int .i64 v3, .bool v4, .int .i64 v5, .int .i64 0]) (blk_put (cs := #[.bool v1, .int .i64 v2, .int .i64 v3, .bool v4, .int .i64 0, .int .i64 0]) (blk_put (cs := #[.bool v1, .int .i64 v2, .int .i64 v3, .bool false, .int .i64 0, .int .i64 0]) (blk_put (cs := #[.bool v1, .int .i64 v2, .int .i64 0, .bool false, .int .i64 0, .int .i64 0]) (blk_put (cs := #[.bool v1, .int .i64 0, .int .i64 0, .bool false, .int .i64 0, .int .i64 0]) (blk_put (cs := #[.bool false, .int .i64 0, .int .i64 0, .bool false, .int .i64 0, .int .i64 0]) BKgb.out 0 _ rfl) 1 _ rfl) 2 _ rfl) 3 _ rfl) 4 _ rfl) 5 _ rfl)⟩
   have n1_ : Aside0 (((((((w9.setCell ⟨gb, 0, none⟩ (.bool v1)).setCell ⟨gb, 1, none⟩ (.int .i64 v2)).setCell ⟨gb, 2, none⟩ (.int .i64 v3)).setCell ⟨gb, 3, none⟩ (.bool v4)).setCell ⟨gb, 4, none⟩ (.int .i64 v5)).setCell ⟨gb, 5, none⟩ (.int .i64 v6)).heap[m1]? = some (.map (mL (Value.int .i64) 0 L).toArray L.length)) := ⟨(far_ (far_ (far_ (far_ (far_ (far_ BKm1.out NEm1_gb.out _) NEm1_gb.out _) NEm1_gb.out _) NEm1_gb.out _) NEm1_gb.out _) NEm1_gb.out _)⟩
   have n2_ : Aside0 (((((((w9.setCell ⟨gb, 0, none⟩ (.bool v1)).setCell ⟨gb, 1, none⟩ (.int .i64 v2)).setCell ⟨gb, 2, none⟩ (.int .i64 v3)).setCell ⟨gb, 3, none⟩ (.bool v4)).setCell ⟨gb, 4, none⟩ (.int .i64 v5)).setCell ⟨gb, 5, none⟩ (.int .i64 v6)).heap[m2]? = some (.map (mL Value.bool 0 B).toArray B.length)) := ⟨(far_ (far_ (far_ (far_ (far_ (far_ BKm2.out NEm2_gb.out _) NEm2_gb.out _) NEm2_gb.out _) NEm2_gb.out _) NEm2_gb.out _) NEm2_gb.out _)⟩
   have n3_ : Aside0 (((((((w9.setCell ⟨gb, 0, none⟩ (.bool v1)).setCell ⟨gb, 1, none⟩ (.int .i64 v2)).setCell ⟨gb, 2, none⟩ (.int .i64 v3)).setCell ⟨gb, 3, none⟩ (.bool v4)).setCell ⟨gb, 4, none⟩ (.int .i64 v5)).setCell ⟨gb, 5, none⟩ (.int .i64 v6)).heap[gx]? = some (.cells #[.int .i64 x0, .int .i64 x1, .int .i64 x2, .int .i64 x3] 155 (0, 0))) := ⟨(far_ (far_ (far_ (far_ (far_ (far_ BKgx.out NEgx_gb.out _) NEgx_gb.out _) NEgx_gb.out _) NEgx_gb.out _) NEgx_gb.out _) NEgx_gb.out _)⟩
   have n4_ : Aside0 (((((((w9.setCell ⟨gb, 0, none⟩ (.bool v1)).setCell ⟨gb, 1, none⟩ (.int .i64 v2)).setCell ⟨gb, 2, none⟩ (.int .i64 v3)).setCell ⟨gb, 3, none⟩ (.bool v4)).setCell ⟨gb, 4, none⟩ (.int .i64 v5)).setCell ⟨gb, 5, none⟩ (.int .i64 v6)).heap[ga]? = some (.cells #[.bool u1, .int .i64 u2, .int .i64 u3, .bool u4, .int .i64 u5, .int .i64 u6] 75 (0, 0))) := ⟨(far_ (far_ (far_ (far_ (far_ (far_ BKga.out NEga_gb.out _) NEga_gb.out _) NEga_gb.out _) NEga_gb.out _) NEga_gb.out _) NEga_gb.out _)⟩
   have n5_ : Aside0 (IsS45 w0 ((((((w9.setCell ⟨gb, 0, none⟩ (.bool v1)).setCell ⟨gb, 1, none⟩ (.int .i64 v2)).setCell ⟨gb, 2, none⟩ (.int .i64 v3)).setCell ⟨gb, 3, none⟩ (.bool v4)).setCell ⟨gb, 4, none⟩ (.int .i64 v5)).setCell ⟨gb, 5, none⟩ (.int .i64 v6)) g s0_0 s0_1 s0_2 s0_3) := ⟨(IsS45.far (IsS45.far (IsS45.far (IsS45.far (IsS45.far (IsS45.far HI.out NE0_gb.out _) NE0_gb.out _) NE0_gb.out _) NE0_gb.out _) NE0_gb.out _) NE0_gb.out _)⟩
   have n6_ : Aside0 (Below w0.heap.size w0 ((((((w9.setCell ⟨gb, 0, none⟩ (.bool v1)).setCell ⟨gb, 1, none⟩ (.int .i64 v2)).setCell ⟨gb, 2, none⟩ (.int .i64 v3)).setCell ⟨gb, 3, none⟩ (.bool v4)).setCell ⟨gb, 4, none⟩ (.int .i64 v5)).setCell ⟨gb, 5, none⟩ (.int .i64 v6))) := ⟨(Below.setCell (Below.setCell (Below.setCell (Below.setCell (Below.setCell (Below.setCell HB.out GFgb.out _) GFgb.out _) GFgb.out _) GFgb.out _) GFgb.out _) GFgb.out _)⟩
   have n7_ : Aside0 (KeepBut w ((((((w9.setCell ⟨gb, 0, none⟩ (.bool v1)).setCell ⟨gb, 1, none⟩ (.int .i64 v2)).setCell ⟨gb, 2, none⟩ (.int .i64 v3)).setCell ⟨gb, 3, none⟩ (.bool v4)).setCell ⟨gb, 4, none⟩ (.int .i64 v5)).setCell ⟨gb, 5, none⟩ (.int .i64 v6)) g none) := ⟨(keep_far (keep_far (keep_far (keep_far (keep_far (keep_far HK.out GEgb.out _) GEgb.out _) GEgb.out _) GEgb.out _) GEgb.out _) GEgb.out _)⟩
   clear BKgb BKm1 BKm2 BKgx BKga HI HB HK
   generalize ((((((w9.setCell ⟨gb, 0, none⟩ (.bool v1)).setCell ⟨gb, 1, none⟩ (.int .i64 v2)).setCell ⟨gb, 2, none⟩ (.int .i64 v3)).setCell ⟨gb, 3, none⟩ (.bool v4)).setCell ⟨gb, 4, none⟩ (.int .i64 v5)).setCell ⟨gb, 5, none⟩ (.int .i64 v6)) = W at n0_ n1_ n2_ n3_ n4_ n5_ n6_ n7_ ⊢
   have BKgb := n0_
   have BKm1 := n1_
   have BKm2 := n2_
   have BKgx := n3_
   have BKga := n4_
   have HI := n5_
   have HB := n6_
   have HK := n7_
   clear n0_ n1_ n2_ n3_ n4_ n5_ n6_ n7_
   have ca1_ : W.cell? ⟨ga, 1, none⟩ = some (.int .i64 u2) := (blk_cell BKga.out 1).trans rfl
   have ca2_ : W.cell? ⟨ga, 2, none⟩ = some (.int .i64 u3) := (blk_cell BKga.out 2).trans rfl
   have ca3_ : W.cell? ⟨ga, 3, none⟩ = some (.bool u4) := (blk_cell BKga.out 3).trans rfl
   have cb1_ : W.cell? ⟨gb, 1, none⟩ = some (.int .i64 v2) := (blk_cell BKgb.out 1).trans rfl
   have cb2_ : W.cell? ⟨gb, 2, none⟩ = some (.int .i64 v3) := (blk_cell BKgb.out 2).trans rfl
   have cb3_ : W.cell? ⟨gb, 3, none⟩ = some (.bool v4) := (blk_cell BKgb.out 3).trans rfl
   have cb5_ : W.cell? ⟨gb, 5, none⟩ = some (.int .i64 v6) := (blk_cell BKgb.out 5).trans rfl
   have cx2_ : W.cell? ⟨gx, 2, none⟩ = some (.int .i64 x2) := (blk_cell BKgx.out 2).trans rfl
   have cx3_ : W.cell? ⟨gx, 3, none⟩ = some (.int .i64 x3) := (blk_cell BKgx.out 3).trans rfl
   have hl_ : (Instr.lookup 166 (.map (some m2)) (.agg #[.int .i64 x2, .int .i64 x3]) false).run Try.prog W = .ok (.bool (lk (x2, x3) false B)) W := run_look BKm2.out Try.underlying166 (by go_simp) (x2, x3)
   have hx1 := HX.out
   clear HX
   cases u7 with
   | false =>
    simp only [Bool.false_eq_true, if_false, if_true] at hx1
    obtain rfl := Option.some.inj hx1
    go_wp2
    go_ret
    exact ⟨rfl, HI.out, HB.out, HK.out⟩
   | true =>
    simp only [Bool.false_eq_true, if_false, if_true] at hx1
    cases v7 with
    | false =>
     simp only [Bool.false_eq_true, if_false, if_true] at hx1
     obtain rfl := Option.some.inj hx1
     go_wp2
     go_ret
     exact ⟨rfl, HI.out, HB.out, HK.out⟩
    | true =>
     simp only [Bool.false_eq_true, if_false, if_true] at hx1
     cases u4 with
     | false =>
      simp only [Bool.false_eq_true, if_false, if_true] at hx1
      obtain rfl := Option.some.inj hx1
      go_wp2
      go_ret
      exact ⟨rfl, HI.out, HB.out, HK.out⟩
     | true =>
      simp only [Bool.false_eq_true, if_false, if_true] at hx1
      cases v4 with
      | true =>
       simp only [Bool.false_eq_true, if_false, if_true] at hx1
       obtain rfl := Option.some.inj hx1
       go_wp2
       go_ret
       exact ⟨rfl, HI.out, HB.out, HK.out⟩
      | false =>
       simp only [Bool.false_eq_true, if_false, if_true] at hx1
       generalize hlk : lk (x2, x3) false B = lb at *
       have HLK := Aside0.mk hlk
       clear hlk
       cases lb with
       | true =>
        simp only [Bool.false_eq_true, if_false, if_true] at hx1
        obtain rfl := Option.some.inj hx1
        go_wp2
        go_ret
        exact ⟨rfl, HI.out, HB.out, HK.out⟩
       | false =>
        simp only [Bool.false_eq_true, if_false, if_true] at hx1
        by_cases k2 : (u2 != v2) = true
        ·rw [if_pos k2] at hx1
         obtain rfl := Option.some.inj hx1
         go_wp2
         go_ret
         exact ⟨rfl, HI.out, HB.out, HK.out⟩
        ·rw [if_neg k2] at hx1
         have k2 : (u2 != v2) = false := by simpa using k2
         by_cases k3 : (u3 != v3) = true
         ·rw [if_pos k3] at hx1
          obtain rfl := Option.some.inj hx1
          go_wp2
          go_ret
          exact ⟨rfl, HI.out, HB.out, HK.out⟩
         ·rw [if_neg k3] at hx1
          have k3 : (u3 != v3) = false := by simpa using k3
          by_cases k4 : (v6 != i + 1) = true
          ·rw [if_pos k4] at hx1
           obtain rfl := Option.some.inj hx1
           go_wp2
           go_ret
           exact ⟨rfl, HI.out, HB.out, HK.out⟩
          ·rw [if_neg k4] at hx1
           have k4 : (v6 != i + 1) = false := by simpa using k4
           have HX := Aside0.mk hx1
           clear hx1
           go_wp2_with fail
           clear ca1_ ca2_ ca3_ cb1_ cb2_ cb3_ cb5_ cx2_ cx3_ hl_
           replace BKm1 := Aside0.mk (blk_drew BKm1.out)
           replace BKm2 := Aside0.mk (blk_drew BKm2.out)
           replace BKgx := Aside0.mk (blk_drew BKgx.out)
           replace BKga := Aside0.mk (blk_drew BKga.out)
           replace BKgb := Aside0.mk (blk_drew BKgb.out)
           replace HI := Aside0.mk (IsS45.drew HI.out)
           replace HB := Aside0.mk (below_drew1 HB.out)
           replace HK := Aside0.mk (keep_drew HK.out)
           generalize hN : lk (x0, x1) 0 L = n at *
           have HN := Aside0.mk hN
           clear hN
           have hl0 : (Instr.lookup 165 (.map (some m1)) (.agg #[.int .i64 x0, .int .i64 x1]) false).run Try.prog W.drew = .ok (.int .i64 n) W.drew := by rw [← HN.out]; exact run_look BKm1.out Try.underlying165 (by go_simp) (x0, x1)
           refine start_ (n := 11) (S := fun w' => w'.cell? ⟨gx, 0, none⟩ = some (.int .i64 x0) ∧ w'.cell? ⟨gx, 1, none⟩ = some (.int .i64 x1) ∧ (Instr.lookup 165 (.map (some m1)) (.agg #[.int .i64 x0, .int .i64 x1]) false).run Try.prog w' = .ok (.int .i64 n) w') (ds := [10]) #[false, false, false, false, false, false, false, false, false, false, false] (by kernel_rfl) rfl rfl ⟨(blk_cell BKgx.out 0).trans rfl, (blk_cell BKgx.out 1).trans rfl, hl0⟩ (fun hHeld => ?_); refine with_tabW lo_tab11 lo_bits11 (fun HT_ HW_ => ?_)
           clear hl0
           generalize W.drew = Wd at BKm1 BKm2 BKgx BKga BKgb HI HB HK hHeld ⊢
           refine pure_ (i := 0) (N := some 88) (v := ?_) (a' := ?_) #[true, false, false, false, false, false, false, false, false, false, false] rfl rfl (any_of HT_.out (by kernel_rfl)) (fun _ _ _ h => h) (Or.inl ⟨by rfl, ?_⟩) ?_ ?_
           rotate_left
           ·intro w'
            go_simp
            (try simp only [i64_w])
            with_reducible rfl
           rotate_left
           ·simp only [Act.put, List.setIfInBounds_toArray, List.set_cons_zero, List.set_cons_succ, i64_w, i32_w]
            rfl
           refine pure_ (i := 1) (N := some 89) (v := ?_) (a' := ?_) #[true, true, false, false, false, false, false, false, false, false, false] rfl rfl (any_of HT_.out (by kernel_rfl)) (fun _ _ _ h => h) (Or.inl ⟨by rfl, ?_⟩) ?_ ?_
           rotate_left
           ·intro w'
            go_simp
            (try simp only [i64_w])
            with_reducible rfl
           rotate_left
           ·simp only [Act.put, List.setIfInBounds_toArray, List.set_cons_zero, List.set_cons_succ, i64_w, i32_w]
            rfl
           refine take_ (i := 2) (N := some 90) (v := ?_) (a' := ?_) #[true, true, true, false, false, false, false, false, false, false, false] rfl rfl (take_ofW HT_.out HW_.out (by kernel_rfl)) (fun _ _ _ h => h) (Or.inl ⟨by rfl, ?_⟩) hHeld ?_ ?_
           rotate_left
           ·rintro w' ⟨s0, s1, s2⟩
            go_simp
            with_reducible rfl
           rotate_left
           ·simp only [Act.put, List.setIfInBounds_toArray, List.set_cons_zero, List.set_cons_succ, i64_w, i32_w]
            rfl
           refine pure_ (i := 3) (N := some 91) (v := ?_) (a' := ?_) #[true, true, true, true, false, false, false, false, false, false, false] rfl rfl (any_of HT_.out (by kernel_rfl)) (fun _ _ _ h => h) (Or.inl ⟨by rfl, ?_⟩) ?_ ?_
           rotate_left
           ·intro w'
            go_simp
            (try simp only [i64_w])
            with_reducible rfl
           rotate_left
           ·simp only [Act.put, List.setIfInBounds_toArray, List.set_cons_zero, List.set_cons_succ, i64_w, i32_w]
            rfl
           refine take_ (i := 4) (N := some 92) (v := ?_) (a' := ?_) #[true, true, true, true, true, false, false, false, false, false, false] rfl rfl (take_ofW HT_.out HW_.out (by kernel_rfl)) (fun _ _ _ h => h) (Or.inl ⟨by rfl, ?_⟩) hHeld ?_ ?_
           rotate_left
           ·rintro w' ⟨s0, s1, s2⟩
            go_simp
            with_reducible rfl
           rotate_left
           ·simp only [Act.put, List.setIfInBounds_toArray, List.set_cons_zero, List.set_cons_succ, i64_w, i32_w]
            rfl
           refine pure_ (i := 5) (N := some 93) (v := ?_) (a' := ?_) #[true, true, true, true, true, true, false, false, false, false, false] rfl rfl (any_of HT_.out (by kernel_rfl)) (fun _ _ _ h => h) (Or.inl ⟨by rfl, ?_⟩) ?_ ?_
           rotate_left
           ·intro w'
            go_simp
            (try simp only [i64_w])
            with_reducible rfl
           rotate_left
           ·simp only [Act.put, List.setIfInBounds_toArray, List.set_cons_zero, List.set_cons_succ, i64_w, i32_w]
            rfl
           refine take_ (i := 6) (N := some 94) (v := ?_) (a' := ?_) #[true, true, true, true, true, true, true, false, false, false, false] rfl rfl (take_ofW HT_.out HW_.out (by kernel_rfl)) (fun _ _ _ h => h) (Or.inl ⟨by rfl, ?_⟩) hHeld ?_ ?_
           rotate_left
           ·rintro w' ⟨s0, s1, s2⟩
            go_simp
            with_reducible rfl
           rotate_left
           ·simp only [Act.put, List.setIfInBounds_toArray, List.set_cons_zero, List.set_cons_succ, i64_w, i32_w]
            rfl
           refine pure_ (i := 7) (N := some 95) (v := ?_) (a' := ?_) #[true, true, true, true, true, true, true, true, false, false, false] rfl rfl (any_of HT_.out (by kernel_rfl)) (fun _ _ _ h => h) (Or.inl ⟨by rfl, ?_⟩) ?_ ?_
           rotate_left
           ·intro w'
            go_simp
            (try simp only [i64_w])
            with_reducible rfl
           rotate_left
           ·simp only [Act.put, List.setIfInBounds_toArray, List.set_cons_zero, List.set_cons_succ, i64_w, i32_w]
            rfl
           refine one_ (i := 8) (N := some 96) #[true, true, true, true, true, true, true, true, true, false, false] rfl rfl (one_of HT_.out (by kernel_rfl)) (by decide) (fun K hK => ?_)
           have he_ := run_entry (v := Value.int .i64) (d := (0 : Int)) BKm1.out Try.underlying165 (by go_simp) (x0, x1)
           rw [HN.out] at he_
           refine value_ (w1 := putB Wd m1 (.map (mL (Value.int .i64) 0 (ins (x0, x1) n L)).toArray (ins (x0, x1) n L).length)) (v := .tuple #[.int .i64 n, .int .i64 (ix (x0, x1) L)]) (by rfl) rfl (by go_simp) ?_
           have n0_ : Aside0 ((putB Wd m1 (.map (mL (Value.int .i64) 0 (ins (x0, x1) n L)).toArray (ins (x0, x1) n L).length)).heap[m1]? = some (.map (mL (Value.int .i64) 0 (ins (x0, x1) n L)).toArray (ins (x0, x1) n L).length)) := ⟨mapB_put (v := Value.int .i64) BKm1.out⟩
           have n1_ : Aside0 ((putB Wd m1 (.map (mL (Value.int .i64) 0 (ins (x0, x1) n L)).toArray (ins (x0, x1) n L).length)).heap[m2]? = some (.map (mL Value.bool 0 B).toArray B.length)) := ⟨putB_far BKm1.out NEm1_m2.out.symm BKm2.out⟩
           have n2_ : Aside0 ((putB Wd m1 (.map (mL (Value.int .i64) 0 (ins (x0, x1) n L)).toArray (ins (x0, x1) n L).length)).heap[gx]? = some (.cells #[.int .i64 x0, .int .i64 x1, .int .i64 x2, .int .i64 x3] 155 (0, 0))) := ⟨putB_far BKm1.out NEm1_gx.out.symm BKgx.out⟩
           have n3_ : Aside0 ((putB Wd m1 (.map (mL (Value.int .i64) 0 (ins (x0, x1) n L)).toArray (ins (x0, x1) n L).length)).heap[ga]? = some (.cells #[.bool u1, .int .i64 u2, .int .i64 u3, .bool true, .int .i64 u5, .int .i64 u6] 75 (0, 0))) := ⟨putB_far BKm1.out NEm1_ga.out.symm BKga.out⟩
           have n4_ : Aside0 ((putB Wd m1 (.map (mL (Value.int .i64) 0 (ins (x0, x1) n L)).toArray (ins (x0, x1) n L).length)).heap[gb]? = some (.cells #[.bool v1, .int .i64 v2, .int .i64 v3, .bool false, .int .i64 v5, .int .i64 v6] 75 (0, 0))) := ⟨putB_far BKm1.out NEm1_gb.out.symm BKgb.out⟩
           have n5_ : Aside0 (IsS45 w0 (putB Wd m1 (.map (mL (Value.int .i64) 0 (ins (x0, x1) n L)).toArray (ins (x0, x1) n L).length)) g s0_0 s0_1 s0_2 s0_3) := ⟨IsS45_put HI.out BKm1.out NE0_m1.out⟩
           have n6_ : Aside0 (Below w0.heap.size w0 (putB Wd m1 (.map (mL (Value.int .i64) 0 (ins (x0, x1) n L)).toArray (ins (x0, x1) n L).length))) := ⟨putB_below HB.out GFm1.out⟩
           have n7_ : Aside0 (KeepBut w (putB Wd m1 (.map (mL (Value.int .i64) 0 (ins (x0, x1) n L)).toArray (ins (x0, x1) n L).length)) g none) := ⟨keep_put HK.out BKm1.out GEm1.out⟩
           have hl0 : ∀ W_ : World, W_.heap[m1]? = some (.map (mL (Value.int .i64) 0 (ins (x0, x1) n L)).toArray (ins (x0, x1) n L).length) → (Instr.lookup 165 (.map (some m1)) (.agg #[.int .i64 x0, .int .i64 x1]) false).run Try.prog W_ = .ok (.int .i64 n) W_ := fun W_ h_ => by have := run_look (v := Value.int .i64) (d := (0 : Int)) h_ Try.underlying165 (by go_simp) (x0, x1); rw [lk_ins] at this; exact this
           generalize putB Wd m1 (.map (mL (Value.int .i64) 0 (ins (x0, x1) n L)).toArray (ins (x0, x1) n L).length) = We at n0_ n1_ n2_ n3_ n4_ n5_ n6_ n7_ ⊢
           refine hK.out _ _ ⟨(blk_cell n2_.out 0).trans rfl, (blk_cell n2_.out 1).trans rfl, hl0 _ n0_.out⟩ (fun hHeld => ?_)
           clear hK K hl0 he_ BKm1 BKm2 BKgx BKga BKgb HI HB HK
           have BKm1 := n0_
           have BKm2 := n1_
           have BKgx := n2_
           have BKga := n3_
           have BKgb := n4_
           have HI := n5_
           have HB := n6_
           have HK := n7_
           clear n0_ n1_ n2_ n3_ n4_ n5_ n6_ n7_
           refine norm_ (a' := ?_) ?_ ?_
           rotate_left
           ·show Act.put _ (some 96) _ = _
            simp only [Act.put, List.setIfInBounds_toArray, List.set_cons_zero, List.set_cons_succ, i64_w, i32_w]
            rfl
           refine pure_ (i := 9) (N := some 97) (v := ?_) (a' := ?_) #[true, true, true, true, true, true, true, true, true, true, false] rfl rfl (any_of HT_.out (by kernel_rfl)) (fun _ _ _ h => h) (Or.inl ⟨by rfl, ?_⟩) ?_ ?_
           rotate_left
           ·intro w'
            go_simp
            (try simp only [i64_w])
            with_reducible rfl
           rotate_left
           ·simp only [Act.put, List.setIfInBounds_toArray, List.set_cons_zero, List.set_cons_succ, i64_w, i32_w]
            rfl
           refine last_ (i := 10) (N := none) #[true, true, true, true, true, true, true, true, true, true, true] rfl rfl (one_of HT_.out (by kernel_rfl)) (by decide) (fun K hK => ?_)
           have he_ : (Instr.entryStore 165 (.map (some m1)) (.int .i64 (ix (x0, x1) L)) (.int .i64 (wrap64 (n + 1)))).run Try.prog We = .ok () (putB We m1 (.map (mL (Value.int .i64) 0 (ins (x0, x1) (wrap64 (n + 1)) L)).toArray (ins (x0, x1) (wrap64 (n + 1)) L).length)) := run_estore (v := Value.int .i64) (t := 165) (x0, x1) BKm1.out (wrap64 (n + 1))
           refine skip_ (w1 := putB We m1 (.map (mL (Value.int .i64) 0 (ins (x0, x1) (wrap64 (n + 1)) L)).toArray (ins (x0, x1) (wrap64 (n + 1)) L).length)) (by rfl) rfl (by go_simp) ?_
           clear hHeld he_
           have n0_ : Aside0 ((putB We m1 (.map (mL (Value.int .i64) 0 (ins (x0, x1) (wrap64 (n + 1)) L)).toArray (ins (x0, x1) (wrap64 (n + 1)) L).length)).heap[m1]? = some (.map (mL (Value.int .i64) 0 (ins (x0, x1) (wrap64 (n + 1)) L)).toArray (ins (x0, x1) (wrap64 (n + 1)) L).length)) := ⟨mapB_put (v := Value.int .i64) BKm1.out⟩
           have n1_ : Aside0 ((putB We m1 (.map (mL (Value.int .i64) 0 (ins (x0, x1) (wrap64 (n + 1)) L)).toArray (ins (x0, x1) (wrap64 (n + 1)) L).length)).heap[m2]? = some (.map (mL Value.bool 0 B).toArray B.length)) := ⟨putB_far BKm1.out NEm1_m2.out.symm BKm2.out⟩
           have n2_ : Aside0 ((putB We m1 (.map (mL (Value.int .i64) 0 (ins (x0, x1) (wrap64 (n + 1)) L)).toArray (ins (x0, x1) (wrap64 (n + 1)) L).length)).heap[gx]? = some (.cells #[.int .i64 x0, .int .i64 x1, .int .i64 x2, .int .i64 x3] 155 (0, 0))) := ⟨putB_far BKm1.out NEm1_gx.out.symm BKgx.out⟩
           have n3_ : Aside0 ((putB We m1 (.map (mL (Value.int .i64) 0 (ins (x0, x1) (wrap64 (n + 1)) L)).toArray (ins (x0, x1) (wrap64 (n + 1)) L).length)).heap[ga]? = some (.cells #[.bool u1, .int .i64 u2, .int .i64 u3, .bool true, .int .i64 u5, .int .i64 u6] 75 (0, 0))) := ⟨putB_far BKm1.out NEm1_ga.out.symm BKga.out⟩
           have n4_ : Aside0 ((putB We m1 (.map (mL (Value.int .i64) 0 (ins (x0, x1) (wrap64 (n + 1)) L)).toArray (ins (x0, x1) (wrap64 (n + 1)) L).length)).heap[gb]? = some (.cells #[.bool v1, .int .i64 v2, .int .i64 v3, .bool false, .int .i64 v5, .int .i64 v6] 75 (0, 0))) := ⟨putB_far BKm1.out NEm1_gb.out.symm BKgb.out⟩
           have n5_ : Aside0 (IsS45 w0 (putB We m1 (.map (mL (Value.int .i64) 0 (ins (x0, x1) (wrap64 (n + 1)) L)).toArray (ins (x0, x1) (wrap64 (n + 1)) L).length)) g s0_0 s0_1 s0_2 s0_3) := ⟨IsS45_put HI.out BKm1.out NE0_m1.out⟩
           have n6_ : Aside0 (Below w0.heap.size w0 (putB We m1 (.map (mL (Value.int .i64) 0 (ins (x0, x1) (wrap64 (n + 1)) L)).toArray (ins (x0, x1) (wrap64 (n + 1)) L).length))) := ⟨putB_below HB.out GFm1.out⟩
           have n7_ : Aside0 (KeepBut w (putB We m1 (.map (mL (Value.int .i64) 0 (ins (x0, x1) (wrap64 (n + 1)) L)).toArray (ins (x0, x1) (wrap64 (n + 1)) L).length)) g none) := ⟨keep_put HK.out BKm1.out GEm1.out⟩
           generalize putB We m1 (.map (mL (Value.int .i64) 0 (ins (x0, x1) (wrap64 (n + 1)) L)).toArray (ins (x0, x1) (wrap64 (n + 1)) L).length) = Wf at n0_ n1_ n2_ n3_ n4_ n5_ n6_ n7_ ⊢
           clear BKm1 BKm2 BKgx BKga BKgb HI HB HK
           have BKm1 := n0_
           have BKm2 := n1_
           have BKgx := n2_
           have BKga := n3_
           have BKgb := n4_
           have HI := n5_
           have HB := n6_
           have HK := n7_
           clear n0_ n1_ n2_ n3_ n4_ n5_ n6_ n7_
           refine hK.out _ _ ?_
           clear hK K
           refine done_ (done_of HT_.out (by kernel_rfl)) ?_
           clear HT_ HW_
           have cx2_ : Wf.cell? ⟨gx, 2, none⟩ = some (.int .i64 x2) := (blk_cell BKgx.out 2).trans rfl
           have cx3_ : Wf.cell? ⟨gx, 3, none⟩ = some (.int .i64 x3) := (blk_cell BKgx.out 3).trans rfl
           have hu_ : (Instr.mapUpdate 166 (.map (some m2)) (.agg #[.int .i64 x2, .int .i64 x3]) (.bool true)).run Try.prog Wf = .ok () (putB Wf m2 (.map (mL Value.bool 0 (ins (x2, x3) true B)).toArray (ins (x2, x3) true B).length)) := run_upd (v := Value.bool) (t := 166) BKm2.out Try.underlying166 (x2, x3) true
           go_wp2_with ((with_reducible refine gate_mapUpdate (t := 166) rfl ?_); refine skip_event (w1 := putB Wf m2 (.map (mL Value.bool 0 (ins (x2, x3) true B)).toArray (ins (x2, x3) true B).length)) rfl rfl (by go_simp) ?_; intro Wg hw_; have n0_ : Aside0 ((putB Wf m2 (.map (mL Value.bool 0 (ins (x2, x3) true B)).toArray (ins (x2, x3) true B).length)).heap[m2]? = some (.map (mL Value.bool 0 (ins (x2, x3) true B)).toArray (ins (x2, x3) true B).length)) := ⟨mapB_put (v := Value.bool) BKm2.out⟩; have n1_ : Aside0 ((putB Wf m2 (.map (mL Value.bool 0 (ins (x2, x3) true B)).toArray (ins (x2, x3) true B).length)).heap[m1]? = some (.map (mL (Value.int .i64) 0 (ins (x0, x1) (wrap64 (n + 1)) L)).toArray (ins (x0, x1) (wrap64 (n + 1)) L).length)) := ⟨putB_far BKm2.out NEm1_m2.out BKm1.out⟩; have n2_ : Aside0 ((putB Wf m2 (.map (mL Value.bool 0 (ins (x2, x3) true B)).toArray (ins (x2, x3) true B).length)).heap[gx]? = some (.cells #[.int .i64 x0, .int .i64 x1, .int .i64 x2, .int .i64 x3] 155 (0, 0))) := ⟨putB_far BKm2.out NEm2_gx.out.symm BKgx.out⟩; have n3_ : Aside0 ((putB Wf m2 (.map (mL Value.bool 0 (ins (x2, x3) true B)).toArray (ins (x2, x3) true B).length)).heap[ga]? = some (.cells #[.bool u1, .int .i64 u2, .int .i64 u3, .bool true, .int .i64 u5, .int .i64 u6] 75 (0, 0))) := ⟨putB_far BKm2.out NEm2_ga.out.symm BKga.out⟩; have n4_ : Aside0 ((putB Wf m2 (.map (mL Value.bool 0 (ins (x2, x3) true B)).toArray (ins (x2, x3) true B).length)).heap[gb]? = some (.cells #[.bool v1, .int .i64 v2, .int .i64 v3, .bool false, .int .i64 v5, .int .i64 v6] 75 (0, 0))) := ⟨putB_far BKm2.out NEm2_gb.out.symm BKgb.out⟩; have n5_ : Aside0 (IsS45 w0 (putB Wf m2 (.map (mL Value.bool 0 (ins (x2, x3) true B)).toArray (ins (x2, x3) true B).length)) g s0_0 s0_1 s0_2 s0_3) := ⟨IsS45_put HI.out BKm2.out NE0_m2.out⟩; have n6_ : Aside0 (Below w0.heap.size w0 (putB Wf m2 (.map (mL Value.bool 0 (ins (x2, x3) true B)).toArray (ins (x2, x3) true B).length))) := ⟨putB_below HB.out GFm2.out⟩; have n7_ : Aside0 (KeepBut w (putB Wf m2 (.map (mL Value.bool 0 (ins (x2, x3) true B)).toArray (ins (x2, x3) true B).length)) g none) := ⟨keep_put HK.out BKm2.out GEm2.out⟩; rw [← hw_] at n0_ n1_ n2_ n3_ n4_ n5_ n6_ n7_; clear hw_ hu_ cx2_ cx3_; clear BKm2 BKm1 BKgx BKga BKgb HI HB HK; have BKm2 := n0_; have BKm1 := n1_; have BKgx := n2_; have BKga := n3_; have BKgb := n4_; have HI := n5_; have HB := n6_; have HK := n7_; clear n0_ n1_ n2_ n3_ n4_ n5_ n6_ n7_)
           go_roundw
           case rel => exact ⟨i + 1, ins (x0, x1) (wrap64 (n + 1)) L, ins (x2, x3) true B, rfl, ⟨by omega⟩, ⟨by omega⟩, HX, HI, HB, HK, BKm1, BKm2⟩
           case measure => simp [intOf]; omega
  ·have he : s0_2.drop i.toNat = [] := dropI_end s0_2 i hlt I0.out
   rw [he] at hx1
   simp only [loanC] at hx1
   replace hx1 := Option.some.inj hx1
   have HX := Aside0.mk hx1
   clear hx1 he
   have nlt : (decide (i < (s0_2.length : Int))) = false := decide_eq_false hlt
   clear I0 I1 R2
   obtain ⟨A0', c0', A1', c1', A2', c2', A3', c3', hb0, _, _, r1, _, _⟩ := HI.out
   have R1 := Aside0.mk r1
   have g1 := four1 hb0
   clear hb0 r1
   go_wp2_with fail
   clear g1 nlt hlt
   go_loopw [110] (fun v110 wr => ∃ (p : Int), v110 = .int .i64 p ∧ Aside0 (0 ≤ p) ∧ Aside0 (p ≤ s0_1.length) ∧ Aside0 (loanT L B (s0_1.drop p.toNat) p = r) ∧ Aside0 (IsS45 w0 wr g s0_0 s0_1 s0_2 s0_3) ∧ Aside0 (Below w0.heap.size w0 wr) ∧ Aside0 (KeepBut w wr g none) ∧ Aside0 (wr.heap[m1]? = some (.map (mL (Value.int .i64) 0 L).toArray L.length)) ∧ Aside0 (wr.heap[m2]? = some (.map (mL Value.bool 0 B).toArray B.length))) (fun v110 _ => s0_1.length - (intOf v110).toNat)
   case atStart => exact ⟨0, rfl, ⟨Int.le_refl _⟩, ⟨by omega⟩, ⟨by simpa using HX.out⟩, HI, HB, HK, BKm1, BKm2⟩
   case round =>
    clear HX HI HB HK BKm1 BKm2
    obtain ⟨p, rfl, P0, P1, HX, HI, HB, HK, BKm1, BKm2⟩ := hrel
    have hx1 := HX.out
    clear HX
    by_cases hlt : p < (s0_1.length : Int)
    ·have p0 : 0 ≤ p := P0.out
     have hd : s0_1.drop p.toNat = rd_T78 s0_1 p :: s0_1.drop (p + 1).toNat := dropI_at s0_1 p z78 p0 hlt
     rw [hd] at hx1
     clear hd
     simp only [loanT] at hx1
     have HX := Aside0.mk hx1
     clear hx1
     obtain ⟨ad, At, ct, Bt, dt, e, h0, h1, _, ht, _, _⟩ := at_T78 R1.out p p0 hlt
     cases e
     have HT := Aside0.mk ht
     clear ht
     replace h0 := (HB.out.cell (World.block_lt_of_cell? w0 _ h0)).trans h0
     replace h1 := (HB.out.cell (World.block_lt_of_cell? w0 _ h1)).trans h1
     generalize rd_T78 s0_1 p = t at *
     have nlt : (decide (p < (s0_1.length : Int))) = true := decide_eq_true hlt
     have PB : IntKind.i64.wrap (p + 1) = p + 1 := IntWalk.i64_in _ (by have := P1.out; have := Kd.C_max R1.out; omega)
     go_upto_region 17 with ((with_reducible refine gate_dst (N := 12) rfl ?_); refine box_event ?hg (N := 12) ?hd (cs := #[.slice none 0 0, .slice none 0 0]) (t := 78) ?hr ?_; (case hd => rfl); (case hg => rfl); (case hr => first | (go_simp; done) | (go_simp; rfl)); intro gt hg_ w3 hbox hb_; have NEm1_gt := Aside0.mk (show m1 ≠ gt from by rw [hg_]; exact Nat.ne_of_lt (blk_lt BKm1.out)); have NEm2_gt := Aside0.mk (show m2 ≠ gt from by rw [hg_]; exact Nat.ne_of_lt (blk_lt BKm2.out)); have NE0_gt := Aside0.mk (show g ≠ gt from by rw [hg_]; exact Nat.ne_of_lt (IsS45.lt HI.out)); have GEgt := Aside0.mk (show w.heap.size ≤ gt from by rw [hg_]; exact keep_size HK.out); have GFgt := Aside0.mk (show w0.heap.size ≤ gt from by rw [hg_]; exact below_size HB.out); replace BKm1 := Aside0.mk (blk_below BKm1.out hb_); replace BKm2 := Aside0.mk (blk_below BKm2.out hb_); replace HK := Aside0.mk (KeepBut.trans HK.out (KeepBut.of_below hb_ g none) (.inl rfl)); replace HB := Aside0.mk (below_step HB.out hb_); replace HI := Aside0.mk (HI.out.below hb_); have BKgt := Aside0.mk hbox; obtain ⟨zc0_, zc1_, zf0_, zf1_⟩ := (⟨(blk_cell BKgt.out 0).trans rfl, (blk_cell BKgt.out 1).trans rfl, blk_frozen BKgt.out 0, blk_frozen BKgt.out 1⟩ : w3.cell? ⟨gt, 0, none⟩ = some (.slice none 0 0) ∧ w3.cell? ⟨gt, 1, none⟩ = some (.slice none 0 0) ∧ w3.frozen? ⟨gt, 0, none⟩ = false ∧ w3.frozen? ⟨gt, 1, none⟩ = false); clear hbox hb_ hg_)
     clear zc0_ zf0_ zc1_ zf1_; clear h0 h1
     have n0_ : Aside0 (((w3.setCell ⟨gt, 0, none⟩ (.slice At t.f0.length ct)).setCell ⟨gt, 1, none⟩ (.slice Bt t.f1.length dt)).heap[gt]? = some (.cells #[.slice At t.f0.length ct, .slice Bt t.f1.length dt] 78 (0, 0))) := ⟨(blk_put (cs := #[.slice At t.f0.length ct, .slice none 0 0]) (blk_put (cs := #[.slice none 0 0, .slice none 0 0]) BKgt.out 0 _ rfl) 1 _ rfl)⟩
     have n1_ : Aside0 (((w3.setCell ⟨gt, 0, none⟩ (.slice At t.f0.length ct)).setCell ⟨gt, 1, none⟩ (.slice Bt t.f1.length dt)).heap[m1]? = some (.map (mL (Value.int .i64) 0 L).toArray L.length)) := ⟨(far_ (far_ BKm1.out NEm1_gt.out _) NEm1_gt.out _)⟩
     have n2_ : Aside0 (((w3.setCell ⟨gt, 0, none⟩ (.slice At t.f0.length ct)).setCell ⟨gt, 1, none⟩ (.slice Bt t.f1.length dt)).heap[m2]? = some (.map (mL Value.bool 0 B).toArray B.length)) := ⟨(far_ (far_ BKm2.out NEm2_gt.out _) NEm2_gt.out _)⟩
     have n3_ : Aside0 (IsS45 w0 ((w3.setCell ⟨gt, 0, none⟩ (.slice At t.f0.length ct)).setCell ⟨gt, 1, none⟩ (.slice Bt t.f1.length dt)) g s0_0 s0_1 s0_2 s0_3) := ⟨(IsS45.far (IsS45.far HI.out NE0_gt.out _) NE0_gt.out _)⟩
     have n4_ : Aside0 (Below w0.heap.size w0 ((w3.setCell ⟨gt, 0, none⟩ (.slice At t.f0.length ct)).setCell ⟨gt, 1, none⟩ (.slice Bt t.f1.length dt))) := ⟨(Below.setCell (Below.setCell HB.out GFgt.out _) GFgt.out _)⟩
     have n5_ : Aside0 (KeepBut w ((w3.setCell ⟨gt, 0, none⟩ (.slice At t.f0.length ct)).setCell ⟨gt, 1, none⟩ (.slice Bt t.f1.length dt)) g none) := ⟨(keep_far (keep_far HK.out GEgt.out _) GEgt.out _)⟩
     clear BKgt BKm1 BKm2 HI HB HK
     generalize ((w3.setCell ⟨gt, 0, none⟩ (.slice At t.f0.length ct)).setCell ⟨gt, 1, none⟩ (.slice Bt t.f1.length dt)) = W at n0_ n1_ n2_ n3_ n4_ n5_ ⊢
     have BKgt := n0_
     have BKm1 := n1_
     have BKm2 := n2_
     have HI := n3_
     have HB := n4_
     have HK := n5_
     clear n0_ n1_ n2_ n3_ n4_ n5_
     have ct0_ : W.cell? ⟨gt, 0, none⟩ = some (.slice At t.f0.length ct) := (blk_cell BKgt.out 0).trans rfl
     go_wp2_with fail
     clear ct0_ nlt
     go_loopw [118] (fun v118 wr => ∃ (q : Int), v118 = .int .i64 q ∧ Aside0 (0 ≤ q) ∧ Aside0 (q ≤ t.f0.length) ∧ Aside0 (loanH p L B (loanT L B (s0_1.drop (p + 1).toNat) (p + 1)) (t.f0.drop q.toNat) q = r) ∧ Aside0 (IsS45 w0 wr g s0_0 s0_1 s0_2 s0_3) ∧ Aside0 (Below w0.heap.size w0 wr) ∧ Aside0 (KeepBut w wr g none) ∧ Aside0 (wr.heap[m1]? = some (.map (mL (Value.int .i64) 0 L).toArray L.length)) ∧ Aside0 (wr.heap[m2]? = some (.map (mL Value.bool 0 B).toArray B.length))) (fun v118 _ => t.f0.length - (intOf v118).toNat)
     case atStart => exact ⟨0, rfl, ⟨Int.le_refl _⟩, ⟨by omega⟩, ⟨by simpa using HX.out⟩, HI, HB, HK, BKm1, BKm2⟩
     case round =>
      clear HX HI HB HK BKm1 BKm2 BKgt
      obtain ⟨q, rfl, Q0, Q1, HX, HI, HB, HK, BKm1, BKm2⟩ := hrel
      have hx1 := HX.out
      clear HX
      by_cases hlt2 : q < (t.f0.length : Int)
      ·have q0 : 0 ≤ q := Q0.out
       have hd : t.f0.drop q.toNat = rd_T75 t.f0 q :: t.f0.drop (q + 1).toNat := dropI_at t.f0 q z75 q0 hlt2
       rw [hd] at hx1
       clear hd
       simp only [loanH] at hx1
       have HX := Aside0.mk hx1
       clear hx1
       obtain ⟨ad2, e, h0, h1, h2, h3, h4, h5⟩ := at_T75 HT.out q q0 hlt2
       cases e
       replace h0 := (HB.out.cell (World.block_lt_of_cell? w0 _ h0)).trans h0
       replace h1 := (HB.out.cell (World.block_lt_of_cell? w0 _ h1)).trans h1
       replace h2 := (HB.out.cell (World.block_lt_of_cell? w0 _ h2)).trans h2
       replace h3 := (HB.out.cell (World.block_lt_of_cell? w0 _ h3)).trans h3
       replace h4 := (HB.out.cell (World.block_lt_of_cell? w0 _ h4)).trans h4
       replace h5 := (HB.out.cell (World.block_lt_of_cell? w0 _ h5)).trans h5
       generalize rd_T75 t.f0 q = T at *
       have nlt2 : (decide (q < (t.f0.length : Int))) = true := decide_eq_true hlt2
       have QB : IntKind.i64.wrap (q + 1) = q + 1 := IntWalk.i64_in _ (by have := Q1.out; have := Kd.C_max HT.out; omega)
       obtain ⟨t0, t1, t2, t3, t4, t5⟩ := T
       dsimp only at h0 h1 h2 h3 h4 h5
       go_upto_region 20 with ((with_reducible refine gate_dst (N := 14) rfl ?_); refine box_event ?hg (N := 14) ?hd (cs := #[.bool false, .int .i64 0, .int .i64 0, .bool false, .int .i64 0, .int .i64 0]) (t := 75) ?hr ?_; (case hd => rfl); (case hg => rfl); (case hr => first | (go_simp; done) | (go_simp; rfl)); intro gh hg_ w4 hbox hb_; have NEm1_gh := Aside0.mk (show m1 ≠ gh from by rw [hg_]; exact Nat.ne_of_lt (blk_lt BKm1.out)); have NEm2_gh := Aside0.mk (show m2 ≠ gh from by rw [hg_]; exact Nat.ne_of_lt (blk_lt BKm2.out)); have NE0_gh := Aside0.mk (show g ≠ gh from by rw [hg_]; exact Nat.ne_of_lt (IsS45.lt HI.out)); have GEgh := Aside0.mk (show w.heap.size ≤ gh from by rw [hg_]; exact keep_size HK.out); have GFgh := Aside0.mk (show w0.heap.size ≤ gh from by rw [hg_]; exact below_size HB.out); replace BKm1 := Aside0.mk (blk_below BKm1.out hb_); replace BKm2 := Aside0.mk (blk_below BKm2.out hb_); replace HK := Aside0.mk (KeepBut.trans HK.out (KeepBut.of_below hb_ g none) (.inl rfl)); replace HB := Aside0.mk (below_step HB.out hb_); replace HI := Aside0.mk (HI.out.below hb_); have BKgh := Aside0.mk hbox; obtain ⟨zc0_, zc1_, zc2_, zc3_, zc4_, zc5_, zf0_, zf1_, zf2_, zf3_, zf4_, zf5_⟩ := (⟨(blk_cell BKgh.out 0).trans rfl, (blk_cell BKgh.out 1).trans rfl, (blk_cell BKgh.out 2).trans rfl, (blk_cell BKgh.out 3).trans rfl, (blk_cell BKgh.out 4).trans rfl, (blk_cell BKgh.out 5).trans rfl, blk_frozen BKgh.out 0, blk_frozen BKgh.out 1, blk_frozen BKgh.out 2, blk_frozen BKgh.out 3, blk_frozen BKgh.out 4, blk_frozen BKgh.out 5⟩ : w4.cell? ⟨gh, 0, none⟩ = some (.bool false) ∧ w4.cell? ⟨gh, 1, none⟩ = some (.int .i64 0) ∧ w4.cell? ⟨gh, 2, none⟩ = some (.int .i64 0) ∧ w4.cell? ⟨gh, 3, none⟩ = some (.bool false) ∧ w4.cell? ⟨gh, 4, none⟩ = some (.int .i64 0) ∧ w4.cell? ⟨gh, 5, none⟩ = some (.int .i64 0) ∧ w4.frozen? ⟨gh, 0, none⟩ = false ∧ w4.frozen? ⟨gh, 1, none⟩ = false ∧ w4.frozen? ⟨gh, 2, none⟩ = false ∧ w4.frozen? ⟨gh, 3, none⟩ = false ∧ w4.frozen? ⟨gh, 4, none⟩ = false ∧ w4.frozen? ⟨gh, 5, none⟩ = false); clear hbox hb_ hg_)
       clear zc0_ zf0_ zc1_ zf1_ zc2_ zf2_ zc3_ zf3_ zc4_ zf4_ zc5_ zf5_; clear h0 h1 h2 h3 h4 h5
       have n0_ : Aside0 (((((((w4.setCell ⟨gh, 0, none⟩ (.bool t0)).setCell ⟨gh, 1, none⟩ (.int .i64 t1)).setCell ⟨gh, 2, none⟩ (.int .i64 t2)).setCell ⟨gh, 3, none⟩ (.bool t3)).setCell ⟨gh, 4, none⟩ (.int .i64 t4)).setCell ⟨gh, 5, none⟩ (.int .i64 t5)).heap[gh]? = some (.cells #[.bool t0, .int .i64 t1, .int .i64 t2, .bool t3, .int .i64 t4, .int .i64 t5] 75 (0, 0))) := ⟨(blk_put (cs := #[.bool t0, .int .i64 t1, .int .i64 t2, .bool t3, .int .i64 t4, .int .i64 0]) (blk_put (cs := #[.bool t0, .int .i64 t1, .int .i64 t2, .bool t3, .int .i64 0, .int .i64 0]) (blk_put (cs := #[.bool t0, .int .i64 t1, .int .i64 t2, .bool false, .int .i64 0, .int .i64 0]) (blk_put (cs := #[.bool t0, .int .i64 t1, .int .i64 0, .bool false, .int .i64 0, .int .i64 0]) (blk_put (cs := #[.bool t0, .int .i64 0, .int .i64 0, .bool false, .int .i64 0, .int .i64 0]) (blk_put (cs := #[.bool false, .int .i64 0, .int .i64 0, .bool false, .int .i64 0, .int .i64 0]) BKgh.out 0 _ rfl) 1 _ rfl) 2 _ rfl) 3 _ rfl) 4 _ rfl) 5 _ rfl)⟩
       have n1_ : Aside0 (((((((w4.setCell ⟨gh, 0, none⟩ (.bool t0)).setCell ⟨gh, 1, none⟩ (.int .i64 t1)).setCell ⟨gh, 2, none⟩ (.int .i64 t2)).setCell ⟨gh, 3, none⟩ (.bool t3)).setCell ⟨gh, 4, none⟩ (.int .i64 t4)).setCell ⟨gh, 5, none⟩ (.int .i64 t5)).heap[m1]? = some (.map (mL (Value.int .i64) 0 L).toArray L.length)) := ⟨(far_ (far_ (far_ (far_ (far_ (far_ BKm1.out NEm1_gh.out _) NEm1_gh.out _) NEm1_gh.out _) NEm1_gh.out _) NEm1_gh.out _) NEm1_gh.out _)⟩
       have n2_ : Aside0 (((((((w4.setCell ⟨gh, 0, none⟩ (.bool t0)).setCell ⟨gh, 1, none⟩ (.int .i64 t1)).setCell ⟨gh, 2, none⟩ (.int .i64 t2)).setCell ⟨gh, 3, none⟩ (.bool t3)).setCell ⟨gh, 4, none⟩ (.int .i64 t4)).setCell ⟨gh, 5, none⟩ (.int .i64 t5)).heap[m2]? = some (.map (mL Value.bool 0 B).toArray B.length)) := ⟨(far_ (far_ (far_ (far_ (far_ (far_ BKm2.out NEm2_gh.out _) NEm2_gh.out _) NEm2_gh.out _) NEm2_gh.out _) NEm2_gh.out _) NEm2_gh.out _)⟩
       have n3_ : Aside0 (IsS45 w0 ((((((w4.setCell ⟨gh, 0, none⟩ (.bool t0)).setCell ⟨gh, 1, none⟩ (.int .i64 t1)).setCell ⟨gh, 2, none⟩ (.int .i64 t2)).setCell ⟨gh, 3, none⟩ (.bool t3)).setCell ⟨gh, 4, none⟩ (.int .i64 t4)).setCell ⟨gh, 5, none⟩ (.int .i64 t5)) g s0_0 s0_1 s0_2 s0_3) := ⟨(IsS45.far (IsS45.far (IsS45.far (IsS45.far (IsS45.far (IsS45.far HI.out NE0_gh.out _) NE0_gh.out _) NE0_gh.out _) NE0_gh.out _) NE0_gh.out _) NE0_gh.out _)⟩
       have n4_ : Aside0 (Below w0.heap.size w0 ((((((w4.setCell ⟨gh, 0, none⟩ (.bool t0)).setCell ⟨gh, 1, none⟩ (.int .i64 t1)).setCell ⟨gh, 2, none⟩ (.int .i64 t2)).setCell ⟨gh, 3, none⟩ (.bool t3)).setCell ⟨gh, 4, none⟩ (.int .i64 t4)).setCell ⟨gh, 5, none⟩ (.int .i64 t5))) := ⟨(Below.setCell (Below.setCell (Below.setCell (Below.setCell (Below.setCell (Below.setCell HB.out GFgh.out _) GFgh.out _) GFgh.out _) GFgh.out _) GFgh.out _) GFgh.out _)⟩
       have n5_ : Aside0 (KeepBut w ((((((w4.setCell ⟨gh, 0, none⟩ (.bool t0)).setCell ⟨gh, 1, none⟩ (.int .i64 t1)).setCell ⟨gh, 2, none⟩ (.int .i64 t2)).setCell ⟨gh, 3, none⟩ (.bool t3)).setCell ⟨gh, 4, none⟩ (.int .i64 t4)).setCell ⟨gh, 5, none⟩ (.int .i64 t5)) g none) := ⟨(keep_far (keep_far (keep_far (keep_far (keep_far (keep_far HK.out GEgh.out _) GEgh.out _) GEgh.out _) GEgh.out _) GEgh.out _) GEgh.out _)⟩
       clear BKgh BKm1 BKm2 HI HB HK
       generalize ((((((w4.setCell ⟨gh, 0, none⟩ (.bool t0)).setCell ⟨gh, 1, none⟩ (.int .i64 t1)).setCell ⟨gh, 2, none⟩ (.int .i64 t2)).setCell ⟨gh, 3, none⟩ (.bool t3)).setCell ⟨gh, 4, none⟩ (.int .i64 t4)).setCell ⟨gh, 5, none⟩ (.int .i64 t5)) = W2 at n0_ n1_ n2_ n3_ n4_ n5_ ⊢
       have BKgh := n0_
       have BKm1 := n1_
       have BKm2 := n2_
       have HI := n3_
       have HB := n4_
       have HK := n5_
       clear n0_ n1_ n2_ n3_ n4_ n5_
       have ch0_ : W2.cell? ⟨gh, 0, none⟩ = some (.bool t0) := (blk_cell BKgh.out 0).trans rfl
       have ch3_ : W2.cell? ⟨gh, 3, none⟩ = some (.bool t3) := (blk_cell BKgh.out 3).trans rfl
       have ch4_ : W2.cell? ⟨gh, 4, none⟩ = some (.int .i64 t4) := (blk_cell BKgh.out 4).trans rfl
       have hx1 := HX.out
       clear HX
       dsimp only at hx1
       cases t0 with
       | false =>
        simp only [Bool.false_eq_true, if_false, if_true] at hx1
        have HX := Aside0.mk hx1
        clear hx1
        go_wp2
        go_roundw
        case rel => exact ⟨q + 1, rfl, ⟨by omega⟩, ⟨by omega⟩, HX, HI, HB, HK, BKm1, BKm2⟩
        case measure => simp [intOf]; omega
       | true =>
        simp only [Bool.false_eq_true, if_false, if_true] at hx1
        have hl1_ : ∀ nq, (Instr.lookup 165 (.map (some m1)) (.agg #[.int .i64 p, .int .i64 q]) false).run Try.prog (W2.drewN nq) = .ok (.int .i64 (lk (p, q) 0 L)) (W2.drewN nq) := fun nq => run_look (v := Value.int .i64) (blk_drewN BKm1.out nq) Try.underlying165 (by go_simp) (p, q)
        have hl2_ : ∀ nq, (Instr.lookup 166 (.map (some m2)) (.agg #[.int .i64 p, .int .i64 q]) false).run Try.prog (W2.drewN nq) = .ok (.bool (lk (p, q) false B)) (W2.drewN nq) := fun nq => run_look (v := Value.bool) (blk_drewN BKm2.out nq) Try.underlying166 (by go_simp) (p, q)
        go_wp2_with fail
        generalize hla : lk (p, q) 0 L = la at *
        generalize hlb : lk (p, q) false B = lb at *
        clear hla hlb
        by_cases k1 : (t4 != la) = true
        ·rw [if_pos k1] at hx1
         have k1 : (!(t4 == la)) = true := k1
         obtain rfl := hx1
         go_quiet (fail)
         go_wp2
         go_ret
         exact ⟨rfl, IsS45.drewN HI.out _, pw_below_drewN HB.out _, keep_drewN HK.out _⟩
        ·rw [if_neg k1] at hx1
         have k1 : (!(t4 == la)) = false := by simpa using k1
         cases t3 with
         | true =>
          simp only [Bool.false_eq_true, if_false, if_true] at hx1
          have HX := Aside0.mk hx1
          clear hx1
          go_quiet (fail)
          go_wp2
          go_roundw
          case rel => exact ⟨q + 1, rfl, ⟨by omega⟩, ⟨by omega⟩, HX, ⟨IsS45.drewN HI.out _⟩, ⟨pw_below_drewN HB.out _⟩, ⟨keep_drewN HK.out _⟩, ⟨blk_drewN BKm1.out _⟩, ⟨blk_drewN BKm2.out _⟩⟩
          case measure => simp [intOf]; omega
         | false =>
          simp only [Bool.false_eq_true, if_false, if_true] at hx1
          cases lb with
          | true =>
           simp only [Bool.false_eq_true, if_false, if_true] at hx1
           have HX := Aside0.mk hx1
           clear hx1
           go_quiet (fail)
           go_wp2
           go_roundw
           case rel => exact ⟨q + 1, rfl, ⟨by omega⟩, ⟨by omega⟩, HX, ⟨IsS45.drewN HI.out _⟩, ⟨pw_below_drewN HB.out _⟩, ⟨keep_drewN HK.out _⟩, ⟨blk_drewN BKm1.out _⟩, ⟨blk_drewN BKm2.out _⟩⟩
           case measure => simp [intOf]; omega
          | false =>
           simp only [Bool.false_eq_true, if_false, if_true] at hx1
           obtain rfl := hx1
           go_quiet (fail)
           go_wp2
           go_ret
           exact ⟨rfl, IsS45.drewN HI.out _, pw_below_drewN HB.out _, keep_drewN HK.out _⟩
      ·have he : t.f0.drop q.toNat = [] := dropI_end t.f0 q hlt2 Q0.out
       rw [he] at hx1
       simp only [loanH] at hx1
       have HX := Aside0.mk hx1
       clear hx1 he
       have nlt2 : (decide (q < (t.f0.length : Int))) = false := decide_eq_false hlt2
       go_wp2
       go_roundw
       case rel => exact ⟨p + 1, rfl, ⟨by omega⟩, ⟨by omega⟩, HX, HI, HB, HK, BKm1, BKm2⟩
       case measure => simp [intOf]; omega
    ·have he : s0_1.drop p.toNat = [] := dropI_end s0_1 p hlt P0.out
     rw [he] at hx1
     simp only [loanT] at hx1
     obtain rfl := hx1
     have nlt : (decide (p < (s0_1.length : Int))) = false := decide_eq_false hlt
     go_wp2
     go_ret
     exact ⟨rfl, HI.out, HB.out, HK.out⟩

end Go.Proofs.Ytdoflfifnkpacaa.WO
