/-
  The functions of worlds: what they compute, and the laws of it.
-/
import Derived.StillTailTactics
import Derived.Lib.Hide
import Derived.Test.YtdoflfifnkpacaaC19WqLay3
import Derived.Test.YtdoflfifnkpacaaC19WOx2
namespace Go.Proofs.Ytdoflfifnkpacaa.WO.LA
open Go Go.RowKit Go.Proofs.YtdoflfifnkpacaaW.PrintWords Go.Proofs.YtdoflfifnkpacaaW.PrintLast Go.Proofs.YtdoflfifnkpacaaW.PrintMore
attribute [local go_sem] max2_int min2_int max_two min_two max_three min_three max_four min_four
set_option linter.unusedVariables false
set_option linter.unusedSimpArgs false
section
variable {P : Program} {Q : Exit → Act → World → Prop}
/-- Reads, a call, what reads no memory, the rest one by one. -/
theorem draw_call {id : Nat} {l : List Oper} {S : World → Prop} {A a : Act} {w : World} {o : Oper} {f : FuncId} {fn : Func} {as_ : Array Operand} {ts : Array TypeId} (n m : Nat) (fs fs2 : List Bool) (hf : P.funcs[f]? = some fn) (hname : (fn.name == "runtime.NumGoroutine") = false) (hb : fn.body.isSome = true) (args : Array Value)
    (hm : P.follows .mixedOrders = true) (ho : l[n]? = some o) (N : Option Tmp) (hN : o.dst = N) (hg : o.guard = none) (hop : o.op = .call { callee := .value (.func f), args := as_, argTypes := ts })
    (hB : (headsB .any l.toArray ((List.range l.length).drop (n + 1 + m)) 0 n fs && (readyB .any l.toArray (mask l.length n) (mask l.length (n + 1)) n && (headsB .any l.toArray ((List.range l.length).drop (n + 1 + m)) (n + 1) m fs2 && (restB .any l.toArray ((List.range l.length).drop (n + 1 + m)) (n + 1 + m) (l.length - (n + 1 + m)) && decide (n + 1 + m ≤ l.length))))) = true)
    (hQ : ∀ c a w d v, Q (.panic c) (Act.put a d v) w → Q (.panic c) a w) (hS : S w.drew) (hh : HdS P l.toArray S (l.take n) fs a A) (hargs : as_.map A.eval = args)
    (hcall : Calls P f args w.drew fun e w' => ∃ v, e = .returned v ∧ S w' ∧ ∃ A', HdS P l.toArray S ((l.drop (n + 1)).take m) fs2 (A.put N v) A' ∧ wpList P l.toArray Q (l.drop (n + 1 + m)) A' w') : (Code.region id l.toArray true).wp P Q a w := by
  simp only [Bool.and_eq_true, decide_eq_true_eq] at hB
  obtain ⟨h1, h2, h3, h4, h5⟩ := hB
  have hsz : l.toArray.size = l.length := by simp
  refine start_ (S := S) (ds := (List.range l.length).drop (n + 1 + m)) (mask l.length 0) hm hsz (by unfold mask; apply Array.ext <;> simp) hS (fun _ => ?_)
  have h6 := heads_ (P := P) (ops := l.toArray) (md := .any) (S := S) (ds := (List.range l.length).drop (n + 1 + m)) hQ (l.length - n) n 0 fs a A w.drew h1 (by simpa using hh) (by simp; omega) hS (by
    rw [Nat.zero_add, hsz, show l.length - n = (l.length - (n + 1)) + 1 by omega]
    refine one_ _ (show l.toArray[n]? = some o by simpa using ho) hN h2 (by
      intro hc
      obtain ⟨i, hi, e⟩ := List.mem_drop_iff_getElem.mp hc
      simp at e
      omega) (fun K hK => ?_)
    refine goes_ hf hname hb args (by simp [Region.wanted, hg]) hN hop hargs ?_
    refine hcall.mono ?_
    rintro e w' ⟨v, rfl, hs, A', hh2, hr⟩
    refine ⟨v, rfl, hK.out _ _ hs (fun _ => ?_)⟩
    have h7 := heads_ (P := P) (ops := l.toArray) (md := .any) (S := S) (ds := (List.range l.length).drop (n + 1 + m)) hQ (l.length - (n + 1 + m)) m (n + 1) fs2 (A.put N v) A' w' h3 (by simpa using hh2) (by simp; omega) hs (by
      rw [hsz]
      exact rest_ (P := P) (ops := l.toArray) (Q := Q) (S := S) (md := .any) (l.length - (n + 1 + m)) (n + 1 + m) _ _ h4 (by simp; omega) (by simpa using hr) |> fun h => by rwa [hsz] at h)
    rw [show l.length - (n + 1 + m) + m = l.length - (n + 1) by omega, hsz] at h7
    exact h7)
  rw [show l.length - n + n = l.length by omega, hsz] at h6
  exact h6
end
theorem reps_flat {α : Type} {R : α → List Value → Prop} {sz : Nat} {enc : α → List Value} (he : ∀ x cs, R x cs → cs = enc x) : ∀ (l : List α) (cs : List Value), Reps R sz l cs → cs = l.flatMap enc
  | [], cs, h => by
    have := h.1
    simp only [List.length_nil, Nat.zero_mul] at this
    rw [List.eq_nil_of_length_eq_zero this]
    rfl
  | x :: l, cs, h => by
    have h0 := he x _ (h.2 0 x rfl)
    rw [Nat.zero_mul, List.drop_zero] at h0
    have h1 := reps_flat (sz := sz) he l (cs.drop sz) ⟨by rw [List.length_drop, h.1, List.length_cons, Nat.succ_mul]; omega, fun j p hp => by
      have := h.2 (j + 1) p (by simpa using hp)
      rwa [List.drop_drop, show sz + j * sz = (j + 1) * sz by rw [Nat.succ_mul]; omega]⟩
    rw [List.flatMap_cons, ← h0, ← h1, List.take_append_drop]
theorem R_rS {w : World} {base : Nat} {ok : Nat → Prop} {v : Value} {l : List S75} (h : Kd.R k75 75 w base ok v l) : (rS v l).ok w base := by
  obtain ⟨_, inner, ho, hr⟩ := h
  have := reps_flat (enc := hc) (fun x cs h => k75_openM h) l inner hr
  subst this
  exact ho
theorem R_rI {w : World} {base : Nat} {ok : Nat → Prop} {v : Value} {l : List Int} (h : Kd.R (Kd.int .i64) 3 w base ok v l) : (rI v l).ok w base := by
  obtain ⟨_, inner, ho, hr⟩ := h
  have := reps_flat (enc := ic) (fun x cs h => h) l inner hr
  subst this
  exact ho
theorem R_rTh {w : World} {base : Nat} {ok : Nat → Prop} {v : Value} {l : List S67} (h : Kd.R k67 67 w base ok v l) : (rTh v l).ok w base := by
  obtain ⟨_, inner, ho, hr⟩ := h
  have := reps_flat (enc := tc) (fun x cs h => k67_openM h) l inner hr
  subst this
  exact ho
theorem R_rLo {w : World} {base : Nat} {ok : Nat → Prop} {v : Value} {l : List S155} (h : Kd.R k155 155 w base ok v l) : (rLo v l).ok w base := by
  obtain ⟨_, inner, ho, hr⟩ := h
  have := reps_flat (enc := lc) (fun x cs h => k155_openM h) l inner hr
  subst this
  exact ho
section
variable {P : Program} {ops : Array Oper} {rest : List Oper} {o : Oper} {a : Act} {Q : Exit → Act → World → Prop}
end
section
variable {w w1 w0 : World} {base g gB n c : Nat} {bx : List Value} {v0 v1 v2 v3 : Value} {hs : List (Value × Value)} {T : List S67} {B : List S78} {C : List S155} {E : List Int} {F : List Row}
theorem WR.forms (h : WR w base v0 v1 v2 v3 hs T B C E F) : ∃ A0 c0 A1 c1 A2 c2 A3 c3, v0 = .slice A0 T.length c0 ∧ v1 = .slice A1 B.length c1 ∧ v2 = .slice A2 C.length c2 ∧ v3 = .slice A3 E.length c3 := by
  obtain ⟨A0, c0, e0⟩ := h.2.hdTh rfl
  obtain ⟨A1, c1, e1⟩ := h.2.tail.hdTa (n := B.length) h.1
  obtain ⟨A2, c2, e2⟩ := h.2.tail.tail.hdLo rfl
  obtain ⟨A3, c3, e3⟩ := h.2.tail.tail.tail.hdI rfl
  exact ⟨A0, c0, A1, c1, A2, c2, A3, c3, e0, e1, e2, e3⟩
end
section
variable {P : Program} {Q : Exit → Act → World → Prop}
end
section
variable {w : World} {base g : Nat} {bx : List Value} {v0 v1 v2 v3 : Value} {hs : List (Value × Value)} {T : List S67} {B : List S78} {C : List S155} {E : List Int} {F F' : List Row}
end
def inB (a lo hi : Int) : Bool := decide (lo ≤ a) && decide (a ≤ hi)
theorem l1In_f (a lo hi : Int) : spec_l1In.f a lo hi = some (inB a lo hi) := by
  unfold spec_l1In.f inB
  by_cases h : a ≥ lo
  · rw [if_pos h, decide_eq_true (show lo ≤ a from h), Bool.true_and]
  · rw [if_neg h, decide_eq_false (show ¬ lo ≤ a from h), Bool.false_and]
theorem WR.out {r : Row} {w : World} {base : Nat} {v0 v1 v2 v3 : Value} {hs : List (Value × Value)} {T : List S67} {B : List S78} {C : List S155} {E : List Int} {F : List Row} (h : WR w base v0 v1 v2 v3 hs T B C E (r :: F)) : Lay w base (r :: rTh v0 T :: rTa v1 hs :: rLo v2 C :: rI v3 E :: (tabRows hs B ++ F)) :=
  h.2.perm (List.perm_middle (l₁ := rTh v0 T :: rTa v1 hs :: rLo v2 C :: rI v3 E :: tabRows hs B) (l₂ := F) (a := r))
theorem Lay.len_le {w : World} {base : Nat} {r : Row} {L : List Row} (h : Lay w base (r :: L)) : r.n ≤ 9223372036854775807 := by
  rcases h.head.2 with ⟨_, h0⟩ | ⟨g, cap, cur, _, _, _, h1, h2, _⟩
  · omega
  · simp only [maxLen] at h2; omega

theorem Lay.cons {w : World} {base : Nat} {r : Row} {L : List Row} (h : Lay w base L) (hr : r.ok w base) (hk : ∀ k, r.v.ownBlock = some k → k ∉ blks L) : Lay w base (r :: L) := by
  refine ⟨fun x hx => ?_, ?_⟩
  · rcases List.mem_cons.mp hx with rfl | hx
    · exact hr
    · exact h.1 x hx
  · show (List.filterMap _ (r :: L)).Nodup
    rw [List.filterMap_cons]
    cases hv : r.v.ownBlock with
    | none => exact h.2
    | some g => exact List.nodup_cons.mpr ⟨hk g hv, h.2⟩
theorem blks_cons (r : Row) (L : List Row) (k : Nat) : k ∈ blks (r :: L) ↔ r.v.ownBlock = some k ∨ k ∈ blks L := by
  unfold blks
  rw [List.filterMap_cons]
  cases hv : r.v.ownBlock with
  | none => simp
  | some g => simp [eq_comm]
theorem blks_app (L M : List Row) : blks (L ++ M) = blks L ++ blks M := by unfold blks; rw [List.filterMap_append]
def ofT (w : World) (k : Nat) (e : Nat) : Prop := ∃ cells, w.heap[k]? = some (.cells cells e (0, 0))
theorem ofT_one {w : World} {k e e' : Nat} (h : ofT w k e) (h' : ofT w k e') : e = e' := by
  obtain ⟨c, h⟩ := h
  obtain ⟨c', h'⟩ := h'
  rw [h] at h'
  simp only [Option.some.injEq, Obj.cells.injEq] at h'
  exact h'.2.1
theorem ok_ofT {w : World} {base k : Nat} {r : Row} (h : r.ok w base) (hk : r.v.ownBlock = some k) : ofT w k r.e := own_typed h k hk
theorem tab_rows (w : World) (base : Nat) (okb : Nat → Prop) (f : Nat → Nat) : ∀ (B : List S78) (j0 : Nat) (inner : List Value), Reps (fun (p : S78 × Nat) cs => k78.M w base (fun k => okb k ∧ f k = p.2) p.1 cs) 2 (B.zipIdx j0) inner →
    ∃ hs, hs.length = B.length ∧ inner = hs.flatMap pc ∧ (∀ r ∈ tabRows hs B, r.ok w base) ∧ (blks (tabRows hs B)).Nodup ∧ ∀ k ∈ blks (tabRows hs B), okb k ∧ j0 ≤ f k ∧ (ofT w k 75 ∨ ofT w k 3)
  | [], j0, inner, h => by
    have := h.1
    simp only [List.zipIdx_nil, List.length_nil, Nat.zero_mul] at this
    rw [List.eq_nil_of_length_eq_zero this]
    exact ⟨[], rfl, rfl, by simp [tabRows], by simp [tabRows, blks], by simp [tabRows, blks]⟩
  | t :: B, j0, inner, h => by
    rw [List.zipIdx_cons] at h
    have h0 := h.2 0 (t, j0) rfl
    rw [Nat.zero_mul, List.drop_zero] at h0
    obtain ⟨x0, x1, e, r0, r1⟩ := k78_openM h0
    obtain ⟨hs, hl, hi, hok, hnd, hkk⟩ := tab_rows w base okb f B (j0 + 1) (inner.drop 2) ⟨by rw [List.length_drop, h.1, List.length_cons, Nat.succ_mul]; omega, fun j p hp => by
      have := h.2 (j + 1) p (by simpa using hp)
      rwa [List.drop_drop, show 2 + j * 2 = (j + 1) * 2 by omega]⟩
    have o0 := R_rS r0
    have o1 := R_rI r1
    have a0 : ∀ k, x0.ownBlock = some k → okb k ∧ f k = j0 := r0.1
    have a1 : ∀ k, x1.ownBlock = some k → okb k ∧ f k = j0 := r1.1
    have t0 : ∀ k, x0.ownBlock = some k → ofT w k 75 := fun k hk => ok_ofT o0 hk
    have t1 : ∀ k, x1.ownBlock = some k → ofT w k 3 := fun k hk => ok_ofT o1 hk
    refine ⟨(x0, x1) :: hs, by simp [hl], ?_, ?_, ?_, ?_⟩
    · rw [List.flatMap_cons, show pc (x0, x1) = [x0, x1] from rfl, ← e, ← hi, List.take_append_drop]
    · intro r hr
      simp only [tabRows, List.mem_cons] at hr
      rcases hr with rfl | rfl | hr
      · exact o0
      · exact o1
      · exact hok r hr
    · have n1 : ∀ k, x1.ownBlock = some k → k ∉ blks (tabRows hs B) := fun k hk hm => by
        have := (hkk k hm).2.1
        have := (a1 k hk).2
        omega
      have n0 : ∀ k, x0.ownBlock = some k → k ∉ blks (rI x1 t.f1 :: tabRows hs B) := fun k hk hm => by
        rcases (blks_cons _ _ _).mp hm with h1 | hm
        · exact absurd (ofT_one (t0 k hk) (t1 k h1)) (by decide)
        · have := (hkk k hm).2.1
          have := (a0 k hk).2
          omega
      have c1 : (blks (rI x1 t.f1 :: tabRows hs B)).Nodup := by
        unfold blks
        rw [List.filterMap_cons]
        cases hv : (rI x1 t.f1).v.ownBlock with
        | none => exact hnd
        | some g => exact List.nodup_cons.mpr ⟨n1 g hv, hnd⟩
      show (List.filterMap _ (rS x0 t.f0 :: rI x1 t.f1 :: tabRows hs B)).Nodup
      rw [List.filterMap_cons]
      cases hv : (rS x0 t.f0).v.ownBlock with
      | none => exact c1
      | some g => exact List.nodup_cons.mpr ⟨n0 g hv, c1⟩
    · intro k hm
      simp only [tabRows] at hm
      rcases (blks_cons _ _ _).mp hm with h1 | hm
      · exact ⟨(a0 k h1).1, Nat.le_of_eq (a0 k h1).2.symm, .inl (t0 k h1)⟩
      · rcases (blks_cons _ _ _).mp hm with h1 | hm
        · exact ⟨(a1 k h1).1, Nat.le_of_eq (a1 k h1).2.symm, .inr (t1 k h1)⟩
        · have := hkk k hm
          exact ⟨this.1, by omega, this.2.2⟩
/-- Rows as the print tells them, as a world's rows. -/
theorem WR.ofR {w w1 : World} {base : Nat} {v0 v1 v2 v3 : Value} {T : List S67} {B : List S78} {C : List S155} {E : List Int} {F : List Row} (hF : Lay w base F) (hb : Below w.heap.size w w1) (hz : base ≤ w.heap.size)
    (r0 : Kd.R k67 67 w1 w.heap.size (fun _ => True) v0 T) (r1 : Kd.S k78 78 w1 w.heap.size (fun k_ => some k_ ≠ (v3 : Value).ownBlock) v1 B) (r2 : Kd.R k155 155 w1 w.heap.size (fun _ => True) v2 C) (r3 : Kd.R (Kd.int .i64) 3 w1 w.heap.size (fun _ => True) v3 E) :
    ∃ hs, WR w1 base v0 v1 v2 v3 hs T B C E F := by
  obtain ⟨f, h0, inner, ho, hr⟩ := r1
  obtain ⟨hs, hl, hi, hok, hnd, hkk⟩ := tab_rows w1 w.heap.size (fun k => (some k ≠ v3.ownBlock) ∧ some k ≠ v1.ownBlock) f B 0 inner (by
    refine ⟨hr.1, fun j p hp => ?_⟩
    exact k78.M_mono (fun k hk => ⟨hk.1, hk.2⟩) (hr.2 j p hp))
  subst hi
  rw [List.length_zipIdx] at ho
  have oT := R_rTh r0
  have oC := R_rLo r2
  have oE := R_rI r3
  have oB : (rTa v1 hs).ok w1 w.heap.size := by
    have ho' : w1.ownsRow w.heap.size 78 2 v1 B.length (hs.flatMap pc) := ho
    unfold rTa Row.ok
    rw [hl]
    exact ho'
  have hF1 := hF.below hb
  have hi : ∀ k, k ∈ blks F → k < w.heap.size := fun k hk => (hF.in_ hk).2
  have tb : ∀ k ∈ blks (tabRows hs B), w.heap.size ≤ k := by
    intro k hk
    obtain ⟨r, hr, e⟩ := List.mem_filterMap.mp hk
    exact own_base (hok r hr) k e
  have l0 : Lay w1 base (tabRows hs B ++ F) := by
    refine ⟨fun r hr => ?_, ?_⟩
    · rcases List.mem_append.mp hr with hr | hr
      · exact own_less (hok r hr) hz
      · exact hF1.1 r hr
    · rw [blks_app]
      refine List.nodup_append.mpr ⟨hnd, hF1.2, fun a ha b hb' e => ?_⟩
      have := tb a ha
      have := hi b hb'
      omega
  have inL : ∀ k, k ∈ blks (tabRows hs B ++ F) → k ∈ blks (tabRows hs B) ∨ k ∈ blks F := fun k hk => by rw [blks_app] at hk; exact List.mem_append.mp hk
  have notF : ∀ {r : Row}, r.ok w1 w.heap.size → ∀ k, r.v.ownBlock = some k → k ∉ blks F := fun ho k hk hm => by
    have := own_base ho k hk
    have := hi k hm
    omega
  have l3 : Lay w1 base (rI v3 E :: (tabRows hs B ++ F)) := l0.cons (own_less oE hz) fun k hk hm => by
    rcases inL k hm with hm | hm
    · exact (hkk k hm).1.1 hk.symm
    · exact notF oE k hk hm
  have l2 : Lay w1 base (rLo v2 C :: rI v3 E :: (tabRows hs B ++ F)) := l3.cons (own_less oC hz) fun k hk hm => by
    have ht := ok_ofT oC hk
    rcases (blks_cons _ _ _).mp hm with h1 | hm
    · exact absurd (ofT_one ht (ok_ofT oE h1)) (by simp [rTh, rTa, rLo, rI])
    rcases inL k hm with hm | hm
    · rcases (hkk k hm).2.2 with h | h <;> exact absurd (ofT_one ht h) (by simp [rTh, rTa, rLo, rI])
    · exact notF oC k hk hm
  have l1 : Lay w1 base (rTa v1 hs :: rLo v2 C :: rI v3 E :: (tabRows hs B ++ F)) := l2.cons (own_less oB hz) fun k hk hm => by
    have ht := ok_ofT oB hk
    rcases (blks_cons _ _ _).mp hm with h1 | hm
    · exact absurd (ofT_one ht (ok_ofT oC h1)) (by simp [rTh, rTa, rLo, rI])
    rcases (blks_cons _ _ _).mp hm with h1 | hm
    · exact absurd (ofT_one ht (ok_ofT oE h1)) (by simp [rTh, rTa, rLo, rI])
    rcases inL k hm with hm | hm
    · rcases (hkk k hm).2.2 with h | h <;> exact absurd (ofT_one ht h) (by simp [rTh, rTa, rLo, rI])
    · exact notF oB k hk hm
  exact ⟨hs, hl, l1.cons (own_less oT hz) fun k hk hm => by
    have ht := ok_ofT oT hk
    rcases (blks_cons _ _ _).mp hm with h1 | hm
    · exact absurd (ofT_one ht (ok_ofT oB h1)) (by simp [rTh, rTa, rLo, rI])
    rcases (blks_cons _ _ _).mp hm with h1 | hm
    · exact absurd (ofT_one ht (ok_ofT oC h1)) (by simp [rTh, rTa, rLo, rI])
    rcases (blks_cons _ _ _).mp hm with h1 | hm
    · exact absurd (ofT_one ht (ok_ofT oE h1)) (by simp [rTh, rTa, rLo, rI])
    rcases inL k hm with hm | hm
    · rcases (hkk k hm).2.2 with h | h <;> exact absurd (ofT_one ht h) (by simp [rTh, rTa, rLo, rI])
    · exact notF oT k hk hm⟩
theorem wr_C78 {w : World} {base n c : Nat} {A : Option Addr} {v0 v2 v3 : Value} {hs : List (Value × Value)} {T : List S67} {B : List S78} {C : List S155} {E : List Int} {F : List Row} (h : WR w base v0 (.slice A n c) v2 v3 hs T B C E F) : n = B.length ∧ n ≤ c ∧ k78.C w A B.length B := by
  have hT := h.2.tail
  obtain ⟨A', c', hv, hc⟩ := hT.slice
  simp only [rTa, Value.slice.injEq] at hv
  obtain ⟨rfl, hn, rfl⟩ := hv
  have hl := h.1
  have hn' : n = B.length := by rw [hn, hl]
  subst hn'
  refine ⟨rfl, by simp only [rTa] at hc; omega, rfl, ?_, fun hn0 => ?_⟩
  · have := hT.len_le
    simp only [rTa] at this
    omega
  · obtain ⟨g, c2, hv, _, _⟩ := hT.form (by simp only [rTa]; omega)
    simp only [rTa, Value.slice.injEq] at hv
    obtain ⟨rfl, _, rfl⟩ := hv
    refine ⟨_, rfl, fun j p hj => ?_⟩
    have hjl : j < B.length := (List.getElem?_eq_some_iff.mp hj).1
    have hjh : j < hs.length := by omega
    have hp := (h.2.perm ((((tab_at hs B j hl hjl).append_right F).append_left [rTh v0 T, rTa (.slice (some ⟨g, 0, none⟩) B.length c) hs, rLo v2 C, rI v3 E]).trans (perm_front2 _ _ [rTh v0 T, rTa (.slice (some ⟨g, 0, none⟩) B.length c) hs, rLo v2 C, rI v3 E] _)))
    obtain ⟨Aa, ca, ea⟩ := hp.hdS rfl
    obtain ⟨Ab, cb, eb⟩ := hp.tail.hdI rfl
    rw [ea, eb] at hp
    obtain ⟨-, l0, C0⟩ := C75 hp
    obtain ⟨-, l1, C1⟩ := CI hp.tail
    have hBj : rd_T78 B (j : Int) = p := by
      rw [rd78_get B j hjl]
      rw [List.getElem?_eq_getElem hjl] at hj
      exact Option.some.inj hj
    rw [hBj] at ea eb l0 C0 l1 C1
    refine ⟨[.slice Aa p.f0.length ca, .slice Ab p.f1.length cb], rfl, k78_mk w p l0 C0 l1 C1, fun i u hu => ?_⟩
    have hil : i < 2 := (List.getElem?_eq_some_iff.mp hu).1
    have hg := flat_get pc_len hs j i hjh hil
    rw [← hdr_get hs j hjh] at hg
    rw [add_plain]
    have hT2 := hT
    unfold rTa at hT2
    rw [← hl] at hT2
    refine hT2.cell _ ?_
    show (hs.flatMap pc)[j * 2 + i]? = some u
    rw [hg, ← hu]
    unfold pc
    rw [ea, eb]
end Go.Proofs.Ytdoflfifnkpacaa.WO.LA
