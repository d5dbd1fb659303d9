/-
  What a call does, told without addresses: a state, steps, and that the code follows them.
-/
import Derived.Test.YtljdidlkiknknaaDoorC26AbB
namespace Go.Proofs.YtljdidlkiknknaaDoor.AB
open Go Go.RowKit Go.Proofs.YtljdidlkiknknaaDoorW.PrintWords Go.Proofs.YtljdidlkiknknaaDoorW.PrintMore
set_option linter.unusedSimpArgs false
set_option linter.unusedVariables false
section
variable {P : Program} {F : Frm} {σ : St}
/-- What came in keeps its place. -/
def PrefOk (F : Frm) (ks : List Nat) : Prop := ks.take F.k = List.range F.k
theorem pref_of {F : Frm} {k : Nat} {ks : List Nat} (h : F.k = k) (h2 : ks.take k = List.range k) : PrefOk F ks := by unfold PrefOk; rw [h]; exact h2
def St.pack (ts ks : List Nat) (σ : St) : Option St := match packT ts ks 0 σ.tm, packO σ ks ks with
  | some tm, some ob => some ⟨tm, ob⟩
  | _, _ => none
theorem SimX.pack {σ' : St} {ts ks : List Nat} (hpr : PrefOk F ks) (hp : σ.pack ts ks = some σ') {a : Act} {w : World} (h : SimX F σ a w) : SimX F σ' a w := by
  unfold St.pack at hp
  split at hp
  · rename_i tm ob ht ho
    obtain rfl := Option.some.inj hp
    obtain ⟨m, Z, hs⟩ := h
    obtain ⟨t1, t2⟩ := packT_ok ht
    obtain ⟨o1, o2, o3⟩ := packO_ok ho
    have hlive : ∀ {i : Nat}, St.live ⟨tm, ob⟩ i → ∃ k, ks[i]? = some k ∧ σ.live k := by
      rintro i ⟨o, hl⟩
      obtain ⟨k, p, p', h1, h2, -⟩ := o3 i _ hl
      exact ⟨k, h1, p, h2⟩
    have hm : ∀ {i k : Nat} {v : Value}, ks[i]? = some k → mpK m ks i = some v → m k = some v := fun hk hv => by
      unfold mpK at hv
      rw [hk] at hv
      exact hv
    refine ⟨mpK m ks, Z, hs.tsz.trans t1.symm, fun t x hx => ?_, fun id o hl => ?_, fun id hi => ?_, fun id id' v v' b hl hl' hv hv' hb hb' => ?_, fun id v b hl hv hb => ?_, hs.zb, hs.z0, hs.zn, hs.kp, hs.sz, hs.os, hs.df, hs.tape, hs.output, hs.tb, fun i hi => ?_⟩
    · obtain ⟨y, hy, hr⟩ := t2 t x hx
      obtain ⟨u, h1, h2⟩ := hs.tm t y hy
      exact ⟨u, h1, renV_ok h2 hr⟩
    · obtain ⟨k, p, p', h1, h2, h3, e⟩ := o3 id _ hl
      obtain rfl := Slot.live.inj e
      obtain ⟨v, h4, h5⟩ := hs.ob k p h2
      refine ⟨v, ?_, renO_ok h5 h3⟩
      unfold mpK
      rw [h1]
      exact h4
    · have hnone : ks[id]? = none := by
        rcases hi with hi | hi
        · obtain ⟨k, p, p', h1, h2, h3, e⟩ := o3 id _ hi
          cases e
        · have : ob.length ≤ id := List.getElem?_eq_none_iff.mp hi
          exact List.getElem?_eq_none (by omega)
      unfold mpK
      rw [hnone]
      rfl
    · obtain ⟨k, hk, hlk⟩ := hlive hl
      obtain ⟨k', hk', hlk'⟩ := hlive hl'
      have e := hs.ap k k' v v' b hlk hlk' (hm hk hv) (hm hk' hv') hb hb'
      subst e
      exact nodup_inj o2 hk hk'
    · obtain ⟨k, hk, hlk⟩ := hlive hl
      exact hs.az k v b hlk (hm hk hv) hb
    · obtain ⟨v, h1, h2⟩ := hs.mi i hi
      refine ⟨v, h1, ?_⟩
      have h3 : ks[i]? = some i := by
        have h4 : (ks.take F.k)[i]? = (List.range F.k)[i]? := by rw [hpr]
        rw [List.getElem?_take, if_pos hi, List.getElem?_range hi] at h4
        exact h4
      unfold mpK
      rw [h3]
      exact h2
  · cases hp
/-- A nil slice, taken as a row of one's own. -/
def St.adopt (σ : St) : List (Nat × Nat × Nat) → Option St
  | [] => some σ
  | (t, e, sz) :: l => match σ.tm[t]? with
    | some (some (.t (.c (.i (.v (.slice none 0 0)))))) => St.adopt ⟨σ.tm.set t (some (.t (.c (.os σ.ob.length)))), (room1 σ).ob.set σ.ob.length (.live (.row e sz []))⟩ l
    | _ => none
theorem SimX.adopt {a : Act} {w : World} : ∀ {l : List (Nat × Nat × Nat)} {σ σ' : St}, σ.adopt l = some σ' → SimX F σ a w → SimX F σ' a w
  | [], σ, σ', h, hs => by simp only [St.adopt, Option.some.injEq] at h; subst h; exact hs
  | (t, e, sz) :: l, σ, σ', h, hs => by
    simp only [St.adopt] at h
    split at h
    · rename_i ht
      refine SimX.adopt h ?_
      obtain ⟨m, Z, hm⟩ := hs
      have hm := hm.room 1
      have hf := room1_free σ
      have hn : m σ.ob.length = none := hm.fr _ (.inl hf)
      have hmm : ∀ i v, m i = some v → (fun i => if i = σ.ob.length then some (Value.slice none 0 0) else m i) i = some v := by
        intro i v hv
        by_cases e : i = σ.ob.length
        · subst e; rw [hn] at hv; cases hv
        · simp [e, hv]
      have h1 := hm.upd (m' := fun i => if i = σ.ob.length then some (Value.slice none 0 0) else m i) (w' := w) σ.ob.length (.live (.row e sz [])) none ⟨rfl, rfl, rfl, Nat.le_refl _⟩ (fun b hb => by cases hb) (fun _ _ _ => rfl) (fun i hi => by simp [hi]) (fun v hv => hmm _ v hv) (List.getElem?_eq_some_iff.mp hf).1 (by simp) (fun o ho => by
        obtain rfl := Slot.live.inj ho
        exact ⟨_, by simp, ⟨[], own_nil w 0 e sz, All2.nil, fun us hu => by simp at hu⟩, fun b hb => by cases hb⟩)
      obtain ⟨u, h2, h3⟩ := hm.tm t _ ht
      have hu : RepI w Z (.v (.slice none 0 0)) u := h3
      cases hu
      have h4 := h1.put t (x := .t (.c (.os σ.ob.length))) (u := .slice none 0 0) ⟨by simp, _, _, _, rfl⟩
      have ha : a.put (some t) (.slice none 0 0) = a := by
        have e1 : a.tmps.setIfInBounds t (.slice none 0 0) = a.tmps := by
          obtain ⟨hlt, e⟩ := Array.getElem?_eq_some_iff.mp h2
          apply Array.ext_getElem?
          intro i
          by_cases hi : t = i
          · subst hi; rw [Array.getElem?_setIfInBounds_self_of_lt hlt, h2]
          · rw [Array.getElem?_setIfInBounds_ne hi]
        show ({ a with tmps := a.tmps.setIfInBounds t (.slice none 0 0) } : Act) = a
        rw [e1]
      rw [ha] at h4
      exact ⟨_, Z, h4⟩
    · cases h
/-- To the function's end: what it answers; fz: what is given up there. -/
def runR (P : Program) (fn : Func) (n : Nat) (K : List It) (e : AE) (σ : St) (gs fz : List Gs) : Option (List Prop × AV) := (run P n K e σ gs).bind fun q => match q.2 with
  | .fin (.exit _) _ => none
  | .fin _ σ' => (fzs fz σ').bind fun p => match resP P p.1 fn.results.toList with
    | some r => if r.imm = true then some (q.1, r) else none
    | none => none
  | _ => none
theorem fin_ok {fn : Func} {r r' : AV} {n : Nat} {K : List It} {e : AE} {gs : List Gs} (fz : List Gs) {ob : List Prop} (h : runR P fn n K e σ gs fz = some (ob, r')) (hob : Obs ob) (hr : r' = r) : AX P F (QF P F fn r) K e σ := by
  subst hr
  obtain ⟨⟨ob', s⟩, h1, h2⟩ := bind_some h
  have key : ∀ (e' : AE) (σ' : St), (e' = .normal ∨ e' = .ret) → s = .fin e' σ' → ((fzs fz σ').bind fun p => match resP P p.1 fn.results.toList with
      | some r => if r.imm = true then some (ob', r) else none
      | none => none) = some (ob, r') → AX P F (QF P F fn r') K e σ := by
    intro e' σ' he hse h3
    subst hse
    obtain ⟨⟨σ1, gs1⟩, h4, h5⟩ := bind_some h3
    split at h5
    · rename_i r1 hr1
      split at h5
      · rename_i him
        simp only [Option.some.injEq, Prod.mk.injEq] at h5
        obtain ⟨rfl, rfl⟩ := h5
        refine run_ok n K e σ gs h1 hob fun a w hs => ⟨?_, σ1, fzs_ok h4 hs, hr1, him⟩
        rcases he with rfl | rfl
        · exact .inl rfl
        · exact .inr rfl
      · cases h5
    · cases h5
  cases s with
  | fin e' σ' =>
    cases e' with
    | normal => exact key _ _ (.inl rfl) rfl h2
    | ret => exact key _ _ (.inr rfl) rfl h2
    | exit id => cases h2
  | head b K' σ' => cases h2
  | draw id ops K' σ' => cases h2
  | inv R σ' => cases h2
/-- To the end of a round: the state there, packed. -/
def runI (P : Program) (n : Nat) (K : List It) (e : AE) (σ : St) (gs : List Gs) (ts ks : List Nat) : Option (List Prop × (Act → World → Prop) × St) := (run P n K e σ gs).bind fun q => match q.2 with
  | .inv R σ' => (σ'.pack ts ks).map fun σ'' => (q.1, R, σ'')
  | _ => none
theorem inv_ok {Q : Exit → Act → World → Prop} {R : Act → World → Prop} {n : Nat} {K : List It} {e : AE} {gs : List Gs} (ts ks : List Nat) {ob : List Prop} {σ' : St} (h : runI P n K e σ gs ts ks = some (ob, R, σ')) (hob : Obs ob) (hR : ∀ a w, SimX F σ' a w → R a w) (hpr : PrefOk F ks := by exact pref_of (by assumption) rfl) : AX P F Q K e σ := by
  obtain ⟨⟨ob', s⟩, h1, h2⟩ := bind_some h
  cases s with
  | fin e' σ' => cases h2
  | head b K' σ' => cases h2
  | draw id ops K' σ' => cases h2
  | inv R' σ1 =>
    obtain ⟨σ2, h3, h4⟩ := Option.map_eq_some_iff.1 h2
    simp only [Prod.mk.injEq] at h4
    obtain ⟨rfl, rfl, rfl⟩ := h4
    exact run_ok n K e σ gs h1 hob fun a w hs => hR a w (hs.pack hpr h3)
def mkT_ (n : Nat) (l : List (Nat × AV)) : List (Option AV) := l.foldl (fun t p => t.set p.1 (some p.2)) (List.replicate n none)
/-- Short words: whole numbers, bools, strings, as cells and as values. -/
def nI (n : Int) : IV := .v (.int .i64 n)
def bI (b : Bool) : IV := .v (.bool b)
def sI (s : ByteArray) : IV := .v (.string s)
abbrev tI (x : IV) : TV := .c (.i x)
abbrev aI (x : IV) : AV := .t (.c (.i x))
/-- The i-th loop of a code: its body, and what follows it. -/
def loopsOf : Code → List (Code × List It)
  | .loop b => (b, []) :: loopsOf b
  | .seq a b => (loopsOf a).map (fun q => (q.1, q.2 ++ [.code b])) ++ loopsOf b
  | .block id c => (loopsOf c).map fun q => (q.1, q.2 ++ [.blk id])
  | .cond _ a b => loopsOf a ++ loopsOf b
  | _ => []
def codeOf (fn : Func) : Code := match fn.body with
  | some c => c
  | none => .skip
def lB (c : Code) (i : Nat) : Code := ((loopsOf c)[i]?.map (·.1)).getD .skip
def lK (c : Code) (i : Nat) : List It := ((loopsOf c)[i]?.map (·.2)).getD []
end
end Go.Proofs.YtljdidlkiknknaaDoor.AB
namespace Go.Proofs.YtljdidlkiknknaaDoor.AB
open Go Go.RowKit Go.Proofs.YtljdidlkiknknaaDoorW.PrintWords Go.Proofs.YtljdidlkiknknaaDoorW.PrintMore
set_option linter.unusedSimpArgs false
set_option linter.unusedVariables false
section
variable {P : Program} {F : Frm} {σ : St}
theorem wpOp_of_list {ops : Array Oper} {Q : Exit → Act → World → Prop} {i : Nat} {o : Oper} {K : Act → World → Prop} {a : Act} {w : World} (ho : ops[i]? = some o) (h : wpList P ops (Exit.then K Q) [o] a w) : wpOp P ops Q i K a w := by
  unfold wpOp
  rw [ho]
  simp only
  unfold wpList at h
  split at h
  · rename_i hw
    rw [if_pos hw]
    rcases h with h | ⟨h1, a', w', h2⟩
    · refine .inl ?_
      unfold Oper.wp at h ⊢
      generalize (execOp a.eval o).run P w = r at *
      cases r with
      | ok n w' =>
        cases n <;> simp only [Oper.upon] at h ⊢ <;> exact h
      | halt x w' => cases x <;> simp only [Oper.upon] at h ⊢ <;> exact h
    · exact .inr ⟨h1, a', w', h2⟩
  · rename_i hw
    rw [if_neg hw]
    exact h
/-- The states of the text's own order. -/
def canon (P : Program) (ops : Array Oper) : List Oper → List (List Gs) → St → Option (List (List Prop × St))
  | [], _, _ => some []
  | o :: l, gss, σ => (runOps P ops [o] [] (gss.headD []) σ).bind fun r => (canon P ops l gss.tail r.2.1).map fun q => (r.1, r.2.1) :: q
/-- What an operation changes: its temporary, and, where it is loud, the objects. -/
def loudO (o : Op) : Bool := match o with
  | .alloc _ | .box .. | .store .. | .buildSlice .. | .makeSlice .. => true
  | .call ⟨.builtin .append, _, _⟩ => true
  | _ => false
def sofar : List Oper → List (List Prop × St) → List Bool → St → St
  | o :: l, c :: cs, b :: bs, σ => sofar l cs bs (if b then ⟨match o.dst with
      | some d => match c.2.tm[d]? with
        | some x => σ.tm.set d x
        | none => σ.tm
      | none => σ.tm, if loudO o.op then c.2.ob else σ.ob⟩ else σ)
  | _, _, _, σ => σ
/-- The sets of operations that may have come up after k. -/
def levels (ops : Array Oper) : Nat → List (Array Bool)
  | 0 => [Array.replicate ops.size false]
  | k + 1 => ((levels ops k).flatMap fun D => (Region.ready .any ops D).map fun i => D.setIfInBounds i true).eraseDups
def cases_ (ops : Array Oper) : List (Array Bool × Nat) := (List.range ops.size).flatMap fun k => (levels ops k).flatMap fun D => (Region.ready .any ops D).map fun i => (D, i)
def drawL (P : Program) (ops : Array Oper) (gss : List (List Gs)) (cs : List (List Prop × St)) (σ : St) : List (Option (List Prop × St)) :=
  (cases_ ops).map fun q => match ops[q.2]? with
    | some o => (runOps P ops [o] [] (gss.getD q.2 []) (sofar ops.toList cs q.1.toList σ)).map fun r => (r.1, r.2.1)
    | none => none
def drawR (ops : Array Oper) (cs : List (List Prop × St)) (σ : St) : List (Option (List Prop × St)) :=
  (cases_ ops).map fun q => match cs[q.2]? with
    | some c => some (c.1, sofar ops.toList cs (q.1.setIfInBounds q.2 true).toList σ)
    | none => none
def obsOf : List (List Prop × St) → List Prop
  | [] => []
  | c :: cs => c.1 ++ obsOf cs
theorem obsOf_get : ∀ {cs : List (List Prop × St)}, Obs (obsOf cs) → ∀ {i : Nat} {c : List Prop × St}, cs[i]? = some c → Obs c.1
  | [], _, i, c, h => by simp at h
  | c0 :: cs, hob, 0, c, h => by simp at h; subst h; exact (Obs_app hob).1
  | c0 :: cs, hob, i + 1, c, h => by simp at h; exact obsOf_get (Obs_app hob).2 h
theorem mem_levels {ops : Array Oper} {k : Nat} {D : Array Bool} (hD : D ∈ levels ops k) {i : Nat} (hi : i ∈ Region.ready .any ops D) : D.setIfInBounds i true ∈ levels ops (k + 1) := by
  unfold levels
  rw [List.mem_eraseDups]
  exact List.mem_flatMap.mpr ⟨D, hD, List.mem_map.mpr ⟨i, hi, rfl⟩⟩
def drawB (ops : Array Oper) : Bool := (List.range ops.size).all (fun k => (levels ops k).all fun D => !(Region.ready .any ops D).isEmpty) && (levels ops ops.size).all fun D => (Region.ready .any ops D).isEmpty
/-- The whole region: all orders lead to the state of the text's own. -/
theorem draw_ok {Q : Exit → Act → World → Prop} {id : Nat} {ops : Array Oper} {K : List It} (gss : List (List Gs)) {cs : List (List Prop × St)} {σ' : St} (hm : P.follows .mixedOrders = true) (hc : canon P ops ops.toList gss σ = some cs) (hob : Obs (obsOf cs)) (hcmp : drawL P ops gss cs σ = drawR ops cs σ)
    (hlen : cs.length = ops.size) (hall : (levels ops ops.size).map (fun D => sofar ops.toList cs D.toList σ) = (levels ops ops.size).map fun _ => σ') (hB : drawB ops = true) (hR : AX P F Q K .normal σ') : AX P F Q (.code (.region id ops true) :: K) .normal σ := by
  intro a w hs
  show (Code.region id ops true).wp P (den P Q K) a w
  refine wp_region_any hm ?_
  obtain ⟨hB1, hB2⟩ := (Bool.and_eq_true _ _).mp (show (_ && _) = true from hB)
  have key : ∀ (n k : Nat) (D : Array Bool) (a : Act) (w : World), k + n = ops.size → D ∈ levels ops k → SimX F (sofar ops.toList cs D.toList σ) a w → wpAny P .any ops (den P Q K) n D a w := by
    intro n
    induction n with
    | zero =>
      intro k D a w hk hD hs
      have hkk : k = ops.size := by omega
      subst hkk
      have he : sofar ops.toList cs D.toList σ = σ' := by
        obtain ⟨j, hj, ej⟩ := List.mem_iff_getElem.mp hD
        have h1 := congrArg (fun l => l[j]?) hall
        simp only [List.getElem?_map, List.getElem?_eq_getElem hj, ej, Option.map_some, Option.some.injEq] at h1
        exact h1
      refine ⟨?_, hR a w (he ▸ hs)⟩
      simpa using List.all_eq_true.mp hB2 D hD
    | succ n ih =>
      intro k D a w hk hD hs
      have hne : Region.ready .any ops D ≠ [] := by
        have := List.all_eq_true.mp (List.all_eq_true.mp hB1 k (List.mem_range.mpr (by omega))) D hD
        simpa using this
      refine ⟨fun he => absurd he hne, fun i hi => ?_⟩
      have hmem : (D, i) ∈ cases_ ops := List.mem_flatMap.mpr ⟨k, List.mem_range.mpr (by omega), List.mem_flatMap.mpr ⟨D, hD, List.mem_map.mpr ⟨i, hi, rfl⟩⟩⟩
      obtain ⟨j, hj, ej⟩ := List.mem_iff_getElem.mp hmem
      have h1 : (drawL P ops gss cs σ)[j]? = (drawR ops cs σ)[j]? := by rw [hcmp]
      unfold drawL drawR at h1
      rw [List.getElem?_map, List.getElem?_map, List.getElem?_eq_getElem hj, ej] at h1
      simp only [Option.map_some, Option.some.injEq] at h1
      obtain ⟨hiu, o, ho, -⟩ := mem_ready.1 hi
      have hil : i < ops.size := (Array.getElem?_eq_some_iff.mp ho).1
      have hci : cs[i]? = some cs[i] := List.getElem?_eq_getElem (by omega)
      rw [ho, hci] at h1
      simp only at h1
      obtain ⟨⟨ob1, σ1, gs1⟩, h2, h3⟩ := Option.map_eq_some_iff.1 h1
      simp only [Prod.mk.injEq] at h3
      obtain ⟨h3a, h3b⟩ := h3
      refine wpOp_of_list ho (runOps_ok [o] h2 (by rw [h3a]; exact obsOf_get hob hci) hs fun a' w' h4 => ?_)
      exact ih (k + 1) _ a' w' (by omega) (mem_levels hD hi) (by rw [← h3b]; exact h4)
  have h0 : sofar ops.toList cs (Array.replicate ops.size false).toList σ = σ := by
    have : ∀ (l : List Oper) (cs : List (List Prop × St)) (n : Nat) (σ : St), sofar l cs (List.replicate n false) σ = σ := by
      intro l
      induction l with
      | nil => intro cs n σ; cases n <;> rfl
      | cons o l ih =>
        intro cs n σ
        cases cs with
        | nil => cases n <;> rfl
        | cons c cs =>
          cases n with
          | zero => rfl
          | succ n => exact ih cs n σ
    simpa using this ops.toList cs ops.size σ
  refine key ops.size 0 _ a _ (by omega) (by simp [levels]) ?_
  rw [h0]
  obtain ⟨m, Z, hm'⟩ := hs
  exact ⟨m, Z, hm'.drewN 1⟩
end
end Go.Proofs.YtljdidlkiknknaaDoor.AB
namespace Go.Proofs.YtljdidlkiknknaaDoor.AB
open Go Go.RowKit Go.Proofs.YtljdidlkiknknaaDoorW.PrintWords Go.Proofs.YtljdidlkiknknaaDoorW.PrintMore
set_option linter.unusedSimpArgs false
set_option linter.unusedVariables false
section
variable {P : Program} {F : Frm} {σ : St}
/-- What follows each region that draws. -/
def drawsOf : Code → List (List It)
  | .region _ _ true => [[]]
  | .loop b => drawsOf b
  | .seq a b => (drawsOf a).map (fun q => q ++ [.code b]) ++ drawsOf b
  | .block id c => (drawsOf c).map fun q => q ++ [.blk id]
  | .cond _ a b => drawsOf a ++ drawsOf b
  | _ => []
def dK (c : Code) (i : Nat) : List It := (drawsOf c).getD i []
def drawDat (P : Program) (n : Nat) (K : List It) (e : AE) (σ : St) (gs : List Gs) (gss : List (List Gs)) : Option (List Prop × Array Oper × List (List Prop × St) × List It × St) := (run P n K e σ gs).bind fun q => match q.2 with
  | .draw _ ops K' σ' => (canon P ops ops.toList gss σ').map fun cs => (q.1, ops, cs, K', σ')
  | _ => none
def lastS (cs : List (List Prop × St)) (σ : St) : St := match cs.getLast? with
  | some c => c.2
  | none => σ
def runD (P : Program) (n : Nat) (K : List It) (e : AE) (σ : St) (gs : List Gs) (gss : List (List Gs)) (ts ks : List Nat) : Option (List Prop × List It × St) := (drawDat P n K e σ gs gss).bind fun d => (St.pack ts ks (lastS d.2.2.1 d.2.2.2.2)).map fun σ3 => (d.1 ++ obsOf d.2.2.1, d.2.2.2.1, σ3)
def drawOk1 (P : Program) (gss : List (List Gs)) (d : Option (List Prop × Array Oper × List (List Prop × St) × List It × St)) : List (Option (List Prop × St)) := match d with
  | some d => drawL P d.2.1 gss d.2.2.1 d.2.2.2.2 ++ (levels d.2.1 d.2.1.size).map fun D => some ([], sofar d.2.1.toList d.2.2.1 D.toList d.2.2.2.2)
  | none => []
def drawOk2 (d : Option (List Prop × Array Oper × List (List Prop × St) × List It × St)) : List (Option (List Prop × St)) := match d with
  | some d => drawR d.2.1 d.2.2.1 d.2.2.2.2 ++ (levels d.2.1 d.2.1.size).map fun _ => some ([], lastS d.2.2.1 d.2.2.2.2)
  | none => []
def drawOk3 (d : Option (List Prop × Array Oper × List (List Prop × St) × List It × St)) : Bool := match d with
  | some d => drawB d.2.1 && (d.2.2.1.length == d.2.1.size)
  | none => true
theorem drw_ok {Q : Exit → Act → World → Prop} {n : Nat} {K K' : List It} {e : AE} {gs : List Gs} (gss : List (List Gs)) (ts ks : List Nat) {ob : List Prop} {σ' : St} (h : runD P n K e σ gs gss ts ks = some (ob, K', σ')) (hob : Obs ob) (hR : AX P F Q K' .normal σ')
    (hm : P.follows .mixedOrders = true := by kernel_rfl) (h1 : drawOk1 P gss (drawDat P n K e σ gs gss) = drawOk2 (drawDat P n K e σ gs gss) := by kernel_rfl) (h3 : drawOk3 (drawDat P n K e σ gs gss) = true := by kernel_rfl) (hpr : PrefOk F ks := by exact pref_of (by assumption) rfl) : AX P F Q K e σ := by
  obtain ⟨⟨ob0, ops, cs, K1, σ1⟩, hd, h4⟩ := bind_some h
  rw [hd] at h1 h3
  obtain ⟨σ3, hp, h5⟩ := Option.map_eq_some_iff.1 h4
  simp only [Prod.mk.injEq] at h5
  obtain ⟨rfl, rfl, rfl⟩ := h5
  obtain ⟨o1, o2⟩ := Obs_app hob
  obtain ⟨⟨ob', s⟩, hr, h6⟩ := bind_some hd
  cases s with
  | fin e' σ' => cases h6
  | head b K' σ' => cases h6
  | inv R σ' => cases h6
  | draw id ops' K' σ' =>
    obtain ⟨cs', hc, h7⟩ := Option.map_eq_some_iff.1 h6
    simp only [Prod.mk.injEq] at h7
    obtain ⟨rfl, rfl, rfl, rfl, rfl⟩ := h7
    refine run_ok n K e σ gs hr o1 ?_
    simp only [drawOk3, Bool.and_eq_true, beq_iff_eq] at h3
    have hl : (drawL P ops' gss cs' σ').length = (drawR ops' cs' σ').length := by simp [drawL, drawR]
    have h8 := List.append_inj h1 hl
    have h9 : (levels ops' ops'.size).map (fun D => sofar ops'.toList cs' D.toList σ') = (levels ops' ops'.size).map fun _ => lastS cs' σ' := by
      have := congrArg (List.map fun x : Option (List Prop × St) => match x with
        | some y => y.2
        | none => σ') h8.2
      simpa [List.map_map, Function.comp_def] using this
    exact draw_ok (id := id) gss hm hc o2 h8.1 h3.2 h9 h3.1 fun a w hs => hR a w (hs.pack hpr hp)
end
end Go.Proofs.YtljdidlkiknknaaDoor.AB
namespace Go.Proofs.YtljdidlkiknknaaDoor.AB
open Go Go.RowKit Go.Proofs.YtljdidlkiknknaaDoorW.PrintWords Go.Proofs.YtljdidlkiknknaaDoorW.PrintMore
set_option linter.unusedSimpArgs false
set_option linter.unusedVariables false
section
variable {P : Program}
def Le (tm tm2 : List (Option AV)) : Prop := ∀ (t : Nat) (x : AV), tm[t]? = some (some x) → tm2[t]? = some (some x)
def upd (tm : List (Option AV)) (ob : List Slot) (d : Option Nat) (v : AV) : St := St.put ⟨tm, ob⟩ d v
theorem evle {tm tm2 : List (Option AV)} {ob : List Slot} (h : Le tm tm2) (x : Operand) : (St.mk tm ob).ev x = none ∨ (St.mk tm2 ob).ev x = (St.mk tm ob).ev x := by
  cases x with
  | tmp t =>
    simp only [St.ev]
    split
    · rename_i y he
      refine .inr ?_
      rw [h t y he]
    · exact .inl rfl
  | const v => exact .inr rfl
  | func f => exact .inr rfl
  | global g => exact .inr rfl
theorem argsle {tm tm2 : List (Option AV)} {ob : List Slot} (h : Le tm tm2) : ∀ (l : List Operand), evArgs (St.mk tm ob) l = none ∨ evArgs (St.mk tm2 ob) l = evArgs (St.mk tm ob) l
  | [] => .inr rfl
  | x :: l => by
    rcases evle (ob := ob) h x with e | e
    · exact .inl (by simp [evArgs, e])
    rcases argsle (ob := ob) h l with e2 | e2
    · refine .inl ?_
      simp only [evArgs, e2]
      cases ((St.mk tm ob).ev x).bind AV.tv <;> rfl
    · exact .inr (by simp only [evArgs, e, e2])
theorem partsle {tm tm2 : List (Option AV)} {ob : List Slot} (h : Le tm tm2) : ∀ (l : List (Nat × Operand)), evParts (St.mk tm ob) l = none ∨ evParts (St.mk tm2 ob) l = evParts (St.mk tm ob) l
  | [] => .inr rfl
  | (i, x) :: l => by
    rcases evle (ob := ob) h x with e | e
    · exact .inl (by simp [evParts, e])
    rcases partsle (ob := ob) h l with e2 | e2
    · refine .inl ?_
      simp only [evParts, e2]
      cases ((St.mk tm ob).ev x).bind AV.tv <;> rfl
    · exact .inr (by simp only [evParts, e, e2])
def covO : Op → Bool
  | .move _ | .assign _ | .load .. | .store .. | .fieldAddr .. | .field .. | .indexAddr .. | .index .. | .extract .. | .build .. | .nilCheck _ | .binOp .. | .unOp .. | .convert .. => true
  | .buildSlice .. => true
  | .call ⟨.builtin .len, _, _⟩ => true
  | .call ⟨.builtin .append, _, _⟩ => true
  | .call ⟨.value (.func _), _, _⟩ => true
  | _ => false
def Loc (P : Program) (o : Oper) : Prop := ∀ {tm tm2 : List (Option AV)} {ob : List Slot} {gs gs' : List Gs} {obl : List Prop} {σ' : St}, Le tm tm2 → stepO P o gs ⟨tm, ob⟩ = some (obl, σ', gs') → ∃ (X : List Slot) (v : AV), σ' = upd tm X o.dst v ∧ stepO P o gs ⟨tm2, ob⟩ = some (obl, upd tm2 X o.dst v, gs')
theorem readle {tm tm2 : List (Option AV)} {ob : List Slot} (p : Place) (n : Nat) (ys : List IV) : (St.mk tm2 ob).read p n ys = (St.mk tm ob).read p n ys := by cases p <;> rfl
theorem rowle {tm tm2 : List (Option AV)} {ob : List Slot} (id : Nat) : (St.mk tm2 ob).row id = (St.mk tm ob).row id := rfl
theorem lenle {tm tm2 : List (Option AV)} {ob : List Slot} (x : AV) : (St.mk tm2 ob).len x = (St.mk tm ob).len x := by
  unfold St.len
  split <;> rfl
section
variable {o : Oper} {tm tm2 : List (Option AV)} {ob : List Slot} {gs gs' : List Gs} {obl : List Prop} {σ' : St}
theorem loc_move {x : Operand} (ho : o.op = .move x) : Loc P o := by
  intro tm tm2 ob gs gs' obl σ' hl h
  unfold stepO at h ⊢
  simp only [ho] at h ⊢
  rcases evle (ob := ob) hl x with e | e <;> simp only [e] at h ⊢
  · cases h
  repeat' (split at h)
  all_goals first
  | (cases h; done)
  | (simp only [Option.some.injEq, Prod.mk.injEq] at h; obtain ⟨rfl, rfl, rfl⟩ := h; refine ⟨_, _, rfl, ?_⟩; simp_all [upd]; done)
theorem loc_assign {x : Operand} (ho : o.op = .assign x) : Loc P o := by
  intro tm tm2 ob gs gs' obl σ' hl h
  unfold stepO at h ⊢
  simp only [ho] at h ⊢
  rcases evle (ob := ob) hl x with e | e <;> simp only [e] at h ⊢
  · cases h
  repeat' (split at h)
  all_goals first
  | (cases h; done)
  | (simp only [Option.some.injEq, Prod.mk.injEq] at h; obtain ⟨rfl, rfl, rfl⟩ := h; refine ⟨_, _, rfl, ?_⟩; simp_all [upd]; done)
theorem loc_nilCheck {x : Operand} (ho : o.op = .nilCheck x) : Loc P o := by
  intro tm tm2 ob gs gs' obl σ' hl h
  unfold stepO at h ⊢
  simp only [ho] at h ⊢
  rcases evle (ob := ob) hl x with e | e <;> simp only [e] at h ⊢
  · cases h
  repeat' (split at h)
  all_goals first
  | (cases h; done)
  | (simp only [Option.some.injEq, Prod.mk.injEq] at h; obtain ⟨rfl, rfl, rfl⟩ := h; refine ⟨_, _, rfl, ?_⟩; simp_all [upd]; done)
theorem loc_load {t : TypeId} {x : Operand} (ho : o.op = .load t x) : Loc P o := by
  intro tm tm2 ob gs gs' obl σ' hl h
  unfold stepO at h ⊢
  simp only [ho] at h ⊢
  rcases evle (ob := ob) hl x with e | e <;> simp only [e, readle (tm := tm) (tm2 := tm2)] at h ⊢
  · cases h
  repeat' (split at h)
  all_goals first
  | (cases h; done)
  | (simp only [Option.some.injEq, Prod.mk.injEq] at h; obtain ⟨rfl, rfl, rfl⟩ := h; refine ⟨_, _, rfl, ?_⟩; simp_all [upd]; done)
theorem loc_fieldAddr {t : TypeId} {f : Nat} {x : Operand} (ho : o.op = .fieldAddr t x f) : Loc P o := by
  intro tm tm2 ob gs gs' obl σ' hl h
  unfold stepO at h ⊢
  simp only [ho] at h ⊢
  rcases evle (ob := ob) hl x with e | e <;> simp only [e] at h ⊢
  · simp at h
    split at h <;> cases h
  repeat' (split at h)
  all_goals first
  | (cases h; done)
  | (simp only [Option.some.injEq, Prod.mk.injEq] at h; obtain ⟨rfl, rfl, rfl⟩ := h; refine ⟨_, _, rfl, ?_⟩; simp_all [upd]; done)
theorem loc_extract {f : Nat} {x : Operand} (ho : o.op = .extract x f) : Loc P o := by
  intro tm tm2 ob gs gs' obl σ' hl h
  unfold stepO at h ⊢
  simp only [ho] at h ⊢
  rcases evle (ob := ob) hl x with e | e <;> simp only [e] at h ⊢
  · cases h
  repeat' (split at h)
  all_goals first
  | (cases h; done)
  | (simp only [Option.some.injEq, Prod.mk.injEq] at h; obtain ⟨rfl, rfl, rfl⟩ := h; refine ⟨_, _, rfl, ?_⟩; simp_all [upd]; done)
theorem loc_field {t : TypeId} {f : Nat} {x : Operand} (ho : o.op = .field t x f) : Loc P o := by
  intro tm tm2 ob gs gs' obl σ' hl h
  unfold stepO at h ⊢
  simp only [ho] at h ⊢
  rcases evle (ob := ob) hl x with e | e <;> simp only [e] at h ⊢
  · simp at h
  repeat' (split at h)
  all_goals first
  | (cases h; done)
  | (simp only [Option.some.injEq, Prod.mk.injEq] at h; obtain ⟨rfl, rfl, rfl⟩ := h; refine ⟨_, _, rfl, ?_⟩; simp_all [upd]; done)
theorem loc_index {t : TypeId} {x y : Operand} (ho : o.op = .index t x y) : Loc P o := by
  intro tm tm2 ob gs gs' obl σ' hl h
  unfold stepO at h ⊢
  simp only [ho] at h ⊢
  rcases evle (ob := ob) hl x with e | e <;> simp only [e] at h ⊢
  · simp at h
  rcases evle (ob := ob) hl y with e2 | e2 <;> simp only [e2] at h ⊢
  · simp at h
  repeat' (split at h)
  all_goals first
  | (cases h; done)
  | (simp only [Option.some.injEq, Prod.mk.injEq] at h; obtain ⟨rfl, rfl, rfl⟩ := h; refine ⟨_, _, rfl, ?_⟩; simp_all [upd]; done)
theorem loc_indexAddr {t : TypeId} {x y : Operand} (ho : o.op = .indexAddr t x y) : Loc P o := by
  intro tm tm2 ob gs gs' obl σ' hl h
  unfold stepO at h ⊢
  simp only [ho] at h ⊢
  rcases evle (ob := ob) hl x with e | e <;> simp only [e, rowle (tm := tm) (tm2 := tm2)] at h ⊢
  · simp at h
    split at h <;> (try cases h)
  rcases evle (ob := ob) hl y with e2 | e2 <;> simp only [e2] at h ⊢
  · simp at h
  repeat' (split at h)
  all_goals first
  | (cases h; done)
  | (simp only [Option.some.injEq, Prod.mk.injEq] at h; obtain ⟨rfl, rfl, rfl⟩ := h; refine ⟨_, _, rfl, ?_⟩; simp_all [upd]; done)
theorem loc_build {t : TypeId} {ps : Array (Nat × Operand)} (ho : o.op = .build t ps) : Loc P o := by
  intro tm tm2 ob gs gs' obl σ' hl h
  unfold stepO at h ⊢
  simp only [ho] at h ⊢
  rcases partsle (ob := ob) hl ps.toList with e | e <;> simp only [e] at h ⊢
  · simp at h
  repeat' (split at h)
  all_goals first
  | (cases h; done)
  | (simp only [Option.some.injEq, Prod.mk.injEq] at h; obtain ⟨rfl, rfl, rfl⟩ := h; refine ⟨_, _, rfl, ?_⟩; simp_all [upd]; done)
theorem writele {tm tm2 : List (Option AV)} {ob : List Slot} (p : Place) (seg : List CV) (ys : List IV) : (St.mk tm2 ob).write p seg ys = ((St.mk tm ob).write p seg ys).map fun r => (r.1, ⟨tm2, r.2.ob⟩) := by
  have hb : ∀ id, (St.mk tm2 ob).box id = (St.mk tm ob).box id := fun _ => rfl
  unfold St.write
  simp only [rowle (tm := tm) (tm2 := tm2), hb]
  repeat' split
  all_goals simp_all
theorem write_tm {tm : List (Option AV)} {ob : List Slot} {p : Place} {seg : List CV} {ys : List IV} {obl : List Prop} {σ' : St} (h : (St.mk tm ob).write p seg ys = some (obl, σ')) : σ' = ⟨tm, σ'.ob⟩ := by
  unfold St.write at h
  repeat' (split at h)
  all_goals first
  | (cases h; done)
  | (simp only [Option.some.injEq, Prod.mk.injEq] at h; obtain ⟨-, rfl⟩ := h; rfl)
theorem loc_store {t : TypeId} {x y : Operand} (ho : o.op = .store t x y) : Loc P o := by
  intro tm tm2 ob gs gs' obl σ' hl h
  unfold stepO at h ⊢
  simp only [ho] at h ⊢
  rcases evle (ob := ob) hl x with e | e <;> simp only [e, writele (tm := tm) (tm2 := tm2)] at h ⊢
  · simp at h
  rcases evle (ob := ob) hl y with e2 | e2 <;> simp only [e2] at h ⊢
  · simp at h
  repeat' (split at h)
  all_goals first
  | (cases h; done)
  | (rename_i hw; simp only [Option.some.injEq, Prod.mk.injEq] at h; obtain ⟨rfl, rfl, rfl⟩ := h; rename_i hd _ _ _ _ _ _; refine ⟨_, .tup [], by simp only [upd, hd, St.put]; exact write_tm hw, ?_⟩; simp_all [upd, St.put]; done)
  | (rename_i hw; simp only [Option.some.injEq, Prod.mk.injEq] at h; obtain ⟨rfl, rfl, rfl⟩ := h; have hd : o.dst = none := by assumption
     refine ⟨_, .tup [], by simp only [upd, hd, St.put]; exact write_tm hw, ?_⟩; simp_all [upd, St.put]; done)
theorem plainle {x : Operand} (hl : Le tm tm2) (h : (St.mk tm ob).plain x = true) : (St.mk tm2 ob).plain x = true ∧ (St.mk tm2 ob).rho x = (St.mk tm ob).rho x := by
  unfold St.plain at h ⊢
  unfold St.rho
  rcases evle (ob := ob) hl x with e | e
  · simp [e] at h
  · rw [e]
    exact ⟨h, rfl⟩
theorem scal_bin {op : BinOp} {t u : TypeId} {x y : Operand} (ho : o.op = .binOp op t x y u) (hl : Le tm tm2) (h : scalarO P o gs ⟨tm, ob⟩ = some (obl, σ', gs')) : ∃ (X : List Slot) (v : AV), σ' = upd tm X o.dst v ∧ scalarO P o gs ⟨tm2, ob⟩ = some (obl, upd tm2 X o.dst v, gs') := by
  unfold scalarO at h ⊢
  split at h
  · rename_i hc
    have hc1 := hc.1
    have hc2 := hc.2
    simp only [ho, Op.operands, List.all_cons, List.all_nil, Bool.and_true, Bool.and_eq_true] at hc2
    obtain ⟨p1, r1⟩ := plainle hl hc2.1
    obtain ⟨p2, r2⟩ := plainle hl hc2.2
    have hp : pureOp P (St.mk tm2 ob) o = pureOp P (St.mk tm ob) o := by
      unfold pureOp execOp
      simp only [ho, r1, r2]
    rw [if_pos ⟨hc1, by simp only [ho, Op.operands, List.all_cons, List.all_nil, Bool.and_true, Bool.and_eq_true]; exact ⟨p1, p2⟩⟩, hp]
    repeat' (split at h)
    all_goals first
    | (cases h; done)
    | (simp only [Option.some.injEq, Prod.mk.injEq] at h; obtain ⟨rfl, rfl, rfl⟩ := h; refine ⟨ob, _, rfl, ?_⟩; simp_all [upd]; done)
  · cases h
theorem scal_un {op : UnOp} {t : TypeId} {x : Operand} (ho : o.op = .unOp op t x) (hl : Le tm tm2) (h : scalarO P o gs ⟨tm, ob⟩ = some (obl, σ', gs')) : ∃ (X : List Slot) (v : AV), σ' = upd tm X o.dst v ∧ scalarO P o gs ⟨tm2, ob⟩ = some (obl, upd tm2 X o.dst v, gs') := by
  unfold scalarO at h ⊢
  split at h
  · rename_i hc
    have hc1 := hc.1
    have hc2 := hc.2
    simp only [ho, Op.operands, List.all_cons, List.all_nil, Bool.and_true] at hc2
    obtain ⟨p1, r1⟩ := plainle hl hc2
    have hp : pureOp P (St.mk tm2 ob) o = pureOp P (St.mk tm ob) o := by
      unfold pureOp execOp
      simp only [ho, r1]
    rw [if_pos ⟨hc1, by simp only [ho, Op.operands, List.all_cons, List.all_nil, Bool.and_true]; exact p1⟩, hp]
    repeat' (split at h)
    all_goals first
    | (cases h; done)
    | (simp only [Option.some.injEq, Prod.mk.injEq] at h; obtain ⟨rfl, rfl, rfl⟩ := h; refine ⟨ob, _, rfl, ?_⟩; simp_all [upd]; done)
  · cases h
theorem scal_cv {t u : TypeId} {x : Operand} (ho : o.op = .convert t u x) (hl : Le tm tm2) (h : scalarO P o gs ⟨tm, ob⟩ = some (obl, σ', gs')) : ∃ (X : List Slot) (v : AV), σ' = upd tm X o.dst v ∧ scalarO P o gs ⟨tm2, ob⟩ = some (obl, upd tm2 X o.dst v, gs') := by
  unfold scalarO at h ⊢
  split at h
  · rename_i hc
    have hc1 := hc.1
    have hc2 := hc.2
    simp only [ho, Op.operands, List.all_cons, List.all_nil, Bool.and_true] at hc2
    obtain ⟨p1, r1⟩ := plainle hl hc2
    have hp : pureOp P (St.mk tm2 ob) o = pureOp P (St.mk tm ob) o := by
      unfold pureOp execOp
      simp only [ho, r1]
    rw [if_pos ⟨hc1, by simp only [ho, Op.operands, List.all_cons, List.all_nil, Bool.and_true]; exact p1⟩, hp]
    repeat' (split at h)
    all_goals first
    | (cases h; done)
    | (simp only [Option.some.injEq, Prod.mk.injEq] at h; obtain ⟨rfl, rfl, rfl⟩ := h; refine ⟨ob, _, rfl, ?_⟩; simp_all [upd]; done)
  · cases h
theorem loc_un {op : UnOp} {t : TypeId} {x : Operand} (ho : o.op = .unOp op t x) : Loc P o := by
  intro tm tm2 ob gs gs' obl σ' hl h
  have e : ∀ σ, stepO P o gs σ = scalarO P o gs σ := fun σ => by unfold stepO; simp only [ho]
  rw [e] at h ⊢
  exact scal_un ho hl h
theorem loc_cv {t u : TypeId} {x : Operand} (ho : o.op = .convert t u x) : Loc P o := by
  intro tm tm2 ob gs gs' obl σ' hl h
  have e : ∀ σ, stepO P o gs σ = scalarO P o gs σ := fun σ => by unfold stepO; simp only [ho]
  rw [e] at h ⊢
  exact scal_cv ho hl h
theorem no_plain {op : BinOp} {t u : TypeId} {x y : Operand} (ho : o.op = .binOp op t x y u) (e : (St.mk tm ob).ev x = none ∨ (St.mk tm ob).ev y = none) : scalarO P o gs ⟨tm, ob⟩ = none := by
  unfold scalarO
  rw [if_neg]
  rintro ⟨-, h⟩
  simp only [ho, Op.operands, List.all_cons, List.all_nil, Bool.and_true, Bool.and_eq_true, St.plain] at h
  rcases e with e | e <;> simp [e] at h
theorem loc_bin {op : BinOp} {t u : TypeId} {x y : Operand} (ho : o.op = .binOp op t x y u) : Loc P o := by
  intro tm tm2 ob gs gs' obl σ' hl h
  have hs := fun h => scal_bin (gs := gs) (gs' := gs') (obl := obl) (σ' := σ') (P := P) (ob := ob) ho hl h
  have hn := no_plain (P := P) (gs := gs) (tm := tm) (ob := ob) ho
  cases op <;> (unfold stepO at h ⊢; simp only [ho] at h ⊢; first
    | exact hs h
    | (rcases evle (ob := ob) hl x with e | e <;> simp only [e] at h ⊢
       · simp [hn (.inl e), intOf2] at h
       · first
         | (rcases evle (ob := ob) hl y with e2 | e2 <;> simp only [e2] at h ⊢
            · simp [hn (.inr e2), intOf2] at h
              try (split at h <;> simp_all)
            · repeat' (split at h)
              all_goals first
              | (cases h; done)
              | (simp only [Option.some.injEq, Prod.mk.injEq] at h; obtain ⟨rfl, rfl, rfl⟩ := h; refine ⟨ob, _, rfl, ?_⟩; simp_all [upd]; done)
              | (simp_all; done)
              | (have hq := hs h; simp_all; done))
         | (repeat' (split at h)
            all_goals first
            | (cases h; done)
            | (simp only [Option.some.injEq, Prod.mk.injEq] at h; obtain ⟨rfl, rfl, rfl⟩ := h; refine ⟨ob, _, rfl, ?_⟩; simp_all [upd]; done)
            | (have hq := hs h; simp_all; done))))
theorem packle {all : List Nat} : ∀ (l : List Nat), packO (St.mk tm2 ob) all l = packO (St.mk tm ob) all l
  | [] => rfl
  | k :: ks => by simp only [packO, packle ks]
theorem loc_len {as_ : Array Operand} {ats : Array TypeId} (ho : o.op = .call ⟨.builtin .len, as_, ats⟩) : Loc P o := by
  intro tm tm2 ob gs gs' obl σ' hl h
  unfold stepO at h ⊢
  simp only [ho] at h ⊢
  rcases ha : as_.toList with _ | ⟨x, _ | ⟨y, l⟩⟩ <;> rcases ht : ats.toList with _ | ⟨t, _ | ⟨t2, l2⟩⟩ <;> simp only [ha, ht] at h ⊢ <;> (try (cases h; done))
  rcases evle (ob := ob) hl x with e | e <;> simp only [e, lenle (tm := tm) (tm2 := tm2)] at h ⊢
  · cases h
  repeat' (split at h)
  all_goals first
  | (cases h; done)
  | (simp only [Option.some.injEq, Prod.mk.injEq] at h; obtain ⟨rfl, rfl, rfl⟩ := h; refine ⟨ob, _, rfl, ?_⟩; simp_all [upd]; done)
theorem loc_fn {f : FuncId} {as_ : Array Operand} {ats : Array TypeId} (ho : o.op = .call ⟨.value (.func f), as_, ats⟩) : Loc P o := by
  intro tm tm2 ob gs gs' obl σ' hl h
  unfold stepO at h ⊢
  simp only [ho] at h ⊢
  rcases argsle (ob := ob) hl as_.toList with e | e <;> simp only [e, packle (tm := tm) (tm2 := tm2)] at h ⊢
  · cases h
  repeat' (split at h)
  all_goals first
  | (cases h; done)
  | (simp only [Option.some.injEq, Prod.mk.injEq] at h; obtain ⟨rfl, rfl, rfl⟩ := h; refine ⟨_, _, rfl, ?_⟩; simp_all [upd]; done)
theorem loc_bs {t len : Nat} {parts : Array (Nat × Operand)} (ho : o.op = .buildSlice t len parts) : Loc P o := by
  intro tm tm2 ob gs gs' obl σ' hl h
  unfold stepO at h ⊢
  simp only [ho] at h ⊢
  rcases partsle (ob := ob) hl parts.toList with e | e <;> simp only [e] at h ⊢
  · split at h <;> simp_all
  repeat' (split at h)
  all_goals first
  | (cases h; done)
  | (simp only [Option.some.injEq, Prod.mk.injEq] at h; obtain ⟨rfl, rfl, rfl⟩ := h; refine ⟨_, _, rfl, ?_⟩; simp_all [upd, room1]; done)
theorem spendle {e sz : Nat} {x : AV} : (room1 (St.mk tm2 ob)).spend e sz x = ((room1 (St.mk tm ob)).spend e sz x).map fun r => (r.1, ⟨tm2, r.2.ob⟩) := by
  unfold St.spend room1 St.row
  simp only
  repeat' split
  all_goals simp_all
theorem spend_tm {e sz : Nat} {x : AV} {xs : List (List IV)} {σ1 : St} (h : (room1 (St.mk tm ob)).spend e sz x = some (xs, σ1)) : σ1 = ⟨tm, σ1.ob⟩ := by
  unfold St.spend room1 at h
  simp only at h
  repeat' (split at h)
  all_goals first
  | (cases h; done)
  | (simp only [Option.some.injEq, Prod.mk.injEq] at h; obtain ⟨-, rfl⟩ := h; rfl)
theorem elemsle {sz : Nat} (x : AV) : (St.mk tm2 ob).elems sz x = (St.mk tm ob).elems sz x := by
  unfold St.elems St.row
  repeat' split
  all_goals simp_all
theorem loc_app {as_ : Array Operand} {ats : Array TypeId} (ho : o.op = .call ⟨.builtin .append, as_, ats⟩) : Loc P o := by
  intro tm tm2 ob gs gs' obl σ' hl h
  unfold stepO at h ⊢
  simp only [ho] at h ⊢
  rcases ha : as_.toList with _ | ⟨x, _ | ⟨y, _ | ⟨z, l⟩⟩⟩ <;> rcases ht : ats.toList with _ | ⟨t, _ | ⟨t2, _ | ⟨t3, l2⟩⟩⟩ <;> simp only [ha, ht] at h ⊢ <;> (try (cases h; done))
  split at h
  · rename_i htt
    rw [if_pos htt]
    rcases evle (ob := ob) hl x with e | e <;> simp only [e] at h ⊢
    · cases h
    rcases evle (ob := ob) hl y with e2 | e2 <;> simp only [e2] at h ⊢
    · split at h <;> simp_all
    split at h
    · rename_i xa ya el h1 h2 h3
      split at h
      · rename_i zs sz by_ h4
        rw [spendle (tm := tm), elemsle (tm := tm)]
        split at h
        · rename_i xs σ1 ys h5 h6
          have h7 := spend_tm h5
          simp only [Option.some.injEq, Prod.mk.injEq] at h
          obtain ⟨rfl, rfl, rfl⟩ := h
          refine ⟨σ1.ob.set ob.length (.live (.row el sz (xs ++ ys))), .t (.c (.os ob.length)), by rw [h7]; rfl, ?_⟩
          simp only [h5, h6, Option.map_some]
          rfl
        · cases h
      · cases h
    · cases h
  · cases h
theorem loc_ok (h : covO o.op = true) : Loc P o := by
  unfold covO at h
  split at h
  all_goals first
  | (cases h; done)
  | exact loc_bs ‹_›
  | exact loc_app ‹_›
  | exact loc_move ‹_›
  | exact loc_assign ‹_›
  | exact loc_load ‹_›
  | exact loc_store ‹_›
  | exact loc_fieldAddr ‹_›
  | exact loc_field ‹_›
  | exact loc_indexAddr ‹_›
  | exact loc_index ‹_›
  | exact loc_extract ‹_›
  | exact loc_build ‹_›
  | exact loc_nilCheck ‹_›
  | exact loc_bin ‹_›
  | exact loc_un ‹_›
  | exact loc_cv ‹_›
  | exact loc_len ‹_›
  | exact loc_fn ‹_›
def LocY (P : Program) (o : Oper) : Prop := ∀ {tm tm2 : List (Option AV)} {ob : List Slot} {gs gs' : List Gs} {obl : List Prop} {σ' : St}, Le tm tm2 → stepY P o gs ⟨tm, ob⟩ = some (obl, σ', gs') → ∃ (X : List Slot) (v : AV), σ' = upd tm X o.dst v ∧ stepY P o gs ⟨tm2, ob⟩ = some (obl, upd tm2 X o.dst v, gs')
theorem rowGle {tm tm2 : List (Option AV)} {ob : List Slot} (id : Nat) : (St.mk tm2 ob).rowG id = (St.mk tm ob).rowG id := rfl
theorem readGle {tm tm2 : List (Option AV)} {ob : List Slot} (id i sz j n : Nat) (gs : List Gs) : (St.mk tm2 ob).readG id i sz j n gs = (St.mk tm ob).readG id i sz j n gs := rfl
theorem writeGle {tm tm2 : List (Option AV)} {ob : List Slot} (id i sz j : Nat) (seg : List CV) (gs : List Gs) : (St.mk tm2 ob).writeG id i sz j seg gs = ((St.mk tm ob).writeG id i sz j seg gs).map fun r => (r.1, ⟨tm2, r.2.1.ob⟩, r.2.2) := by
  unfold St.writeG
  simp only [rowGle (tm := tm) (tm2 := tm2)]
  repeat' split
  all_goals simp_all
theorem writeG_tm {tm : List (Option AV)} {ob : List Slot} {id i sz j : Nat} {seg : List CV} {gs gs' : List Gs} {obl : List Prop} {σ' : St} (h : (St.mk tm ob).writeG id i sz j seg gs = some (obl, σ', gs')) : σ' = ⟨tm, σ'.ob⟩ := by
  unfold St.writeG at h
  repeat' (split at h)
  all_goals first
  | (cases h; done)
  | (simp only [Option.some.injEq, Prod.mk.injEq] at h; obtain ⟨-, rfl, -⟩ := h; rfl)
theorem locY_ok (hc : covO o.op = true) : LocY P o := by
  intro tm tm2 ob gs gs' obl σ' hl h
  unfold stepY at h
  split at h
  · rename_i r hr
    obtain rfl := Option.some.inj h
    obtain ⟨X, v, e1, e2⟩ := loc_ok hc hl hr
    exact ⟨X, v, e1, by unfold stepY; rw [e2]⟩
  · rename_i hn
    split at h
    · rename_i t x y ho
      rcases evle (ob := ob) hl x with e | e
      · simp only [e, Option.bind_none] at h
        repeat' (split at h)
        all_goals simp_all
      rcases evle (ob := ob) hl y with e2 | e2
      · simp only [e2, Option.bind_none] at h
        repeat' (split at h)
        all_goals simp_all
      have hn2 : stepO P o gs ⟨tm2, ob⟩ = none := by
        unfold stepO at hn ⊢
        simp only [ho, e, e2, rowle (tm := tm) (tm2 := tm2)] at hn ⊢
        repeat' (split at hn)
        all_goals simp_all
      unfold stepY
      simp only [hn2, ho, e, e2, rowGle (tm := tm) (tm2 := tm2)]
      repeat' (split at h)
      all_goals first
      | (cases h; done)
      | (simp only [Option.some.injEq, Prod.mk.injEq] at h; obtain ⟨rfl, rfl, rfl⟩ := h; refine ⟨_, _, rfl, ?_⟩; simp_all [upd]; done)
    · rename_i t x ho
      rcases evle (ob := ob) hl x with e | e
      · simp [e] at h
      have hn2 : stepO P o gs ⟨tm2, ob⟩ = none := by
        unfold stepO at hn ⊢
        simp only [ho, e, readle (tm := tm) (tm2 := tm2)] at hn ⊢
        repeat' (split at hn)
        all_goals simp_all
      unfold stepY
      simp only [hn2, ho, e, readGle (tm := tm) (tm2 := tm2)]
      repeat' (split at h)
      all_goals first
      | (cases h; done)
      | (simp only [Option.some.injEq, Prod.mk.injEq] at h; obtain ⟨rfl, rfl, rfl⟩ := h; refine ⟨_, _, rfl, ?_⟩; simp_all [upd]; done)
    · rename_i t x y ho
      rcases evle (ob := ob) hl x with e | e
      · simp [e] at h
      rcases evle (ob := ob) hl y with e2 | e2
      · simp only [e2, Option.bind_none] at h
        repeat' (split at h)
        all_goals simp_all
      have hn2 : stepO P o gs ⟨tm2, ob⟩ = none := by
        unfold stepO at hn ⊢
        simp only [ho, e, e2, writele (tm := tm) (tm2 := tm2)] at hn ⊢
        repeat' (split at hn)
        all_goals simp_all
      unfold stepY
      simp only [hn2, ho, e, e2, writeGle (tm := tm) (tm2 := tm2)]
      split at h
      · rename_i id i sz j z n hd hx hy hs
        split at h
        · rename_i hnz
          have hw := writeG_tm h
          refine ⟨σ'.ob, .tup [], by rw [hd]; exact hw, ?_⟩
          simp only [hd, hx, hy, hs, hnz, if_true, h, Option.map_some]
          rfl
        · cases h
      · cases h
    · rename_i t len parts ho
      rcases partsle (ob := ob) hl parts.toList with e | e
      · have : evPartsR (St.mk tm ob) parts.toList = none := by unfold evPartsR; rw [e]; rfl
        simp only [this] at h
        split at h <;> simp_all
      have hn2 : stepO P o gs ⟨tm2, ob⟩ = none := by
        unfold stepO at hn ⊢
        simp only [ho, e] at hn ⊢
        repeat' (split at hn)
        all_goals (simp_all; try (intro hle; omega))
      have hr : evPartsR (St.mk tm2 ob) parts.toList = evPartsR (St.mk tm ob) parts.toList := by unfold evPartsR; rw [e]; rfl
      unfold stepY
      simp only [hn2, ho, hr]
      repeat' (split at h)
      all_goals first
      | (cases h; done)
      | (simp only [Option.some.injEq, Prod.mk.injEq] at h; obtain ⟨rfl, rfl, rfl⟩ := h; refine ⟨_, _, rfl, ?_⟩; simp_all [upd, room1]; done)
    · rename_i s d x ho
      rcases evle (ob := ob) hl x with e | e
      · simp only [e, Option.bind_none] at h
        repeat' (split at h)
        all_goals simp_all
      have hn2 : stepO P o gs ⟨tm2, ob⟩ = none := by
        have hq : ∀ σ, stepO P o gs σ = scalarO P o gs σ := fun σ => by unfold stepO; simp only [ho]
        rw [hq] at hn ⊢
        unfold scalarO at hn ⊢
        have hp : (St.mk tm2 ob).plain x = (St.mk tm ob).plain x := by unfold St.plain; rw [e]
        have hrho : (St.mk tm2 ob).rho x = (St.mk tm ob).rho x := by unfold St.rho; rw [e]
        have hpo : pureOp P (St.mk tm2 ob) o = pureOp P (St.mk tm ob) o := by unfold pureOp execOp; simp only [ho, hrho]
        simp only [ho, Op.operands, List.all_cons, List.all_nil, Bool.and_true, hp, hpo] at hn ⊢
        repeat' (split at hn)
        all_goals simp_all
      unfold stepY
      simp only [hn2, ho, e]
      have he : ∀ z, (St.mk tm2 ob).elems 1 z = (St.mk tm ob).elems 1 z := fun z => elemsle z
      have he2 : (St.mk tm2 ob).elems 1 = (St.mk tm ob).elems 1 := funext he
      rw [he2]
      repeat' (split at h)
      all_goals first
      | (cases h; done)
      | (simp only [Option.some.injEq, Prod.mk.injEq] at h; obtain ⟨rfl, rfl, rfl⟩ := h; refine ⟨_, _, rfl, ?_⟩; simp_all [upd]; done)
    · rename_i op t x y u ho
      rcases evle (ob := ob) hl x with e | e
      · simp only [e, Option.bind_none] at h
        repeat' (split at h)
        all_goals simp_all
      rcases evle (ob := ob) hl y with e2 | e2
      · simp only [e2, Option.bind_none] at h
        repeat' (split at h)
        all_goals simp_all
      split at h
      · rename_i ng cs ds hop hx hy
        have hop2 : op = .eql ∨ op = .neq := by cases op <;> simp [eqOp] at hop ⊢
        obtain ⟨xa, hxe, hxs⟩ := bind_some hx
        have hpx : (St.mk tm2 ob).plain x = false := by
          unfold St.plain
          rw [e, hxe]
          unfold AV.aggs at hxs
          split at hxs
          · rfl
          · cases hxs
        have hpl : ((St.mk tm2 ob).ev x).bind AV.place = none := by
          rw [e, hxe]
          unfold AV.aggs at hxs
          split at hxs
          · rfl
          · cases hxs
        have hn2 : stepO P o gs ⟨tm2, ob⟩ = none := by
          have hq : stepO P o gs ⟨tm2, ob⟩ = scalarO P o gs ⟨tm2, ob⟩ := by
            rcases hop2 with rfl | rfl <;> (unfold stepO; simp only [ho, hpl])
          rw [hq]
          unfold scalarO
          rw [if_neg]
          rintro ⟨-, hh⟩
          simp [ho, Op.operands, hpx] at hh
        unfold stepY
        simp only [hn2, ho, e, e2, hop, hx, hy]
        repeat' (split at h)
        all_goals first
        | (cases h; done)
        | (simp only [Option.some.injEq, Prod.mk.injEq] at h; obtain ⟨rfl, rfl, rfl⟩ := h; refine ⟨_, _, rfl, ?_⟩; simp_all [upd]; done)
      · cases h
    · cases h
end
end
end Go.Proofs.YtljdidlkiknknaaDoor.AB
namespace Go.Proofs.YtljdidlkiknknaaDoor.AB
open Go Go.RowKit Go.Proofs.YtljdidlkiknknaaDoorW.PrintWords Go.Proofs.YtljdidlkiknknaaDoorW.PrintMore
set_option linter.unusedSimpArgs false
set_option linter.unusedVariables false
section
variable {P : Program} {F : Frm} {σ : St}
def depsOf (ops : Array Oper) (i : Nat) : List Nat := match ops[i]? with
  | some o => (o.after.toList.filter fun e => Region.binds .any e).map fun e => e.on
  | none => []
def Closed (ops : Array Oper) (D : Array Bool) : Prop := ∀ i, D.getD i false = true → ∀ j ∈ depsOf ops i, D.getD j false = true
theorem getD_add {D : Array Bool} {i j : Nat} (hi : i < D.size) : (D.setIfInBounds i true).getD j false = true ↔ (j = i ∨ D.getD j false = true) := by
  simp only [Array.getD_eq_getD_getElem?, Array.getElem?_setIfInBounds]
  by_cases h : i = j
  · subst h; simp [hi]
  · rw [if_neg h]
    constructor
    · exact .inr
    · rintro (e | e)
      · exact absurd e.symm h
      · exact e
theorem ready_deps {ops : Array Oper} {D : Array Bool} {i : Nat} (h : i ∈ Region.ready .any ops D) : ∀ j ∈ depsOf ops i, D.getD j false = true := by
  obtain ⟨-, o, ho, ha⟩ := mem_ready.1 h
  intro j hj
  simp only [depsOf, ho, List.mem_map, List.mem_filter] at hj
  obtain ⟨e, ⟨he, hb⟩, rfl⟩ := hj
  exact ha e (by simpa using he) hb
theorem Closed.add {ops : Array Oper} {D : Array Bool} {i : Nat} (h : Closed ops D) (hi : i ∈ Region.ready .any ops D) (hs : i < D.size) : Closed ops (D.setIfInBounds i true) := by
  intro k hk j hj
  rw [getD_add hs] at hk ⊢
  rcases hk with rfl | hk
  · exact .inr (ready_deps hi j hj)
  · exact .inr (h k hk j hj)
def reach (ops : Array Oper) : Nat → Nat → Nat → Bool
  | 0, _, _ => false
  | n + 1, l, i => (depsOf ops l).any fun j => j == i || (decide (i < j) && reach ops n j i)
theorem reach_ok {ops : Array Oper} {D : Array Bool} {i : Nat} (hc : Closed ops D) : ∀ n l, (∀ j ∈ depsOf ops l, D.getD j false = true) → reach ops n l i = true → D.getD i false = true
  | 0, l, _, h => by cases h
  | n + 1, l, hl, h => by
    simp only [reach, List.any_eq_true, Bool.or_eq_true, Bool.and_eq_true, beq_iff_eq] at h
    obtain ⟨j, hj, rfl | ⟨-, h⟩⟩ := h
    · exact hl j hj
    · exact reach_ok hc n j (hc j (hl j hj)) h
def setD (o : Oper) (c : List Prop × St) (tm : List (Option AV)) : List (Option AV) := match o.dst with
  | some d => tm.set d ((c.2.tm[d]?).getD none)
  | none => tm
def tmD : List Oper → List (List Prop × St) → List Bool → List (Option AV) → List (Option AV)
  | o :: l, c :: cs, b :: bs, tm => tmD l cs bs (if b then setD o c tm else tm)
  | _, _, _, tm => tm
def dsts (l : List Oper) : List Nat := l.filterMap fun o => o.dst
theorem setD_len (o : Oper) (c : List Prop × St) (tm : List (Option AV)) : (setD o c tm).length = tm.length := by unfold setD; split <;> simp
theorem tmD_len : ∀ (l : List Oper) (cs : List (List Prop × St)) (bs : List Bool) (tm : List (Option AV)), (tmD l cs bs tm).length = tm.length
  | [], _, _, _ => by simp [tmD]
  | _ :: _, [], _, _ => by simp [tmD]
  | _ :: _, _ :: _, [], _ => by simp [tmD]
  | o :: l, c :: cs, b :: bs, tm => by
    simp only [tmD]
    rw [tmD_len l cs bs]
    split
    · exact setD_len ..
    · rfl
theorem Le_set {tmA tmB : List (Option AV)} (h : Le tmA tmB) (hl : tmA.length = tmB.length) (d : Nat) (y : Option AV) : Le (tmA.set d y) (tmB.set d y) := by
  intro t x hx
  rw [List.getElem?_set] at hx ⊢
  split at hx
  · rename_i hdt
    rw [if_pos hdt, ← hl]
    exact hx
  · rename_i hdt
    rw [if_neg hdt]
    exact h t x hx
theorem Le_setr {tmA tmB : List (Option AV)} (h : Le tmA tmB) (d : Nat) (y : Option AV) (hn : ∀ x, tmA[d]? ≠ some (some x)) : Le tmA (tmB.set d y) := by
  intro t x hx
  rw [List.getElem?_set]
  split
  · rename_i hdt
    subst hdt
    exact absurd hx (hn x)
  · exact h t x hx
theorem tmD_le : ∀ (l : List Oper) (cs : List (List Prop × St)) (bs1 bs2 : List Bool) (tmA tmB : List (Option AV)), (dsts l).Nodup → Le tmA tmB → tmA.length = tmB.length → bs1.length = bs2.length → (∀ j : Nat, bs1[j]? = some true → bs2[j]? = some true) →
    (∀ (j d : Nat) (o : Oper), l[j]? = some o → o.dst = some d → bs2[j]? = some true → bs1[j]? = some false → ∀ x, tmA[d]? ≠ some (some x)) → Le (tmD l cs bs1 tmA) (tmD l cs bs2 tmB)
  | [], _, _, _, _, _, _, h, _, _, _, _ => by simpa [tmD] using h
  | _ :: _, [], _, _, _, _, _, h, _, _, _, _ => by simpa [tmD] using h
  | _ :: _, _ :: _, [], [], _, _, _, h, _, _, _, _ => by simpa [tmD] using h
  | _ :: _, _ :: _, [], _ :: _, _, _, _, _, _, h, _, _ => by simp at h
  | _ :: _, _ :: _, _ :: _, [], _, _, _, _, _, h, _, _ => by simp at h
  | o :: l, c :: cs, b1 :: bs1, b2 :: bs2, tmA, tmB, hn, h, hl, hb, hs, hc => by
    simp only [tmD]
    have hn' : (dsts l).Nodup := by
      unfold dsts at hn ⊢
      rw [List.filterMap_cons] at hn
      split at hn
      · exact hn
      · exact (List.nodup_cons.1 hn).2
    have hs' : ∀ j : Nat, bs1[j]? = some true → bs2[j]? = some true := fun j hj => by simpa using hs (j + 1) (by simpa using hj)
    have hc' : ∀ (j d : Nat) (o : Oper), l[j]? = some o → o.dst = some d → bs2[j]? = some true → bs1[j]? = some false → ∀ x, tmA[d]? ≠ some (some x) := fun j d o ho hd h2 h1 => hc (j + 1) d o (by simpa using ho) hd (by simpa using h2) (by simpa using h1)
    have hb' : bs1.length = bs2.length := by simpa using hb
    cases b1 with
    | true =>
      have : b2 = true := by simpa using hs 0 (by simp)
      subst this
      simp only [if_true]
      cases ho : o.dst with
      | none =>
        simp only [setD, ho]
        exact tmD_le l cs bs1 bs2 tmA tmB hn' h hl hb' hs' hc'
      | some d =>
        simp only [setD, ho]
        refine tmD_le l cs bs1 bs2 _ _ hn' (Le_set h hl d _) (by simpa using hl) hb' hs' fun j d' o' ho' hd' h2 h1 x => ?_
        have hne : d ≠ d' := by
          intro e
          subst e
          unfold dsts at hn
          rw [List.filterMap_cons, ho] at hn
          exact (List.nodup_cons.1 hn).1 (List.mem_filterMap.2 ⟨o', List.mem_of_getElem? ho', hd'⟩)
        rw [List.getElem?_set_ne hne]
        exact hc' j d' o' ho' hd' h2 h1 x
    | false =>
      simp only [Bool.false_eq_true, if_false]
      cases b2 with
      | false =>
        simp only [Bool.false_eq_true, if_false]
        exact tmD_le l cs bs1 bs2 tmA tmB hn' h hl hb' hs' hc'
      | true =>
        simp only [if_true]
        cases ho : o.dst with
        | none =>
          simp only [setD, ho]
          exact tmD_le l cs bs1 bs2 tmA tmB hn' h hl hb' hs' hc'
        | some d =>
          simp only [setD, ho]
          exact tmD_le l cs bs1 bs2 _ _ hn' (Le_setr h d _ (hc 0 d o rfl ho rfl rfl)) (by simpa using hl) hb' hs' hc'
theorem tmD_comm : ∀ (l : List Oper) (cs : List (List Prop × St)) (bs : List Bool) (tm : List (Option AV)) (d : Nat) (y : Option AV), d ∉ dsts l → tmD l cs bs (tm.set d y) = (tmD l cs bs tm).set d y
  | [], _, _, _, _, _, _ => by simp [tmD]
  | _ :: _, [], _, _, _, _, _ => by simp [tmD]
  | _ :: _, _ :: _, [], _, _, _, _ => by simp [tmD]
  | o :: l, c :: cs, b :: bs, tm, d, y, h => by
    simp only [tmD]
    have h' : d ∉ dsts l := by
      intro hd
      refine h ?_
      unfold dsts at hd ⊢
      rw [List.filterMap_cons]
      split
      · exact hd
      · exact List.mem_cons_of_mem _ hd
    rw [← tmD_comm l cs bs _ d y h']
    congr 1
    split
    · cases ho : o.dst with
      | none => simp [setD, ho]
      | some d' =>
        simp only [setD, ho]
        refine List.set_comm _ _ fun e => h ?_
        subst e
        unfold dsts
        rw [List.filterMap_cons, ho]
        exact List.mem_cons_self
    · rfl
theorem tmD_add : ∀ (l : List Oper) (cs : List (List Prop × St)) (bs : List Bool) (tm : List (Option AV)) (i : Nat) (o : Oper) (c : List Prop × St), (dsts l).Nodup → l[i]? = some o → cs[i]? = some c → bs[i]? = some false → tmD l cs (bs.set i true) tm = setD o c (tmD l cs bs tm)
  | [], _, _, _, _, _, _, _, h, _, _ => by simp at h
  | _ :: _, [], _, _, _, _, _, _, _, h, _ => by simp at h
  | _ :: _, _ :: _, [], _, _, _, _, _, _, _, h => by simp at h
  | o0 :: l, c0 :: cs, b :: bs, tm, 0, o, c, hn, ho, hc, hb => by
    simp only [List.getElem?_cons_zero, Option.some.injEq] at ho hc hb
    subst ho hc hb
    simp only [List.set_cons_zero, tmD, if_true, Bool.false_eq_true, if_false]
    cases hd : o0.dst with
    | none => simp only [setD, hd]
    | some d =>
      simp only [setD, hd]
      refine tmD_comm _ _ _ _ _ _ ?_
      unfold dsts at hn
      rw [List.filterMap_cons, hd] at hn
      exact (List.nodup_cons.1 hn).1
  | o0 :: l, c0 :: cs, b :: bs, tm, i + 1, o, c, hn, ho, hc, hb => by
    simp only [List.set_cons_succ, tmD]
    refine tmD_add l cs bs _ i o c ?_ (by simpa using ho) (by simpa using hc) (by simpa using hb)
    unfold dsts at hn ⊢
    rw [List.filterMap_cons] at hn
    split at hn
    · exact hn
    · exact (List.nodup_cons.1 hn).2
theorem setD_of {o : Oper} {c : List Prop × St} {tm tm2 : List (Option AV)} {X Y : List Slot} {v : AV} (h : upd tm X o.dst v = ⟨setD o c tm, Y⟩) (hl : tm2.length = tm.length) : upd tm2 X o.dst v = ⟨setD o c tm2, Y⟩ := by
  unfold upd setD at *
  cases hd : o.dst with
  | none =>
    simp only [hd, St.put, St.mk.injEq] at h ⊢
    exact ⟨trivial, h.2⟩
  | some d =>
    simp only [hd, St.put, St.mk.injEq] at h ⊢
    refine ⟨?_, h.2⟩
    by_cases hdl : d < tm.length
    · have h1 := congrArg (fun l => l[d]?) h.1
      simp only [List.getElem?_set_self hdl, Option.some.injEq] at h1
      rw [h1]
    · have e : ∀ y : Option AV, tm2.set d y = tm2 := fun y => List.set_eq_of_length_le (by rw [hl]; exact Nat.le_of_not_lt hdl)
      rw [e, e]
def clr (l : List Nat) (tm : List (Option AV)) : List (Option AV) := l.foldl (fun tm d => tm.set d none) tm
theorem clr_len : ∀ (l : List Nat) (tm : List (Option AV)), (clr l tm).length = tm.length
  | [], _ => rfl
  | d :: l, tm => by
    show (clr l (tm.set d none)).length = _
    rw [clr_len l]; simp
theorem clr_no : ∀ (l : List Nat) (tm : List (Option AV)) (d : Nat) (x : AV), (d ∈ l ∨ tm[d]? ≠ some (some x)) → (clr l tm)[d]? ≠ some (some x)
  | [], _, _, _, h => by simpa [clr] using h
  | k :: l, tm, d, x, h => by
    show (clr l (tm.set k none))[d]? ≠ _
    refine clr_no l _ d x ?_
    by_cases e : d = k
    · subst e
      refine .inr ?_
      rw [List.getElem?_set]
      simp
    · rcases h with h | h
      · exact .inl (by simpa [e] using h)
      · refine .inr ?_
        rw [List.getElem?_set_ne (Ne.symm e)]
        exact h
theorem clr_le : ∀ (l : List Nat) (tm : List (Option AV)), Le (clr l tm) tm
  | [], tm => fun _ _ h => h
  | k :: l, tm => fun t x h => by
    have h1 := clr_le l (tm.set k none) t x h
    rw [List.getElem?_set] at h1
    split at h1
    · split at h1 <;> simp at h1
    · exact h1
end
end Go.Proofs.YtljdidlkiknknaaDoor.AB
namespace Go.Proofs.YtljdidlkiknknaaDoor.AB
open Go Go.RowKit Go.Proofs.YtljdidlkiknknaaDoorW.PrintWords Go.Proofs.YtljdidlkiknknaaDoorW.PrintMore
set_option linter.unusedSimpArgs false
set_option linter.unusedVariables false
section
variable {P : Program} {F : Frm} {σ : St}
def depB (ops : Array Oper) (i : Nat) : List Bool := (List.range ops.size).map fun j => reach ops ops.size i j
def clrs (ops : Array Oper) (i : Nat) : List Nat := (List.range ops.size).filterMap fun j => if (reach ops ops.size j i || j == i) = true then none else (ops[j]?).bind fun o => o.dst
def rst (ops : Array Oper) (cs : List (List Prop × St)) (obs : List (List Slot)) (σ : St) (i p : Nat) : St := ⟨tmD ops.toList cs (depB ops i) (clr (clrs ops i) σ.tm), obs.getD p []⟩
def psX (ops : Array Oper) (L : List Nat) (i : Nat) : List Nat := if L.contains i = true then (List.range L.length).filter fun q => L.getD q 0 == i
  else (List.range (L.length + 1)).filter fun p => (p == 0 || !reach ops ops.size (L.getD (p - 1) 0) i) && (List.range L.length).all fun q => decide (q < p) || !reach ops ops.size i (L.getD q 0)
def casesX (ops : Array Oper) (L : List Nat) : List (Nat × Nat) := (List.range ops.size).flatMap fun i => (psX ops L i).map fun p => (i, p)
def drawXL (P : Program) (ops : Array Oper) (gss : List (List Gs)) (cs : List (List Prop × St)) (L : List Nat) (obs : List (List Slot)) (σ : St) : List (Option (List Prop × St)) :=
  (casesX ops L).map fun q => match ops[q.1]? with
    | some o => (stepY P o (nrm (gss.getD q.1 [])) (rst ops cs obs σ q.1 q.2)).map fun r => (r.1, r.2.1)
    | none => none
def drawXR (ops : Array Oper) (cs : List (List Prop × St)) (L : List Nat) (obs : List (List Slot)) (σ : St) : List (Option (List Prop × St)) :=
  (casesX ops L).map fun q => match ops[q.1]?, cs[q.1]? with
    | some o, some c => some (c.1, ⟨setD o c (rst ops cs obs σ q.1 q.2).tm, obs.getD (if L.contains q.1 = true then q.2 + 1 else q.2) []⟩)
    | _, _ => none
def drawXB (ops : Array Oper) (L : List Nat) : Bool := ops.toList.all (fun o => o.guard.isNone && covO o.op) && (List.range ops.size).all (fun i => (depsOf ops i).all fun j => decide (j < i)) && L.all (fun l => decide (l < ops.size)) &&
  (List.range L.length).all (fun q => q == 0 || (depsOf ops (L.getD q 0)).contains (L.getD (q - 1) 0)) && decide L.Nodup && decide (dsts ops.toList).Nodup
def InvX (L : List Nat) (D : Array Bool) (p : Nat) : Prop := p ≤ L.length ∧ ∀ q, q < L.length → (D.getD (L.getD q 0) false = true ↔ q < p)
theorem tmD_no : ∀ (l : List Oper) (cs : List (List Prop × St)) (n : Nat) (tm : List (Option AV)), tmD l cs (List.replicate n false) tm = tm
  | [], _, _, _ => by simp [tmD]
  | _ :: _, [], _, _ => by simp [tmD]
  | _ :: _, _ :: _, 0, _ => by simp [tmD]
  | o :: l, c :: cs, n + 1, tm => by simp only [List.replicate_succ, tmD, Bool.false_eq_true, if_false]; exact tmD_no l cs n tm
theorem getD_list {D : Array Bool} {j : Nat} (h : D.getD j false = true) : D.toList[j]? = some true := by
  rw [Array.getD_eq_getD_getElem?] at h
  rw [Array.getElem?_toList]
  cases e : D[j]? with
  | none => rw [e] at h; simp at h
  | some b => rw [e] at h; simp at h; rw [h]
theorem list_getD {D : Array Bool} {j : Nat} (h : D.toList[j]? = some true) : D.getD j false = true := by
  rw [Array.getElem?_toList] at h
  rw [Array.getD_eq_getD_getElem?, h]
  rfl
theorem getD_not {D : Array Bool} {j : Nat} (h : D.getD j true = false) : D.toList[j]? = some false := by
  rw [Array.getD_eq_getD_getElem?] at h
  rw [Array.getElem?_toList]
  cases e : D[j]? with
  | none => rw [e] at h; simp at h
  | some b => rw [e] at h; simp at h; rw [h]
theorem getD_bothX {D : Array Bool} {i : Nat} (h : D.getD i true = false) : D.getD i false = false := by
  rw [Array.getD_eq_getD_getElem?] at h ⊢
  cases e : D[i]? with
  | none => rfl
  | some b => rw [e] at h; exact h
theorem mem_getD {L : List Nat} {i : Nat} (h : i ∈ L) : ∃ q, q < L.length ∧ L.getD q 0 = i := by
  obtain ⟨q, hq, e⟩ := List.mem_iff_getElem.1 h
  exact ⟨q, hq, by rw [List.getD_eq_getElem?_getD, List.getElem?_eq_getElem hq, e]; rfl⟩
theorem casesX_mem {ops : Array Oper} {L : List Nat} {D : Array Bool} {i p : Nat} (hB : drawXB ops L = true) (hc : Closed ops D) (hI : InvX L D p) (hi : i ∈ Region.ready .any ops D) : (i, p) ∈ casesX ops L := by
  simp only [drawXB, Bool.and_eq_true, decide_eq_true_eq] at hB
  obtain ⟨⟨⟨⟨⟨-, -⟩, -⟩, hch⟩, -⟩, -⟩ := hB
  obtain ⟨hf, o, ho, -⟩ := mem_ready.1 hi
  have hf' := getD_bothX hf
  have hn : i < ops.size := (Array.getElem?_eq_some_iff.mp ho).1
  refine List.mem_flatMap.2 ⟨i, List.mem_range.2 hn, List.mem_map.2 ⟨p, ?_, rfl⟩⟩
  unfold psX
  split
  · rename_i hL
    obtain ⟨q, hq, e⟩ := mem_getD (List.contains_iff_mem.1 hL)
    have h1 : ¬ q < p := fun h => by
      have := (hI.2 q hq).2 h
      rw [e, hf'] at this
      cases this
    have h2 : q ≤ p := by
      cases q with
      | zero => exact Nat.zero_le _
      | succ q =>
        have h3 := List.all_eq_true.1 hch (q + 1) (List.mem_range.2 hq)
        simp only [Nat.add_sub_cancel, Bool.or_eq_true, beq_iff_eq, List.contains_iff_mem] at h3
        rcases h3 with h3 | h3
        · cases h3
        · rw [e] at h3
          exact (hI.2 q (by omega)).1 (ready_deps hi _ h3)
    have hqp : q = p := by omega
    subst hqp
    exact List.mem_filter.2 ⟨List.mem_range.2 hq, by simp only [beq_iff_eq]; exact e⟩
  · refine List.mem_filter.2 ⟨List.mem_range.2 (by have := hI.1; omega), ?_⟩
    simp only [Bool.and_eq_true, Bool.or_eq_true, beq_iff_eq, Bool.not_eq_true', List.all_eq_true, List.mem_range, decide_eq_true_eq]
    constructor
    · by_cases hp : p = 0
      · exact .inl hp
      · refine .inr ?_
        cases hr : reach ops ops.size (L.getD (p - 1) 0) i with
        | false => rfl
        | true =>
          have h1 := (hI.2 (p - 1) (by have := hI.1; omega)).2 (by omega)
          have := reach_ok hc _ _ (hc _ h1) hr
          rw [hf'] at this
          cases this
    · intro q hq
      cases hr : reach ops ops.size i (L.getD q 0) with
      | false => exact .inr rfl
      | true => exact .inl ((hI.2 q hq).1 (reach_ok hc _ _ (ready_deps hi) hr))
theorem drawx_ok {Q : Exit → Act → World → Prop} {id : Nat} {ops : Array Oper} {K : List It} (gss : List (List Gs)) {cs : List (List Prop × St)} (L : List Nat) (obs : List (List Slot)) {σ' : St} (hm : P.follows .mixedOrders = true) (hob : Obs (obsOf cs)) (hcmp : drawXL P ops gss cs L obs σ = drawXR ops cs L obs σ)
    (hlen : cs.length = ops.size) (h0 : obs.getD 0 [] = σ.ob) (hfin : (⟨tmD ops.toList cs (List.replicate ops.size true) σ.tm, obs.getD L.length []⟩ : St) = σ') (hB : drawXB ops L = true) (hR : AX P F Q K .normal σ') : AX P F Q (.code (.region id ops true) :: K) .normal σ := by
  intro a w hs
  show (Code.region id ops true).wp P (den P Q K) a w
  refine wp_region_any hm ?_
  have hB' := hB
  simp only [drawXB, Bool.and_eq_true, decide_eq_true_eq] at hB'
  obtain ⟨⟨⟨⟨⟨hcov, htop⟩, hLr⟩, -⟩, hLn⟩, hdn⟩ := hB'
  have key : ∀ (n : Nat) (D : Array Bool) (p : Nat) (a : Act) (w : World), D.size = ops.size → D.toList.count true + n = ops.size → Closed ops D → InvX L D p → SimX F ⟨tmD ops.toList cs D.toList σ.tm, obs.getD p []⟩ a w → wpAny P .any ops (den P Q K) n D a w := by
    intro n
    induction n with
    | zero =>
      intro D p a w hsz hcn hc hI hs
      have hall : ∀ b ∈ D.toList, true = b := List.count_eq_length.1 (by rw [Array.length_toList]; omega)
      have hrep : D.toList = List.replicate ops.size true := List.eq_replicate_iff.2 ⟨by rw [Array.length_toList, hsz], fun b hb => (hall b hb).symm⟩
      have htr : ∀ j, j < ops.size → D.getD j false = true := fun j hj => list_getD (by rw [hrep, List.getElem?_replicate, if_pos hj])
      have hp : p = L.length := by
        have h1 := hI.1
        rcases Nat.lt_or_ge p L.length with h2 | h2
        · have h3 := (hI.2 p h2).1 (htr _ (by
            have h4 := List.all_eq_true.1 hLr (L.getD p 0) (by rw [List.getD_eq_getElem?_getD, List.getElem?_eq_getElem h2]; exact List.getElem_mem h2)
            simpa using h4))
          omega
        · omega
      subst hp
      rw [hrep, hfin] at hs
      refine ⟨?_, hR a w hs⟩
      refine List.eq_nil_iff_forall_not_mem.2 fun j hj => ?_
      obtain ⟨hf, o, ho, -⟩ := mem_ready.1 hj
      have h1 := htr j (Array.getElem?_eq_some_iff.mp ho).1
      rw [getD_bothX hf] at h1
      cases h1
    | succ n ih =>
      intro D p a w hsz hcn hc hI hs
      refine ⟨fun he => ?_, fun i hi => ?_⟩
      · exfalso
        have hex : ∃ i, i < ops.size ∧ D.getD i true = false := by
          refine Classical.byContradiction fun hno => ?_
          have hall : ∀ b ∈ D.toList, true = b := by
            intro b hb
            obtain ⟨j, hj, e⟩ := List.mem_iff_getElem.1 hb
            cases b with
            | true => rfl
            | false =>
              refine absurd ⟨j, by rw [Array.length_toList] at hj; omega, ?_⟩ hno
              rw [Array.getD_eq_getD_getElem?, ← Array.getElem?_toList, List.getElem?_eq_getElem hj, e]
              rfl
          have := List.count_eq_length.2 hall
          rw [Array.length_toList] at this
          omega
        obtain ⟨i, hi, hmin⟩ : ∃ i, (i < ops.size ∧ D.getD i true = false) ∧ ∀ j, j < i → ¬ (j < ops.size ∧ D.getD j true = false) := by
          obtain ⟨k, hk⟩ := hex
          induction k using Nat.strongRecOn with
          | _ k ihk =>
            by_cases h : ∃ j, j < k ∧ (j < ops.size ∧ D.getD j true = false)
            · obtain ⟨j, hj, hj2⟩ := h
              exact ihk j hj hj2
            · exact ⟨k, hk, fun j hj hj2 => h ⟨j, hj, hj2⟩⟩
        have hmem : i ∈ Region.ready .any ops D := by
          refine mem_ready.2 ⟨hi.2, ops[i]'hi.1, Array.getElem?_eq_getElem hi.1, fun e he hb => ?_⟩
          have h1 := List.all_eq_true.1 htop i (List.mem_range.2 hi.1)
          have h2 : e.on ∈ depsOf ops i := by
            unfold depsOf
            rw [Array.getElem?_eq_getElem hi.1]
            exact List.mem_map.2 ⟨e, List.mem_filter.2 ⟨by simpa using he, hb⟩, rfl⟩
          have h3 : e.on < i := by simpa using List.all_eq_true.1 h1 _ h2
          have h4 := hmin e.on h3
          have h5 : e.on < ops.size := by omega
          rw [Array.getD_eq_getD_getElem?] at h4 ⊢
          rw [Array.getElem?_eq_getElem (show e.on < D.size by omega)] at h4 ⊢
          simpa [h5] using h4
        rw [he] at hmem
        cases hmem
      · have hmem := casesX_mem hB hc hI hi
        obtain ⟨hf, o, ho, -⟩ := mem_ready.1 hi
        have hf' := getD_bothX hf
        have hil : i < ops.size := (Array.getElem?_eq_some_iff.mp ho).1
        have hci : cs[i]? = some cs[i] := List.getElem?_eq_getElem (by omega)
        have h1 := List.map_inj_left.1 hcmp (i, p) hmem
        simp only [ho, hci] at h1
        obtain ⟨⟨ob1, σ1, gs1⟩, h2, h3⟩ := Option.map_eq_some_iff.1 h1
        simp only [Prod.mk.injEq] at h3
        obtain ⟨rfl, rfl⟩ := h3
        have hoc := List.all_eq_true.1 hcov o (List.mem_of_getElem? (by rw [Array.getElem?_toList]; exact ho))
        simp only [Bool.and_eq_true] at hoc
        have hle : Le (rst ops cs obs σ i p).tm (tmD ops.toList cs D.toList σ.tm) := by
          refine tmD_le _ _ _ _ _ _ hdn (clr_le _ _) (clr_len _ _) (by simp [depB, hsz]) (fun j hj => ?_) (fun j d o' ho' hd hD hn x => ?_)
          · simp only [depB, List.getElem?_map, Option.map_eq_some_iff] at hj
            obtain ⟨k, hk, hj⟩ := hj
            have hkj : j = k := by
              obtain ⟨hlt, e⟩ := List.getElem?_eq_some_iff.1 hk
              simpa using e
            subst hkj
            exact getD_list (reach_ok hc _ _ (ready_deps hi) hj)
          · refine clr_no _ _ _ _ (.inl ?_)
            have hjn : j < ops.size := by
              have := (List.getElem?_eq_some_iff.mp ho').1
              simpa using this
            refine List.mem_filterMap.2 ⟨j, List.mem_range.2 hjn, ?_⟩
            have hDj := list_getD hD
            rw [if_neg]
            · rw [Array.getElem?_toList] at ho'
              rw [ho']
              exact hd
            · intro h
              simp only [Bool.or_eq_true, beq_iff_eq] at h
              rcases h with h | h
              · have := reach_ok hc _ _ (hc _ hDj) h
                rw [hf'] at this
                cases this
              · subst h
                rw [hf'] at hDj
                cases hDj
        obtain ⟨X, v, e1, e2⟩ := locY_ok hoc.2 hle h2
        have e3 := setD_of (tm2 := tmD ops.toList cs D.toList σ.tm) e1.symm (by rw [tmD_len]; unfold rst; rw [tmD_len, clr_len])
        rw [e3] at e2
        unfold wpOp
        rw [ho]
        simp only
        rw [if_pos (by simp [Region.wanted, Option.isNone_iff_eq_none.1 hoc.1])]
        refine .inl ?_
        obtain ⟨m, Z, hs⟩ := hs
        refine stepY_ok e2 (obsOf_get hob hci) m Z a w hs _ _ fun m' Z' a' w' h4 _ => ?_
        have hfl : D.toList[i]? = some false := getD_not hf
        refine ih (D.setIfInBounds i true) (if L.contains i = true then p + 1 else p) a' w' (by simpa using hsz) ?_ (hc.add hi (by omega)) ?_ ?_
        · rw [Array.toList_setIfInBounds]
          obtain ⟨hlt, hg⟩ := List.getElem?_eq_some_iff.1 hfl
          rw [List.count_set hlt, hg]
          show D.toList.count true - 0 + 1 + n = ops.size
          omega
        · have hsi : i < D.size := by omega
          split
          · rename_i hL
            obtain ⟨q, hq, e⟩ := mem_getD (List.contains_iff_mem.1 hL)
            have hqp : q = p := by
              have h5 : p ∈ psX ops L i := by
                obtain ⟨i', -, h6⟩ := List.mem_flatMap.1 hmem
                obtain ⟨p', h7, h8⟩ := List.mem_map.1 h6
                simp only [Prod.mk.injEq] at h8
                obtain ⟨rfl, rfl⟩ := h8
                exact h7
              unfold psX at h5
              rw [if_pos hL] at h5
              obtain ⟨h6, h7⟩ := List.mem_filter.1 h5
              have h6 := List.mem_range.1 h6
              simp only [beq_iff_eq] at h7
              rw [← e] at h7
              rw [List.getD_eq_getElem?_getD, List.getD_eq_getElem?_getD, List.getElem?_eq_getElem hq, List.getElem?_eq_getElem h6] at h7
              exact ((List.getElem_inj hLn).1 (by simpa using h7)).symm
            subst hqp
            refine ⟨by omega, fun q' hq' => ?_⟩
            rw [getD_add hsi, hI.2 q' hq', ← e]
            have : L.getD q' 0 = L.getD q 0 ↔ q' = q := by
              rw [List.getD_eq_getElem?_getD, List.getD_eq_getElem?_getD, List.getElem?_eq_getElem hq, List.getElem?_eq_getElem hq']
              exact ⟨fun h => (List.getElem_inj hLn).1 (by simpa using h), fun h => by subst h; rfl⟩
            rw [this]
            omega
          · rename_i hL
            refine ⟨hI.1, fun q' hq' => ?_⟩
            rw [getD_add hsi, hI.2 q' hq']
            have : ¬ L.getD q' 0 = i := by
              intro h
              refine hL (List.contains_iff_mem.2 ?_)
              rw [← h, List.getD_eq_getElem?_getD, List.getElem?_eq_getElem hq']
              exact List.getElem_mem hq'
            constructor
            · rintro (h | h)
              · exact absurd h this
              · exact h
            · exact .inr
        · rw [Array.toList_setIfInBounds, tmD_add _ _ _ _ _ _ _ hdn (by rw [Array.getElem?_toList]; exact ho) hci hfl]
          exact ⟨m', Z', h4⟩
  refine key ops.size (Array.replicate ops.size false) 0 a _ (by simp) ?_ ?_ ⟨Nat.zero_le _, fun q hq => ?_⟩ ?_
  · simp [List.count_replicate]
  · intro i hi
    rw [Array.getD_eq_getD_getElem?, Array.getElem?_replicate] at hi
    split at hi <;> simp at hi
  · constructor
    · intro h
      rw [Array.getD_eq_getD_getElem?, Array.getElem?_replicate] at h
      split at h <;> simp at h
    · intro h; omega
  · rw [Array.toList_replicate, tmD_no, h0]
    obtain ⟨m, Z, hm'⟩ := hs
    exact ⟨m, Z, hm'.drewN 1⟩
end
end Go.Proofs.YtljdidlkiknknaaDoor.AB
namespace Go.Proofs.YtljdidlkiknknaaDoor.AB
open Go Go.RowKit Go.Proofs.YtljdidlkiknknaaDoorW.PrintWords Go.Proofs.YtljdidlkiknknaaDoorW.PrintMore
set_option linter.unusedSimpArgs false
set_option linter.unusedVariables false
section
variable {P : Program} {F : Frm} {σ : St}
def loudG (o : Op) (gs : List Gs) : Bool := match o, gs with
  | .store .., _ => true
  | .buildSlice .., _ => true
  | .call ⟨.builtin .append, _, _⟩, _ => true
  | .call _, .g .. :: _ => true
  | _, _ => false
def loudL (ops : Array Oper) (gss : List (List Gs)) : List Nat := (List.range ops.size).filter fun i => match ops[i]? with
  | some o => loudG o.op (nrm (gss.getD i []))
  | none => false
def obsX (cs : List (List Prop × St)) (L : List Nat) (σ : St) : List (List Slot) := σ.ob :: L.map fun l => (cs.getD l ([], σ)).2.ob
def drawX1 (P : Program) (gss : List (List Gs)) (d : Option (List Prop × Array Oper × List (List Prop × St) × List It × St)) : List (Option (List Prop × St)) := match d with
  | some d => drawXL P d.2.1 gss d.2.2.1 (loudL d.2.1 gss) (obsX d.2.2.1 (loudL d.2.1 gss) d.2.2.2.2) d.2.2.2.2 ++ [some ([], ⟨tmD d.2.1.toList d.2.2.1 (List.replicate d.2.1.size true) d.2.2.2.2.tm, (obsX d.2.2.1 (loudL d.2.1 gss) d.2.2.2.2).getD (loudL d.2.1 gss).length []⟩)]
  | none => []
def drawX2 (gss : List (List Gs)) (d : Option (List Prop × Array Oper × List (List Prop × St) × List It × St)) : List (Option (List Prop × St)) := match d with
  | some d => drawXR d.2.1 d.2.2.1 (loudL d.2.1 gss) (obsX d.2.2.1 (loudL d.2.1 gss) d.2.2.2.2) d.2.2.2.2 ++ [some ([], lastS d.2.2.1 d.2.2.2.2)]
  | none => []
def drawX3 (gss : List (List Gs)) (d : Option (List Prop × Array Oper × List (List Prop × St) × List It × St)) : Bool := match d with
  | some d => drawXB d.2.1 (loudL d.2.1 gss) && (d.2.2.1.length == d.2.1.size)
  | none => true
theorem drx_ok {Q : Exit → Act → World → Prop} {n : Nat} {K K' : List It} {e : AE} {gs : List Gs} (gss : List (List Gs)) (ts ks : List Nat) {ob : List Prop} {σ' : St} (h : runD P n K e σ gs gss ts ks = some (ob, K', σ')) (hob : Obs ob) (hR : AX P F Q K' .normal σ')
    (hm : P.follows .mixedOrders = true := by kernel_rfl) (h1 : drawX1 P gss (drawDat P n K e σ gs gss) = drawX2 gss (drawDat P n K e σ gs gss) := by kernel_rfl) (h3 : drawX3 gss (drawDat P n K e σ gs gss) = true := by kernel_rfl) (hpr : PrefOk F ks := by exact pref_of (by assumption) rfl) : AX P F Q K e σ := by
  obtain ⟨⟨ob0, ops, cs, K1, σ1⟩, hd, h4⟩ := bind_some h
  rw [hd] at h1 h3
  obtain ⟨σ3, hp, h5⟩ := Option.map_eq_some_iff.1 h4
  simp only [Prod.mk.injEq] at h5
  obtain ⟨rfl, rfl, rfl⟩ := h5
  obtain ⟨o1, o2⟩ := Obs_app hob
  obtain ⟨⟨ob', s⟩, hr, h6⟩ := bind_some hd
  cases s with
  | fin e' σ' => cases h6
  | head b K' σ' => cases h6
  | inv R σ' => cases h6
  | draw id ops' K' σ' =>
    obtain ⟨cs', hc, h7⟩ := Option.map_eq_some_iff.1 h6
    simp only [Prod.mk.injEq] at h7
    obtain ⟨rfl, rfl, rfl, rfl, rfl⟩ := h7
    refine run_ok n K e σ gs hr o1 ?_
    simp only [drawX3, Bool.and_eq_true, beq_iff_eq] at h3
    have h8 := List.append_inj' h1 rfl
    have h9 : (⟨tmD ops'.toList cs' (List.replicate ops'.size true) σ'.tm, (obsX cs' (loudL ops' gss) σ').getD (loudL ops' gss).length []⟩ : St) = lastS cs' σ' := by
      have := h8.2
      simpa using this
    exact drawx_ok (id := id) gss (loudL ops' gss) (obsX cs' (loudL ops' gss) σ') hm o2 h8.1 h3.2 rfl h9 h3.1 fun a w hs => hR a w (hs.pack hpr hp)
end
end Go.Proofs.YtljdidlkiknknaaDoor.AB
namespace Go.Proofs.YtljdidlkiknknaaDoor.AB
open Go Go.RowKit Go.Proofs.YtljdidlkiknknaaDoorW.PrintWords Go.Proofs.YtljdidlkiknknaaDoorW.PrintMore
set_option linter.unusedSimpArgs false
set_option linter.unusedVariables false
section
variable {P : Program} {F : Frm} {σ : St}
/-- A nil slice is told as a list without elements, where the mask says so (an element's size). -/
def wkC : Option Nat → CV → CV
  | some sz, .i (.v (.slice none 0 0)) => .i (.sl sz [])
  | _, x => x
def wkL : List (Option Nat) → List CV → List CV
  | m :: ms, x :: xs => wkC m x :: wkL ms xs
  | _, xs => xs
def wkT (m : List (Option Nat)) : TV → TV
  | .c x => .c (wkC (m.headD none) x)
  | .agg xs => .agg (wkL m xs)
def wkTL : List (List (Option Nat)) → List TV → List TV
  | m :: ms, x :: xs => wkT m x :: wkTL ms xs
  | _, xs => xs
def wkV (m : List (List (Option Nat))) : AV → AV
  | .t x => .t (wkT (m.headD []) x)
  | .tup xs => .tup (wkTL m xs)
section
variable {m : Mp} {w : World} {Z : Nat → Prop}
theorem wkC_ok (k : Option Nat) {x : CV} {u : Value} (h : RepC m w Z x u) : RepC m w Z (wkC k x) u := by
  unfold wkC
  split
  · have h : RepI w Z (.v (.slice none 0 0)) u := h
    cases h
    exact RepI.nil none 0 fun _ => rfl
  · exact h
theorem wkL_ok : ∀ (k : List (Option Nat)) {xs : List CV} {us : List Value}, Cells m w Z xs us → Cells m w Z (wkL k xs) us
  | [], xs, us, h => by cases xs <;> exact h
  | k :: ks, [], us, h => h
  | k :: ks, x :: xs, us, h => by
    have hl := h.1
    match us, hl with
    | u :: us, _ => exact All2.cons (wkC_ok k (h.2 0 x u rfl rfl)) (wkL_ok ks ⟨by simpa using h.1, fun j y v hy hv => h.2 (j + 1) y v (by simpa using hy) (by simpa using hv)⟩)
theorem wkT_ok (k : List (Option Nat)) {x : TV} {u : Value} (h : RepT m w Z x u) : RepT m w Z (wkT k x) u := by
  cases x with
  | c x => exact wkC_ok _ (x := x) h
  | agg xs => obtain ⟨us, e, h⟩ := h; exact ⟨us, e, wkL_ok k h⟩
theorem wkTL_ok : ∀ (k : List (List (Option Nat))) {xs : List TV} {us : List Value}, All2 (RepT m w Z) xs us → All2 (RepT m w Z) (wkTL k xs) us
  | [], xs, us, h => by cases xs <;> exact h
  | k :: ks, [], us, h => h
  | k :: ks, x :: xs, us, h => by
    have hl := h.1
    match us, hl with
    | u :: us, _ => exact All2.cons (wkT_ok k (h.2 0 x u rfl rfl)) (wkTL_ok ks ⟨by simpa using h.1, fun j y v hy hv => h.2 (j + 1) y v (by simpa using hy) (by simpa using hv)⟩)
theorem wkV_ok (k : List (List (Option Nat))) {x : AV} {u : Value} (h : RepV m w Z x u) : RepV m w Z (wkV k x) u := by
  cases x with
  | t x => exact wkT_ok _ (x := x) h
  | tup xs => obtain ⟨us, e, h⟩ := h; exact ⟨us, e, wkTL_ok k h⟩
end
def QFW (P : Program) (F : Frm) (fn : Func) (r : AV) (e : Exit) (a : Act) (w : World) : Prop := ∃ r0 k, QF P F fn r0 e a w ∧ wkV k r0 = r
theorem fnW_ok {f : FuncId} {fn : Func} {c : Code} {args : List TV} {r : AV} (hf : P.funcs[f]? = some fn) (hn : (fn.name == "runtime.NumGoroutine") = false) (hb : fn.body = some c) (hi : args.all TV.imm = true) (h : ∀ F : Frm, F.k = 0 → AX P F (QFW P F fn r) [.code c] .normal (entry args fn.ntmps)) : Ok P f args r := by
  refine ⟨⟨fn, hf, hn, by rw [hb]; rfl⟩, fun w Z us ht hz ha => ?_⟩
  let F : Frm := ⟨w, fun b => b < w.heap.size, Z, 0, noM⟩
  refine calls_of_wp hf hb ?_
  have hl := ha.1
  have hsim : Sim F noM Z (entry args fn.ntmps) { tmps := us.toArray ++ Array.replicate (fn.ntmps - us.toArray.size) undef, defers := [] } w := by
    refine ⟨by simp [entry, hl], ?_, fun id o ho => by simp [entry] at ho, fun id _ => rfl, fun id id' v v' b hl => by obtain ⟨o, ho⟩ := hl; simp [entry] at ho, fun id v b hl => by obtain ⟨o, ho⟩ := hl; simp [entry] at ho, hz, fun b hb => hb, fun b hb => .inl hb, fun b hb => ⟨hb, rfl⟩, Nat.le_refl _, rfl, rfl, rfl, rfl, ht, fun i hi => absurd hi (Nat.not_lt_zero _)⟩
    intro t x hx
    have hx : (args.map (fun x => some (AV.t x)) ++ List.replicate (fn.ntmps - args.length) none)[t]? = some (some x) := hx
    by_cases ht : t < args.length
    · rw [List.getElem?_append_left (by simpa using ht), List.getElem?_map] at hx
      cases hy : args[t]? with
      | none => rw [hy] at hx; cases hx
      | some y =>
        rw [hy] at hx
        simp at hx
        subst hx
        obtain ⟨u, hu, hr⟩ := ha.get hy
        refine ⟨u, ?_, hr⟩
        show (us.toArray ++ Array.replicate (fn.ntmps - us.toArray.size) undef)[t]? = some u
        rw [Array.getElem?_append_left (by simp; omega)]
        simpa using hu
    · rw [List.getElem?_append_right (by simpa using ht), List.getElem?_replicate] at hx
      split at hx <;> simp at hx
  have h1 := h F rfl _ w ⟨noM, Z, hsim⟩
  refine Code.wp_mono ?_ (show c.wp P (QFW P F fn r) _ w from h1)
  rintro e a w' ⟨r0, k, ⟨he, σ, ⟨m, Z', hs⟩, hr, him⟩, rfl⟩
  obtain ⟨u, h2, h3⟩ := resP_ok (fn := fn) hs hr
  have hpost : a.defers = [] ∧ ∃ v, (results fn a.tmps).run P w' = .ok v w' ∧ ∃ u Z', Ending.returned v = .returned u ∧ Below w.heap.size w w' ∧ (∀ b, Z b → Z' b) ∧ (∀ b, Z' b → Z b ∨ (w.heap.size ≤ b ∧ b < w'.heap.size)) ∧ RepV noM w' Z' (wkV k r0) u := by
    refine ⟨hs.df, u, h2, u, Z', rfl, ⟨hs.os, hs.tape, hs.output, hs.sz, fun k hk => (hs.kp k hk).2⟩, hs.z0, fun b hb => ?_, wkV_ok k (h3.imm him)⟩
    rcases hs.zn b hb with h4 | h4
    · exact .inl h4
    · exact .inr ⟨Nat.le_of_not_lt h4, hs.zb b hb⟩
  rcases he with rfl | rfl
  · exact hpost
  · exact hpost
theorem den_mono {Q Q' : Exit → Act → World → Prop} (hq : ∀ e a w, Q e a w → Q' e a w) : ∀ (K : List It) (e : AE) (a : Act) (w : World), den P Q K e.x a w → den P Q' K e.x a w := by
  have key : ∀ (K : List It) (e : Exit) (a : Act) (w : World), den P Q K e a w → den P Q' K e a w := by
    intro K
    induction K with
    | nil => exact fun e a w h => hq e a w h
    | cons it K ih =>
      cases it with
      | code c =>
        intro e a w h
        cases e with
        | normal => exact Code.wp_mono ih h
        | _ => exact ih _ _ _ h
      | blk id =>
        intro e a w h
        cases e with
        | exit id' =>
          have h : (if id' = id then den P Q K .normal a w else den P Q K (.exit id') a w) := h
          show (if id' = id then den P Q' K .normal a w else den P Q' K (.exit id') a w)
          split
          · rename_i e; rw [if_pos e] at h; exact ih _ _ _ h
          · rename_i e; rw [if_neg e] at h; exact ih _ _ _ h
        | _ => exact ih _ _ _ h
      | inv R =>
        intro e a w h
        cases e with
        | normal => exact h
        | _ => exact ih _ _ _ h
  exact fun K e a w h => key K e.x a w h
theorem AX_mono {Q Q' : Exit → Act → World → Prop} (hq : ∀ e a w, Q e a w → Q' e a w) {K : List It} {e : AE} (h : AX P F Q K e σ) : AX P F Q' K e σ := fun a w hs => den_mono hq K e a w (h a w hs)
theorem finW_ok {fn : Func} {r r' : AV} {n : Nat} {K : List It} {e : AE} {gs : List Gs} (fz : List Gs) {ob : List Prop} (k : List (List (Option Nat))) (h : runR P fn n K e σ gs fz = some (ob, r')) (hob : Obs ob) (hr : wkV k r' = r) : AX P F (QFW P F fn r) K e σ :=
  AX_mono (fun e a w hq => ⟨r', k, hq, hr⟩) (fin_ok fz h hob rfl)
end
theorem inR_iff {i : Int} {n : Nat} : inR i n = true ↔ 0 ≤ i ∧ i < (n : Int) := by simp [inR]
theorem inR_lo {i : Int} {n : Nat} (h : inR i n = true) : 0 ≤ i := (inR_iff.mp h).1
theorem inR_hi {i : Int} {n m : Nat} (e : m = n) (h : inR i n = true) : i < (m : Int) := by rw [e]; exact (inR_iff.mp h).2
theorem el_of {α : Type} [Inhabited α] (e : α → List IV) {raw : List (List IV)} {l : List α} {i : Int} (h : raw = l.map e) (c : inR i l.length = true) : raw[i.toNat]? = some (e (l.getD i.toNat default)) := by
  have h1 := inR_iff.mp c
  have h2 : i.toNat < l.length := by omega
  subst h
  simp [h2]
def inC (l r : Int) (n : Nat) : Bool := decide (0 ≤ l) && decide (l ≤ r) && decide (r ≤ (n : Int))
theorem inC_iff {l r : Int} {n : Nat} : inC l r n = true ↔ 0 ≤ l ∧ l ≤ r ∧ r ≤ (n : Int) := by simp [inC, and_assoc]
theorem inC_1 {l r : Int} {n : Nat} (h : inC l r n = true) : 0 ≤ l := (inC_iff.mp h).1
theorem inC_2 {l r : Int} {n : Nat} (h : inC l r n = true) : l ≤ r := (inC_iff.mp h).2.1
theorem inC_2' {l : Int} {n m : Nat} (e : m = n) (h : inC l (n : Int) n = true) : l ≤ (m : Int) := by rw [e]; exact (inC_iff.mp h).2.1
theorem inC_3 {l r : Int} {n m : Nat} (e : m = n) (h : inC l r n = true) : r ≤ (m : Int) := by rw [e]; exact (inC_iff.mp h).2.2
def okMk (b : Int) (n : Int) : Bool := decide (0 ≤ n) && decide (b * n ≤ 281474976710656)
theorem okMk_lo {b n : Int} (h : okMk b n = true) : 0 ≤ n := by simp [okMk] at h; exact h.1
theorem okMk_hi {b n : Int} (h : okMk b n = true) : b * n ≤ 281474976710656 := by simp [okMk] at h; exact h.2
def okAp (n b : Nat) : Bool := decide (n * b ≤ 140737488355328)
theorem okAp_of {n m b : Nat} (e : m = n) (h : okAp n b = true) : m * b ≤ 140737488355328 := by rw [e]; simpa [okAp] using h
theorem chk_some {α : Type} {c : Bool} {x : Option α} {r : α} (h : (bif c then x else none) = some r) : c = true ∧ x = some r := by cases c <;> simp at h ⊢; exact h
theorem bif_some {α : Type} {c : Bool} {x y : Option α} {r : α} (h : (bif c then x else y) = some r) : (c = true ∧ x = some r) ∨ (c = false ∧ y = some r) := by cases c <;> simp at h ⊢ <;> exact h
theorem bind_some' {α β : Type} {x : Option α} {f : α → Option β} {r : β} (h : x.bind f = some r) : ∃ y, x = some y ∧ f y = some r := by cases x <;> simp at h ⊢; exact h
def optM {α β : Type} (o : Option α) (x : β) (f : α → β) : β := match o with
  | none => x
  | some y => f y
theorem optM_some {α β : Type} {o : Option α} {x : Option β} {f : α → Option β} {r : β} (h : optM o x f = some r) : (o = none ∧ x = some r) ∨ ∃ y, o = some y ∧ f y = some r := by cases o <;> simp [optM] at h ⊢ <;> exact h
theorem wrap_u_nonneg' {k : IntKind} (n : Int) (h : k.signed = false := by rfl) : (0 : Int) ≤ k.wrap n := by
  unfold IntKind.wrap
  rw [h]
  have : (0 : Int) < 2 ^ k.bits := by cases k <;> decide
  have h2 := Int.emod_nonneg n (show (2 : Int) ^ k.bits ≠ 0 by omega)
  simpa using h2
end Go.Proofs.YtljdidlkiknknaaDoor.AB
namespace Go.Proofs.YtljdidlkiknknaaDoor.AB
open Go Go.RowKit Go.Proofs.YtljdidlkiknknaaDoorW.PrintWords Go.Proofs.YtljdidlkiknknaaDoorW.PrintMore
set_option linter.unusedSimpArgs false
set_option linter.unusedVariables false
section
variable {P : Program} {F : Frm} {σ : St}
def St.adoptB (σ : St) : List (Nat × Nat × Nat × Nat) → Option St
  | [] => some σ
  | (id, j, e, sz) :: l => match σ.ob[id]? with
    | some (.live (.box e0 cs)) => match cs[j]? with
      | some (.i (.v (.slice none 0 0))) => St.adoptB ⟨σ.tm, ((room1 σ).ob.set σ.ob.length (.live (.row e sz []))).set id (.live (.box e0 (cs.set j (.os σ.ob.length))))⟩ l
      | _ => none
    | _ => none
theorem SimX.adoptB {a : Act} {w : World} : ∀ {l : List (Nat × Nat × Nat × Nat)} {σ σ' : St}, σ.adoptB l = some σ' → SimX F σ a w → SimX F σ' a w
  | [], σ, σ', h, hs => by simp only [St.adoptB, Option.some.injEq] at h; subst h; exact hs
  | (id, j, e, sz) :: l, σ, σ', h, hs => by
    simp only [St.adoptB] at h
    split at h
    · rename_i e0 cs hob
      split at h
      · rename_i hcj
        refine SimX.adoptB h ?_
        obtain ⟨m, Z, hm⟩ := hs
        have hm := hm.room 1
        have hf := room1_free σ
        have hn : m σ.ob.length = none := hm.fr _ (.inl hf)
        have hmm : ∀ i v, m i = some v → (fun i => if i = σ.ob.length then some (Value.slice none 0 0) else m i) i = some v := by
          intro i v hv
          by_cases e : i = σ.ob.length
          · subst e; rw [hn] at hv; cases hv
          · simp [e, hv]
        have h1 := hm.upd (m' := fun i => if i = σ.ob.length then some (Value.slice none 0 0) else m i) (w' := w) σ.ob.length (.live (.row e sz [])) none ⟨rfl, rfl, rfl, Nat.le_refl _⟩ (fun b hb => by cases hb) (fun _ _ _ => rfl) (fun i hi => by simp [hi]) (fun v hv => hmm _ v hv) (List.getElem?_eq_some_iff.mp hf).1 (by simp) (fun o ho => by
          obtain rfl := Slot.live.inj ho
          exact ⟨_, by simp, ⟨[], own_nil w 0 e sz, All2.nil, fun us hu => by simp at hu⟩, fun b hb => by cases hb⟩)
        have hidlt : id < σ.ob.length := (List.getElem?_eq_some_iff.mp hob).1
        have hob1 : ((σ.ob ++ List.replicate 1 Slot.free).set σ.ob.length (.live (.row e sz [])))[id]? = some (.live (.box e0 cs)) := by
          rw [List.getElem?_set_ne (by omega), List.getElem?_append_left hidlt, hob]
        obtain ⟨v, hv, hrep⟩ := h1.ob id _ hob1
        obtain ⟨g, us, rfl, hh, hc⟩ := hrep
        have hc2 : Cells (fun i => if i = σ.ob.length then some (Value.slice none 0 0) else m i) w Z (cs.set j (.os σ.ob.length)) us := by
          refine ⟨by rw [List.length_set]; exact hc.1, fun i x u hx hu => ?_⟩
          by_cases hij : j = i
          · subst hij
            rw [List.getElem?_set_self (List.getElem?_eq_some_iff.mp hcj).1] at hx
            obtain rfl := Option.some.inj hx
            have h5 : RepI w Z (.v (.slice none 0 0)) u := hc.2 j _ u hcj hu
            cases h5
            exact ⟨by simp, _, _, _, rfl⟩
          · rw [List.getElem?_set_ne hij] at hx
            exact hc.2 i x u hx hu
        have hlid : St.live ⟨σ.tm, (σ.ob ++ List.replicate 1 Slot.free).set σ.ob.length (.live (.row e sz []))⟩ id := ⟨_, hob1⟩
        have h2 := h1.upd (m' := fun i => if i = σ.ob.length then some (Value.slice none 0 0) else m i) (w' := w) id (.live (.box e0 (cs.set j (.os σ.ob.length)))) (some g) ⟨rfl, rfl, rfl, Nat.le_refl _⟩ (fun b hb => by
            obtain rfl := Option.some.inj hb
            have h6 := h1.az id _ g hlid hv rfl
            exact ⟨h6.1, h6.2, fun i v' hi hl' hv' hbb => hi (h1.ap i id v' _ g hl' hlid hv' hv hbb rfl)⟩) (fun _ _ _ => rfl) (fun _ _ => rfl) (fun v hv => hv) (by simp; omega) (by simp) (fun o ho => by
          obtain rfl := Slot.live.inj ho
          exact ⟨_, hv, ⟨g, us, rfl, hh, hc2⟩, fun b hb => .inl (by simpa [Value.ownBlock] using hb)⟩)
        exact ⟨_, Z, h2⟩
      · cases h
    · cases h
def runHB (P : Program) (n : Nat) (K : List It) (e : AE) (σ : St) (gs : List Gs) (ad : List (Nat × Nat × Nat)) (adb : List (Nat × Nat × Nat × Nat)) (ts ks : List Nat) : Option (List Prop × Code × List It × St) := (run P n K e σ gs).bind fun q => match q.2 with
  | .head b K' σ' => (((σ'.adopt ad).bind (St.adoptB · adb)).bind (St.pack ts ks)).map fun σ'' => (q.1, b, K', σ'')
  | _ => none
theorem headB_ok {Q : Exit → Act → World → Prop} {n : Nat} {K K' : List It} {e : AE} {gs : List Gs} (ad : List (Nat × Nat × Nat)) (adb : List (Nat × Nat × Nat × Nat)) (ts ks : List Nat) {ob : List Prop} {b : Code} {σ' : St} (h : runHB P n K e σ gs ad adb ts ks = some (ob, b, K', σ')) (hob : Obs ob) (hR : AX P F Q (.code (.loop b) :: K') .normal σ') (hpr : PrefOk F ks := by exact pref_of (by assumption) rfl) : AX P F Q K e σ := by
  obtain ⟨⟨ob', s⟩, h1, h2⟩ := bind_some h
  cases s with
  | fin e' σ' => cases h2
  | inv R' σ1 => cases h2
  | draw id ops K' σ' => cases h2
  | head b' K1 σ1 =>
    obtain ⟨σ2, h3, h4⟩ := Option.map_eq_some_iff.1 h2
    simp only [Prod.mk.injEq] at h4
    obtain ⟨rfl, rfl, rfl, rfl⟩ := h4
    obtain ⟨σ3, h5, h6⟩ := bind_some h3
    obtain ⟨σ4, h7, h8⟩ := bind_some h5
    exact run_ok n K e σ gs h1 hob fun a w hs => hR a w (((hs.adopt h7).adoptB h8).pack hpr h6)
end
end Go.Proofs.YtljdidlkiknknaaDoor.AB
namespace Go.Proofs.YtljdidlkiknknaaDoor.AB
open Go Go.RowKit Go.Proofs.YtljdidlkiknknaaDoorW.PrintWords Go.Proofs.YtljdidlkiknknaaDoorW.PrintMore
set_option linter.unusedSimpArgs false
set_option linter.unusedVariables false
section
variable {P : Program} {F : Frm} {σ : St}
def wkI : Option Nat → IV → IV
  | some sz, .v (.slice none 0 0) => .sl sz []
  | _, x => x
def wkIL : List (Option Nat) → List IV → List IV
  | k :: ks, x :: xs => wkI k x :: wkIL ks xs
  | _, xs => xs
theorem wkI_ok {w : World} {Z : Nat → Prop} (k : Option Nat) {x : IV} {u : Value} (h : RepI w Z x u) : RepI w Z (wkI k x) u := by
  unfold wkI
  split
  · cases h
    exact RepI.nil none 0 fun _ => rfl
  · exact h
theorem wkIL_ok {w : World} {Z : Nat → Prop} : ∀ (ks : List (Option Nat)) {xs : List IV} {us : List Value}, ICells w Z xs us → ICells w Z (wkIL ks xs) us
  | [], xs, us, h => by cases xs <;> exact h
  | k :: ks, [], us, h => h
  | k :: ks, x :: xs, us, h => by
    have hl := h.1
    match us, hl with
    | u :: us, _ => exact All2.cons (wkI_ok k (h.2 0 x u rfl rfl)) (wkIL_ok ks ⟨by simpa using h.1, fun j y v hy hv => h.2 (j + 1) y v (by simpa using hy) (by simpa using hv)⟩)
theorem All2.mapL {α β γ : Type} {R : α → β → Prop} {R' : γ → β → Prop} {f : α → γ} {xs : List α} {us : List β} (h : All2 R xs us) (hf : ∀ x u, R x u → R' (f x) u) : All2 R' (xs.map f) us := by
  refine ⟨by rw [List.length_map]; exact h.1, fun j x u hx hu => ?_⟩
  rw [List.getElem?_map] at hx
  cases hy : xs[j]? with
  | none => rw [hy] at hx; cases hx
  | some y => rw [hy] at hx; obtain rfl := Option.some.inj hx; exact hf _ _ (h.2 j y u hy hu)
/-- An object is retold, in the same world. -/
theorem Sim.retell {m : Mp} {Z : Nat → Prop} {a : Act} {w : World} (h : Sim F m Z σ a w) {id : Nat} {o o' : AObj} {v : Value} (ho : σ.ob[id]? = some (.live o)) (hv : m id = some v) (hr : ObRep m w Z o' v) : Sim F m Z { σ with ob := σ.ob.set id (.live o') } a w := by
  refine h.upd (m' := m) (w' := w) id (.live o') v.ownBlock ⟨rfl, rfl, rfl, Nat.le_refl _⟩ (fun b hb => ?_) (fun _ _ _ => rfl) (fun _ _ => rfl) (fun _ hv => hv) (List.getElem?_eq_some_iff.mp ho).1 (by simp) (fun o1 ho1 => by
    obtain rfl := Slot.live.inj ho1
    exact ⟨v, hv, hr, fun b hb => .inl hb⟩)
  have h6 := h.az id v b ⟨_, ho⟩ hv hb
  exact ⟨h6.1, h6.2, fun i v' hi hl' hv' hbb => hi (h.ap i id v' v b hl' ⟨_, ho⟩ hv' hv hbb hb)⟩
theorem nameG_ok {Q : Exit → Act → World → Prop} {K : List It} {e : AE} (id : Nat) (mask : List (Option Nat)) {e0 sz : Nat} {xs : List (List IV)} (ho : σ.ob[id]? = some (.live (.row e0 sz xs))) (hl : 0 < xs.length)
    (hR : ∀ g, AX P F Q K e { σ with ob := σ.ob.set id (.live (.rowG g e0 sz (xs.map (wkIL mask)) none)) }) : AX P F Q K e σ := by
  rintro a w ⟨m, Z, hm⟩
  obtain ⟨v, h2, uss, h3, hc, hs⟩ := hm.ob id _ ho
  rcases h3.2 with ⟨hv, h0⟩ | ⟨g, cap, cur, hv, -⟩
  · omega
  · refine hR g a w ⟨m, Z, hm.retell ho h2 ⟨cap, uss, by rw [List.length_map]; exact hv, by rw [List.length_map]; exact h3, OvlRep.of_row (All2.mapL hc fun x u h => wkIL_ok mask h), hs⟩⟩
/-- A nil slice in a cell of such a row, taken as a row of one's own. -/
theorem adoptG_ok {Q : Exit → Act → World → Prop} {K : List It} {ex : AE} (id i j : Nat) (ys : List IV) (e sz : Nat) {g e0 sz0 : Nat} {xs : List (List IV)} (ho : σ.ob[id]? = some (.live (.rowG g e0 sz0 xs none))) (hy : xs[i]? = some ys) (hj : ys[j]? = some (.v (.slice none 0 0)))
    (hR : AX P F Q K ex ⟨σ.tm, ((room1 σ).ob.set σ.ob.length (.live (.row e sz []))).set id (.live (.rowG g e0 sz0 (xs.set i (ys.set j (.sl sz []))) (some (i, j, .os σ.ob.length))))⟩) : AX P F Q K ex σ := by
  rintro a w ⟨m, Z, hm⟩
  refine hR a w ?_
  have hm := hm.room 1
  have hf := room1_free σ
  have hn : m σ.ob.length = none := hm.fr _ (.inl hf)
  have hmm : ∀ i v, m i = some v → (fun i => if i = σ.ob.length then some (Value.slice none 0 0) else m i) i = some v := by
    intro i v hv
    by_cases e : i = σ.ob.length
    · subst e; rw [hn] at hv; cases hv
    · simp [e, hv]
  have h1 := hm.upd (m' := fun i => if i = σ.ob.length then some (Value.slice none 0 0) else m i) (w' := w) σ.ob.length (.live (.row e sz [])) none ⟨rfl, rfl, rfl, Nat.le_refl _⟩ (fun b hb => by cases hb) (fun _ _ _ => rfl) (fun i hi => by simp [hi]) (fun v hv => hmm _ v hv) (List.getElem?_eq_some_iff.mp hf).1 (by simp) (fun o ho => by
    obtain rfl := Slot.live.inj ho
    exact ⟨_, by simp, ⟨[], own_nil w 0 e sz, All2.nil, fun us hu => by simp at hu⟩, fun b hb => by cases hb⟩)
  have hidlt : id < σ.ob.length := (List.getElem?_eq_some_iff.mp ho).1
  have hob1 : ((σ.ob ++ List.replicate 1 Slot.free).set σ.ob.length (.live (.row e sz [])))[id]? = some (.live (.rowG g e0 sz0 xs none)) := by
    rw [List.getElem?_set_ne (by omega), List.getElem?_append_left hidlt, ho]
  obtain ⟨v, hv, c, uss, hv0, hown, hc, hs⟩ := h1.ob id _ hob1
  refine ⟨_, Z, h1.retell hob1 hv ⟨c, uss, by rw [List.length_set]; exact hv0, by rw [List.length_set]; exact hown, ⟨by rw [List.length_set]; exact hc.1, fun i' ys' us h3 h4 => ?_⟩, hs⟩⟩
  by_cases e1 : i = i'
  · subst e1
    rw [List.getElem?_set_self (List.getElem?_eq_some_iff.mp hy).1] at h3
    obtain rfl := Option.some.inj h3
    have h5 := hc.2 i ys us hy h4
    refine ⟨by rw [List.length_set]; exact h5.1, fun j' y u h6 h7 => ?_⟩
    by_cases e2 : j = j'
    · subst e2
      have h8 : RepI w Z (.v (.slice none 0 0)) u := h5.2 j _ u hj h7
      cases h8
      unfold ovl
      simp only [and_self, if_true]
      exact ⟨by simp, _, _, _, rfl⟩
    · rw [List.getElem?_set_ne e2] at h6
      have h9 := h5.2 j' y u h6 h7
      unfold ovl at h9 ⊢
      simp only [show ¬ (j' = j) from fun e => e2 e.symm, and_false, if_false]
      exact h9
  · rw [List.getElem?_set_ne e1] at h3
    have h5 := hc.2 i' ys' us h3 h4
    refine ⟨h5.1, fun j' y u h6 h7 => ?_⟩
    have h9 := h5.2 j' y u h6 h7
    unfold ovl at h9 ⊢
    simp only [show ¬ (i' = i) from fun e => e1 e.symm, false_and, if_false]
    exact h9
theorem freeze_ok {Q : Exit → Act → World → Prop} {K : List It} {ex : AE} (k : Nat) {σ' : St} (hf : σ.freeze k = some σ') (hR : AX P F Q K ex σ') : AX P F Q K ex σ := by
  rintro a w ⟨m, Z, hm⟩
  obtain ⟨Z', h1⟩ := hm.freeze hf
  exact hR a w ⟨m, Z', h1⟩
/-- What is told apart is told plainly again. -/
theorem foldG_ok {Q : Exit → Act → World → Prop} {K : List It} {ex : AE} (id : Nat) (ys : List IV) {g e0 sz0 i j : Nat} {xs : List (List IV)} {y : IV} (ho : σ.ob[id]? = some (.live (.rowG g e0 sz0 xs (some (i, j, .i y))))) (hy : xs[i]? = some ys)
    (hR : AX P F Q K ex { σ with ob := σ.ob.set id (.live (.rowG g e0 sz0 (xs.set i (ys.set j y)) none)) }) : AX P F Q K ex σ := by
  rintro a w ⟨m, Z, hm⟩
  refine hR a w ?_
  obtain ⟨v, hv, c, uss, hv0, hown, hc, hs⟩ := hm.ob id _ ho
  refine ⟨m, Z, hm.retell ho hv ⟨c, uss, by rw [List.length_set]; exact hv0, by rw [List.length_set]; exact hown, ⟨by rw [List.length_set]; exact hc.1, fun i' ys' us h3 h4 => ?_⟩, hs⟩⟩
  by_cases e1 : i = i'
  · subst e1
    rw [List.getElem?_set_self (List.getElem?_eq_some_iff.mp hy).1] at h3
    obtain rfl := Option.some.inj h3
    have h5 := hc.2 i ys us hy h4
    refine ⟨by rw [List.length_set]; exact h5.1, fun j' z u h6 h7 => ?_⟩
    by_cases e2 : j = j'
    · subst e2
      have hjl : j < ys.length := by rw [h5.1]; exact (List.getElem?_eq_some_iff.mp h7).1
      rw [List.getElem?_set_self hjl] at h6
      obtain rfl := Option.some.inj h6
      have h9 := h5.2 j _ u (List.getElem?_eq_getElem hjl) h7
      unfold ovl at h9
      simp only [and_self, if_true] at h9
      exact h9
    · rw [List.getElem?_set_ne e2] at h6
      have h9 := h5.2 j' z u h6 h7
      unfold ovl at h9
      simp only [show ¬ (j' = j) from fun e => e2 e.symm, and_false, if_false] at h9
      exact h9
  · rw [List.getElem?_set_ne e1] at h3
    have h5 := hc.2 i' ys' us h3 h4
    refine ⟨h5.1, fun j' z u h6 h7 => ?_⟩
    have h9 := h5.2 j' z u h6 h7
    unfold ovl at h9
    simp only [show ¬ (i' = i) from fun e => e1 e.symm, false_and, if_false] at h9
    exact h9
/-- The whole row is given up: it is read as other words say. -/
def St.exitG (σ : St) (id sz : Nat) (xs : List (List IV)) : St := St.map (fun | .os i => if i = id then .i (.sl sz xs) else .os i | x => x) { σ with ob := σ.ob.set id .dead }
theorem exitG_ok {Q : Exit → Act → World → Prop} {K : List It} {ex : AE} (id : Nat) (xs' : List (List IV)) {g e0 sz0 : Nat} {xs : List (List IV)} (ho : σ.ob[id]? = some (.live (.rowG g e0 sz0 xs none)))
    (hT : ∀ (m : Mp) (w : World) (Z : Nat → Prop) (v : Value), ObRep m w Z (.rowG g e0 sz0 xs none) v → RepI w (fun b => Z b ∨ b = g) (.sl sz0 xs') v) (hR : AX P F Q K ex (σ.exitG id sz0 xs')) : AX P F Q K ex σ := by
  rintro a w ⟨m, Z, h⟩
  obtain ⟨v, h2, h3⟩ := h.ob id _ ho
  have hvb : v.ownBlock = some g := by
    obtain ⟨c, uss, rfl, -⟩ := h3
    rfl
  refine hR a w ⟨m, fun b => Z b ∨ b = g, (h.kill ho).remap (fun x u hx => ?_) (fun _ h => .inl h) (fun b hb => ?_)⟩
  · cases x with
    | os i =>
      dsimp only
      by_cases e : i = id
      · subst e
        rw [if_pos rfl]
        obtain rfl := Option.some.inj (hx.1.symm.trans h2)
        exact hT m w Z _ h3
      · rw [if_neg e]; exact hx
    | i x => exact RepI.keep hx (fun _ _ => rfl) fun _ h => .inl h
    | loc i j => exact hx
    | el i k s j => exact hx
  · rcases hb with hb | hb
    · exact .inl hb
    · exact .inr (h.dead_apart ho h2 (by rw [hb]; exact hvb))
/-- Pointers to elements of such a row, where each stands behind the one that points. -/
theorem treeG {w : World} {Z : Nat → Prop} {g sz : Nat} {n : Nat} (cellAt : Nat → List IV) (T : Nat → List IV) (hl : ∀ i, i < n → (T i).length = sz)
    (hcell : ∀ (i j : Nat), i < n → j < sz → ∃ u, w.cell? ⟨g, i * sz + j, none⟩ = some u ∧ ((∀ k, i < k → k < n → RepI w (fun b => Z b ∨ b = g) (.pt (T k)) (.pointer (some ⟨g, k * sz, none⟩))) → ∀ y, (T i)[j]? = some y → RepI w (fun b => Z b ∨ b = g) y u)) :
    ∀ i, i < n → RepI w (fun b => Z b ∨ b = g) (.pt (T i)) (.pointer (some ⟨g, i * sz, none⟩)) := by
  intro i hi
  generalize hk : n - i = k
  induction k using Nat.strongRecOn generalizing i with
  | _ k ih =>
    have ih' : ∀ k, i < k → k < n → RepI w (fun b => Z b ∨ b = g) (.pt (T k)) (.pointer (some ⟨g, k * sz, none⟩)) := fun k' h1 h2 => ih (n - k') (by omega) k' h2 rfl
    refine RepI.pt (fun j => (w.cell? ⟨g, i * sz + j, none⟩).getD undef) (.inr rfl) (fun j hj => ?_) (fun j y hy => ?_)
    · obtain ⟨u, hu, -⟩ := hcell i j hi (by rw [← hl i hi]; exact hj)
      rw [hu]; rfl
    · have hj : j < sz := by rw [← hl i hi]; exact (List.getElem?_eq_some_iff.mp hy).1
      obtain ⟨u, hu, h3⟩ := hcell i j hi hj
      rw [hu]
      exact h3 ih' y hy
end
section
variable {P : Program} {F : Frm} {σ : St}
abbrev PX := Option (List Prop × Option St)
def idsC : CV → List Nat
  | .i _ => []
  | .loc id _ => [id]
  | .el id _ _ _ => [id]
  | .os id => [id]
def idsT : TV → List Nat
  | .c x => idsC x
  | .agg xs => xs.flatMap idsC
def idsV : AV → List Nat
  | .t x => idsT x
  | .tup xs => xs.flatMap idsT
/-- The objects that these temporaries tell, in their order. -/
def ksOf (pre : Nat) (ts : List Nat) (σ : St) : List Nat := (List.range pre ++ ts.flatMap fun t => match σ.tm[t]? with
  | some (some x) => idsV x
  | _ => []).eraseDups
def packA (pre : Nat) (ts : List Nat) (σ : St) : Option St := if (ksOf pre ts σ).take pre = List.range pre then σ.pack ts (ksOf pre ts σ) else none
theorem SimX.packA {pre : Nat} {ts : List Nat} {σ' : St} (hk : F.k = pre) (hp : AB.packA pre ts σ = some σ') {a : Act} {w : World} (h : SimX F σ a w) : SimX F σ' a w := by
  unfold AB.packA at hp
  split at hp
  · rename_i hpr
    exact h.pack (by unfold PrefOk; rw [hk]; exact hpr) hp
  · cases hp
def permP (P : Program) (ops : Array Oper) (gss : List (List Gs)) (obs : List (List Prop)) (pre : Nat) (ts : List Nat) (σ' : St) : Nat → Array Bool → St → List (PX × PX)
  | 0, D, σ => if Region.ready .any ops D = [] then [(some ([], packA pre ts σ), some ([], some σ'))] else [(none, some ([], none))]
  | n + 1, D, σ => if Region.ready .any ops D = [] then [(none, some ([], none))] else (Region.ready .any ops D).flatMap fun i => match ops[i]? with
    | some o => match runOps P ops [o] [] (gss.getD i []) σ with
      | some r => (some (r.1, none), some (obs.getD i [], none)) :: permP P ops gss obs pre ts σ' n (D.setIfInBounds i true) r.2.1
      | none => [(none, some ([], none))]
    | none => [(none, some ([], none))]
theorem obs_getD {obs : List (List Prop)} (h : Obs obs.flatten) (i : Nat) : Obs (obs.getD i []) := by
  induction obs generalizing i with
  | nil => simp [List.getD]; trivial
  | cons p l ih =>
    rw [List.flatten_cons] at h
    obtain ⟨h1, h2⟩ := Obs_app h
    cases i with
    | zero => exact h1
    | succ i => simpa using ih h2 i
theorem perm_ok {Q : Exit → Act → World → Prop} {ops : Array Oper} {gss : List (List Gs)} {obs : List (List Prop)} {pre : Nat} {ts : List Nat} {σ' : St} (hpr : F.k = pre) (hob : Obs obs.flatten) (hR : ∀ a w, SimX F σ' a w → Q .normal a w) :
    ∀ (n : Nat) (D : Array Bool) (σ : St), (permP P ops gss obs pre ts σ' n D σ).map Prod.fst = (permP P ops gss obs pre ts σ' n D σ).map Prod.snd → ∀ a w, SimX F σ a w → wpAny P .any ops Q n D a w := by
  intro n
  induction n with
  | zero =>
    intro D σ h a w hs
    unfold permP at h
    by_cases hd : Region.ready .any ops D = []
    · rw [if_pos hd] at h
      simp only [List.map_cons, List.map_nil, List.cons.injEq, Option.some.injEq, Prod.mk.injEq, true_and, and_true] at h
      exact ⟨hd, hR a w (hs.packA hpr h)⟩
    · rw [if_neg hd] at h
      simp at h
  | succ n ih =>
    intro D σ h a w hs
    unfold permP at h
    by_cases hd : Region.ready .any ops D = []
    · rw [if_pos hd] at h
      simp at h
    · rw [if_neg hd] at h
      refine ⟨fun e => absurd e hd, fun i hi => ?_⟩
      have key : ∀ (l : List Nat), (∀ i ∈ l, True) → ((l.flatMap fun i => match ops[i]? with
          | some o => match runOps P ops [o] [] (gss.getD i []) σ with
            | some r => (some (r.1, none), some (obs.getD i [], none)) :: permP P ops gss obs pre ts σ' n (D.setIfInBounds i true) r.2.1
            | none => [(none, some ([], none))]
          | none => [(none, some ([], none))] : List (PX × PX)).map Prod.fst) = (l.flatMap fun i => match ops[i]? with
          | some o => match runOps P ops [o] [] (gss.getD i []) σ with
            | some r => (some (r.1, none), some (obs.getD i [], none)) :: permP P ops gss obs pre ts σ' n (D.setIfInBounds i true) r.2.1
            | none => [(none, some ([], none))]
          | none => [(none, some ([], none))] : List (PX × PX)).map Prod.snd → i ∈ l → (match ops[i]? with
          | some o => match runOps P ops [o] [] (gss.getD i []) σ with
            | some r => (some (r.1, none), some (obs.getD i [], none)) :: permP P ops gss obs pre ts σ' n (D.setIfInBounds i true) r.2.1
            | none => [(none, some ([], none))]
          | none => [(none, some ([], none))] : List (PX × PX)).map Prod.fst = (match ops[i]? with
          | some o => match runOps P ops [o] [] (gss.getD i []) σ with
            | some r => (some (r.1, none), some (obs.getD i [], none)) :: permP P ops gss obs pre ts σ' n (D.setIfInBounds i true) r.2.1
            | none => [(none, some ([], none))]
          | none => [(none, some ([], none))] : List (PX × PX)).map Prod.snd := by
        intro l _
        induction l with
        | nil => intro _ hm; cases hm
        | cons x l ihl =>
          intro he hm
          rw [List.flatMap_cons, List.map_append, List.map_append] at he
          obtain ⟨h1, h2⟩ := List.append_inj he (by simp)
          rcases List.mem_cons.mp hm with rfl | hm
          · exact h1
          · exact ihl (fun _ _ => trivial) h2 hm
      have hi2 := key _ (fun _ _ => trivial) h hi
      obtain ⟨hiu, o, ho, -⟩ := mem_ready.1 hi
      rw [ho] at hi2
      simp only at hi2
      split at hi2
      · rename_i r hr
        simp only [List.map_cons, List.cons.injEq, Option.some.injEq, Prod.mk.injEq, and_true] at hi2
        refine wpOp_of_list ho (runOps_ok [o] hr (by rw [hi2.1]; exact obs_getD hob i) hs fun a' w' h4 => ?_)
        exact ih _ _ hi2.2 a' w' h4
      · simp at hi2
def datP (P : Program) (n : Nat) (K : List It) (e : AE) (σ : St) (gs : List Gs) : Option (List Prop × Array Oper × List It × St) := (run P n K e σ gs).bind fun q => match q.2 with
  | .draw _ ops K' σ' => some (q.1, ops, K', σ')
  | _ => none
theorem drp_ok {Q : Exit → Act → World → Prop} {n : Nat} {K K' : List It} {e : AE} {gs : List Gs} (gss : List (List Gs)) (pre : Nat) (ts : List Nat) {ob : List Prop} (obs : List (List Prop)) {σ' : St} (h : (datP P n K e σ gs).map (fun d => (d.1, d.2.2.1)) = some (ob, K')) (hob : Obs ob) (hobs : Obs obs.flatten) (hR : AX P F Q K' .normal σ')
    (hm : P.follows .mixedOrders = true := by kernel_rfl)
    (h1 : (datP P n K e σ gs).map (fun d => (permP P d.2.1 gss obs pre ts σ' d.2.1.size (Array.replicate d.2.1.size false) d.2.2.2).map Prod.fst) = (datP P n K e σ gs).map (fun d => (permP P d.2.1 gss obs pre ts σ' d.2.1.size (Array.replicate d.2.1.size false) d.2.2.2).map Prod.snd) := by kernel_rfl)
    (hpr : F.k = pre := by assumption) : AX P F Q K e σ := by
  obtain ⟨⟨ob0, ops, K1, σ1⟩, hd, h4⟩ := Option.map_eq_some_iff.1 h
  simp only [Prod.mk.injEq] at h4
  obtain ⟨rfl, rfl⟩ := h4
  rw [hd] at h1
  simp only [Option.map_some, Option.some.injEq] at h1
  obtain ⟨⟨ob', s⟩, hr, h6⟩ := bind_some hd
  cases s with
  | fin e' σ' => cases h6
  | head b K' σ' => cases h6
  | inv R σ' => cases h6
  | draw id ops' K2 σ2 =>
    simp only [Option.some.injEq, Prod.mk.injEq] at h6
    obtain ⟨rfl, rfl, rfl, rfl⟩ := h6
    refine run_ok n K e σ gs hr hob ?_
    intro a w hs
    exact wp_region_any hm (perm_ok hpr hobs (fun a w h => hR a w h) _ _ _ h1 a w.drew (by obtain ⟨m, Z, hm⟩ := hs; exact ⟨m, Z, hm.drewN 1⟩))
end
section
/-- A row whose elements point to elements behind them, read as trees. -/
theorem exitRaw {g e sz n : Nat} {xs : List (List IV)} (pre : Nat → List IV) (kids : Nat → List Int) (T : Nat → List IV) (hT : ∀ i, i < n → T i = pre i ++ [.sl 1 ((kids i).map fun k => [.pt (T k.toNat)])]) (hpre : ∀ i, i < n → (pre i).length + 1 = sz)
    (hup : ∀ i, i < n → ∀ k ∈ kids i, i < k.toNat ∧ k.toNat < n) (hn : xs.length = n) (hx : ∀ i, i < n → xs[i]? = some (pre i ++ [.sl 1 ((kids i).map fun k => [.op (.pointer (some ⟨g, k.toNat * sz + 0, none⟩))])]))
    {m : Mp} {w : World} {Z : Nat → Prop} {v : Value} (h : ObRep m w Z (.rowG g e sz xs none) v) : RepI w (fun b => Z b ∨ b = g) (.sl sz ((List.range n).map T)) v := by
  obtain ⟨c, uss, rfl, ho, hc, hs⟩ := h
  have hcr := hc.row
  have hul : uss.length = n := by rw [← hcr.1, hn]
  have hTl : ∀ i, i < n → (T i).length = sz := fun i hi => by rw [hT i hi]; simp; exact hpre i hi
  have hcell : ∀ (i j : Nat), i < n → j < sz → ∃ u, w.cell? ⟨g, i * sz + j, none⟩ = some u ∧ ((∀ k, i < k → k < n → RepI w (fun b => Z b ∨ b = g) (.pt (T k)) (.pointer (some ⟨g, k * sz, none⟩))) → ∀ y, (T i)[j]? = some y → RepI w (fun b => Z b ∨ b = g) y u) := by
    intro i j hi hj
    obtain ⟨us, hu, hcu⟩ := hcr.get (hx i hi)
    have hsl := hs us (List.mem_of_getElem? hu)
    have huj : us[j]? = some us[j] := List.getElem?_eq_getElem (by omega)
    have hf := flat_get' hs hu hj
    rw [huj] at hf
    refine ⟨us[j], ownsRow_cell ho rfl _ hf, fun ih y hy => ?_⟩
    rw [hT i hi] at hy
    have hp := hpre i hi
    by_cases hlt : j < (pre i).length
    · rw [List.getElem?_append_left hlt] at hy
      have h1 := hcu.2 j y us[j] (by rw [List.getElem?_append_left hlt]; exact hy) huj
      exact RepI.keep h1 (fun _ _ => rfl) fun _ h => .inl h
    · have hje : j = (pre i).length := by omega
      rw [List.getElem?_append_right (by omega), hje, Nat.sub_self] at hy
      simp only [List.getElem?_cons_zero, Option.some.injEq] at hy
      subst hy
      have h1 : RepI w Z (.sl 1 ((kids i).map fun k => [IV.op (.pointer (some ⟨g, k.toNat * sz + 0, none⟩))])) us[j] := hcu.2 j _ us[j] (by rw [List.getElem?_append_right (by omega), hje, Nat.sub_self]; rfl) huj
      generalize us[j] = u at h1
      have hup' := hup i hi
      generalize kids i = ks at h1 hup'
      generalize hq : (ks.map fun k => [IV.op (.pointer (some ⟨g, k.toNat * sz + 0, none⟩))]) = rows at h1
      cases h1 with
      | nil A c hA =>
        have : ks = [] := by simpa using hq
        subst this
        exact RepI.nil A c hA
      | sl val hb hcc hm hsz hcell hrep =>
        subst hq
        have hl2 : (ks.map fun k => [IV.pt (T k.toNat)]).length = (ks.map fun k => [IV.op (.pointer (some ⟨g, k.toNat * sz + 0, none⟩))]).length := by simp
        rw [← hl2]
        refine RepI.sl val (.inl hb) (by rw [hl2]; exact hcc) hm (fun ys hy => ?_) (fun i' j' h1 h2 => hcell i' j' (by rw [← hl2]; exact h1) h2) (fun i' j' ys y h1 h2 => ?_)
        · obtain ⟨k, -, rfl⟩ := List.mem_map.mp hy
          rfl
        · rw [List.getElem?_map] at h1
          cases hk : ks[i']? with
          | none => rw [hk] at h1; cases h1
          | some k =>
            rw [hk] at h1
            obtain rfl := Option.some.inj h1
            cases j' with
            | succ j' => simp at h2
            | zero =>
              simp only [List.getElem?_cons_zero, Option.some.injEq] at h2
              subst h2
              have h3 := hrep i' 0 [IV.op (.pointer (some ⟨g, k.toNat * sz + 0, none⟩))] _ (by rw [List.getElem?_map, hk]; rfl) rfl
              have hkb := hup' k (List.mem_of_getElem? hk)
              have h4 := ih k.toNat hkb.1 hkb.2
              generalize val i' 0 = u2 at h3
              cases h3
              exact h4
  have hmain := treeG (w := w) (Z := Z) (g := g) (sz := sz) (n := n) (fun _ => []) T hTl hcell
  have hnl : ((List.range n).map T).length = xs.length := by simp [hn]
  rw [← hnl]
  rcases ho.2 with ⟨hv, h0⟩ | ⟨g', cap, cur, hv, -, hh, hcn, hcm, -, -⟩
  · cases hv
  simp only [Value.slice.injEq, Option.some.injEq, Addr.mk.injEq, and_true, true_and] at hv
  obtain ⟨rfl, rfl⟩ := hv
  refine RepI.sl (b := g) (o := 0) (fun i j => (w.cell? ⟨g, i * sz + j, none⟩).getD undef) (.inr rfl) (by rw [hnl]; exact hcn) (by simp only [maxLen] at hcm; omega) (fun ys hy => ?_) (fun i j hi hj => ?_) (fun i j ys y hi hj => ?_)
  · obtain ⟨i, hi, rfl⟩ := List.mem_map.mp hy
    exact hTl i (List.mem_range.mp hi)
  · have hi : i < n := by simpa using hi
    obtain ⟨u, hu, -⟩ := hcell i j hi hj
    rw [Nat.zero_add, hu]; rfl
  · rw [List.getElem?_map] at hi
    cases hr : (List.range n)[i]? with
    | none => rw [hr] at hi; cases hi
    | some i' =>
      rw [hr] at hi
      obtain rfl := Option.some.inj hi
      have hin : i < n := by have := (List.getElem?_eq_some_iff.mp hr).1; simpa using this
      have : i' = i := by rw [List.getElem?_range hin] at hr; exact (Option.some.inj hr).symm
      subst this
      have hj' : j < sz := by rw [← hTl i' hin]; exact (List.getElem?_eq_some_iff.mp hj).1
      obtain ⟨u, hu, h3⟩ := hcell i' j hin hj'
      rw [hu]
      exact h3 (fun k _ hk => hmain k hk) y hj
end
end Go.Proofs.YtljdidlkiknknaaDoor.AB
