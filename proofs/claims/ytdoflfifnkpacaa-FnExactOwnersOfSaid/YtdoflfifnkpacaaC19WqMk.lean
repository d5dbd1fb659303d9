/-
  The functions of worlds: what they compute, and the laws of it.
-/
import Derived.StillTailTactics
import Derived.Lib.Hide
import Derived.Test.YtdoflfifnkpacaaC19WqLay5
namespace Go.Proofs.Ytdoflfifnkpacaa.WO.LA
open Go Go.RowKit Go.Proofs.YtdoflfifnkpacaaW.PrintWords Go.Proofs.YtdoflfifnkpacaaW.PrintLast Go.Proofs.YtdoflfifnkpacaaW.PrintMore
attribute [local go_sem] max2_int min2_int max_two min_two max_three min_three max_four min_four
set_option linter.unusedVariables false
set_option linter.unusedSimpArgs false
def nx (x : Int) : Int := wrap64 (x + 1)
def mkL {α : Type} (mk : Int → α) (nxt : Int → Int) : Nat → Int → List α
  | 0, _ => []
  | n + 1, x => mk x :: mkL mk nxt n (nxt x)
def mkF (nxt : Int → Int) : Nat → Int → Int
  | 0, x => x
  | n + 1, x => mkF nxt n (nxt x)
theorem mkL_len {α : Type} (mk : Int → α) (nxt : Int → Int) : ∀ n x, (mkL mk nxt n x).length = n
  | 0, _ => rfl
  | n + 1, x => by simp [mkL, mkL_len mk nxt n]
theorem mkF_last (nxt : Int → Int) : ∀ n x, mkF nxt (n + 1) x = nxt (mkF nxt n x)
  | 0, _ => rfl
  | n + 1, x => mkF_last nxt n (nxt x)
theorem mkL_last {α : Type} (mk : Int → α) (nxt : Int → Int) : ∀ n x, mkL mk nxt (n + 1) x = mkL mk nxt n x ++ [mk (mkF nxt n x)]
  | 0, _ => rfl
  | n + 1, x => by
    have := mkL_last mk nxt n (nxt x)
    rw [mkL, this]
    rfl
theorem mk_step {α : Type} (mk : Int → α) (nxt : Int → Int) (l : List α) (i : Nat) (a : Int) (h : i < l.length) : (mkL mk nxt i a ++ l.drop i).set i (mk (mkF nxt i a)) = mkL mk nxt (i + 1) a ++ l.drop (i + 1) := by
  rw [mkL_last, List.set_append_right _ _ (by rw [mkL_len]; exact Nat.le_refl _), mkL_len, Nat.sub_self, List.drop_eq_getElem_cons h, List.set_cons_zero, List.append_assoc]
  rfl
theorem mk_same {α : Type} (mk : Int → α) (nxt : Int → Int) (l : List α) (i : Nat) (a : Int) (h : i < l.length) : (mkL mk nxt i a ++ l.drop i).set i l[i] = mkL mk nxt i a ++ l.drop i := by
  rw [List.set_append_right _ _ (by rw [mkL_len]; exact Nat.le_refl _), mkL_len, Nat.sub_self, List.drop_eq_getElem_cons h, List.set_cons_zero]
theorem mk_len {α : Type} (mk : Int → α) (nxt : Int → Int) (l : List α) (i : Nat) (a : Int) (h : i ≤ l.length) : (mkL mk nxt i a ++ l.drop i).length = l.length := by
  rw [List.length_append, mkL_len, List.length_drop]
  omega
def rowE {α : Type} (enc : α → List Value) (e sz : Nat) (v : Value) (n : Nat) (l : List α) : Row := ⟨v, e, sz, n, l.flatMap enc⟩
section
variable {P : Program} {ops : Array Oper} {rest : List Oper} {o : Oper} {a : Act} {Q : Exit → Act → World → Prop}
/-- One field of an element of a row is stored. -/
theorem Lay.mark_ev {α : Type} {enc : α → List Value} {sz e : Nat} (hz : ∀ x, (enc x).length = sz) {w0 W : World} {base g n c i : Nat} {l : List α} {y : α} {L : List Row} (HL : Lay W base (rowE enc e sz (.slice (some ⟨g, 0, none⟩) n c) n (l.set i y) :: L)) (HB : Below base w0 W) (hi : i < l.length) (hgd : o.guard = none) (hN : o.dst = none) {t : TypeId} {p : Tmp} {x : Operand} (ho : o.op = .store t (.tmp p) x) (j : Nat) (y' : α) {u : Value} (off : Nat) (hoff : off = i * sz + j)
    (haddr : a.eval (.tmp p) = .pointer (some ⟨g, off, none⟩)) (hx : a.eval x = u) (hu : u.cells.toList = [u]) (ht : (P.info? t).map (·.size) = some 1) (h1 : u.oneCell' = true) (hj : j < sz) (hy : enc y' = laid (enc y) j [u])
    (h : ∀ w1, Lay w1 base (rowE enc e sz (.slice (some ⟨g, 0, none⟩) n c) n (l.set i y') :: L) → Below base w0 w1 → W.heap.size = w1.heap.size → wpList P ops Q rest a w1) : wpList P ops Q (o :: rest) a W := by
  subst hoff
  refine HL.store_ev HB hgd hN ho (i * sz + j) haddr hx (seg := [u]) hu ht (fun q hq => by rw [List.mem_singleton] at hq; exact hq ▸ h1) ?_ ?_
  · rw [flat_len hz, List.length_set, List.length_singleton]
    have : (i + 1) * sz ≤ l.length * sz := Nat.mul_le_mul_right _ hi
    rw [Nat.succ_mul] at this
    omega
  · intro w1 hl hb hs
    refine h w1 ?_ hb hs
    have hsi : i < (l.set i y).length := by rw [List.length_set]; exact hi
    have := flat_laid hz (l.set i y) i j [u] y' hsi hj (by rw [List.getElem_set_self]; exact hy)
    unfold rowE
    rw [this, List.set_set] at hl
    exact hl
end
def MPost (w0 : World) (base : Nat) (r' : Row) (L : List Row) (n : Int) (e : Ending) (w : World) : Prop := e = .returned (.int .i64 n) ∧ Lay w base (r' :: L) ∧ Below base w0 w ∧ base ≤ w.heap.size
def laws_markIntS.f (k : Nat) (l : List Int) (a : Int) : Option (Int × List Int) := some (mkF nx l.length a, mkL (fun x => x) nx l.length a)
set_option maxHeartbeats 4000000 in
set_option maxRecDepth 100000 in
theorem mark_I {v : Value} {L : List Row} {w0 w : World} {l l' : List Int} {k : Nat} {a n : Int} (hL : Lay w w0.heap.size (rI v l :: L)) (hb : Below w0.heap.size w0 w) (h : laws_markIntS.f k l a = some (n, l')) :
    Calls Try.prog 36 #[v, .int .i64 a] w fun e w' => MPost w0 w0.heap.size (rI v l') L n e w' := by
  obtain ⟨A, c, rfl⟩ := hL.hd (n := l.length) rfl
  have BL := Aside0.mk (show l.length ≤ 9223372036854775807 from by have h_ := hL.len_le; simp only [rI] at h_; omega)
  unfold laws_markIntS.f at h
  simp only [Option.some.injEq, Prod.mk.injEq] at h
  obtain ⟨rfl, rfl⟩ := h
  have HL := Aside0.mk hL
  have HB := Aside0.mk hb
  clear hL hb
  go_enter Try.func36, Try.ntmps36
  go_wp2
  go_loopw [1, 5] (fun v1 v5 wr => ∃ i : Nat, v5 = .int .i64 (i : Int) ∧ v1 = .int .i64 (mkF nx i a) ∧ Aside0 (i ≤ l.length) ∧ Aside0 (Lay wr w0.heap.size (rowE ic 3 1 (.slice A l.length c) l.length (mkL (fun x => x) nx i a ++ l.drop i) :: L)) ∧ Aside0 (Below w0.heap.size w0 wr)) (fun _ v5 _ => l.length - (intOf v5).toNat)
  case atStart => exact ⟨0, rfl, rfl, ⟨Nat.zero_le _⟩, ⟨HL.out⟩, HB⟩
  case round =>
    clear HL HB
    obtain ⟨i, rfl, rfl, I1, HL, HB⟩ := hrel
    by_cases hlt : (i : Int) < (l.length : Int)
    case neg =>
      have nlt : decide ((i : Int) < (l.length : Int)) = false := decide_eq_false hlt
      have hi : i = l.length := by have := I1.out; omega
      subst hi
      go_wp2
      go_ret
      have h_ := HL.out
      rw [List.drop_length, List.append_nil] at h_
      refine ⟨rfl, ?_, HB.out, HB.out.size⟩
      have e_ := mkL_len (fun x => x) nx l.length a
      unfold rI
      rw [e_]
      exact h_
    have nlt : decide ((i : Int) < (l.length : Int)) = true := decide_eq_true hlt
    have HI := Aside0.mk (show i < l.length by omega)
    have q0 : (0 ≤ (i : Int)) = True := eq_true (by omega)
    have q1 : ((i : Int) < (l.length : Int)) = True := eq_true hlt
    have w64 : IntKind.i64.wrap ((i : Int) + 1) = (i : Int) + 1 := IntWalk.i64_in _ (by have := BL.out; have := HI.out; omega)
    obtain ⟨g, c', hv, -⟩ := HL.out.form (by show 0 < l.length; have := HI.out; omega)
    simp only [rowE, Value.slice.injEq] at hv
    obtain ⟨rfl, -⟩ := hv
    have HN := Aside0.mk (show i < (mkL (fun x => x) nx i a ++ l.drop i).length by rw [mk_len _ _ _ _ _ (Nat.le_of_lt HI.out)]; exact HI.out)
    have E := Aside0.mk (mk_step (fun x => x) nx l i a HI.out)
    have h_ := HL.out
    rw [← mk_same (fun x => x) nx l i a HI.out] at h_
    generalize l[i]'HI.out = y0 at h_
    replace HL := Aside0.mk h_
    clear h_ hlt
    generalize mkL (fun x => x) nx i a ++ l.drop i = l0 at *
    generalize hX : mkF nx i a = x at *
    go_wp2_with ((with_reducible refine gate_store (t := 3) (p := 15) rfl ?_); refine Lay.mark_ev ic_len HL.out HB.out HN.out rfl rfl rfl 0 (x : Int) (u := .int .i64 (x)) (i) (by omega) (by first | rfl | (go_simp; done) | (go_simp; rfl)) (by first | rfl | (go_simp; done) | (go_simp; rfl)) rfl (by kernel_rfl) rfl (by decide) rfl ?_; intro w1 hl_ hb_ hs_; replace HL := Aside0.mk hl_; replace HB := Aside0.mk hb_; clear hl_ hb_ hs_)
    go_roundw
    case rel =>
      refine ⟨i + 1, rfl, by rw [mkF_last, hX]; rfl, ⟨HI.out⟩, ⟨?_⟩, HB⟩
      rw [← E.out]
      exact HL.out
    case measure => simp [intOf]; have := HI.out; omega
def mkTh (x : Int) : S67 := ⟨x, (Int.tmod (nx (x)) 3) == 0⟩
def nx2 (x : Int) : Int := nx (nx (x))
def laws_markThingS.f (k : Nat) (l : List S67) (a : Int) : Option (Int × List S67) := some (mkF nx2 l.length a, mkL mkTh nx2 l.length a)
set_option maxHeartbeats 4000000 in
set_option maxRecDepth 100000 in
theorem mark_Th {v : Value} {L : List Row} {w0 w : World} {l l' : List S67} {k : Nat} {a n : Int} (hL : Lay w w0.heap.size (rTh v l :: L)) (hb : Below w0.heap.size w0 w) (h : laws_markThingS.f k l a = some (n, l')) :
    Calls Try.prog 94 #[v, .int .i64 a] w fun e w' => MPost w0 w0.heap.size (rTh v l') L n e w' := by
  obtain ⟨A, c, rfl⟩ := hL.hd (n := l.length) rfl
  have BL := Aside0.mk (show l.length ≤ 9223372036854775807 from by have h_ := hL.len_le; simp only [rTh] at h_; omega)
  unfold laws_markThingS.f at h
  simp only [Option.some.injEq, Prod.mk.injEq] at h
  obtain ⟨rfl, rfl⟩ := h
  have HL := Aside0.mk hL
  have HB := Aside0.mk hb
  clear hL hb
  go_enter Try.func94, Try.ntmps94
  go_wp2
  go_loopw [1, 5] (fun v1 v5 wr => ∃ i : Nat, v5 = .int .i64 (i : Int) ∧ v1 = .int .i64 (mkF nx2 i a) ∧ Aside0 (i ≤ l.length) ∧ Aside0 (Lay wr w0.heap.size (rowE tc 67 2 (.slice A l.length c) l.length (mkL mkTh nx2 i a ++ l.drop i) :: L)) ∧ Aside0 (Below w0.heap.size w0 wr)) (fun _ v5 _ => l.length - (intOf v5).toNat)
  case atStart => exact ⟨0, rfl, rfl, ⟨Nat.zero_le _⟩, ⟨HL.out⟩, HB⟩
  case round =>
    clear HL HB
    obtain ⟨i, rfl, rfl, I1, HL, HB⟩ := hrel
    by_cases hlt : (i : Int) < (l.length : Int)
    case neg =>
      have nlt : decide ((i : Int) < (l.length : Int)) = false := decide_eq_false hlt
      have hi : i = l.length := by have := I1.out; omega
      subst hi
      go_wp2
      go_ret
      have h_ := HL.out
      rw [List.drop_length, List.append_nil] at h_
      refine ⟨rfl, ?_, HB.out, HB.out.size⟩
      have e_ := mkL_len mkTh nx2 l.length a
      unfold rTh
      rw [e_]
      exact h_
    have nlt : decide ((i : Int) < (l.length : Int)) = true := decide_eq_true hlt
    have HI := Aside0.mk (show i < l.length by omega)
    have q0 : (0 ≤ (i : Int)) = True := eq_true (by omega)
    have q1 : ((i : Int) < (l.length : Int)) = True := eq_true hlt
    have w64 : IntKind.i64.wrap ((i : Int) + 1) = (i : Int) + 1 := IntWalk.i64_in _ (by have := BL.out; have := HI.out; omega)
    obtain ⟨g, c', hv, -⟩ := HL.out.form (by show 0 < l.length; have := HI.out; omega)
    simp only [rowE, Value.slice.injEq] at hv
    obtain ⟨rfl, -⟩ := hv
    have HN := Aside0.mk (show i < (mkL mkTh nx2 i a ++ l.drop i).length by rw [mk_len _ _ _ _ _ (Nat.le_of_lt HI.out)]; exact HI.out)
    have E := Aside0.mk (mk_step mkTh nx2 l i a HI.out)
    have h_ := HL.out
    rw [← mk_same mkTh nx2 l i a HI.out] at h_
    generalize l[i]'HI.out = y0 at h_
    replace HL := Aside0.mk h_
    clear h_ hlt
    generalize mkL mkTh nx2 i a ++ l.drop i = l0 at *
    generalize hX : mkF nx2 i a = x at *
    obtain ⟨b0, b1⟩ := y0
    go_wp2_with (first | ((with_reducible refine gate_store (t := 3) (p := 16) rfl ?_); refine Lay.mark_ev tc_len HL.out HB.out HN.out rfl rfl rfl 0 (⟨x, b1⟩ : S67) (u := .int .i64 (x)) (i * 2) (by omega) (by first | rfl | (go_simp; done) | (go_simp; rfl)) (by first | rfl | (go_simp; done) | (go_simp; rfl)) rfl (by kernel_rfl) rfl (by decide) rfl ?_; intro w1 hl_ hb_ hs_; replace HL := Aside0.mk hl_; replace HB := Aside0.mk hb_; clear hl_ hb_ hs_) | ((with_reducible refine gate_store (t := 4) (p := 25) rfl ?_); refine Lay.mark_ev tc_len HL.out HB.out HN.out rfl rfl rfl 1 (⟨x, (Int.tmod (nx (x)) 3) == 0⟩ : S67) (u := .bool ((Int.tmod (nx (x)) 3) == 0)) (i * 2 + 1) (by omega) (by first | rfl | (go_simp; done) | (go_simp; rfl)) (by first | rfl | (go_simp; done) | (go_simp; rfl)) rfl (by kernel_rfl) rfl (by decide) rfl ?_; intro w2 hl_ hb_ hs_; replace HL := Aside0.mk hl_; replace HB := Aside0.mk hb_; clear hl_ hb_ hs_))
    go_roundw
    case rel =>
      refine ⟨i + 1, rfl, by rw [mkF_last, hX]; rfl, ⟨HI.out⟩, ⟨?_⟩, HB⟩
      rw [← E.out]
      exact HL.out
    case measure => simp [intOf]; have := HI.out; omega
def mkHa (x : Int) : S75 := ⟨(Int.tmod (x) 3) == 0, nx (x), nx (nx (x)), (Int.tmod (nx (nx (nx (x)))) 3) == 0, nx (nx (nx (nx (x)))), nx (nx (nx (nx (nx (x)))))⟩
def nx6 (x : Int) : Int := nx (nx (nx (nx (nx (nx (x))))))
def laws_markHandleS.f (k : Nat) (l : List S75) (a : Int) : Option (Int × List S75) := some (mkF nx6 l.length a, mkL mkHa nx6 l.length a)
set_option maxHeartbeats 4000000 in
set_option maxRecDepth 100000 in
theorem mark_S {v : Value} {L : List Row} {w0 w : World} {l l' : List S75} {k : Nat} {a n : Int} (hL : Lay w w0.heap.size (rS v l :: L)) (hb : Below w0.heap.size w0 w) (h : laws_markHandleS.f k l a = some (n, l')) :
    Calls Try.prog 135 #[v, .int .i64 a] w fun e w' => MPost w0 w0.heap.size (rS v l') L n e w' := by
  obtain ⟨A, c, rfl⟩ := hL.hd (n := l.length) rfl
  have BL := Aside0.mk (show l.length ≤ 9223372036854775807 from by have h_ := hL.len_le; simp only [rS] at h_; omega)
  unfold laws_markHandleS.f at h
  simp only [Option.some.injEq, Prod.mk.injEq] at h
  obtain ⟨rfl, rfl⟩ := h
  have HL := Aside0.mk hL
  have HB := Aside0.mk hb
  clear hL hb
  go_enter Try.func135, Try.ntmps135
  go_wp2
  go_loopw [1, 5] (fun v1 v5 wr => ∃ i : Nat, v5 = .int .i64 (i : Int) ∧ v1 = .int .i64 (mkF nx6 i a) ∧ Aside0 (i ≤ l.length) ∧ Aside0 (Lay wr w0.heap.size (rowE hc 75 6 (.slice A l.length c) l.length (mkL mkHa nx6 i a ++ l.drop i) :: L)) ∧ Aside0 (Below w0.heap.size w0 wr)) (fun _ v5 _ => l.length - (intOf v5).toNat)
  case atStart => exact ⟨0, rfl, rfl, ⟨Nat.zero_le _⟩, ⟨HL.out⟩, HB⟩
  case round =>
    clear HL HB
    obtain ⟨i, rfl, rfl, I1, HL, HB⟩ := hrel
    by_cases hlt : (i : Int) < (l.length : Int)
    case neg =>
      have nlt : decide ((i : Int) < (l.length : Int)) = false := decide_eq_false hlt
      have hi : i = l.length := by have := I1.out; omega
      subst hi
      go_wp2
      go_ret
      have h_ := HL.out
      rw [List.drop_length, List.append_nil] at h_
      refine ⟨rfl, ?_, HB.out, HB.out.size⟩
      have e_ := mkL_len mkHa nx6 l.length a
      unfold rS
      rw [e_]
      exact h_
    have nlt : decide ((i : Int) < (l.length : Int)) = true := decide_eq_true hlt
    have HI := Aside0.mk (show i < l.length by omega)
    have q0 : (0 ≤ (i : Int)) = True := eq_true (by omega)
    have q1 : ((i : Int) < (l.length : Int)) = True := eq_true hlt
    have w64 : IntKind.i64.wrap ((i : Int) + 1) = (i : Int) + 1 := IntWalk.i64_in _ (by have := BL.out; have := HI.out; omega)
    obtain ⟨g, c', hv, -⟩ := HL.out.form (by show 0 < l.length; have := HI.out; omega)
    simp only [rowE, Value.slice.injEq] at hv
    obtain ⟨rfl, -⟩ := hv
    have HN := Aside0.mk (show i < (mkL mkHa nx6 i a ++ l.drop i).length by rw [mk_len _ _ _ _ _ (Nat.le_of_lt HI.out)]; exact HI.out)
    have E := Aside0.mk (mk_step mkHa nx6 l i a HI.out)
    have h_ := HL.out
    rw [← mk_same mkHa nx6 l i a HI.out] at h_
    generalize l[i]'HI.out = y0 at h_
    replace HL := Aside0.mk h_
    clear h_ hlt
    generalize mkL mkHa nx6 i a ++ l.drop i = l0 at *
    generalize hX : mkF nx6 i a = x at *
    obtain ⟨b0, b1, b2, b3, b4, b5⟩ := y0
    go_wp2_with (first | ((with_reducible refine gate_store (t := 4) (p := 18) rfl ?_); refine Lay.mark_ev hc_len HL.out HB.out HN.out rfl rfl rfl 0 (⟨(Int.tmod (x) 3) == 0, b1, b2, b3, b4, b5⟩ : S75) (u := .bool ((Int.tmod (x) 3) == 0)) (i * 6) (by omega) (by first | rfl | (go_simp; done) | (go_simp; rfl)) (by first | rfl | (go_simp; done) | (go_simp; rfl)) rfl (by kernel_rfl) rfl (by decide) rfl ?_; intro w1 hl_ hb_ hs_; replace HL := Aside0.mk hl_; replace HB := Aside0.mk hb_; clear hl_ hb_ hs_) | ((with_reducible refine gate_store (t := 3) (p := 25) rfl ?_); refine Lay.mark_ev hc_len HL.out HB.out HN.out rfl rfl rfl 1 (⟨(Int.tmod (x) 3) == 0, nx (x), b2, b3, b4, b5⟩ : S75) (u := .int .i64 (nx (x))) (i * 6 + 1) (by omega) (by first | rfl | (go_simp; done) | (go_simp; rfl)) (by first | rfl | (go_simp; done) | (go_simp; rfl)) rfl (by kernel_rfl) rfl (by decide) rfl ?_; intro w2 hl_ hb_ hs_; replace HL := Aside0.mk hl_; replace HB := Aside0.mk hb_; clear hl_ hb_ hs_) | ((with_reducible refine gate_store (t := 3) (p := 32) rfl ?_); refine Lay.mark_ev hc_len HL.out HB.out HN.out rfl rfl rfl 2 (⟨(Int.tmod (x) 3) == 0, nx (x), nx (nx (x)), b3, b4, b5⟩ : S75) (u := .int .i64 (nx (nx (x)))) (i * 6 + 2) (by omega) (by first | rfl | (go_simp; done) | (go_simp; rfl)) (by first | rfl | (go_simp; done) | (go_simp; rfl)) rfl (by kernel_rfl) rfl (by decide) rfl ?_; intro w3 hl_ hb_ hs_; replace HL := Aside0.mk hl_; replace HB := Aside0.mk hb_; clear hl_ hb_ hs_) | ((with_reducible refine gate_store (t := 4) (p := 41) rfl ?_); refine Lay.mark_ev hc_len HL.out HB.out HN.out rfl rfl rfl 3 (⟨(Int.tmod (x) 3) == 0, nx (x), nx (nx (x)), (Int.tmod (nx (nx (nx (x)))) 3) == 0, b4, b5⟩ : S75) (u := .bool ((Int.tmod (nx (nx (nx (x)))) 3) == 0)) (i * 6 + 3) (by omega) (by first | rfl | (go_simp; done) | (go_simp; rfl)) (by first | rfl | (go_simp; done) | (go_simp; rfl)) rfl (by kernel_rfl) rfl (by decide) rfl ?_; intro w4 hl_ hb_ hs_; replace HL := Aside0.mk hl_; replace HB := Aside0.mk hb_; clear hl_ hb_ hs_) | ((with_reducible refine gate_store (t := 3) (p := 48) rfl ?_); refine Lay.mark_ev hc_len HL.out HB.out HN.out rfl rfl rfl 4 (⟨(Int.tmod (x) 3) == 0, nx (x), nx (nx (x)), (Int.tmod (nx (nx (nx (x)))) 3) == 0, nx (nx (nx (nx (x)))), b5⟩ : S75) (u := .int .i64 (nx (nx (nx (nx (x)))))) (i * 6 + 4) (by omega) (by first | rfl | (go_simp; done) | (go_simp; rfl)) (by first | rfl | (go_simp; done) | (go_simp; rfl)) rfl (by kernel_rfl) rfl (by decide) rfl ?_; intro w5 hl_ hb_ hs_; replace HL := Aside0.mk hl_; replace HB := Aside0.mk hb_; clear hl_ hb_ hs_) | ((with_reducible refine gate_store (t := 3) (p := 55) rfl ?_); refine Lay.mark_ev hc_len HL.out HB.out HN.out rfl rfl rfl 5 (⟨(Int.tmod (x) 3) == 0, nx (x), nx (nx (x)), (Int.tmod (nx (nx (nx (x)))) 3) == 0, nx (nx (nx (nx (x)))), nx (nx (nx (nx (nx (x)))))⟩ : S75) (u := .int .i64 (nx (nx (nx (nx (nx (x))))))) (i * 6 + 5) (by omega) (by first | rfl | (go_simp; done) | (go_simp; rfl)) (by first | rfl | (go_simp; done) | (go_simp; rfl)) rfl (by kernel_rfl) rfl (by decide) rfl ?_; intro w6 hl_ hb_ hs_; replace HL := Aside0.mk hl_; replace HB := Aside0.mk hb_; clear hl_ hb_ hs_))
    go_roundw
    case rel =>
      refine ⟨i + 1, rfl, by rw [mkF_last, hX]; rfl, ⟨HI.out⟩, ⟨?_⟩, HB⟩
      rw [← E.out]
      exact HL.out
    case measure => simp [intOf]; have := HI.out; omega
def mkLo (x : Int) : S155 := ⟨x, nx (x), nx (nx (x)), nx (nx (nx (x)))⟩
def nx4 (x : Int) : Int := nx (nx (nx (nx (x))))
def laws_markLoanS.f (k : Nat) (l : List S155) (a : Int) : Option (Int × List S155) := some (mkF nx4 l.length a, mkL mkLo nx4 l.length a)
set_option maxHeartbeats 4000000 in
set_option maxRecDepth 100000 in
theorem mark_Lo {v : Value} {L : List Row} {w0 w : World} {l l' : List S155} {k : Nat} {a n : Int} (hL : Lay w w0.heap.size (rLo v l :: L)) (hb : Below w0.heap.size w0 w) (h : laws_markLoanS.f k l a = some (n, l')) :
    Calls Try.prog 96 #[v, .int .i64 a] w fun e w' => MPost w0 w0.heap.size (rLo v l') L n e w' := by
  obtain ⟨A, c, rfl⟩ := hL.hd (n := l.length) rfl
  have BL := Aside0.mk (show l.length ≤ 9223372036854775807 from by have h_ := hL.len_le; simp only [rLo] at h_; omega)
  unfold laws_markLoanS.f at h
  simp only [Option.some.injEq, Prod.mk.injEq] at h
  obtain ⟨rfl, rfl⟩ := h
  have HL := Aside0.mk hL
  have HB := Aside0.mk hb
  clear hL hb
  go_enter Try.func96, Try.ntmps96
  go_wp2
  go_loopw [1, 5] (fun v1 v5 wr => ∃ i : Nat, v5 = .int .i64 (i : Int) ∧ v1 = .int .i64 (mkF nx4 i a) ∧ Aside0 (i ≤ l.length) ∧ Aside0 (Lay wr w0.heap.size (rowE lc 155 4 (.slice A l.length c) l.length (mkL mkLo nx4 i a ++ l.drop i) :: L)) ∧ Aside0 (Below w0.heap.size w0 wr)) (fun _ v5 _ => l.length - (intOf v5).toNat)
  case atStart => exact ⟨0, rfl, rfl, ⟨Nat.zero_le _⟩, ⟨HL.out⟩, HB⟩
  case round =>
    clear HL HB
    obtain ⟨i, rfl, rfl, I1, HL, HB⟩ := hrel
    by_cases hlt : (i : Int) < (l.length : Int)
    case neg =>
      have nlt : decide ((i : Int) < (l.length : Int)) = false := decide_eq_false hlt
      have hi : i = l.length := by have := I1.out; omega
      subst hi
      go_wp2
      go_ret
      have h_ := HL.out
      rw [List.drop_length, List.append_nil] at h_
      refine ⟨rfl, ?_, HB.out, HB.out.size⟩
      have e_ := mkL_len mkLo nx4 l.length a
      unfold rLo
      rw [e_]
      exact h_
    have nlt : decide ((i : Int) < (l.length : Int)) = true := decide_eq_true hlt
    have HI := Aside0.mk (show i < l.length by omega)
    have q0 : (0 ≤ (i : Int)) = True := eq_true (by omega)
    have q1 : ((i : Int) < (l.length : Int)) = True := eq_true hlt
    have w64 : IntKind.i64.wrap ((i : Int) + 1) = (i : Int) + 1 := IntWalk.i64_in _ (by have := BL.out; have := HI.out; omega)
    obtain ⟨g, c', hv, -⟩ := HL.out.form (by show 0 < l.length; have := HI.out; omega)
    simp only [rowE, Value.slice.injEq] at hv
    obtain ⟨rfl, -⟩ := hv
    have HN := Aside0.mk (show i < (mkL mkLo nx4 i a ++ l.drop i).length by rw [mk_len _ _ _ _ _ (Nat.le_of_lt HI.out)]; exact HI.out)
    have E := Aside0.mk (mk_step mkLo nx4 l i a HI.out)
    have h_ := HL.out
    rw [← mk_same mkLo nx4 l i a HI.out] at h_
    generalize l[i]'HI.out = y0 at h_
    replace HL := Aside0.mk h_
    clear h_ hlt
    generalize mkL mkLo nx4 i a ++ l.drop i = l0 at *
    generalize hX : mkF nx4 i a = x at *
    obtain ⟨b0, b1, b2, b3⟩ := y0
    go_wp2_with (first | ((with_reducible refine gate_store (t := 3) (p := 16) rfl ?_); refine Lay.mark_ev lc_len HL.out HB.out HN.out rfl rfl rfl 0 (⟨x, b1, b2, b3⟩ : S155) (u := .int .i64 (x)) (i * 4) (by omega) (by first | rfl | (go_simp; done) | (go_simp; rfl)) (by first | rfl | (go_simp; done) | (go_simp; rfl)) rfl (by kernel_rfl) rfl (by decide) rfl ?_; intro w1 hl_ hb_ hs_; replace HL := Aside0.mk hl_; replace HB := Aside0.mk hb_; clear hl_ hb_ hs_) | ((with_reducible refine gate_store (t := 3) (p := 23) rfl ?_); refine Lay.mark_ev lc_len HL.out HB.out HN.out rfl rfl rfl 1 (⟨x, nx (x), b2, b3⟩ : S155) (u := .int .i64 (nx (x))) (i * 4 + 1) (by omega) (by first | rfl | (go_simp; done) | (go_simp; rfl)) (by first | rfl | (go_simp; done) | (go_simp; rfl)) rfl (by kernel_rfl) rfl (by decide) rfl ?_; intro w2 hl_ hb_ hs_; replace HL := Aside0.mk hl_; replace HB := Aside0.mk hb_; clear hl_ hb_ hs_) | ((with_reducible refine gate_store (t := 3) (p := 30) rfl ?_); refine Lay.mark_ev lc_len HL.out HB.out HN.out rfl rfl rfl 2 (⟨x, nx (x), nx (nx (x)), b3⟩ : S155) (u := .int .i64 (nx (nx (x)))) (i * 4 + 2) (by omega) (by first | rfl | (go_simp; done) | (go_simp; rfl)) (by first | rfl | (go_simp; done) | (go_simp; rfl)) rfl (by kernel_rfl) rfl (by decide) rfl ?_; intro w3 hl_ hb_ hs_; replace HL := Aside0.mk hl_; replace HB := Aside0.mk hb_; clear hl_ hb_ hs_) | ((with_reducible refine gate_store (t := 3) (p := 37) rfl ?_); refine Lay.mark_ev lc_len HL.out HB.out HN.out rfl rfl rfl 3 (⟨x, nx (x), nx (nx (x)), nx (nx (nx (x)))⟩ : S155) (u := .int .i64 (nx (nx (nx (x))))) (i * 4 + 3) (by omega) (by first | rfl | (go_simp; done) | (go_simp; rfl)) (by first | rfl | (go_simp; done) | (go_simp; rfl)) rfl (by kernel_rfl) rfl (by decide) rfl ?_; intro w4 hl_ hb_ hs_; replace HL := Aside0.mk hl_; replace HB := Aside0.mk hb_; clear hl_ hb_ hs_))
    go_roundw
    case rel =>
      refine ⟨i + 1, rfl, by rw [mkF_last, hX]; rfl, ⟨HI.out⟩, ⟨?_⟩, HB⟩
      rw [← E.out]
      exact HL.out
    case measure => simp [intOf]; have := HI.out; omega
def markTabs (k : Nat) : List S78 → Int → Option (List S78 × Int)
  | [], a => some ([], a)
  | t :: B, a => (laws_markHandleS.f k t.f0 a).bind fun r => (laws_markIntS.f k t.f1 r.1).bind fun q => (markTabs k B q.1).bind fun z => some (⟨r.2, q.2⟩ :: z.1, z.2)
theorem markTabs_len (k : Nat) : ∀ (B : List S78) (a : Int) (B' : List S78) (n : Int), markTabs k B a = some (B', n) → B'.length = B.length
  | [], a, B', n, h => by
    simp only [markTabs, Option.some.injEq, Prod.mk.injEq] at h
    rw [← h.1]
  | t :: B, a, B', n, h => by
    simp only [markTabs] at h
    obtain ⟨r, _, h⟩ := Option.bind_eq_some_iff.mp h
    obtain ⟨q, _, h⟩ := Option.bind_eq_some_iff.mp h
    obtain ⟨z, hz, h⟩ := Option.bind_eq_some_iff.mp h
    simp only [Option.some.injEq, Prod.mk.injEq] at h
    rw [← h.1, List.length_cons, List.length_cons, markTabs_len k B q.1 z.1 z.2 hz]
def MTPost (w0 : World) (v : Value) (hs : List (Value × Value)) (B' : List S78) (L : List Row) (n : Int) (e : Ending) (w : World) : Prop := e = .returned (.int .i64 n) ∧ Lay w w0.heap.size (rTa v hs :: (tabRows hs B' ++ L)) ∧ Below w0.heap.size w0 w
/-- A table of the list, its two rows ahead. -/
theorem Lay.tabOut {w : World} {base : Nat} {v : Value} {hs : List (Value × Value)} {B : List S78} {L : List Row} (hl : hs.length = B.length) (i : Nat) (hi : i < B.length) (h : Lay w base (rTa v hs :: (tabRows hs B ++ L))) :
    Lay w base (rS (hdr hs i).1 (rd_T78 B i).f0 :: rTa v hs :: rI (hdr hs i).2 (rd_T78 B i).f1 :: (tabRows (hs.eraseIdx i) (B.eraseIdx i) ++ L)) :=
  (h.perm (((tab_at hs B i hl hi).append_right L).cons _)).swap
theorem Lay.tabIn {w : World} {base : Nat} {v : Value} {hs : List (Value × Value)} {B : List S78} {L : List Row} (hl : hs.length = B.length) (i : Nat) (hi : i < B.length) (S : List S75) (G : List Int) (h : Lay w base (rI (hdr hs i).2 G :: rS (hdr hs i).1 S :: rTa v hs :: (tabRows (hs.eraseIdx i) (B.eraseIdx i) ++ L))) :
    Lay w base (rTa v hs :: (tabRows hs (B.set i ⟨S, G⟩) ++ L)) := by
  have h1 := (h.at2).perm (List.Perm.cons (rTa v hs) (List.Perm.swap (rS (hdr hs i).1 S) (rI (hdr hs i).2 G) _))
  have h2 := tab_pull hs B i (hdr hs i) ⟨S, G⟩ hl hi
  rw [show hs.set i (hdr hs i) = hs by rw [hdr_get hs i (by omega), List.set_getElem_self]] at h2
  exact h1.perm (((h2.append_right L).symm).cons _)
theorem Lay.taCell {w : World} {base g n c j : Nat} {hs : List (Value × Value)} {L : List Row} {u : Value} (h : Lay w base (rTa (.slice (some ⟨g, 0, none⟩) n c) hs :: L)) (hn : hs.length = n) (e : (hs.flatMap pc)[j]? = some u) : w.cell? ⟨g, j, none⟩ = some u := by
  subst hn
  exact h.cell _ e
set_option maxHeartbeats 400000 in
set_option maxRecDepth 100000 in
theorem laws_markTableS.lay (k : Nat) (v : Value) (hs : List (Value × Value)) (B : List S78) (L : List Row) (a : Int) (B' : List S78) (n : Int) (w0 w : World) (hl : hs.length = B.length) (hL : Lay w w0.heap.size (rTa v hs :: (tabRows hs B ++ L))) (hb : Below w0.heap.size w0 w) (hr : markTabs k B a = some (B', n)) :
    Calls Try.prog 95 #[v, .int .i64 a] w fun e w' => MTPost w0 v hs B' L n e w' := by
  obtain ⟨A, c, rfl⟩ := hL.hdTa (n := B.length) hl
  have HL := Aside0.mk hL
  have HB := Aside0.mk hb
  have HR := Aside0.mk hr
  have HLEN := Aside0.mk hl
  have BL := Aside0.mk (show B.length ≤ 9223372036854775807 from by have h_ := hL.len_le; simp only [rTa] at h_; omega)
  clear hL hb hr hl
  go_enter Try.func95, Try.ntmps95
  go_wp2_with (fail)
  go_loopw [1, 5] (fun v1 v5 wr => ∃ (x y : Int) (D R : List S78), v1 = .int .i64 y ∧ v5 = .int .i64 x ∧ Aside0 (0 ≤ x) ∧ Aside0 (x ≤ B.length) ∧ Aside0 (markTabs k (B.drop x.toNat) y = some (R, n)) ∧ Aside0 (D ++ R = B') ∧ Aside0 (D.length = x.toNat) ∧ Aside0 (Lay wr w0.heap.size (rTa (.slice A B.length c) hs :: (tabRows hs (D ++ B.drop x.toNat) ++ L))) ∧ Aside0 (Below w0.heap.size w0 wr)) (fun _ v5 _ => B.length - (intOf v5).toNat)
  case atStart => exact ⟨0, a, [], B', rfl, rfl, ⟨Int.le_refl _⟩, ⟨by omega⟩, HR, ⟨rfl⟩, ⟨rfl⟩, HL, HB⟩
  case round =>
    clear HR HL HB
    obtain ⟨x, y, D, R, rfl, rfl, X0, X1, HR, HC, HD, HL, HB⟩ := hrel
    by_cases hlt : x < (B.length : Int)
    case neg =>
      have nlt : decide (x < (B.length : Int)) = false := decide_eq_false hlt
      have hp := HR.out
      rw [dropI_end B x hlt X0.out] at hp
      simp only [markTabs, Option.some.injEq, Prod.mk.injEq] at hp
      obtain ⟨rfl, rfl⟩ := hp
      have hI := HL.out
      rw [dropI_end B x hlt X0.out, HC.out] at hI
      go_wp2
      go_ret
      exact ⟨rfl, hI, HB.out⟩
    have nlt : decide (x < (B.length : Int)) = true := decide_eq_true hlt
    have hp := HR.out
    have hd := dropI_at B x z78 X0.out hlt
    have HDR := Aside0.mk hd
    rw [hd] at hp
    simp only [markTabs] at hp
    obtain ⟨⟨r1, r2⟩, h1, hp⟩ := Option.bind_eq_some_iff.mp hp
    obtain ⟨⟨q1, q2⟩, h2, hp⟩ := Option.bind_eq_some_iff.mp hp
    obtain ⟨⟨z1, z2⟩, h3, hp⟩ := Option.bind_eq_some_iff.mp hp
    simp only [Option.some.injEq, Prod.mk.injEq] at hp
    obtain ⟨rfl, rfl⟩ := hp
    have H1 := Aside0.mk h1
    have H2 := Aside0.mk h2
    have H3 := Aside0.mk h3
    clear h1 h2 h3 hd HR
    have q0 : (0 ≤ x) = True := eq_true X0.out
    have q1_ : (x < (B.length : Int)) = True := eq_true hlt
    have hxl : x.toNat < (D ++ B.drop x.toNat).length := by rw [List.length_append, List.length_drop, HD.out]; have := X0.out; omega
    have hcl : hs.length = (D ++ B.drop x.toNat).length := by rw [List.length_append, List.length_drop, HD.out, HLEN.out]; have := X0.out; have := X1.out; omega
    have hget : rd_T78 (D ++ B.drop x.toNat) (x.toNat : Int) = B.getD x.toNat z78 := by
      unfold rd_T78
      rw [Int.toNat_natCast, List.getD_eq_getElem?_getD, List.getElem?_append_right (by rw [HD.out]; exact Nat.le_refl _), HD.out, Nat.sub_self, List.getElem?_drop, Nat.add_zero, List.getD_eq_getElem?_getD]
    obtain ⟨gB, hA⟩ := HL.out.formTa (by have := HLEN.out; have := X0.out; omega)
    subst hA
    have hxh : x.toNat < hs.length := by have := HLEN.out; have := X0.out; omega
    have hrow : Lay wr w0.heap.size (⟨.slice (some ⟨gB, 0, none⟩) hs.length c, 78, 2, hs.length, hs.flatMap pc⟩ :: (tabRows hs (D ++ B.drop x.toNat) ++ L)) := by have h_ := HL.out; unfold rTa at h_; rw [← HLEN.out] at h_; exact h_
    have HRW := Aside0.mk hrow
    have e1 := flat_get pc_len hs x.toNat 0 hxh (by omega)
    have e2 := flat_get pc_len hs x.toNat 1 hxh (by omega)
    rw [← hdr_get hs x.toNat hxh] at e1 e2
    rw [Nat.add_zero] at e1
    obtain ⟨hv0, HV0⟩ : ∃ hv0, Aside0 (hv0 = (hdr hs (x.toNat : Int)).1) := ⟨_, ⟨rfl⟩⟩
    obtain ⟨hv1, HV1⟩ : ∃ hv1, Aside0 (hv1 = (hdr hs (x.toNat : Int)).2) := ⟨_, ⟨rfl⟩⟩
    have t0 : wr.cell? ⟨gB, x.toNat * 2, none⟩ = some hv0 := by rw [HV0.out]; exact hrow.cell _ e1
    have E2 := Aside0.mk e2
    have HT : Aside0 (Lay wr w0.heap.size (rS hv0 (B.getD x.toNat z78).f0 :: rTa (.slice (some ⟨gB, 0, none⟩) B.length c) hs :: rI hv1 (B.getD x.toNat z78).f1 :: (tabRows (hs.eraseIdx x.toNat) ((D ++ B.drop x.toNat).eraseIdx x.toNat) ++ L))) := ⟨by rw [HV0.out, HV1.out, ← hget]; exact HL.out.tabOut hcl x.toNat hxl⟩
    have HCL := Aside0.mk hcl
    have HXL := Aside0.mk hxl
    clear hcl hxl HRW hxh
    clear hrow e1 e2 hget
    have w64 : IntKind.i64.wrap (x + 1) = x + 1 := IntWalk.i64_in _ (by have := BL.out; have := X0.out; omega)
    go_upto_region 5 with (go_at_call 135; refine (mark_S HT.out HB.out H1.out).mono ?_; rintro e_ w5 ⟨rfl, hl_, hb_, hz_⟩; replace HT := Aside0.mk hl_; replace HB := Aside0.mk hb_; clear hl_ hb_ hz_)
    clear t0
    have t1 : w5.cell? ⟨gB, x.toNat * 2 + 1, none⟩ = some hv1 := by rw [HV1.out]; exact HT.out.tail.taCell HLEN.out E2.out
    replace HT := Aside0.mk HT.out.at2
    go_wp2_with (go_at_call 36; refine (mark_I HT.out HB.out H2.out).mono ?_; rintro e_ w6 ⟨rfl, hl_, hb_, hz_⟩; replace HT := Aside0.mk hl_; replace HB := Aside0.mk hb_; clear hl_ hb_ hz_)
    go_roundw
    case rel =>
      refine ⟨x + 1, q1, D ++ [⟨r2, q2⟩], z1, rfl, rfl, ⟨by have := X0.out; omega⟩, ⟨by omega⟩, H3, ⟨by rw [List.append_assoc]; exact HC.out⟩, ⟨by rw [List.length_append, HD.out]; have := X0.out; simp; omega⟩, ⟨?_⟩, HB⟩
      have h9 := Lay.tabIn HCL.out x.toNat HXL.out r2 q2 (by have h_ := HT.out; rw [HV0.out, HV1.out] at h_; exact h_)
      rw [HDR.out, show (D ++ B.getD x.toNat z78 :: B.drop (x + 1).toNat).set x.toNat ⟨r2, q2⟩ = (D ++ [⟨r2, q2⟩]) ++ B.drop (x + 1).toNat by
        rw [List.set_append_right _ _ (by rw [HD.out]; exact Nat.le_refl _), HD.out, Nat.sub_self, List.set_cons_zero, List.append_assoc]; rfl] at h9
      exact h9
    case measure =>
      have h0_ := X0.out
      simp [intOf, w64]
      omega
theorem WW.fTab {w : World} {base g : Nat} {bx : List Value} {v0 v1 v2 v3 : Value} {hs : List (Value × Value)} {T : List S67} {B : List S78} {C : List S155} {E : List Int} {F : List Row} (h : WW w base g bx v0 v1 v2 v3 hs T B C E F) : Lay w base (rTa v1 hs :: (tabRows hs B ++ (box g 45 bx :: rTh v0 T :: rLo v2 C :: rI v3 E :: F))) :=
  h.2.at2.perm ((List.perm_append_comm_assoc [box g 45 bx, rTh v0 T, rLo v2 C, rI v3 E] (tabRows hs B) F).cons _)
theorem WW.bTab {w : World} {base g : Nat} {bx : List Value} {v0 v1 v2 v3 : Value} {hs : List (Value × Value)} {T : List S67} {B : List S78} {C : List S155} {E : List Int} {F : List Row} (hl : hs.length = B.length) (h : Lay w base (rTa v1 hs :: (tabRows hs B ++ (_root_.Go.Proofs.Ytdoflfifnkpacaa.WO.LA.box g 45 bx :: rTh v0 T :: rLo v2 C :: rI v3 E :: F)))) : WW w base g bx v0 v1 v2 v3 hs T B C E F :=
  ⟨hl, (h.perm ((List.perm_append_comm_assoc [_root_.Go.Proofs.Ytdoflfifnkpacaa.WO.LA.box g 45 bx, rTh v0 T, rLo v2 C, rI v3 E] (tabRows hs B) F).symm.cons _)).un2⟩
def MWPost (w0 : World) (v0 v1 v2 v3 : Value) (hs : List (Value × Value)) (T : List S67) (B : List S78) (C : List S155) (E : List Int) (F : List Row) (n : Int) (e : Ending) (w : World) : Prop := e = .returned (.int .i64 n) ∧ WR w w0.heap.size v0 v1 v2 v3 hs T B C E F ∧ Below w0.heap.size w0 w
set_option maxHeartbeats 400000 in
set_option maxRecDepth 100000 in
theorem laws_markWorld.lay (k : Nat) (v0 v1 v2 v3 : Value) (hs : List (Value × Value)) (T T' : List S67) (B B' : List S78) (C C' : List S155) (E E' : List Int) (F : List Row) (a n1 n2 n3 n4 : Int) (w0 w : World) (hW : WR w w0.heap.size v0 v1 v2 v3 hs T B C E F) (hb : Below w0.heap.size w0 w)
    (h1 : laws_markThingS.f k T a = some (n1, T')) (h2 : markTabs k B n1 = some (B', n2)) (h3 : laws_markLoanS.f k C n2 = some (n3, C')) (h4 : laws_markIntS.f k E n3 = some (n4, E')) :
    Calls Try.prog 35 #[.agg #[v0, v1, v2, v3], .int .i64 a] w fun e w' => MWPost w0 v0 v1 v2 v3 hs T' B' C' E' F n4 e w' := by
  obtain ⟨A0, c0, A1, c1, A2, c2, A3, c3, rfl, rfl, rfl, rfl⟩ := hW.forms
  have HR := Aside0.mk hW
  have HB := Aside0.mk hb
  have HZ := Aside0.mk hb.size
  have H1 := Aside0.mk h1
  have H2 := Aside0.mk h2
  have H3 := Aside0.mk h3
  have H4 := Aside0.mk h4
  clear hW hb h1 h2 h3 h4
  go_enter Try.func35, Try.ntmps35
  go_upto_region 1 with ((with_reducible refine gate_dst (N := 2) rfl ?_); refine HR.out.2.box_ev HB.out HZ.out rfl (N := 2) rfl [.slice A0 T.length c0, .slice A1 B.length c1, .slice A2 C.length c2, .slice A3 E.length c3] 45 (by first | (go_simp; done) | (go_simp; rfl)) ?_; intro g w1 hl_ hb_ hz_; have HW := Aside0.mk (WR.box HR.out.1 hl_); replace HB := Aside0.mk hb_; replace HZ := Aside0.mk hz_; clear hl_ hb_ hz_)
  have b0 := HW.out.at 0 rfl
  go_upto_region 2 with (go_at_call 94; refine (mark_Th HW.out.fT HB.out H1.out).mono ?_; rintro e_ w2 ⟨rfl, hl_, hb_, hz_⟩; replace HW := Aside0.mk (WW.bT HW.out.1 hl_); replace HB := Aside0.mk hb_; clear hl_ hb_ hz_)
  clear b0
  have b1 := HW.out.at 1 rfl
  go_upto_region 3 with (go_at_call 95; refine (laws_markTableS.lay k _ hs B _ n1 B' n2 w0 _ HW.out.1 HW.out.fTab HB.out H2.out).mono ?_; rintro e_ w3 ⟨rfl, hl_, hb_⟩; replace HW := Aside0.mk (WW.bTab (HW.out.1.trans (markTabs_len k B n1 B' n2 H2.out).symm) hl_); replace HB := Aside0.mk hb_; clear hl_ hb_)
  clear b1
  have b2 := HW.out.at 2 rfl
  go_upto_region 4 with (go_at_call 96; refine (mark_Lo HW.out.fC HB.out H3.out).mono ?_; rintro e_ w4 ⟨rfl, hl_, hb_, hz_⟩; replace HW := Aside0.mk (WW.bC HW.out.1 hl_); replace HB := Aside0.mk hb_; clear hl_ hb_ hz_)
  clear b2
  have b3 := HW.out.at 3 rfl
  go_wp2_with (go_at_call 36; refine (mark_I HW.out.fE HB.out H4.out).mono ?_; rintro e_ w5 ⟨rfl, hl_, hb_, hz_⟩; replace HW := Aside0.mk (WW.bE HW.out.1 hl_); replace HB := Aside0.mk hb_; clear hl_ hb_ hz_)
  go_ret
  exact ⟨rfl, HW.out.less0, HB.out⟩
end Go.Proofs.Ytdoflfifnkpacaa.WO.LA
