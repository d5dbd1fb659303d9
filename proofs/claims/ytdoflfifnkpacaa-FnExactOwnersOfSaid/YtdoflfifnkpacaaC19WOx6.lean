-- Printed by a program of this session (after the kit's print.sh, with contracts of its own beside): Lean checks it.
import Derived.Test.YtdoflfifnkpacaaC19WOx0
import Derived.Test.YtdoflfifnkpacaaC19WOx2
import Derived.Test.YtdoflfifnkpacaaC19WOx3
import Derived.Test.YtdoflfifnkpacaaC19WOx4
import Derived.Test.YtdoflfifnkpacaaC19WOx5
namespace Go.Proofs.Ytdoflfifnkpacaa.WO
open Go.RowKit Go.Proofs.YtdoflfifnkpacaaW.PrintWords Go.Proofs.YtdoflfifnkpacaaW.PrintLast Go.Proofs.YtdoflfifnkpacaaW.PrintMore
attribute [local go_sem] max2_int min2_int max_two min_two max_three min_three max_four min_four   -- for this text's walks alone
set_option linter.unusedVariables false
set_option linter.unusedSimpArgs false

theorem dropJ_at {α : Type} (l : List α) (x : Int) (d : α) (h0 : 0 ≤ x) (h1 : x < l.length) : l.drop x.toNat = l.getD x.toNat d :: l.drop (x + 1).toNat := by
 have e : (x + 1).toNat = x.toNat + 1 := by omega
 have hl : x.toNat < l.length := by omega
 rw [e, List.drop_eq_getElem_cons hl, List.getD_eq_getElem?_getD, List.getElem?_eq_getElem hl, Option.getD_some]
theorem dropJ_end {α : Type} (l : List α) (x : Int) (h1 : ¬ x < l.length) (h0 : 0 ≤ x) : l.drop x.toNat = [] := List.drop_eq_nil_of_le (by omega)
def iarr (w : World) (g : Nat) (m : List Int) : Prop := w.heap[g]? = some (.cells (m.map (Value.int .i64)).toArray 3 (0, 0))
theorem iarr_at {w : World} {g : Nat} {m : List Int} (h : iarr w g m) (i : Int) (_h0 : 0 ≤ i) (h1 : i < m.length) : w.cell? ⟨g, i.toNat, none⟩ = some (.int .i64 (rd m i)) := by
 unfold iarr at h
 unfold World.cell? rd
 simp only [h]
 have : i.toNat < m.length := by omega
 simp [this]
theorem iarr_free {w : World} {g : Nat} {m : List Int} (h : iarr w g m) (j : Nat) : w.frozen? ⟨g, j, none⟩ = false := by
 unfold iarr at h
 unfold World.frozen?
 simp only [h]
 simp
theorem iarr_set {w : World} {g : Nat} {m : List Int} (h : iarr w g m) (j : Nat) (b : Int) : iarr (w.setCell ⟨g, j, none⟩ (.int .i64 b)) g (m.set j b) := by
 unfold iarr at h ⊢
 unfold World.setCell
 simp only [Array.getElem?_modify, if_true, h]
 simp [List.map_set]
theorem iarr_below {w w' : World} {g : Nat} {m : List Int} (h : iarr w g m) (hb : Below w.heap.size w w') : iarr w' g m := by
 unfold iarr at h ⊢
 have hlt : g < w.heap.size := (Array.getElem?_eq_some_iff.1 h).1
 exact (hb.block g hlt).trans h
theorem iarr_lt {w : World} {g : Nat} {m : List Int} (h : iarr w g m) : g < w.heap.size := (Array.getElem?_eq_some_iff.1 h).1
theorem iarr_far {w : World} {b : Nat} {m : List Int} (h : iarr w b m) {p : Addr} (hp : b ≠ p.block) (u : Value) : iarr (w.setCell p u) b m := (Below.heap_setCell w p u b hp).trans h
theorem madeCells_int (n : Nat) : madeCells (Value.int .i64 0).cells n = ((List.replicate n (0 : Int)).map (Value.int .i64)).toArray := by
 have hz : (Value.int .i64 0).cells = #[.int .i64 0] := rfl
 rw [hz]
 unfold madeCells
 apply Array.ext_getElem?
 intro i
 by_cases h : i < n
 ·simp [h, Nat.mod_one]
 ·simp [h]
theorem makei_event {ops : Array Oper} {o : Oper} {rest : List Oper} {a : Act} {Q : Exit → Act → World → Prop} {W : World} (hgd : o.guard = none) {N : Tmp} (hd : o.dst = some N) {x y : Operand} (ho : o.op = .makeSlice 36 x y) {n : Nat} (hx : a.eval x = .int .i64 (n : Int)) (hy : a.eval y = .int .i64 (n : Int)) (hn : n ≤ 40)
  (h : ∀ g, g = W.heap.size → ∀ w1, iarr w1 g (List.replicate n 0) → Below W.heap.size W w1 → wpList Try.prog ops Q rest (a.put o.dst (.slice (some ⟨g, 0, none⟩) n n)) w1) : wpList Try.prog ops Q (o :: rest) a W := by
 obtain ⟨i0, hi, hzz⟩ := Option.map_eq_some_iff.1 info3
 simp only [Prod.mk.injEq] at hzz
 obtain ⟨hz0, hz1, hz2⟩ := hzz
 have hr := Go.run_make (P := Try.prog) W 36 3 i0 (.int .i64 0) Try.underlying36 hi hz0 .i64 .i64 (n : Int) (n : Int) (by omega) (by omega) (by rw [hz2]; omega) (by omega)
 simp only [Int.toNat_natCast] at hr
 rw [hz1, Nat.mul_one, madeCells_int] at hr
 refine Kd.event_run (v := .slice (some ⟨W.heap.size, 0, none⟩) n n) hgd ?_ (h _ rfl _ (blk_new W _) (below_alloc (Below.refl _ _) _))
 simp [execOp, ho, hx, hy, hr]
def swE (k : Nat) (s0_0 : List S67) (s0_3 : List Int) (K : Option Bool) : List Int → Int → Option Bool
 | [], _ => K
 | n :: l, i => (spec_l1In.f n 0 (wrap64 ((s0_0.length : Int) - 1))).bind fun b => if b = true then (if n < 0 then none else (if n ≥ (s0_0.length : Int) then none else (if (rd_T67 s0_0 n).f1 = true then some false else ((spec_l16Has.f k (s0_3.take i.toNat) n).bind fun c => if c = true then some false else swE k s0_0 s0_3 K l (i + 1))))) else some false
def swA (K : Int → Option Bool) (o : List Int) : List S67 → Int → Int → Option Bool
 | [], _, d => K d
 | x :: l, i, d => (spec_l1In.f x.f0 0 9).bind fun b => if b = true then (if (x.f1 != (rd o i == 1)) = true then some false else (if rd o i > 1 then some false else (if x.f1 = true then swA K o l (i + 1) d else swA K o l (i + 1) (wrap64 (d + 1))))) else some false
def swH (ts : List S67) (K : List Int → Option Bool) : List S75 → List Int → Option Bool
 | [], o => K o
 | h :: l, o => if h.f0 = true then (if h.f3 = true then (if h.f2 ≥ (ts.length : Int) then some false else (if h.f2 < 0 then none else (if (rd_T67 ts h.f2).f1 = true then (if ((rd_T67 ts h.f2).f0 != h.f1) = true then some false else swH ts K l (o.set h.f2.toNat (wrap64 (rd o h.f2 + 1)))) else some false))) else swH ts K l o) else swH ts K l o
def swT (k : Nat) (ts : List S67) (K : List Int → Option Bool) : List S78 → List Int → Option Bool
 | [], o => K o
 | t :: l, o => (spec_GoodTable.f k t.f0 t.f1).bind fun b => if b = true then swH ts (swT k ts K l) t.f0 o else some false
def swL (k : Nat) (s0_0 : List S67) (s0_1 : List S78) (s0_2 : List S155) (s0_3 : List Int) (d : Int) : Option Bool := if ((s0_3.length : Int) == d) = true then spec_l16Loans.f k s0_0 s0_1 s0_2 s0_3 else some false
def spec_GoodWorld.f (k : Nat) (s0_0 : List S67) (s0_1 : List S78) (s0_2 : List S155) (s0_3 : List Int) : Option Bool :=
 if (s0_0.length : Int) > 40 then some false else ((spec_l1In.f (s0_1.length : Int) 1 5).bind fun b => if b = true then swT k s0_0 (fun o => swA (fun d => swE k s0_0 s0_3 (swL k s0_0 s0_1 s0_2 s0_3 d) s0_3 0) o s0_0 0 0) s0_1 (List.replicate s0_0.length 0) else some false)
set_option maxHeartbeats 4000000 in
set_option maxRecDepth 100000 in
theorem spec_GoodWorld.calls (k : Nat) (A0 : Option Addr) (c0 : Nat) (s0_0 : List S67) (A1 : Option Addr) (c1 : Nat) (s0_1 : List S78) (A2 : Option Addr) (c2 : Nat) (s0_2 : List S155) (A3 : Option Addr) (c3 : Nat) (s0_3 : List Int) (r : Bool) (w : World) (hr0 : Kd.C k67 w A0 s0_0.length s0_0) (hc0 : s0_0.length ≤ c0) (hr1 : Kd.C k78 w A1 s0_1.length s0_1) (hc1 : s0_1.length ≤ c1) (hr2 : Kd.C k155 w A2 s0_2.length s0_2) (hc2 : s0_2.length ≤ c2) (hr3 : Kd.C (Kd.int .i64) w A3 s0_3.length s0_3) (hc3 : s0_3.length ≤ c3) (hh : spec_GoodWorld.f k s0_0 s0_1 s0_2 s0_3 = some r) :
  Calls Try.prog 17 #[.agg #[.slice A0 s0_0.length c0, .slice A1 s0_1.length c1, .slice A2 s0_2.length c2, .slice A3 s0_3.length c3]] w fun e w' => e = .returned (.bool r) ∧ Below w.heap.size w w' := by
 have H0 := Aside0.mk hr0
 have HC0 := Aside0.mk hc0
 have H1 := Aside0.mk hr1
 have HC1 := Aside0.mk hc1
 have H2 := Aside0.mk hr2
 have HC2 := Aside0.mk hc2
 have H3 := Aside0.mk hr3
 have HC3 := Aside0.mk hc3
 have HH := Aside0.mk hh
 have HB := Aside0.mk (Below.refl w.heap.size w)
 clear hh hr0 hr1 hr2 hr3 hc0 hc1 hc2 hc3
 go_enter Try.func17, Try.ntmps17
 go_upto_region 1 with ((with_reducible refine gate_dst (N := 1) rfl ?_); refine box_event ?hg (N := 1) ?hd (cs := #[.slice A0 s0_0.length c0, .slice A1 s0_1.length c1, .slice A2 s0_2.length c2, .slice A3 s0_3.length c3]) (t := 45) ?hr ?_; (case hd => rfl); (case hg => rfl); (case hr => first | (go_simp; done) | (go_simp; rfl)); intro g hg_ w1 hbox hb_; have BKg := Aside0.mk hbox; have GEg := Aside0.mk (show w.heap.size ≤ g from by rw [hg_]; exact below_size HB.out); replace HB := Aside0.mk (below_step HB.out hb_); clear hbox hb_ hg_)
 have hh := HH.out
 clear HH
 unfold spec_GoodWorld.f at hh
 have d0_ : w1.cell? ⟨g, 0, none⟩ = some (.slice A0 s0_0.length c0) := (blk_cell BKg.out 0).trans rfl
 have d1_ : w1.cell? ⟨g, 1, none⟩ = some (.slice A1 s0_1.length c1) := (blk_cell BKg.out 1).trans rfl
 by_cases q0 : (s0_0.length : Int) > 40
 ·rw [if_pos q0] at hh
  obtain rfl := Option.some.inj hh
  have e0 : decide (40 < (s0_0.length : Int)) = true := decide_eq_true q0
  go_wp2
  go_ret
  exact ⟨rfl, HB.out⟩
 ·rw [if_neg q0] at hh
  have e0 : decide (40 < (s0_0.length : Int)) = false := decide_eq_false q0
  have LN := Aside0.mk (show s0_0.length ≤ 40 by omega)
  clear q0
  replace hh := Option.bind_eq_some_iff.mp hh
  obtain ⟨b, hb, hh⟩ := hh
  have HA := Aside0.mk hb
  clear hb
  cases b with
  | false =>
   simp only [Bool.false_eq_true, if_false, if_true] at hh
   obtain rfl := Option.some.inj hh
   go_wp2_with ((with_reducible refine gate_callee (f := 72) rfl ?_); (try (refine gate_guard (by rfl) ?_; dsimp only)); refine goesL_ (some 21) rfl rfl Try.func72 (by kernel_rfl) rfl #[.int .i64 ((s0_1.length : Int)), .int .i64 (1), .int .i64 (5)] rfl (by (try simp only [List.map_toArray, List.map_cons, List.map_nil]); first | done | rfl) ?_; (with_reducible refine (spec_l1In.calls ((s0_1.length : Int)) (1) (5) false _ HA.out).mono ?_); rintro e_ w2 ⟨rfl, hn_⟩; refine ⟨_, rfl, ?_⟩; obtain ⟨nd, rfl⟩ := hn_; replace BKg := Aside0.mk (blk_drewN BKg.out nd); replace HB := Aside0.mk (pw_below_drewN HB.out nd))
   go_ret
   exact ⟨rfl, HB.out⟩
  | true =>
   simp only [Bool.false_eq_true, if_false, if_true] at hh
   have HX := Aside0.mk hh
   clear hh
   go_upto_region 3 with ((with_reducible refine gate_callee (f := 72) rfl ?_); (try (refine gate_guard (by rfl) ?_; dsimp only)); refine goesL_ (some 21) rfl rfl Try.func72 (by kernel_rfl) rfl #[.int .i64 ((s0_1.length : Int)), .int .i64 (1), .int .i64 (5)] rfl (by (try simp only [List.map_toArray, List.map_cons, List.map_nil]); first | done | rfl) ?_; (with_reducible refine (spec_l1In.calls ((s0_1.length : Int)) (1) (5) true _ HA.out).mono ?_); rintro e_ w2 ⟨rfl, hn_⟩; refine ⟨_, rfl, ?_⟩; obtain ⟨nd, rfl⟩ := hn_; replace BKg := Aside0.mk (blk_drewN BKg.out nd); replace HB := Aside0.mk (pw_below_drewN HB.out nd))
   go_wp2_with (first | ((with_reducible refine gate_dst (N := 27) rfl ?_); refine makei_event ?hg (N := 27) ?hd (x := .tmp 26) (y := .tmp 26) ?ho (n := s0_0.length) ?hx ?hy LN.out ?_; (case hg => rfl); (case hd => rfl); (case ho => rfl); (case hx => rfl); (case hy => rfl); intro go hg_ w3 ho_ hb_; have IA := Aside0.mk ho_; have NEo := Aside0.mk (show g ≠ go from by rw [hg_]; exact Nat.ne_of_lt (blk_lt BKg.out)); have GEo := Aside0.mk (show w.heap.size ≤ go from by rw [hg_]; exact below_size HB.out); replace BKg := Aside0.mk (blk_below BKg.out hb_); replace HB := Aside0.mk (below_step HB.out hb_); clear hg_ ho_ hb_; have d1b_ : w3.cell? ⟨g, 1, none⟩ = some (.slice A1 s0_1.length c1) := (blk_cell BKg.out 1).trans rfl))
   clear d0_ d1_ d1b_ e0
   go_loopw [31] (fun v31 wr => ∃ (p : Int) (o : List Int), v31 = .int .i64 p ∧ Aside0 (0 ≤ p) ∧ Aside0 (p ≤ s0_1.length) ∧ Aside0 (swT k s0_0 (fun o => swA (fun d => swE k s0_0 s0_3 (swL k s0_0 s0_1 s0_2 s0_3 d) s0_3 0) o s0_0 0 0) (s0_1.drop p.toNat) o = some r) ∧ Aside0 (o.length = s0_0.length) ∧ Aside0 (iarr wr go o) ∧ Aside0 (wr.heap[g]? = some (.cells #[.slice A0 s0_0.length c0, .slice A1 s0_1.length c1, .slice A2 s0_2.length c2, .slice A3 s0_3.length c3] 45 (0, 0))) ∧ Aside0 (Below w.heap.size w wr)) (fun v31 _ => s0_1.length - (intOf v31).toNat)
   case atStart => exact ⟨0, List.replicate s0_0.length 0, rfl, ⟨Int.le_refl _⟩, ⟨by omega⟩, ⟨by simpa using HX.out⟩, ⟨by simp⟩, IA, BKg, HB⟩
   case round =>
    clear HX IA BKg HB
    obtain ⟨p, o, rfl, P0, P1, HX, OL, IA, BKg, HB⟩ := hrel
    have hx1 := HX.out
    clear HX
    by_cases hlt : p < (s0_1.length : Int)
    ·have p0 : 0 ≤ p := P0.out
     have hd : s0_1.drop p.toNat = rd_T78 s0_1 p :: s0_1.drop (p + 1).toNat := dropJ_at s0_1 p z78 p0 hlt
     rw [hd] at hx1
     clear hd
     simp only [swT] at hx1
     replace hx1 := Option.bind_eq_some_iff.mp hx1
     obtain ⟨b, hg0, hx1⟩ := hx1
     have HG := Aside0.mk hg0
     clear hg0
     have HX := Aside0.mk hx1
     clear hx1
     obtain ⟨ad, At, ct, Bt, dt, e, h0, h1, l1, ht, l2, hf⟩ := at_T78 H1.out p p0 hlt
     cases e
     have HT := Aside0.mk ht
     have HF := Aside0.mk hf
     have L1 := Aside0.mk l1
     have L2 := Aside0.mk l2
     clear ht hf l1 l2
     replace h0 := (HB.out.cell (World.block_lt_of_cell? w _ h0)).trans h0
     replace h1 := (HB.out.cell (World.block_lt_of_cell? w _ h1)).trans h1
     generalize rd_T78 s0_1 p = t at *
     have nlt : (decide (p < (s0_1.length : Int))) = true := decide_eq_true hlt
     have PB : IntKind.i64.wrap (p + 1) = p + 1 := IntWalk.i64_in _ (by have := P1.out; have := Kd.C_max H1.out; omega)
     go_upto_region 7 with ((with_reducible refine gate_dst (N := 5) rfl ?_); refine box_event ?hg (N := 5) ?hd (cs := #[.slice none 0 0, .slice none 0 0]) (t := 78) ?hr ?_; (case hd => rfl); (case hg => rfl); (case hr => first | (go_simp; done) | (go_simp; rfl)); intro gt hg_ w4 hbox hb_; have HBw4 := Aside0.mk (below_step HB.out hb_); have BKgt := Aside0.mk hbox; have GEgt := Aside0.mk (show w.heap.size ≤ gt from by rw [hg_]; exact below_size HB.out); have NOgt := Aside0.mk (show go ≠ gt from by rw [hg_]; exact Nat.ne_of_lt (iarr_lt IA.out)); have NGgt := Aside0.mk (show g ≠ gt from by rw [hg_]; exact Nat.ne_of_lt (blk_lt BKg.out)); replace IA := Aside0.mk (iarr_below IA.out hb_); replace BKg := Aside0.mk (blk_below BKg.out hb_); obtain ⟨zc0_, zc1_, zf0_, zf1_⟩ := (⟨(blk_cell BKgt.out 0).trans rfl, (blk_cell BKgt.out 1).trans rfl, blk_frozen BKgt.out 0, blk_frozen BKgt.out 1⟩ : w4.cell? ⟨gt, 0, none⟩ = some (.slice none 0 0) ∧ w4.cell? ⟨gt, 1, none⟩ = some (.slice none 0 0) ∧ w4.frozen? ⟨gt, 0, none⟩ = false ∧ w4.frozen? ⟨gt, 1, none⟩ = false); clear hbox hb_ hg_)
     have n0_ : Aside0 (((w4.setCell ⟨gt, 0, none⟩ (.slice At t.f0.length ct)).setCell ⟨gt, 1, none⟩ (.slice Bt t.f1.length dt)).heap[gt]? = some (.cells #[.slice At t.f0.length ct, .slice Bt t.f1.length dt] 78 (0, 0))) := ⟨(blk_put (cs := #[.slice At t.f0.length ct, .slice none 0 0]) (blk_put (cs := #[.slice none 0 0, .slice none 0 0]) BKgt.out 0 _ rfl) 1 _ rfl)⟩
     have n1_ : Aside0 (iarr ((w4.setCell ⟨gt, 0, none⟩ (.slice At t.f0.length ct)).setCell ⟨gt, 1, none⟩ (.slice Bt t.f1.length dt)) go o) := ⟨iarr_far (iarr_far (IA.out) NOgt.out _) NOgt.out _⟩
     have n3_ : Aside0 (((w4.setCell ⟨gt, 0, none⟩ (.slice At t.f0.length ct)).setCell ⟨gt, 1, none⟩ (.slice Bt t.f1.length dt)).heap[g]? = some (.cells #[.slice A0 s0_0.length c0, .slice (some ad) s0_1.length c1, .slice A2 s0_2.length c2, .slice A3 s0_3.length c3] 45 (0, 0))) := ⟨blk_far (blk_far (BKg.out) NGgt.out _) NGgt.out _⟩
     have n2_ : Aside0 (Below w.heap.size w ((w4.setCell ⟨gt, 0, none⟩ (.slice At t.f0.length ct)).setCell ⟨gt, 1, none⟩ (.slice Bt t.f1.length dt))) := ⟨((HBw4.out).setCell GEgt.out _).setCell GEgt.out _⟩
     clear zc0_ zf0_ zc1_ zf1_ IA BKg BKgt HBw4 HB h0 h1
     generalize ((w4.setCell ⟨gt, 0, none⟩ (.slice At t.f0.length ct)).setCell ⟨gt, 1, none⟩ (.slice Bt t.f1.length dt)) = W at n0_ n1_ n2_ n3_ ⊢
     have IA := n1_
     have BKg := n3_
     have HB := n2_
     have BKgt := n0_
     clear n0_ n1_ n2_ n3_
     have e0_ : W.cell? ⟨gt, 0, none⟩ = some (.slice At t.f0.length ct) := (blk_cell BKgt.out 0).trans rfl
     have e1_ : W.cell? ⟨gt, 1, none⟩ = some (.slice Bt t.f1.length dt) := (blk_cell BKgt.out 1).trans rfl
     have hx1 := HX.out
     clear HX
     cases b with
     | false =>
      simp only [Bool.false_eq_true, if_false, if_true] at hx1
      obtain rfl := Option.some.inj hx1
      go_wp2_with ((with_reducible refine gate_callee (f := 73) rfl ?_); refine goesL_ (some 36) rfl rfl Try.func73 (by kernel_rfl) rfl #[.agg #[.slice At t.f0.length ct, .slice Bt t.f1.length dt]] rfl (by (try simp only [List.map_toArray, List.map_cons, List.map_nil]); first | done | rfl) ?_; (with_reducible refine (spec_GoodTable.calls k At ct t.f0 Bt dt t.f1 false _ (Kd.C_below HT.out HB.out) L1.out (Kd.C_below HF.out HB.out) L2.out HG.out).mono ?_); rintro e_ w5 ⟨rfl, hb_⟩; refine ⟨_, rfl, ?_⟩; replace IA := Aside0.mk (iarr_below IA.out hb_); replace BKg := Aside0.mk (blk_below BKg.out hb_); replace BKgt := Aside0.mk (blk_below BKgt.out hb_); replace HB := Aside0.mk (below_step HB.out hb_); have e2_ : w5.cell? ⟨gt, 0, none⟩ = some (.slice At t.f0.length ct) := (blk_cell BKgt.out 0).trans rfl; clear hb_)
      go_ret
      exact ⟨rfl, HB.out⟩
     | true =>
      simp only [Bool.false_eq_true, if_false, if_true] at hx1
      have HX := Aside0.mk hx1
      clear hx1
      go_wp2_with ((with_reducible refine gate_callee (f := 73) rfl ?_); refine goesL_ (some 36) rfl rfl Try.func73 (by kernel_rfl) rfl #[.agg #[.slice At t.f0.length ct, .slice Bt t.f1.length dt]] rfl (by (try simp only [List.map_toArray, List.map_cons, List.map_nil]); first | done | rfl) ?_; (with_reducible refine (spec_GoodTable.calls k At ct t.f0 Bt dt t.f1 true _ (Kd.C_below HT.out HB.out) L1.out (Kd.C_below HF.out HB.out) L2.out HG.out).mono ?_); rintro e_ w5 ⟨rfl, hb_⟩; refine ⟨_, rfl, ?_⟩; replace IA := Aside0.mk (iarr_below IA.out hb_); replace BKg := Aside0.mk (blk_below BKg.out hb_); replace BKgt := Aside0.mk (blk_below BKgt.out hb_); replace HB := Aside0.mk (below_step HB.out hb_); have e2_ : w5.cell? ⟨gt, 0, none⟩ = some (.slice At t.f0.length ct) := (blk_cell BKgt.out 0).trans rfl; clear hb_)
      clear e0_ e1_ e2_ HG
      go_loopw [41] (fun v41 wr => ∃ (q : Int) (o' : List Int), v41 = .int .i64 q ∧ Aside0 (0 ≤ q) ∧ Aside0 (q ≤ t.f0.length) ∧ Aside0 (swH s0_0 (swT k s0_0 (fun o => swA (fun d => swE k s0_0 s0_3 (swL k s0_0 s0_1 s0_2 s0_3 d) s0_3 0) o s0_0 0 0) (s0_1.drop (p + 1).toNat)) (t.f0.drop q.toNat) o' = some r) ∧ Aside0 (o'.length = s0_0.length) ∧ Aside0 (iarr wr go o') ∧ Aside0 (wr.heap[g]? = some (.cells #[.slice A0 s0_0.length c0, .slice (some ad) s0_1.length c1, .slice A2 s0_2.length c2, .slice A3 s0_3.length c3] 45 (0, 0))) ∧ Aside0 (Below w.heap.size w wr)) (fun v41 _ => t.f0.length - (intOf v41).toNat)
      case atStart => exact ⟨0, o, rfl, ⟨Int.le_refl _⟩, ⟨by omega⟩, ⟨by simpa using HX.out⟩, OL, IA, BKg, HB⟩
      case round =>
       clear HX OL IA BKg HB BKgt
       obtain ⟨q, o', rfl, Q0, Q1, HX, OL, IA, BKg, HB⟩ := hrel
       have hx1 := HX.out
       clear HX
       by_cases hlt2 : q < (t.f0.length : Int)
       ·have q0 : 0 ≤ q := Q0.out
        have hd : t.f0.drop q.toNat = rd_T75 t.f0 q :: t.f0.drop (q + 1).toNat := dropJ_at t.f0 q z75 q0 hlt2
        rw [hd] at hx1
        clear hd
        simp only [swH] at hx1
        have HX := Aside0.mk hx1
        clear hx1
        have hr := Kd.C_below HT.out HB.out
        obtain ⟨ad2, e, h0, h1, h2, h3, h4, h5⟩ := at_T75 hr q q0 hlt2
        cases e
        clear hr
        generalize rd_T75 t.f0 q = T at *
        have nlt2 : (decide (q < (t.f0.length : Int))) = true := decide_eq_true hlt2
        have QB : IntKind.i64.wrap (q + 1) = q + 1 := IntWalk.i64_in _ (by have := Q1.out; have := Kd.C_max HT.out; omega)
        obtain ⟨tu, t1, t2, tO, t4, t5⟩ := T
        have hx1 := HX.out
        clear HX
        dsimp only at h0 h1 h2 h3 h4 h5 hx1
        cases tu with
        | false =>
         simp only [Bool.false_eq_true, if_false, if_true] at hx1
         have HX := Aside0.mk hx1
         clear hx1
         go_wp2_with ((with_reducible refine gate_dst (N := 7) rfl ?_); refine box_event ?hg (N := 7) ?hd (cs := #[.bool false, .int .i64 0, .int .i64 0, .bool false, .int .i64 0, .int .i64 0]) (t := 75) ?hr ?_; (case hd => rfl); (case hg => rfl); (case hr => first | (go_simp; done) | (go_simp; rfl)); intro gh hg_ w6 hbox hb_; have HBw6 := Aside0.mk (below_step HB.out hb_); have BKgh := Aside0.mk hbox; have GEgh := Aside0.mk (show w.heap.size ≤ gh from by rw [hg_]; exact below_size HB.out); have NOgh := Aside0.mk (show go ≠ gh from by rw [hg_]; exact Nat.ne_of_lt (iarr_lt IA.out)); have NGgh := Aside0.mk (show g ≠ gh from by rw [hg_]; exact Nat.ne_of_lt (blk_lt BKg.out)); replace IA := Aside0.mk (iarr_below IA.out hb_); replace BKg := Aside0.mk (blk_below BKg.out hb_); obtain ⟨zc0_, zc1_, zc2_, zc3_, zc4_, zc5_, zf0_, zf1_, zf2_, zf3_, zf4_, zf5_⟩ := (⟨(blk_cell BKgh.out 0).trans rfl, (blk_cell BKgh.out 1).trans rfl, (blk_cell BKgh.out 2).trans rfl, (blk_cell BKgh.out 3).trans rfl, (blk_cell BKgh.out 4).trans rfl, (blk_cell BKgh.out 5).trans rfl, blk_frozen BKgh.out 0, blk_frozen BKgh.out 1, blk_frozen BKgh.out 2, blk_frozen BKgh.out 3, blk_frozen BKgh.out 4, blk_frozen BKgh.out 5⟩ : w6.cell? ⟨gh, 0, none⟩ = some (.bool false) ∧ w6.cell? ⟨gh, 1, none⟩ = some (.int .i64 0) ∧ w6.cell? ⟨gh, 2, none⟩ = some (.int .i64 0) ∧ w6.cell? ⟨gh, 3, none⟩ = some (.bool false) ∧ w6.cell? ⟨gh, 4, none⟩ = some (.int .i64 0) ∧ w6.cell? ⟨gh, 5, none⟩ = some (.int .i64 0) ∧ w6.frozen? ⟨gh, 0, none⟩ = false ∧ w6.frozen? ⟨gh, 1, none⟩ = false ∧ w6.frozen? ⟨gh, 2, none⟩ = false ∧ w6.frozen? ⟨gh, 3, none⟩ = false ∧ w6.frozen? ⟨gh, 4, none⟩ = false ∧ w6.frozen? ⟨gh, 5, none⟩ = false); clear hbox hb_ hg_)
         go_roundw
         case rel => exact ⟨q + 1, o', rfl, ⟨by omega⟩, ⟨by omega⟩, HX, OL, ⟨iarr_far (iarr_far (iarr_far (iarr_far (iarr_far (iarr_far (IA.out) NOgh.out _) NOgh.out _) NOgh.out _) NOgh.out _) NOgh.out _) NOgh.out _⟩, ⟨blk_far (blk_far (blk_far (blk_far (blk_far (blk_far (BKg.out) NGgh.out _) NGgh.out _) NGgh.out _) NGgh.out _) NGgh.out _) NGgh.out _⟩, ⟨((((((HBw6.out).setCell GEgh.out _).setCell GEgh.out _).setCell GEgh.out _).setCell GEgh.out _).setCell GEgh.out _).setCell GEgh.out _⟩⟩
         case measure => simp [intOf]; omega
        | true =>
         cases tO with
         | false =>
          simp only [Bool.false_eq_true, if_false, if_true] at hx1
          have HX := Aside0.mk hx1
          clear hx1
          go_wp2_with ((with_reducible refine gate_dst (N := 7) rfl ?_); refine box_event ?hg (N := 7) ?hd (cs := #[.bool false, .int .i64 0, .int .i64 0, .bool false, .int .i64 0, .int .i64 0]) (t := 75) ?hr ?_; (case hd => rfl); (case hg => rfl); (case hr => first | (go_simp; done) | (go_simp; rfl)); intro gh hg_ w6 hbox hb_; have HBw6 := Aside0.mk (below_step HB.out hb_); have BKgh := Aside0.mk hbox; have GEgh := Aside0.mk (show w.heap.size ≤ gh from by rw [hg_]; exact below_size HB.out); have NOgh := Aside0.mk (show go ≠ gh from by rw [hg_]; exact Nat.ne_of_lt (iarr_lt IA.out)); have NGgh := Aside0.mk (show g ≠ gh from by rw [hg_]; exact Nat.ne_of_lt (blk_lt BKg.out)); replace IA := Aside0.mk (iarr_below IA.out hb_); replace BKg := Aside0.mk (blk_below BKg.out hb_); obtain ⟨zc0_, zc1_, zc2_, zc3_, zc4_, zc5_, zf0_, zf1_, zf2_, zf3_, zf4_, zf5_⟩ := (⟨(blk_cell BKgh.out 0).trans rfl, (blk_cell BKgh.out 1).trans rfl, (blk_cell BKgh.out 2).trans rfl, (blk_cell BKgh.out 3).trans rfl, (blk_cell BKgh.out 4).trans rfl, (blk_cell BKgh.out 5).trans rfl, blk_frozen BKgh.out 0, blk_frozen BKgh.out 1, blk_frozen BKgh.out 2, blk_frozen BKgh.out 3, blk_frozen BKgh.out 4, blk_frozen BKgh.out 5⟩ : w6.cell? ⟨gh, 0, none⟩ = some (.bool false) ∧ w6.cell? ⟨gh, 1, none⟩ = some (.int .i64 0) ∧ w6.cell? ⟨gh, 2, none⟩ = some (.int .i64 0) ∧ w6.cell? ⟨gh, 3, none⟩ = some (.bool false) ∧ w6.cell? ⟨gh, 4, none⟩ = some (.int .i64 0) ∧ w6.cell? ⟨gh, 5, none⟩ = some (.int .i64 0) ∧ w6.frozen? ⟨gh, 0, none⟩ = false ∧ w6.frozen? ⟨gh, 1, none⟩ = false ∧ w6.frozen? ⟨gh, 2, none⟩ = false ∧ w6.frozen? ⟨gh, 3, none⟩ = false ∧ w6.frozen? ⟨gh, 4, none⟩ = false ∧ w6.frozen? ⟨gh, 5, none⟩ = false); clear hbox hb_ hg_)
          go_roundw
          case rel => exact ⟨q + 1, o', rfl, ⟨by omega⟩, ⟨by omega⟩, HX, OL, ⟨iarr_far (iarr_far (iarr_far (iarr_far (iarr_far (iarr_far (IA.out) NOgh.out _) NOgh.out _) NOgh.out _) NOgh.out _) NOgh.out _) NOgh.out _⟩, ⟨blk_far (blk_far (blk_far (blk_far (blk_far (blk_far (BKg.out) NGgh.out _) NGgh.out _) NGgh.out _) NGgh.out _) NGgh.out _) NGgh.out _⟩, ⟨((((((HBw6.out).setCell GEgh.out _).setCell GEgh.out _).setCell GEgh.out _).setCell GEgh.out _).setCell GEgh.out _).setCell GEgh.out _⟩⟩
          case measure => simp [intOf]; omega
         | true =>
          simp only [Bool.false_eq_true, if_false, if_true] at hx1
          have HX := Aside0.mk hx1
          clear hx1
          go_wp2_with ((with_reducible refine gate_dst (N := 7) rfl ?_); refine box_event ?hg (N := 7) ?hd (cs := #[.bool false, .int .i64 0, .int .i64 0, .bool false, .int .i64 0, .int .i64 0]) (t := 75) ?hr ?_; (case hd => rfl); (case hg => rfl); (case hr => first | (go_simp; done) | (go_simp; rfl)); intro gh hg_ w6 hbox hb_; have HBw6 := Aside0.mk (below_step HB.out hb_); have BKgh := Aside0.mk hbox; have GEgh := Aside0.mk (show w.heap.size ≤ gh from by rw [hg_]; exact below_size HB.out); have NOgh := Aside0.mk (show go ≠ gh from by rw [hg_]; exact Nat.ne_of_lt (iarr_lt IA.out)); have NGgh := Aside0.mk (show g ≠ gh from by rw [hg_]; exact Nat.ne_of_lt (blk_lt BKg.out)); replace IA := Aside0.mk (iarr_below IA.out hb_); replace BKg := Aside0.mk (blk_below BKg.out hb_); obtain ⟨zc0_, zc1_, zc2_, zc3_, zc4_, zc5_, zf0_, zf1_, zf2_, zf3_, zf4_, zf5_⟩ := (⟨(blk_cell BKgh.out 0).trans rfl, (blk_cell BKgh.out 1).trans rfl, (blk_cell BKgh.out 2).trans rfl, (blk_cell BKgh.out 3).trans rfl, (blk_cell BKgh.out 4).trans rfl, (blk_cell BKgh.out 5).trans rfl, blk_frozen BKgh.out 0, blk_frozen BKgh.out 1, blk_frozen BKgh.out 2, blk_frozen BKgh.out 3, blk_frozen BKgh.out 4, blk_frozen BKgh.out 5⟩ : w6.cell? ⟨gh, 0, none⟩ = some (.bool false) ∧ w6.cell? ⟨gh, 1, none⟩ = some (.int .i64 0) ∧ w6.cell? ⟨gh, 2, none⟩ = some (.int .i64 0) ∧ w6.cell? ⟨gh, 3, none⟩ = some (.bool false) ∧ w6.cell? ⟨gh, 4, none⟩ = some (.int .i64 0) ∧ w6.cell? ⟨gh, 5, none⟩ = some (.int .i64 0) ∧ w6.frozen? ⟨gh, 0, none⟩ = false ∧ w6.frozen? ⟨gh, 1, none⟩ = false ∧ w6.frozen? ⟨gh, 2, none⟩ = false ∧ w6.frozen? ⟨gh, 3, none⟩ = false ∧ w6.frozen? ⟨gh, 4, none⟩ = false ∧ w6.frozen? ⟨gh, 5, none⟩ = false); clear hbox hb_ hg_)
          have n0_ : Aside0 (((((((w6.setCell ⟨gh, 0, none⟩ (.bool true)).setCell ⟨gh, 1, none⟩ (.int .i64 t1)).setCell ⟨gh, 2, none⟩ (.int .i64 t2)).setCell ⟨gh, 3, none⟩ (.bool true)).setCell ⟨gh, 4, none⟩ (.int .i64 t4)).setCell ⟨gh, 5, none⟩ (.int .i64 t5)).heap[gh]? = some (.cells #[.bool true, .int .i64 t1, .int .i64 t2, .bool true, .int .i64 t4, .int .i64 t5] 75 (0, 0))) := ⟨(blk_put (cs := #[.bool true, .int .i64 t1, .int .i64 t2, .bool true, .int .i64 t4, .int .i64 0]) (blk_put (cs := #[.bool true, .int .i64 t1, .int .i64 t2, .bool true, .int .i64 0, .int .i64 0]) (blk_put (cs := #[.bool true, .int .i64 t1, .int .i64 t2, .bool false, .int .i64 0, .int .i64 0]) (blk_put (cs := #[.bool true, .int .i64 t1, .int .i64 0, .bool false, .int .i64 0, .int .i64 0]) (blk_put (cs := #[.bool true, .int .i64 0, .int .i64 0, .bool false, .int .i64 0, .int .i64 0]) (blk_put (cs := #[.bool false, .int .i64 0, .int .i64 0, .bool false, .int .i64 0, .int .i64 0]) BKgh.out 0 _ rfl) 1 _ rfl) 2 _ rfl) 3 _ rfl) 4 _ rfl) 5 _ rfl)⟩
          have n1_ : Aside0 (iarr ((((((w6.setCell ⟨gh, 0, none⟩ (.bool true)).setCell ⟨gh, 1, none⟩ (.int .i64 t1)).setCell ⟨gh, 2, none⟩ (.int .i64 t2)).setCell ⟨gh, 3, none⟩ (.bool true)).setCell ⟨gh, 4, none⟩ (.int .i64 t4)).setCell ⟨gh, 5, none⟩ (.int .i64 t5)) go o') := ⟨iarr_far (iarr_far (iarr_far (iarr_far (iarr_far (iarr_far (IA.out) NOgh.out _) NOgh.out _) NOgh.out _) NOgh.out _) NOgh.out _) NOgh.out _⟩
          have n3_ : Aside0 (((((((w6.setCell ⟨gh, 0, none⟩ (.bool true)).setCell ⟨gh, 1, none⟩ (.int .i64 t1)).setCell ⟨gh, 2, none⟩ (.int .i64 t2)).setCell ⟨gh, 3, none⟩ (.bool true)).setCell ⟨gh, 4, none⟩ (.int .i64 t4)).setCell ⟨gh, 5, none⟩ (.int .i64 t5)).heap[g]? = some (.cells #[.slice A0 s0_0.length c0, .slice (some ad) s0_1.length c1, .slice A2 s0_2.length c2, .slice A3 s0_3.length c3] 45 (0, 0))) := ⟨blk_far (blk_far (blk_far (blk_far (blk_far (blk_far (BKg.out) NGgh.out _) NGgh.out _) NGgh.out _) NGgh.out _) NGgh.out _) NGgh.out _⟩
          have n2_ : Aside0 (Below w.heap.size w ((((((w6.setCell ⟨gh, 0, none⟩ (.bool true)).setCell ⟨gh, 1, none⟩ (.int .i64 t1)).setCell ⟨gh, 2, none⟩ (.int .i64 t2)).setCell ⟨gh, 3, none⟩ (.bool true)).setCell ⟨gh, 4, none⟩ (.int .i64 t4)).setCell ⟨gh, 5, none⟩ (.int .i64 t5))) := ⟨((((((HBw6.out).setCell GEgh.out _).setCell GEgh.out _).setCell GEgh.out _).setCell GEgh.out _).setCell GEgh.out _).setCell GEgh.out _⟩
          clear zc0_ zf0_ zc1_ zf1_ zc2_ zf2_ zc3_ zf3_ zc4_ zf4_ zc5_ zf5_ IA BKg BKgh HBw6 HB h0 h1 h2 h3 h4 h5
          generalize ((((((w6.setCell ⟨gh, 0, none⟩ (.bool true)).setCell ⟨gh, 1, none⟩ (.int .i64 t1)).setCell ⟨gh, 2, none⟩ (.int .i64 t2)).setCell ⟨gh, 3, none⟩ (.bool true)).setCell ⟨gh, 4, none⟩ (.int .i64 t4)).setCell ⟨gh, 5, none⟩ (.int .i64 t5)) = W2 at n0_ n1_ n2_ n3_ ⊢
          have IA := n1_
          have BKg := n3_
          have HB := n2_
          have BKgh := n0_
          clear n0_ n1_ n2_ n3_
          have hx1 := HX.out
          clear HX
          have hlen := LN.out
          have g0 : W2.cell? ⟨g, 0, none⟩ = some (.slice A0 s0_0.length c0) := (blk_cell BKg.out 0).trans rfl
          have c1_ : W2.cell? ⟨gh, 1, none⟩ = some (.int .i64 t1) := (blk_cell BKgh.out 1).trans rfl
          have c2_ : W2.cell? ⟨gh, 2, none⟩ = some (.int .i64 t2) := (blk_cell BKgh.out 2).trans rfl
          by_cases k1 : t2 ≥ (s0_0.length : Int)
          ·rw [if_pos k1] at hx1
           obtain rfl := Option.some.inj hx1
           have d1 : decide ((s0_0.length : Int) ≤ t2) = true := decide_eq_true k1
           go_quiet (fail)
           go_wp2
           go_ret
           exact ⟨rfl, by first | exact pw_below_drewN HB.out _ | exact HB.out | (rw [← World.drewN_drewN]; exact HB.out)⟩
          rw [if_neg k1] at hx1
          by_cases k0 : t2 < 0
          ·rw [if_pos k0] at hx1
           exact absurd hx1 (by simp)
          rw [if_neg k0] at hx1
          have d1 : decide ((s0_0.length : Int) ≤ t2) = false := decide_eq_false k1
          have r0 : 0 ≤ t2 := by omega
          have r1 : t2 < (s0_0.length : Int) := by omega
          have hr := Kd.C_below H0.out HB.out
          obtain ⟨ad3, e, x0, x1⟩ := at_T67 hr t2 r0 r1
          cases e
          clear hr
          generalize rd_T67 s0_0 t2 = X at *
          obtain ⟨xr, xa⟩ := X
          dsimp only at x0 x1 hx1
          have ho : W2.cell? ⟨go, t2.toNat, none⟩ = some (.int .i64 (rd o' t2)) := iarr_at IA.out t2 r0 (by rw [OL.out]; omega)
          have hfo := iarr_free IA.out t2.toNat
          have OLi := OL.out
          have r2 : t2 < (o'.length : Int) := by rw [OLi]; exact r1
          clear OLi
          cases xa with
          | false =>
           simp only [Bool.false_eq_true, if_false] at hx1
           obtain rfl := Option.some.inj hx1
           go_quiet (fail)
           go_wp2
           go_ret
           exact ⟨rfl, by first | exact pw_below_drewN HB.out _ | exact HB.out | (rw [← World.drewN_drewN]; exact HB.out)⟩
          | true =>
           simp only [if_true] at hx1
           by_cases k2 : (xr != t1) = true
           ·rw [if_pos k2] at hx1
            obtain rfl := Option.some.inj hx1
            go_quiet (fail)
            go_wp2
            go_ret
            exact ⟨rfl, by first | exact pw_below_drewN HB.out _ | exact HB.out | (rw [← World.drewN_drewN]; exact HB.out)⟩
           rw [if_neg k2] at hx1
           have k2 : (xr != t1) = false := by simpa using k2
           have HX := Aside0.mk hx1
           clear hx1
           go_quiet (fail)
           go_wp2
           go_roundw
           case rel => exact ⟨q + 1, o'.set t2.toNat (wrap64 (rd o' t2 + 1)), rfl, ⟨by omega⟩, ⟨by omega⟩, HX, ⟨by rw [List.length_set]; exact OL.out⟩, ⟨by rw [← i64_w]; exact iarr_set (iarr_below IA.out (pw_below_drewN (Below.refl _ _) _)) _ _⟩, ⟨blk_far (blk_drewN BKg.out _) NEo.out _⟩, ⟨(pw_below_drewN HB.out _).setCell GEo.out _⟩⟩
           case measure => simp [intOf]; omega
       ·have he : t.f0.drop q.toNat = [] := dropJ_end t.f0 q hlt2 Q0.out
        rw [he] at hx1
        simp only [swH] at hx1
        have HX := Aside0.mk hx1
        clear hx1 he
        have nlt2 : (decide (q < (t.f0.length : Int))) = false := decide_eq_false hlt2
        go_wp2
        go_roundw
        case rel => exact ⟨p + 1, o', rfl, ⟨by omega⟩, ⟨by omega⟩, HX, OL, IA, BKg, HB⟩
        case measure => simp [intOf]; omega
    ·have he : s0_1.drop p.toNat = [] := dropJ_end s0_1 p hlt P0.out
     rw [he] at hx1
     simp only [swT] at hx1
     have HX := Aside0.mk hx1
     clear hx1 he
     have nlt : (decide (p < (s0_1.length : Int))) = false := decide_eq_false hlt
     have g0 : wr.cell? ⟨g, 0, none⟩ = some (.slice A0 s0_0.length c0) := (blk_cell BKg.out 0).trans rfl
     go_wp2_with fail
     clear g0 nlt
     go_loopw [93, 8] (fun v93 v8 wr => ∃ (y dd : Int), v93 = .int .i64 y ∧ v8 = .int .i64 dd ∧ Aside0 (0 ≤ y) ∧ Aside0 (y ≤ s0_0.length) ∧ Aside0 (swA (fun d => swE k s0_0 s0_3 (swL k s0_0 s0_1 s0_2 s0_3 d) s0_3 0) o (s0_0.drop y.toNat) y dd = some r) ∧ Aside0 (iarr wr go o) ∧ Aside0 (wr.heap[g]? = some (.cells #[.slice A0 s0_0.length c0, .slice A1 s0_1.length c1, .slice A2 s0_2.length c2, .slice A3 s0_3.length c3] 45 (0, 0))) ∧ Aside0 (Below w.heap.size w wr)) (fun v93 _ _ => s0_0.length - (intOf v93).toNat)
     case atStart => exact ⟨0, 0, rfl, rfl, ⟨Int.le_refl _⟩, ⟨by omega⟩, ⟨by simpa using HX.out⟩, IA, BKg, HB⟩
     case round =>
      clear HX IA BKg HB
      obtain ⟨y, dd, rfl, rfl, Y0, Y1, HX, IA, BKg, HB⟩ := hrel
      have hx1 := HX.out
      clear HX
      have hlen := LN.out
      by_cases hlt2 : y < (s0_0.length : Int)
      ·have y0 : 0 ≤ y := Y0.out
       have hd : s0_0.drop y.toNat = rd_T67 s0_0 y :: s0_0.drop (y + 1).toNat := dropJ_at s0_0 y z67 y0 hlt2
       rw [hd] at hx1
       clear hd
       simp only [swA] at hx1
       replace hx1 := Option.bind_eq_some_iff.mp hx1
       obtain ⟨b, hb0, hx1⟩ := hx1
       have HA := Aside0.mk hb0
       clear hb0
       have HX := Aside0.mk hx1
       clear hx1
       have hr := Kd.C_below H0.out HB.out
       obtain ⟨ad, e, h0, h1⟩ := at_T67 hr y y0 hlt2
       cases e
       clear hr
       generalize rd_T67 s0_0 y = X at *
       obtain ⟨xr, xa⟩ := X
       have hx1 := HX.out
       clear HX
       dsimp only at h0 h1 hx1
       replace HA := Aside0.mk (show spec_l1In.f xr 0 9 = some b from HA.out)
       have nlt2 : (decide (y < (s0_0.length : Int))) = true := decide_eq_true hlt2
       have YB : IntKind.i64.wrap (y + 1) = y + 1 := IntWalk.i64_in _ (by omega)
       go_upto_region 22 with ((with_reducible refine gate_dst (N := 10) rfl ?_); refine box_event ?hg (N := 10) ?hd (cs := #[.int .i64 0, .bool false]) (t := 67) ?hr ?_; (case hd => rfl); (case hg => rfl); (case hr => first | (go_simp; done) | (go_simp; rfl)); intro gx hg_ w4 hbox hb_; have HBw4 := Aside0.mk (below_step HB.out hb_); have BKgx := Aside0.mk hbox; have GEgx := Aside0.mk (show w.heap.size ≤ gx from by rw [hg_]; exact below_size HB.out); have NOgx := Aside0.mk (show go ≠ gx from by rw [hg_]; exact Nat.ne_of_lt (iarr_lt IA.out)); have NGgx := Aside0.mk (show g ≠ gx from by rw [hg_]; exact Nat.ne_of_lt (blk_lt BKg.out)); replace IA := Aside0.mk (iarr_below IA.out hb_); replace BKg := Aside0.mk (blk_below BKg.out hb_); obtain ⟨zc0_, zc1_, zf0_, zf1_⟩ := (⟨(blk_cell BKgx.out 0).trans rfl, (blk_cell BKgx.out 1).trans rfl, blk_frozen BKgx.out 0, blk_frozen BKgx.out 1⟩ : w4.cell? ⟨gx, 0, none⟩ = some (.int .i64 0) ∧ w4.cell? ⟨gx, 1, none⟩ = some (.bool false) ∧ w4.frozen? ⟨gx, 0, none⟩ = false ∧ w4.frozen? ⟨gx, 1, none⟩ = false); clear hbox hb_ hg_)
       have n0_ : Aside0 (((w4.setCell ⟨gx, 0, none⟩ (.int .i64 xr)).setCell ⟨gx, 1, none⟩ (.bool xa)).heap[gx]? = some (.cells #[.int .i64 xr, .bool xa] 67 (0, 0))) := ⟨(blk_put (cs := #[.int .i64 xr, .bool false]) (blk_put (cs := #[.int .i64 0, .bool false]) BKgx.out 0 _ rfl) 1 _ rfl)⟩
       have n1_ : Aside0 (iarr ((w4.setCell ⟨gx, 0, none⟩ (.int .i64 xr)).setCell ⟨gx, 1, none⟩ (.bool xa)) go o) := ⟨iarr_far (iarr_far (IA.out) NOgx.out _) NOgx.out _⟩
       have n3_ : Aside0 (((w4.setCell ⟨gx, 0, none⟩ (.int .i64 xr)).setCell ⟨gx, 1, none⟩ (.bool xa)).heap[g]? = some (.cells #[.slice (some ad) s0_0.length c0, .slice A1 s0_1.length c1, .slice A2 s0_2.length c2, .slice A3 s0_3.length c3] 45 (0, 0))) := ⟨blk_far (blk_far (BKg.out) NGgx.out _) NGgx.out _⟩
       have n2_ : Aside0 (Below w.heap.size w ((w4.setCell ⟨gx, 0, none⟩ (.int .i64 xr)).setCell ⟨gx, 1, none⟩ (.bool xa))) := ⟨((HBw4.out).setCell GEgx.out _).setCell GEgx.out _⟩
       clear zc0_ zf0_ zc1_ zf1_ IA BKg BKgx HBw4 HB h0 h1
       generalize ((w4.setCell ⟨gx, 0, none⟩ (.int .i64 xr)).setCell ⟨gx, 1, none⟩ (.bool xa)) = W at n0_ n1_ n2_ n3_ ⊢
       have IA := n1_
       have BKg := n3_
       have HB := n2_
       have BKgx := n0_
       clear n0_ n1_ n2_ n3_
       have e0_ : W.cell? ⟨gx, 0, none⟩ = some (.int .i64 xr) := (blk_cell BKgx.out 0).trans rfl
       have e1_ : W.cell? ⟨gx, 1, none⟩ = some (.bool xa) := (blk_cell BKgx.out 1).trans rfl
       cases b with
       | false =>
        simp only [Bool.false_eq_true, if_false, if_true] at hx1
        obtain rfl := Option.some.inj hx1
        go_quiet (((go_at_call 72; (with_reducible refine (spec_l1In.calls (xr) (0) (9) false _ HA.out).mono ?_); rintro e w' ⟨rfl, ⟨nd, rfl⟩⟩; (try first | exact ⟨rfl, _, World.drewN_drewN _ _ _⟩ | exact ⟨rfl, _, Eq.trans (World.drewN_drewN _ _ _) (congrArg (World.drewN _) (Nat.add_assoc _ _ _))⟩))))
        go_wp2
        go_ret
        exact ⟨rfl, by first | exact pw_below_drewN HB.out _ | exact HB.out | (rw [← World.drewN_drewN]; exact HB.out)⟩
       | true =>
        simp only [Bool.false_eq_true, if_false, if_true] at hx1
        have OLi := OL.out
        have r2 : y < (o.length : Int) := by rw [OLi]; exact hlt2
        clear OLi
        have ho : W.cell? ⟨go, y.toNat, none⟩ = some (.int .i64 (rd o y)) := iarr_at IA.out y y0 r2
        generalize rd o y = n at ho hx1
        by_cases k1 : (xa != (n == 1)) = true
        ·rw [if_pos k1] at hx1
         obtain rfl := Option.some.inj hx1
         have k1b : (!(xa == (n == 1))) = true := k1
         go_quiet (((go_at_call 72; (with_reducible refine (spec_l1In.calls (xr) (0) (9) true _ HA.out).mono ?_); rintro e w' ⟨rfl, ⟨nd, rfl⟩⟩; (try first | exact ⟨rfl, _, World.drewN_drewN _ _ _⟩ | exact ⟨rfl, _, Eq.trans (World.drewN_drewN _ _ _) (congrArg (World.drewN _) (Nat.add_assoc _ _ _))⟩))))
         go_wp2
         go_ret
         exact ⟨rfl, by first | exact pw_below_drewN HB.out _ | exact HB.out | (rw [← World.drewN_drewN]; exact HB.out)⟩
        rw [if_neg k1] at hx1
        have k1 : (xa != (n == 1)) = false := by simpa using k1
        have k1b : (!(xa == (n == 1))) = false := k1
        by_cases k2 : n > 1
        ·rw [if_pos k2] at hx1
         obtain rfl := Option.some.inj hx1
         have d2 : decide (1 < n) = true := decide_eq_true k2
         go_quiet (((go_at_call 72; (with_reducible refine (spec_l1In.calls (xr) (0) (9) true _ HA.out).mono ?_); rintro e w' ⟨rfl, ⟨nd, rfl⟩⟩; (try first | exact ⟨rfl, _, World.drewN_drewN _ _ _⟩ | exact ⟨rfl, _, Eq.trans (World.drewN_drewN _ _ _) (congrArg (World.drewN _) (Nat.add_assoc _ _ _))⟩))))
         go_wp2
         go_ret
         exact ⟨rfl, by first | exact pw_below_drewN HB.out _ | exact HB.out | (rw [← World.drewN_drewN]; exact HB.out)⟩
        rw [if_neg k2] at hx1
        have d2 : decide (1 < n) = false := decide_eq_false k2
        cases xa with
        | true =>
         have n1 : (n == 1) = true := by simpa using k1
         clear k1 k1b
         simp only [Bool.false_eq_true, if_false, if_true] at hx1
         have HX := Aside0.mk hx1
         clear hx1
         go_quiet (((go_at_call 72; (with_reducible refine (spec_l1In.calls (xr) (0) (9) true _ HA.out).mono ?_); rintro e w' ⟨rfl, ⟨nd, rfl⟩⟩; (try first | exact ⟨rfl, _, World.drewN_drewN _ _ _⟩ | exact ⟨rfl, _, Eq.trans (World.drewN_drewN _ _ _) (congrArg (World.drewN _) (Nat.add_assoc _ _ _))⟩))))
         go_wp2
         go_roundw
         case rel => exact ⟨y + 1, dd, rfl, by first | rfl | (rw [i64_w]), ⟨by omega⟩, ⟨by omega⟩, HX, ⟨iarr_below IA.out (pw_below_drewN (Below.refl _ _) _)⟩, ⟨blk_drewN BKg.out _⟩, ⟨by first | exact pw_below_drewN HB.out _ | exact HB.out⟩⟩
         case measure => simp [intOf]; omega
        | false =>
         have n1 : (n == 1) = false := by simpa using k1
         clear k1 k1b
         simp only [Bool.false_eq_true, if_false, if_true] at hx1
         have HX := Aside0.mk hx1
         clear hx1
         go_quiet (((go_at_call 72; (with_reducible refine (spec_l1In.calls (xr) (0) (9) true _ HA.out).mono ?_); rintro e w' ⟨rfl, ⟨nd, rfl⟩⟩; (try first | exact ⟨rfl, _, World.drewN_drewN _ _ _⟩ | exact ⟨rfl, _, Eq.trans (World.drewN_drewN _ _ _) (congrArg (World.drewN _) (Nat.add_assoc _ _ _))⟩))))
         go_wp2
         go_roundw
         case rel => exact ⟨y + 1, wrap64 (dd + 1), rfl, by first | rfl | (rw [i64_w]), ⟨by omega⟩, ⟨by omega⟩, HX, ⟨iarr_below IA.out (pw_below_drewN (Below.refl _ _) _)⟩, ⟨blk_drewN BKg.out _⟩, ⟨by first | exact pw_below_drewN HB.out _ | exact HB.out⟩⟩
         case measure => simp [intOf]; omega
      ·have he : s0_0.drop y.toNat = [] := dropJ_end s0_0 y hlt2 Y0.out
       rw [he] at hx1
       simp only [swA] at hx1
       have HX := Aside0.mk hx1
       clear hx1 he
       have nlt2 : (decide (y < (s0_0.length : Int))) = false := decide_eq_false hlt2
       have g3 : wr.cell? ⟨g, 3, none⟩ = some (.slice A3 s0_3.length c3) := (blk_cell BKg.out 3).trans rfl
       clear IA OL
       go_wp2_with fail
       clear g3 nlt2
       go_loopw [128] (fun v128 wr => ∃ (y : Int), v128 = .int .i64 y ∧ Aside0 (0 ≤ y) ∧ Aside0 (y ≤ s0_3.length) ∧ Aside0 (swE k s0_0 s0_3 (swL k s0_0 s0_1 s0_2 s0_3 dd) (s0_3.drop y.toNat) y = some r) ∧ Aside0 (wr.heap[g]? = some (.cells #[.slice A0 s0_0.length c0, .slice A1 s0_1.length c1, .slice A2 s0_2.length c2, .slice A3 s0_3.length c3] 45 (0, 0))) ∧ Aside0 (Below w.heap.size w wr)) (fun v128 _ => s0_3.length - (intOf v128).toNat)
       case atStart => exact ⟨0, rfl, ⟨Int.le_refl _⟩, ⟨by omega⟩, ⟨by simpa using HX.out⟩, BKg, HB⟩
       case round =>
        clear HX BKg HB
        obtain ⟨z, rfl, Z0, Z1, HX, BKg, HB⟩ := hrel
        have hx1 := HX.out
        clear HX
        by_cases hlt3 : z < (s0_3.length : Int)
        ·have z0 : 0 ≤ z := Z0.out
         have hd : s0_3.drop z.toNat = rd s0_3 z :: s0_3.drop (z + 1).toNat := dropJ_at s0_3 z 0 z0 hlt3
         rw [hd] at hx1
         clear hd
         simp only [swE] at hx1
         replace hx1 := Option.bind_eq_some_iff.mp hx1
         obtain ⟨b, hb0, hx1⟩ := hx1
         have HA := Aside0.mk hb0
         clear hb0
         have hr := Kd.C_below H3.out HB.out
         obtain ⟨ad, e, h0⟩ := Kd.at_int hr z z0 hlt3
         cases e
         generalize rd s0_3 z = n at *
         have nlt3 : (decide (z < (s0_3.length : Int))) = true := decide_eq_true hlt3
         have ZB : IntKind.i64.wrap (z + 1) = z + 1 := IntWalk.i64_in _ (by have := Z1.out; have := Kd.C_max H3.out; omega)
         have g0 : wr.cell? ⟨g, 0, none⟩ = some (.slice A0 s0_0.length c0) := (blk_cell BKg.out 0).trans rfl
         have g3 : wr.cell? ⟨g, 3, none⟩ = some (.slice (some ad) s0_3.length c3) := (blk_cell BKg.out 3).trans rfl
         have TB := i64_w ((s0_0.length : Int) - 1)
         cases b with
         | false =>
          simp only [Bool.false_eq_true, if_false, if_true] at hx1
          obtain rfl := Option.some.inj hx1
          go_wp2_with (go_at_call 72; (with_reducible refine (spec_l1In.calls n 0 (wrap64 ((s0_0.length : Int) - 1)) false _ HA.out).mono ?_); rintro e_ w7 ⟨rfl, hn_⟩; replace BKg := Aside0.mk (blk_below BKg.out (Drawn0.below hn_)); replace HB := Aside0.mk (below_step HB.out (Drawn0.below hn_)); obtain ⟨nd, rfl⟩ := hn_)
          go_ret
          exact ⟨rfl, by first | exact pw_below_drewN HB.out _ | exact HB.out | (rw [← World.drewN_drewN]; exact HB.out)⟩
         | true =>
          simp only [Bool.false_eq_true, if_false, if_true] at hx1
          by_cases k0 : n < 0
          ·rw [if_pos k0] at hx1
           exact absurd hx1 (by simp)
          rw [if_neg k0] at hx1
          by_cases k1 : n ≥ (s0_0.length : Int)
          ·rw [if_pos k1] at hx1
           exact absurd hx1 (by simp)
          rw [if_neg k1] at hx1
          have r0 : 0 ≤ n := by omega
          have r1 : n < (s0_0.length : Int) := by omega
          clear hr
          have hr := Kd.C_below H0.out HB.out
          obtain ⟨ad3, e, x0, x1⟩ := at_T67 hr n r0 r1
          cases e
          clear hr
          generalize rd_T67 s0_0 n = X at *
          obtain ⟨xr, xa⟩ := X
          dsimp only at x0 x1 hx1
          cases xa with
          | true =>
           simp only [if_true] at hx1
           obtain rfl := Option.some.inj hx1
           go_wp2_with (go_at_call 72; (with_reducible refine (spec_l1In.calls n 0 (wrap64 ((s0_0.length : Int) - 1)) true _ HA.out).mono ?_); rintro e_ w7 ⟨rfl, hn_⟩; replace BKg := Aside0.mk (blk_below BKg.out (Drawn0.below hn_)); replace HB := Aside0.mk (below_step HB.out (Drawn0.below hn_)); obtain ⟨nd, rfl⟩ := hn_)
           go_ret
           exact ⟨rfl, by first | exact pw_below_drewN HB.out _ | exact HB.out | (rw [← World.drewN_drewN]; exact HB.out)⟩
          | false =>
           simp only [Bool.false_eq_true, if_false] at hx1
           replace hx1 := Option.bind_eq_some_iff.mp hx1
           obtain ⟨c, hc0, hx1⟩ := hx1
           have HE := Aside0.mk hc0
           clear hc0
           obtain ⟨i0_, hi0_, _, hsz_, _⟩ := info_parts info3
           have cz : z ≤ (s0_3.length : Int) := by omega
           obtain ⟨hcut_, _, hC_⟩ := print_take_of (P := Try.prog) (Value.int .i64) 0 36 3 .i64 Try.underlying36 hi0_ hsz_ (some ad) c3 s0_3 z z0 cz HC3.out
           have HC := Aside0.mk hC_
           have HK := Aside0.mk (Kd.C_take (m := z.toNat) H3.out (by omega))
           clear hi0_ hsz_ hC_ cz
           generalize s0_3.take z.toNat = tk at hcut_ HK HC HE
           cases c with
           | true =>
            simp only [if_true] at hx1
            obtain rfl := Option.some.inj hx1
            go_wp2_with (first | (go_at_call 72; (with_reducible refine (spec_l1In.calls n 0 (wrap64 ((s0_0.length : Int) - 1)) true _ HA.out).mono ?_); rintro e_ w7 ⟨rfl, hn_⟩; replace BKg := Aside0.mk (blk_below BKg.out (Drawn0.below hn_)); replace HB := Aside0.mk (below_step HB.out (Drawn0.below hn_)); obtain ⟨nd, rfl⟩ := hn_) | (go_at_call 74; (with_reducible refine (spec_l16Has.calls k _ _ tk n true _ (Kd.C_below HK.out HB.out) HC.out HE.out).mono ?_); rintro e_ w8 ⟨rfl, hn_⟩; replace BKg := Aside0.mk (blk_below BKg.out (Drawn0.below hn_)); replace HB := Aside0.mk (below_step HB.out (Drawn0.below hn_)); obtain ⟨nd2, rfl⟩ := hn_))
            go_ret
            exact ⟨rfl, by first | exact pw_below_drewN HB.out _ | exact HB.out | (rw [← World.drewN_drewN]; exact HB.out)⟩
           | false =>
            simp only [Bool.false_eq_true, if_false, if_true] at hx1
            have HX := Aside0.mk hx1
            clear hx1
            go_wp2_with (first | (go_at_call 72; (with_reducible refine (spec_l1In.calls n 0 (wrap64 ((s0_0.length : Int) - 1)) true _ HA.out).mono ?_); rintro e_ w7 ⟨rfl, hn_⟩; replace BKg := Aside0.mk (blk_below BKg.out (Drawn0.below hn_)); replace HB := Aside0.mk (below_step HB.out (Drawn0.below hn_)); obtain ⟨nd, rfl⟩ := hn_) | (go_at_call 74; (with_reducible refine (spec_l16Has.calls k _ _ tk n false _ (Kd.C_below HK.out HB.out) HC.out HE.out).mono ?_); rintro e_ w8 ⟨rfl, hn_⟩; replace BKg := Aside0.mk (blk_below BKg.out (Drawn0.below hn_)); replace HB := Aside0.mk (below_step HB.out (Drawn0.below hn_)); obtain ⟨nd2, rfl⟩ := hn_))
            go_roundw
            case rel => exact ⟨z + 1, rfl, ⟨by omega⟩, ⟨by omega⟩, HX, BKg, ⟨by rw [← World.drewN_drewN]; exact HB.out⟩⟩
            case measure => simp [intOf]; omega
        ·have he : s0_3.drop z.toNat = [] := dropJ_end s0_3 z hlt3 Z0.out
         rw [he] at hx1
         simp only [swE, swL] at hx1
         clear he
         have nlt3 : (decide (z < (s0_3.length : Int))) = false := decide_eq_false hlt3
         have g0 : wr.cell? ⟨g, 0, none⟩ = some (.slice A0 s0_0.length c0) := (blk_cell BKg.out 0).trans rfl
         have g1 : wr.cell? ⟨g, 1, none⟩ = some (.slice A1 s0_1.length c1) := (blk_cell BKg.out 1).trans rfl
         have g2 : wr.cell? ⟨g, 2, none⟩ = some (.slice A2 s0_2.length c2) := (blk_cell BKg.out 2).trans rfl
         have g3 : wr.cell? ⟨g, 3, none⟩ = some (.slice A3 s0_3.length c3) := (blk_cell BKg.out 3).trans rfl
         by_cases k1 : ((s0_3.length : Int) == dd) = true
         ·rw [if_pos k1] at hx1
          have HA := Aside0.mk hx1
          clear hx1
          go_wp2_with ((with_reducible refine gate_callee (f := 75) rfl ?_); (try (refine gate_guard (by rfl) ?_; dsimp only)); refine goesL_ (some 164) rfl rfl Try.func75 (by kernel_rfl) rfl #[.agg #[.slice A0 s0_0.length c0, .slice A1 s0_1.length c1, .slice A2 s0_2.length c2, .slice A3 s0_3.length c3]] rfl (by (try simp only [List.map_toArray, List.map_cons, List.map_nil]); first | done | rfl) ?_; (with_reducible refine (spec_l16Loans.calls k A0 c0 s0_0 A1 c1 s0_1 A2 c2 s0_2 A3 c3 s0_3 r _ (Kd.C_below H0.out HB.out) HC0.out (Kd.C_below H1.out HB.out) HC1.out (Kd.C_below H2.out HB.out) HC2.out (Kd.C_below H3.out HB.out) HC3.out HA.out).mono ?_); rintro e_ w9 ⟨rfl, hb_⟩; refine ⟨_, rfl, ?_⟩; replace HB := Aside0.mk (below_step HB.out hb_); clear hb_)
          go_ret
          exact ⟨rfl, by first | exact pw_below_drewN HB.out _ | exact HB.out | (rw [← World.drewN_drewN]; exact HB.out)⟩
         ·rw [if_neg k1] at hx1
          obtain rfl := Option.some.inj hx1
          have k1 : ((s0_3.length : Int) == dd) = false := by simpa using k1
          go_wp2
          go_ret
          exact ⟨rfl, by first | exact pw_below_drewN HB.out _ | exact HB.out | (rw [← World.drewN_drewN]; exact HB.out)⟩

def laws_toThing.f (a0_0 : Int) (a0_1 : Bool) : Option (Int × Bool) := some (a0_0, a0_1)
set_option maxHeartbeats 8000000 in
set_option maxRecDepth 100000 in
theorem laws_toThing.calls (a0_0 : Int) (a0_1 : Bool) (r1 : Int) (r2 : Bool) (w : World) (h : laws_toThing.f a0_0 a0_1 = some (r1, r2)) :
  Calls Try.prog 126 #[.agg #[.int .i64 a0_0, .bool a0_1]] w fun e w' => e = .returned (.agg #[.int .i64 r1, .bool r2]) ∧ Below w.heap.size w w' := by
 have hu159 := Try.underlying159
 have hu67 := Try.underlying67
 have HB := Aside0.mk (Below.refl w.heap.size w)
 have H : (some (a0_0, a0_1)) = some (r1, r2) := h
 clear h
 simp only [Option.some.injEq, Prod.mk.injEq] at H
 obtain ⟨rfl, rfl⟩ := H
 go_enter Try.func126, Try.ntmps126
 go_wp2_with (first | ((with_reducible refine gate_dst (N := 1) rfl ?_); refine box_event ?hg (N := 1) ?hd (cs := #[.int .i64 a0_0, .bool a0_1]) (t := 159) ?hr ?_; (case hd => rfl); (case hg => rfl); (case hr => first | (go_simp; done) | (go_simp; rfl)); intro gb132 hg w2 hbox hb; have n0_ := Aside0.mk (below_step (eb_ HB.out) hb); have n1_ := Aside0.mk (hbox); have n2_ := Aside0.mk (gs_ hg (eb_ HB.out) : w.heap.size ≤ gb132); have n3_ := n2_; clear HB; have HB := n0_; have BK132 := n1_; have GW132 := n2_; have GE132 := n3_; clear n0_ n1_ n2_ n3_; clear hb hbox hg) | ((with_reducible refine gate_dst (N := 2) rfl ?_); refine box_event ?hg (N := 2) ?hd (cs := #[.int .i64 0, .bool false]) (t := 67) ?hr ?_; (case hd => rfl); (case hg => rfl); (case hr => first | (go_simp; done) | (go_simp; rfl)); intro gb133 hg w3 hbox hb; have n0_ := Aside0.mk (blk_below (bk_ BK132.out) hb); have n1_ := Aside0.mk (below_step (by repeat (first | (with_reducible first | exact HB.out | apply eA | apply eN | apply eD | refine below_set ?_ GE132.out) | exact HB.out)) hb); have n2_ := Aside0.mk (hbox); have n3_ := Aside0.mk (gs_ hg (by repeat (first | (with_reducible first | exact HB.out | apply eA | apply eN | apply eD | refine below_set ?_ GE132.out) | exact HB.out)) : w.heap.size ≤ gb133); have n4_ := n3_; have n5_ := Aside0.mk ((by rw [hg]; exact Nat.ne_of_lt (blk_lt (g := gb132) (o := .cells #[.int .i64 a0_0, .bool a0_1] 159 (0, 0)) (bk_ BK132.out)) : gb132 ≠ gb133)); have n6_ := Aside0.mk ((by rw [hg]; exact Nat.ne_of_gt (blk_lt (g := gb132) (o := .cells #[.int .i64 a0_0, .bool a0_1] 159 (0, 0)) (bk_ BK132.out)) : gb133 ≠ gb132)); clear BK132 HB; have BK132 := n0_; have HB := n1_; have BK133 := n2_; have GW133 := n3_; have GE133 := n4_; have NB132_133 := n5_; have NB133_132 := n6_; clear n0_ n1_ n2_ n3_ n4_ n5_ n6_; clear hb hbox hg) | ((with_reducible refine gate_dst (N := 3) rfl ?_); refine box_event ?hg (N := 3) ?hd (cs := #[.int .i64 0, .bool false]) (t := 67) ?hr ?_; (case hd => rfl); (case hg => rfl); (case hr => first | (go_simp; done) | (go_simp; rfl)); intro gb134 hg w4 hbox hb; have n0_ := Aside0.mk (blk_below (bk_ BK132.out) hb); have n1_ := Aside0.mk (blk_below (bk_ BK133.out) hb); have n2_ := Aside0.mk (below_step (by repeat (first | (with_reducible first | exact HB.out | apply eA | apply eN | apply eD | refine below_set ?_ GE132.out | refine below_set ?_ GE133.out) | exact HB.out)) hb); have n3_ := Aside0.mk (hbox); have n4_ := Aside0.mk (gs_ hg (by repeat (first | (with_reducible first | exact HB.out | apply eA | apply eN | apply eD | refine below_set ?_ GE132.out | refine below_set ?_ GE133.out) | exact HB.out)) : w.heap.size ≤ gb134); have n5_ := n4_; have n6_ := Aside0.mk ((by rw [hg]; exact Nat.ne_of_lt (blk_lt (g := gb132) (o := .cells #[.int .i64 a0_0, .bool a0_1] 159 (0, 0)) (bk_ BK132.out)) : gb132 ≠ gb134)); have n7_ := Aside0.mk ((by rw [hg]; exact Nat.ne_of_gt (blk_lt (g := gb132) (o := .cells #[.int .i64 a0_0, .bool a0_1] 159 (0, 0)) (bk_ BK132.out)) : gb134 ≠ gb132)); have n8_ := Aside0.mk ((by rw [hg]; exact Nat.ne_of_lt (blk_lt (g := gb133) (o := .cells #[.int .i64 0, .bool false] 67 (0, 0)) (bk_ BK133.out)) : gb133 ≠ gb134)); have n9_ := Aside0.mk ((by rw [hg]; exact Nat.ne_of_gt (blk_lt (g := gb133) (o := .cells #[.int .i64 0, .bool false] 67 (0, 0)) (bk_ BK133.out)) : gb134 ≠ gb133)); clear BK132 BK133 HB; have BK132 := n0_; have BK133 := n1_; have HB := n2_; have BK134 := n3_; have GW134 := n4_; have GE134 := n5_; have NB132_134 := n6_; have NB134_132 := n7_; have NB133_134 := n8_; have NB134_133 := n9_; clear n0_ n1_ n2_ n3_ n4_ n5_ n6_ n7_ n8_ n9_; clear hb hbox hg; have hnb5 := NB132_133.out; have hnc5 := NB133_132.out; have hnb6 := NB132_134.out; have hnc6 := NB134_132.out; obtain ⟨_, _, _, _⟩ := zc2_ BK132.out; have hnb8 := NB134_133.out; have hnc8 := NB133_134.out; obtain ⟨_, _, _, _⟩ := zc2_ BK134.out; obtain ⟨_, _, _, _⟩ := zc2_ BK133.out))
 refine bodyPost_ret (results_cell_row rfl _ _ gb133 67 #[.int .i64 a0_0, .bool a0_1] (0, 0) _ rfl (by (with_reducible repeat first | apply bN | apply bD | apply bA); refine blk_put (cs := #[.int .i64 a0_0, .bool false]) ?_ 1 _ rfl; (with_reducible repeat first | apply bN | apply bD | apply bA); refine blk_put (cs := #[.int .i64 0, .bool false]) ?_ 0 _ rfl; (with_reducible repeat first | apply bN | apply bD | apply bA); refine blk_far ?_ NB133_134.out _; (with_reducible repeat first | apply bN | apply bD | apply bA); refine blk_far ?_ NB133_134.out _; (with_reducible repeat first | apply bN | apply bD | apply bA); exact BK133.out) Try.underlying67 rfl (by kernel_rfl)) rfl ?_
 exact ⟨by first | rfl | (simp [errW_none, errW_some] <;> rfl) | (simp [*, errW_none, errW_some] <;> rfl), by repeat (first | (with_reducible first | exact HB.out | apply eA | apply eN | apply eD | refine below_set ?_ GE132.out | refine below_set ?_ GE133.out | refine below_set ?_ GE134.out) | exact HB.out)⟩

def laws_toThingS.l0 : Nat → List (S159) → List (S67) → Int → Option ((List (S67)))
 | 0, _, _, _ => none
 | k + 1, x0, x3, x4 => if x4 < (x0.length : Int) then (if 0 ≤ x4 then ((laws_toThing.f ((rd_T159 x0 x4).f0) ((rd_T159 x0 x4).f1)).bind fun bt139 => (if x4 < (x3.length : Int) then (laws_toThingS.l0 k x0 (x3.set (x4 : Int).toNat (⟨bt139.1, bt139.2⟩ : S67)) (wrap64 (x4 + 1))) else (none))) else (none)) else (some x3)
def laws_toThingS.f (k : Nat) (l0 : List (S159)) : Option ((List (S67))) := if 0 ≤ (l0.length : Int) then (if ((l0.length : Int) : Int).toNat ≤ 17592186044416 then (laws_toThingS.l0 k l0 (List.replicate ((l0.length : Int) : Int).toNat z67) 0) else (none)) else (none)
set_option maxHeartbeats 8000000 in
set_option maxRecDepth 100000 in
theorem laws_toThingS.calls (k : Nat) (A0 : Option Addr) (c0 : Nat) (l0 : List (S159)) (r : List (S67)) (w : World) (hr0 : Kd.C k159 w A0 l0.length l0) (hc0 : l0.length ≤ c0) (h : laws_toThingS.f k l0 = some r) :
  Calls Try.prog 76 #[.slice A0 l0.length c0] w fun e w' => ∃ v0_ : Value, e = .returned (v0_) ∧ Kd.R k67 67 w' w.heap.size (fun _ => True) v0_ r ∧ Below w.heap.size w w' := by
 have hu159 := Try.underlying159
 have hu67 := Try.underlying67
 have HR0 := Aside0.mk hr0
 have HC0 := Aside0.mk hc0
 clear hr0 hc0
 have HB := Aside0.mk (Below.refl w.heap.size w)
 have H : (if 0 ≤ (l0.length : Int) then (if ((l0.length : Int) : Int).toNat ≤ 17592186044416 then (laws_toThingS.l0 k l0 (List.replicate ((l0.length : Int) : Int).toNat z67) 0) else (none)) else (none)) = some r := h
 clear h
 by_cases c2 : 0 ≤ (l0.length : Int)
 ·rw [if_pos c2] at H
  have c2b0 := eq_true c2
  have c2b1 : decide (0 ≤ (l0.length : Int)) = true := decide_eq_true c2
  clear c2
  by_cases c3 : ((l0.length : Int) : Int).toNat ≤ 17592186044416
  ·rw [if_pos c3] at H
   have c3b0 := eq_true c3
   have c3b1 : decide (((l0.length : Int) : Int).toNat ≤ 17592186044416) = true := decide_eq_true c3
   clear c3
   obtain ⟨y135, hy135⟩ : ∃ y_ : List (S67), y_ = (List.replicate ((l0.length : Int) : Int).toNat z67) := ⟨_, rfl⟩
   replace H : (laws_toThingS.l0 k l0 y135 0) = some r := by first | (rw [hy135]; with_reducible exact H) | (have H2_ := (Option.bind_some _ _).symm.trans H; rw [hy135]; with_reducible exact H2_) | (have H2_ := (Option.bind_some _ _).symm.trans H; with_reducible exact H2_) | with_reducible exact H | (rw [hy135]; exact H) | exact H
   have Ny135 := Aside0.mk hy135
   clear hy135
   have H' := Aside0.mk H
   clear H
   go_enter Try.func76, Try.ntmps76
   go_wp2_with (first | ((with_reducible refine gate_dst (N := 7) rfl ?_); refine Kd.R_make k67 _ 67 rfl (N := 7) rfl 41 _ _ rfl (l0.length : Int) rfl rfl Try.underlying41 (.agg #[(.int .i64 0), (.bool false)]) 16 info67 rfl (by decide) (by omega) z67 (ok := fun _ => True) (okp := fun _ => True) (k67_mkM _ _ _ z67 ) (fun _ hk => hk) trivial (of_decide_eq_true (by first | (with_reducible assumption) | assumption)) (Nat.le_trans (Nat.mul_le_mul_right _ (of_decide_eq_true (by first | (with_reducible assumption) | assumption) : (l0.length : Int).toNat ≤ 17592186044416)) (by omega)) (Below.refl _ _) (Nat.le_refl _) ?_; intro v136 w4 ho5 hb hg_ hnew_; clear hg_ hnew_; (first | rw [← Ny135.out] at ho5 | (simp only [Int.reduceToNat] at ho5; rw [← Ny135.out] at ho5)); have n0_ := Aside0.mk (Kd.R_lower ho5 (below_size (eb_ HB.out))); have n1_ := Aside0.mk (below_step (eb_ HB.out) hb); clear HB; have HO137 := n0_; have HB := n1_; clear n0_ n1_; clear hb ho5))
   go_loopg [4] k (fun kq v4 w' => ∃ (x3_1 : List (S67)) (x4_1 : Int), v4 = .int .i64 x4_1 ∧ Aside0 (laws_toThingS.l0 kq l0 x3_1 x4_1 = some r) ∧ Aside0 (kq ≤ k) ∧ Aside0 (Kd.R k67 67 w' w.heap.size (fun _ => True) v136 x3_1) ∧ Aside0 (Below w.heap.size w w'))
   case atStart => exact ⟨(y135), (0), (by first | rfl | (simp; done) | (simp [*]; done)), H', ⟨Nat.le_refl _⟩, ⟨by (with_reducible repeat first | apply Kd.R_alloc | apply Kd.R_drewN | apply Kd.R_drew); exact HO137.out⟩, ⟨by repeat (first | (with_reducible first | exact HB.out | apply eA | apply eN | apply eD) | exact HB.out)⟩⟩
   case round =>
    clear H'
    try clear c2
    try clear c2b0
    try clear c2b1
    try clear p2
    try clear c3
    try clear c3b0
    try clear c3b1
    obtain ⟨x3_1, x4_1, rfl, HA, HK1, HO_3, HB⟩ := hrel
    cases gk with
    | zero => exact absurd HA.out (by simp [laws_toThingS.l0])
    | succ k1 =>
     have H := HA.out
     clear HA
     simp only [laws_toThingS.l0] at H
     by_cases c6 : x4_1 < (l0.length : Int)
     ·rw [if_pos c6] at H
      have c6b0 : decide (x4_1 < (l0.length : Int)) = true := decide_eq_true c6
      clear c6
      by_cases c7 : 0 ≤ x4_1
      ·rw [if_pos c7] at H
       have c7b0 : decide (0 ≤ x4_1) = true := decide_eq_true c7
       clear c7
       replace H := Option.bind_eq_some_iff.mp H
       obtain ⟨⟨t139, t140⟩, A80, H⟩ := H
       replace H : (if x4_1 < (x3_1.length : Int) then (laws_toThingS.l0 k1 l0 (x3_1.set (x4_1 : Int).toNat (⟨t139, t140⟩ : S67)) (wrap64 (x4_1 + 1))) else (none)) = some r := H
       have A8 := Aside0.mk A80
       clear A80
       by_cases c9 : x4_1 < (x3_1.length : Int)
       ·rw [if_pos c9] at H
        have c9b0 : decide (x4_1 < (x3_1.length : Int)) = true := decide_eq_true c9
        clear c9
        obtain ⟨y141, hy141⟩ : ∃ y_ : List (S67), y_ = (x3_1.set (x4_1 : Int).toNat (⟨t139, t140⟩ : S67)) := ⟨_, rfl⟩
        replace H : (laws_toThingS.l0 k1 l0 y141 (wrap64 (x4_1 + 1))) = some r := by first | (rw [hy141]; with_reducible exact H) | (have H2_ := (Option.bind_some _ _).symm.trans H; rw [hy141]; with_reducible exact H2_) | (have H2_ := (Option.bind_some _ _).symm.trans H; with_reducible exact H2_) | with_reducible exact H | (rw [hy141]; exact H) | exact H
        have Ny141 := Aside0.mk hy141
        clear hy141
        have H' := Aside0.mk H
        clear H
        have p138 : 0 ≤ (x4_1 : Int) := of_decide_eq_true (by first | (with_reducible assumption) | assumption)
        have q138 : x4_1 < (l0.length : Int) := of_decide_eq_true (by first | (with_reducible assumption) | assumption)
        obtain ⟨ad138, e138, hx138_0, hx138_1⟩ := at_T159 HR0.out x4_1 p138 q138
        cases e138
        replace hx138_0 := (HB.out.cell (World.block_lt_of_cell? w _ hx138_0)).trans hx138_0
        replace hx138_1 := (HB.out.cell (World.block_lt_of_cell? w _ hx138_1)).trans hx138_1
        replace p138 := eq_true p138
        replace q138 := eq_true q138
        go_wp2_with (first | ((with_reducible refine gate_callee (f := 126) rfl ?_); refine goesL_ (some 20) rfl rfl Try.func126 (by kernel_rfl) rfl #[.agg #[.int .i64 ((rd_T159 l0 x4_1).f0), .bool ((rd_T159 l0 x4_1).f1)]] rfl (by (try simp only [List.map_toArray, List.map_cons, List.map_nil]); first | done | rfl | (simp only [List.length_drop, List.length_take]; rfl)) ?_; (with_reducible refine (laws_toThing.calls ((rd_T159 l0 x4_1).f0) ((rd_T159 l0 x4_1).f1) t139 t140 _ A8.out).mono ?_); rintro e w11 ⟨rfl, hb⟩; refine ⟨_, rfl, ?_⟩; have n0_ := Aside0.mk (Kd.R_below (by (with_reducible repeat first | apply Kd.R_alloc | apply Kd.R_drewN | apply Kd.R_drew); exact HO_3.out) hb); have n1_ := Aside0.mk (below_step (eb_ HB.out) hb); clear HO_3 HB; have HO_3 := n0_; have HB := n1_; clear n0_ n1_; (try clear hb); (try clear hb2); (try clear hk); (try clear hi); have p10 : 0 ≤ (x4_1 : Int) := of_decide_eq_true (by first | (with_reducible assumption) | assumption); have q10 : (x4_1 : Int) < ((x3_1.length : Int) : Int) := of_decide_eq_true (by first | (with_reducible assumption) | assumption); obtain ⟨go10, co10, eo10, gb10, gl10, cl10, HG10⟩ := Kd.R_form HO_3.out (by omega); (first | cases eo10 | (injection eo10 with ea_ en_ ec_; (first | subst ea_ | (injection ea_ with ea_; subst ea_)); subst ec_; clear en_)); have GB10 := Aside0.mk gb10; have GG10 := Aside0.mk HG10; clear gb10 gl10 HG10; obtain ⟨ce10, hcl10, hM10, hcc10, hfr10⟩ := Kd.R_elem HO_3.out z67 (x4_1 : Int) p10 q10; obtain rfl := k67_openM hM10; have hx10_0 : w11.cell? ⟨go10, (x4_1 : Int).toNat * 2, none⟩ = some (.int .i64 ((rd_T67 x3_1 x4_1).f0)) := hcc10 0 _ rfl; have hx10_1 : w11.cell? ⟨go10, (x4_1 : Int).toNat * 2 + 1, none⟩ = some (.bool ((rd_T67 x3_1 x4_1).f1)) := hcc10 1 _ rfl; have hf10_0 : w11.frozen? ⟨go10, (x4_1 : Int).toNat * 2, none⟩ = false := hfr10 0; have hf10_1 : w11.frozen? ⟨go10, (x4_1 : Int).toNat * 2 + 1, none⟩ = false := hfr10 1; clear hcl10 hcc10 hfr10 hM10; replace p10 := eq_true p10; replace q10 := eq_true q10; have HX12 := Aside0.mk (show Kd.R k67 67 w11 w.heap.size (fun _ => True) (.slice (some ⟨go10, 0, none⟩) x3_1.length co10) x3_1 from (by (with_reducible repeat first | apply Kd.R_alloc | apply Kd.R_drewN | apply Kd.R_drew); exact HO_3.out)); obtain ⟨ce12, hcl12, hM12, hcc12, hfr12⟩ := Kd.R_elem HX12.out z67 (x4_1 : Int) (of_decide_eq_true (by first | (with_reducible assumption) | assumption)) (by have h_ : (x4_1 : Int) < ((x3_1.length : Int) : Int) := of_decide_eq_true (by first | (with_reducible assumption) | assumption); first | exact h_ | (have e_ := (Kd.R_reads' HO_3.out).1; omega) | simpa using h_); obtain rfl := k67_openM hM12; have HP12 := Kd.R_seg HX12.out (x4_1 : Int) (of_decide_eq_true (by first | (with_reducible assumption) | assumption)) (by have h_ : (x4_1 : Int) < ((x3_1.length : Int) : Int) := of_decide_eq_true (by first | (with_reducible assumption) | assumption); first | exact h_ | (have e_ := (Kd.R_reads' HO_3.out).1; omega) | simpa using h_) (seg := [.int .i64 t139, .bool t140]) (j := 0) hcl12 hcc12 (show 2 ≤ 2 from by decide) (x' := (⟨t139, t140⟩ : S67)) (k67_mkM _ _ _ (⟨t139, t140⟩ : S67) ) (fun _ hk => hk); have hx12_0 := hcc12 0 _ rfl; (try simp only [show (k67).sz = 2 from rfl, Nat.mul_one, Nat.add_zero] at hx12_0); have hf12_0 := hfr12 0; (try simp only [show (k67).sz = 2 from rfl, Nat.mul_one, Nat.add_zero] at hf12_0); have hx12_1 := hcc12 1 _ rfl; (try simp only [show (k67).sz = 2 from rfl, Nat.mul_one, Nat.add_zero] at hx12_1); have hf12_1 := hfr12 1; (try simp only [show (k67).sz = 2 from rfl, Nat.mul_one, Nat.add_zero] at hf12_1); clear hcl12 hcc12 hfr12 hM12) | ((with_reducible refine gate_store (t := 67) (p := 21) rfl ?_); refine store_event (t := 67) (p := 21) (v := ?vo_w13) (w1 := ((w11.setCell ⟨go10, (x4_1 : Int).toNat * 2, none⟩ (.int .i64 t139)).setCell ⟨go10, (x4_1 : Int).toNat * 2 + 1, none⟩ (.bool t140))) ?hg ?ho ?hn ?hr ?_; (case ho => rfl); (case hg => rfl); (case hn => rfl); (case hr => first | (go_simp; done) | (go_simp; rfl)); intro w13 hw; have hg : w11.grownBy w13 (some go10) := (by rw [hw]; exact HP12.2); have hp_ : Kd.R k67 67 w13 w.heap.size (fun _ => True) (.slice (some ⟨go10, 0, none⟩) x3_1.length co10) y141 := (by rw [hw, Ny141.out]; exact HP12.1); clear HP12; have n0_ := Aside0.mk (hp_); have n1_ := Aside0.mk ((by rw [hw]; exact below_set (below_set (HB.out) GB10.out) GB10.out : Below w.heap.size w w13)); clear HO_3 HB; have HO_3 := n0_; have HB := n1_; clear n0_ n1_; clear hg hw hp_))
        go_roundg k1
        case measure => have := HK1.out; omega
        case rel => exact ⟨(y141), (wrap64 (x4_1 + 1)), (by first | rfl | (simp; done) | (simp [*]; done)), H', ⟨by have := HK1.out; omega⟩, ⟨by (with_reducible repeat first | apply Kd.R_alloc | apply Kd.R_drewN | apply Kd.R_drew); exact HO_3.out⟩, ⟨by repeat (first | (with_reducible first | exact HB.out | apply eA | apply eN | apply eD) | exact HB.out)⟩⟩
       ·rw [if_neg c9] at H
        exact absurd H (by simp)
      ·rw [if_neg c7] at H
       exact absurd H (by simp)
     ·rw [if_neg c6] at H
      have c6b0 : decide (x4_1 < (l0.length : Int)) = false := decide_eq_false c6
      clear c6
      obtain rfl := Option.some.inj H
      go_wp2
      go_ret
      exact ⟨_, by first | rfl | (simp [errW_none, errW_some] <;> rfl) | (simp [*, errW_none, errW_some] <;> rfl), by (with_reducible repeat first | apply Kd.R_alloc | apply Kd.R_drewN | apply Kd.R_drew); exact HO_3.out, by repeat (first | (with_reducible first | exact HB.out | apply eA | apply eN | apply eD) | exact HB.out)⟩
  ·rw [if_neg c3] at H
   exact absurd H (by simp)
 ·rw [if_neg c2] at H
  exact absurd H (by simp)

end Go.Proofs.Ytdoflfifnkpacaa.WO
