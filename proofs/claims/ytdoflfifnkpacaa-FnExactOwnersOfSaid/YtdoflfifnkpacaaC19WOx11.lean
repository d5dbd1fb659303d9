-- Printed by a program of this session (after the kit's print.sh, with contracts of its own beside): Lean checks it.
import Derived.Test.YtdoflfifnkpacaaC19WOx0
import Derived.Test.YtdoflfifnkpacaaC19WOx8
import Derived.Test.YtdoflfifnkpacaaC19WOx9
import Derived.Test.YtdoflfifnkpacaaC19WOx10
namespace Go.Proofs.Ytdoflfifnkpacaa.WO
open Go.RowKit Go.Proofs.YtdoflfifnkpacaaW.PrintWords Go.Proofs.YtdoflfifnkpacaaW.PrintLast Go.Proofs.YtdoflfifnkpacaaW.PrintMore
attribute [local go_sem] max2_int min2_int max_two min_two max_three min_three max_four min_four   -- for this text's walks alone
set_option linter.unusedVariables false
set_option linter.unusedSimpArgs false

def gwT (k : Nat) (K : Option Bool) : List S78 → Option Bool
 | [] => K
 | t :: l => (impl_GoodTable.f k t.f0 t.f1).bind fun b => if b = true then gwT k K l else some false
def gwR (s0_0 : List S67) (s0_1 : List S78) (s0_2 : List S155) (s0_3 : List Int) : Option Bool :=
 (impl_World_thingsOk.f s0_0 s0_1 s0_2 s0_3).bind fun a => if a = true then ((impl_World_ownersOk.f s0_0 s0_1 s0_2 s0_3).bind fun b => if b = true then impl_World_loansOk.f s0_0 s0_1 s0_2 s0_3 else some false) else some false
def impl_GoodWorld.f (k : Nat) (s0_0 : List S67) (s0_1 : List S78) (s0_2 : List S155) (s0_3 : List Int) : Option Bool :=
 if (s0_1.length : Int) < 1 then some false else (if (s0_1.length : Int) > 5 then some false else (if (s0_2.length : Int) > 200 then some false else gwT k (gwR s0_0 s0_1 s0_2 s0_3) s0_1))
set_option maxHeartbeats 2000000 in
set_option maxRecDepth 100000 in
theorem impl_GoodWorld.calls (k : Nat) (A0 : Option Addr) (c0 : Nat) (s0_0 : List S67) (A1 : Option Addr) (c1 : Nat) (s0_1 : List S78) (A2 : Option Addr) (c2 : Nat) (s0_2 : List S155) (A3 : Option Addr) (c3 : Nat) (s0_3 : List Int) (r : Bool) (w : World) (hr0 : Kd.C k67 w A0 s0_0.length s0_0) (hc0 : s0_0.length ≤ c0) (hr1 : Kd.C k78 w A1 s0_1.length s0_1) (hc1 : s0_1.length ≤ c1) (hr2 : Kd.C k155 w A2 s0_2.length s0_2) (hc2 : s0_2.length ≤ c2) (hr3 : Kd.C (Kd.int .i64) w A3 s0_3.length s0_3) (hc3 : s0_3.length ≤ c3) (hh : impl_GoodWorld.f k s0_0 s0_1 s0_2 s0_3 = some r) :
  Calls Try.prog 19 #[.agg #[.slice A0 s0_0.length c0, .slice A1 s0_1.length c1, .slice A2 s0_2.length c2, .slice A3 s0_3.length c3]] w fun e w' => e = .returned (.bool r) ∧ Below w.heap.size w w' := by
 have H0 := Aside0.mk hr0
 have H1 := Aside0.mk hr1
 have H2 := Aside0.mk hr2
 have H3 := Aside0.mk hr3
 have HH := Aside0.mk hh
 have HB := Aside0.mk (Below.refl w.heap.size w)
 clear hh hr0 hr1 hr2 hr3
 go_enter Try.func19, Try.ntmps19
 go_upto_region 1 with ((with_reducible refine gate_dst (N := 1) rfl ?_); refine box_event ?hg (N := 1) ?hd (cs := #[.slice A0 s0_0.length c0, .slice A1 s0_1.length c1, .slice A2 s0_2.length c2, .slice A3 s0_3.length c3]) (t := 45) ?hr ?_; (case hd => rfl); (case hg => rfl); (case hr => first | (go_simp; done) | (go_simp; rfl)); intro g hg_ w1 hbox hb_; have BKg := Aside0.mk hbox; have GEg := Aside0.mk (show w.heap.size ≤ g from by rw [hg_]; exact below_size HB.out); replace HB := Aside0.mk (below_step HB.out hb_); clear hbox hb_ hg_)
 have HI := Aside0.mk (show IsS45 w w1 g s0_0 s0_1 s0_2 s0_3 from ⟨A0, c0, A1, c1, A2, c2, A3, c3, BKg.out, GEg.out, H0.out, H1.out, H2.out, H3.out⟩)
 have d1_ : w1.cell? ⟨g, 1, none⟩ = some (.slice A1 s0_1.length c1) := (blk_cell BKg.out 1).trans rfl
 have d2_ : w1.cell? ⟨g, 2, none⟩ = some (.slice A2 s0_2.length c2) := (blk_cell BKg.out 2).trans rfl
 have hh := HH.out
 clear HH
 unfold impl_GoodWorld.f at hh
 by_cases q0 : (s0_1.length : Int) < 1
 ·rw [if_pos q0] at hh
  obtain rfl := Option.some.inj hh
  have e0 : decide ((s0_1.length : Int) < 1) = true := decide_eq_true q0
  go_wp2
  go_ret
  exact ⟨rfl, HB.out⟩
 ·rw [if_neg q0] at hh
  have e0 : decide ((s0_1.length : Int) < 1) = false := decide_eq_false q0
  by_cases q1 : (s0_1.length : Int) > 5
  ·rw [if_pos q1] at hh
   obtain rfl := Option.some.inj hh
   have e1 : decide (5 < (s0_1.length : Int)) = true := decide_eq_true q1
   go_wp2
   go_ret
   exact ⟨rfl, HB.out⟩
  ·rw [if_neg q1] at hh
   have e1 : decide (5 < (s0_1.length : Int)) = false := decide_eq_false q1
   by_cases q2 : (s0_2.length : Int) > 200
   ·rw [if_pos q2] at hh
    obtain rfl := Option.some.inj hh
    have e2 : decide (200 < (s0_2.length : Int)) = true := decide_eq_true q2
    go_wp2
    go_ret
    exact ⟨rfl, HB.out⟩
   ·rw [if_neg q2] at hh
    have e2 : decide (200 < (s0_2.length : Int)) = false := decide_eq_false q2
    have HX := Aside0.mk hh
    clear hh q0 q1 q2
    go_wp2_with fail
    clear d1_ d2_ e0 e1 e2 BKg GEg
    go_loopw [24] (fun v24 wr => ∃ (p : Int), v24 = .int .i64 p ∧ Aside0 (0 ≤ p) ∧ Aside0 (p ≤ s0_1.length) ∧ Aside0 (gwT k (gwR s0_0 s0_1 s0_2 s0_3) (s0_1.drop p.toNat) = some r) ∧ Aside0 (IsS45 w wr g s0_0 s0_1 s0_2 s0_3) ∧ Aside0 (Below w.heap.size w wr)) (fun v24 _ => s0_1.length - (intOf v24).toNat)
    case atStart => exact ⟨0, rfl, ⟨Int.le_refl _⟩, ⟨by omega⟩, ⟨by simpa using HX.out⟩, HI, HB⟩
    case round =>
     clear HX HI HB
     obtain ⟨p, rfl, P0, P1, HX, HI, HB⟩ := hrel
     have hx1 := HX.out
     clear HX
     by_cases hlt : p < (s0_1.length : Int)
     ·have p0 : 0 ≤ p := P0.out
      have hd : s0_1.drop p.toNat = rd_T78 s0_1 p :: s0_1.drop (p + 1).toNat := dropI_at s0_1 p z78 p0 hlt
      rw [hd] at hx1
      clear hd
      simp only [gwT] at hx1
      replace hx1 := Option.bind_eq_some_iff.mp hx1
      obtain ⟨b, hg0, hx1⟩ := hx1
      have HG := Aside0.mk hg0
      clear hg0
      have HX := Aside0.mk hx1
      clear hx1
      obtain ⟨ad, At, ct, Bt, dt, e, h0, h1, l1, ht, l2, hf⟩ := at_T78 H1.out p p0 hlt
      cases e
      have HT := Aside0.mk ht
      have HF := Aside0.mk hf
      have L1 := Aside0.mk l1
      have L2 := Aside0.mk l2
      clear ht hf l1 l2
      replace h0 := (HB.out.cell (World.block_lt_of_cell? w _ h0)).trans h0
      replace h1 := (HB.out.cell (World.block_lt_of_cell? w _ h1)).trans h1
      generalize rd_T78 s0_1 p = t at *
      have nlt : (decide (p < (s0_1.length : Int))) = true := decide_eq_true hlt
      have PB : IntKind.i64.wrap (p + 1) = p + 1 := IntWalk.i64_in _ (by have := P1.out; have := Kd.C_max H1.out; omega)
      go_upto_region 6 with ((with_reducible refine gate_dst (N := 4) rfl ?_); refine box_event ?hg (N := 4) ?hd (cs := #[.slice none 0 0, .slice none 0 0]) (t := 78) ?hr ?_; (case hd => rfl); (case hg => rfl); (case hr => first | (go_simp; done) | (go_simp; rfl)); intro gt hg_ w2 hbox hb_; have BKgt := Aside0.mk hbox; have GEgt := Aside0.mk (show w.heap.size ≤ gt from by rw [hg_]; exact below_size HB.out); have NEgt := Aside0.mk (show g ≠ gt from by rw [hg_]; exact Nat.ne_of_lt (IsS45.lt HI.out)); replace HB := Aside0.mk (below_step HB.out hb_); replace HI := Aside0.mk (HI.out.below hb_); obtain ⟨zc0_, zc1_, zf0_, zf1_⟩ := (⟨(blk_cell BKgt.out 0).trans rfl, (blk_cell BKgt.out 1).trans rfl, blk_frozen BKgt.out 0, blk_frozen BKgt.out 1⟩ : w2.cell? ⟨gt, 0, none⟩ = some (.slice none 0 0) ∧ w2.cell? ⟨gt, 1, none⟩ = some (.slice none 0 0) ∧ w2.frozen? ⟨gt, 0, none⟩ = false ∧ w2.frozen? ⟨gt, 1, none⟩ = false); clear hbox hb_ hg_)
      clear zc0_ zc1_ zf0_ zf1_ h0 h1
      have n0_ : Aside0 (((w2.setCell ⟨gt, 0, none⟩ (.slice At t.f0.length ct)).setCell ⟨gt, 1, none⟩ (.slice Bt t.f1.length dt)).heap[gt]? = some (.cells #[.slice At t.f0.length ct, .slice Bt t.f1.length dt] 78 (0, 0))) := ⟨(blk_put (cs := #[.slice At t.f0.length ct, .slice none 0 0]) (blk_put (cs := #[.slice none 0 0, .slice none 0 0]) BKgt.out 0 _ rfl) 1 _ rfl)⟩
      have n1_ : Aside0 (IsS45 w ((w2.setCell ⟨gt, 0, none⟩ (.slice At t.f0.length ct)).setCell ⟨gt, 1, none⟩ (.slice Bt t.f1.length dt)) g s0_0 s0_1 s0_2 s0_3) := ⟨IsS45.far (IsS45.far HI.out NEgt.out _) NEgt.out _⟩
      have n2_ : Aside0 (Below w.heap.size w ((w2.setCell ⟨gt, 0, none⟩ (.slice At t.f0.length ct)).setCell ⟨gt, 1, none⟩ (.slice Bt t.f1.length dt))) := ⟨(HB.out.setCell GEgt.out _).setCell GEgt.out _⟩
      clear HI HB BKgt
      generalize (w2.setCell ⟨gt, 0, none⟩ (.slice At t.f0.length ct)).setCell ⟨gt, 1, none⟩ (.slice Bt t.f1.length dt) = W at n0_ n1_ n2_ ⊢
      have HI := n1_
      have HB := n2_
      clear n1_ n2_
      have c0_ : W.cell? ⟨gt, 0, none⟩ = some (.slice At t.f0.length ct) := (blk_cell n0_.out 0).trans rfl
      have c1_ : W.cell? ⟨gt, 1, none⟩ = some (.slice Bt t.f1.length dt) := (blk_cell n0_.out 1).trans rfl
      have hx1 := HX.out
      clear HX
      cases b with
      | false =>
       simp only [Bool.false_eq_true, if_false, if_true] at hx1
       obtain rfl := Option.some.inj hx1
       go_wp2_with ((with_reducible refine gate_callee (f := 80) rfl ?_); refine goesL_ (some 29) rfl rfl Try.func80 (by kernel_rfl) rfl #[.agg #[.slice At t.f0.length ct, .slice Bt t.f1.length dt]] rfl (by (try simp only [List.map_toArray, List.map_cons, List.map_nil]); first | done | rfl) ?_; (with_reducible refine (impl_GoodTable.calls k At ct t.f0 Bt dt t.f1 false _ (Kd.C_below HT.out HB.out) L1.out (Kd.C_below HF.out HB.out) L2.out HG.out).mono ?_); rintro e_ w4 ⟨rfl, hb_⟩; refine ⟨_, rfl, ?_⟩; replace HI := Aside0.mk (HI.out.below hb_); replace HB := Aside0.mk (below_step HB.out hb_); clear hb_ c0_ c1_)
       go_ret
       exact ⟨rfl, HB.out⟩
      | true =>
       simp only [Bool.false_eq_true, if_false, if_true] at hx1
       have HX := Aside0.mk hx1
       clear hx1
       go_wp2_with ((with_reducible refine gate_callee (f := 80) rfl ?_); refine goesL_ (some 29) rfl rfl Try.func80 (by kernel_rfl) rfl #[.agg #[.slice At t.f0.length ct, .slice Bt t.f1.length dt]] rfl (by (try simp only [List.map_toArray, List.map_cons, List.map_nil]); first | done | rfl) ?_; (with_reducible refine (impl_GoodTable.calls k At ct t.f0 Bt dt t.f1 true _ (Kd.C_below HT.out HB.out) L1.out (Kd.C_below HF.out HB.out) L2.out HG.out).mono ?_); rintro e_ w4 ⟨rfl, hb_⟩; refine ⟨_, rfl, ?_⟩; replace HI := Aside0.mk (HI.out.below hb_); replace HB := Aside0.mk (below_step HB.out hb_); clear hb_ c0_ c1_)
       go_roundw
       case rel => exact ⟨p + 1, rfl, ⟨by omega⟩, ⟨by omega⟩, HX, HI, HB⟩
       case measure => simp [intOf]; omega
     ·have he : s0_1.drop p.toNat = [] := dropI_end s0_1 p hlt P0.out
      rw [he] at hx1
      simp only [gwT, gwR] at hx1
      clear he
      have nlt : (decide (p < (s0_1.length : Int))) = false := decide_eq_false hlt
      replace hx1 := Option.bind_eq_some_iff.mp hx1
      obtain ⟨a, ha, hx1⟩ := hx1
      have HA := Aside0.mk ha
      clear ha
      cases a with
      | false =>
       simp only [Bool.false_eq_true, if_false, if_true] at hx1
       obtain rfl := Option.some.inj hx1
       go_wp2_with ((with_reducible refine gate_callee (f := 81) rfl ?_); (try (refine gate_guard (by rfl) ?_; dsimp only)); refine goesL_ (some 32) rfl rfl Try.func81 (by kernel_rfl) rfl #[.pointer (some ⟨g, 0, none⟩)] rfl (by (try simp only [List.map_toArray, List.map_cons, List.map_nil]); first | done | rfl) ?_; (with_reducible refine (impl_World_thingsOk.calls g s0_0 s0_1 s0_2 s0_3 false w _ HI.out HB.out HA.out).mono ?_); rintro e_ w5 ⟨rfl, hi_, hb_, _⟩; refine ⟨_, rfl, ?_⟩; replace HI := Aside0.mk hi_; replace HB := Aside0.mk hb_; clear hi_ hb_)
       go_ret
       exact ⟨rfl, HB.out⟩
      | true =>
       simp only [Bool.false_eq_true, if_false, if_true] at hx1
       replace hx1 := Option.bind_eq_some_iff.mp hx1
       obtain ⟨b, hb, hx1⟩ := hx1
       have HA2 := Aside0.mk hb
       clear hb
       cases b with
       | false =>
        simp only [Bool.false_eq_true, if_false, if_true] at hx1
        obtain rfl := Option.some.inj hx1
        go_wp2_with (first | ((with_reducible refine gate_callee (f := 81) rfl ?_); (try (refine gate_guard (by rfl) ?_; dsimp only)); refine goesL_ (some 32) rfl rfl Try.func81 (by kernel_rfl) rfl #[.pointer (some ⟨g, 0, none⟩)] rfl (by (try simp only [List.map_toArray, List.map_cons, List.map_nil]); first | done | rfl) ?_; (with_reducible refine (impl_World_thingsOk.calls g s0_0 s0_1 s0_2 s0_3 true w _ HI.out HB.out HA.out).mono ?_); rintro e_ w5 ⟨rfl, hi_, hb_, _⟩; refine ⟨_, rfl, ?_⟩; replace HI := Aside0.mk hi_; replace HB := Aside0.mk hb_; clear hi_ hb_) | ((with_reducible refine gate_callee (f := 82) rfl ?_); (try (refine gate_guard (by rfl) ?_; dsimp only)); refine goesL_ (some 34) rfl rfl Try.func82 (by kernel_rfl) rfl #[.pointer (some ⟨g, 0, none⟩)] rfl (by (try simp only [List.map_toArray, List.map_cons, List.map_nil]); first | done | rfl) ?_; (with_reducible refine (impl_World_ownersOk.calls g s0_0 s0_1 s0_2 s0_3 false w _ HI.out HB.out HA2.out).mono ?_); rintro e_ w6 ⟨rfl, hi_, hb_, _⟩; refine ⟨_, rfl, ?_⟩; replace HI := Aside0.mk hi_; replace HB := Aside0.mk hb_; clear hi_ hb_))
        go_ret
        exact ⟨rfl, HB.out⟩
       | true =>
        simp only [Bool.false_eq_true, if_false, if_true] at hx1
        have HA3 := Aside0.mk hx1
        clear hx1
        go_wp2_with (first | ((with_reducible refine gate_callee (f := 81) rfl ?_); (try (refine gate_guard (by rfl) ?_; dsimp only)); refine goesL_ (some 32) rfl rfl Try.func81 (by kernel_rfl) rfl #[.pointer (some ⟨g, 0, none⟩)] rfl (by (try simp only [List.map_toArray, List.map_cons, List.map_nil]); first | done | rfl) ?_; (with_reducible refine (impl_World_thingsOk.calls g s0_0 s0_1 s0_2 s0_3 true w _ HI.out HB.out HA.out).mono ?_); rintro e_ w5 ⟨rfl, hi_, hb_, _⟩; refine ⟨_, rfl, ?_⟩; replace HI := Aside0.mk hi_; replace HB := Aside0.mk hb_; clear hi_ hb_) | ((with_reducible refine gate_callee (f := 82) rfl ?_); (try (refine gate_guard (by rfl) ?_; dsimp only)); refine goesL_ (some 34) rfl rfl Try.func82 (by kernel_rfl) rfl #[.pointer (some ⟨g, 0, none⟩)] rfl (by (try simp only [List.map_toArray, List.map_cons, List.map_nil]); first | done | rfl) ?_; (with_reducible refine (impl_World_ownersOk.calls g s0_0 s0_1 s0_2 s0_3 true w _ HI.out HB.out HA2.out).mono ?_); rintro e_ w6 ⟨rfl, hi_, hb_, _⟩; refine ⟨_, rfl, ?_⟩; replace HI := Aside0.mk hi_; replace HB := Aside0.mk hb_; clear hi_ hb_) | ((with_reducible refine gate_callee (f := 83) rfl ?_); (try (refine gate_guard (by rfl) ?_; dsimp only)); refine goesL_ (some 37) rfl rfl Try.func83 (by kernel_rfl) rfl #[.pointer (some ⟨g, 0, none⟩)] rfl (by (try simp only [List.map_toArray, List.map_cons, List.map_nil]); first | done | rfl) ?_; (with_reducible refine (impl_World_loansOk.calls g s0_0 s0_1 s0_2 s0_3 r w _ HI.out HB.out HA3.out).mono ?_); rintro e_ w7 ⟨rfl, hi_, hb_, _⟩; refine ⟨_, rfl, ?_⟩; replace HI := Aside0.mk hi_; replace HB := Aside0.mk hb_; clear hi_ hb_))
        go_ret
        exact ⟨rfl, HB.out⟩

end Go.Proofs.Ytdoflfifnkpacaa.WO
