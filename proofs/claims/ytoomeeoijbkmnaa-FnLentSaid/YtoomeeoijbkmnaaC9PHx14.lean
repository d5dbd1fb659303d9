-- Printed by a program of this session (after the kit's print.sh, with contracts of its own beside): Lean checks it.
import Derived.Test.YtoomeeoijbkmnaaC9PHx0
import Derived.Test.YtoomeeoijbkmnaaC9PHx3
import Derived.Test.YtoomeeoijbkmnaaC9PHx4
import Derived.Test.YtoomeeoijbkmnaaC9PHx8
namespace Go.Proofs.Ytoomeeoijbkmnaa.PH
open Go.RowKit Go.Proofs.YtoomeeoijbkmnaaW.PrintWords Go.Proofs.YtoomeeoijbkmnaaW.PrintLast Go.Proofs.YtoomeeoijbkmnaaW.PrintMore
attribute [local go_sem] max2_int min2_int max_two min_two max_three min_three max_four min_four   -- for this text's walks alone
set_option linter.unusedVariables false
set_option linter.unusedSimpArgs false

def spec_LendHandle.j0 : Nat → Int → Int → Bool → List (S46) → List Int → Bool → Int → Int → Bool → Int → Int → Option ((List (S46)) × List Int × Bool × Int × Int × Bool × Int × Int × Int)
 | 0, _, _, _, _, _, _, _, _, _, _, _ => none
 | k + 1, x1, x10, x31, x487000, x487001, x504000, x504001, x504002, x504003, x504004, x504005 => if x31 = true then (if 4 = 0 then (if 0 ≤ x1 then (if x1 < (x487000.length : Int) then (some ((x487000.set (x1 : Int).toNat (⟨(rd_T46 x487000 x1).f0, (rd_T46 x487000 x1).f1, (rd_T46 x487000 x1).f2, (rd_T46 x487000 x1).f3, wrap64 (((rd_T46 x487000 x1).f4) + 1), (rd_T46 x487000 x1).f5⟩ : S46)), x487001, x504000, x504001, x504002, x504003, x504004, x504005, 0)) else (none)) else (none)) else (some (x487000, x487001, false, 0, 0, false, 0, 0, 4))) else (if x10 = 0 then (if 0 ≤ x1 then (if x1 < (x487000.length : Int) then (some ((x487000.set (x1 : Int).toNat (⟨(rd_T46 x487000 x1).f0, (rd_T46 x487000 x1).f1, (rd_T46 x487000 x1).f2, (rd_T46 x487000 x1).f3, wrap64 (((rd_T46 x487000 x1).f4) + 1), (rd_T46 x487000 x1).f5⟩ : S46)), x487001, x504000, x504001, x504002, x504003, x504004, x504005, 0)) else (none)) else (none)) else (some (x487000, x487001, false, 0, 0, false, 0, 0, x10)))
def spec_LendHandle.f (k : Nat) (l0_0 : List (S46)) (l0_1 : List Int) (a1 : Int) (a2 : Int) : Option ((List (S46)) × List Int × Bool × Int × Int × Bool × Int × Int × Int) := (spec_GoodTable.f k l0_0 l0_1).bind fun t489 => (if t489 = true then ((spec_l15Own.f l0_0 l0_1).bind fun bt490 => ((spec_l15Find.f k bt490.1 bt490.2 a1 a2).bind fun bt496 => (if bt496.2.2.2.2.2.2 = 0 then (spec_LendHandle.j0 k a1 bt496.2.2.2.2.2.2 (bt496.2.2.2.2.1 == 1000) bt490.1 bt490.2 bt496.1 bt496.2.1 bt496.2.2.1 bt496.2.2.2.1 bt496.2.2.2.2.1 bt496.2.2.2.2.2.1) else (spec_LendHandle.j0 k a1 bt496.2.2.2.2.2.2 false bt490.1 bt490.2 bt496.1 bt496.2.1 bt496.2.2.1 bt496.2.2.2.1 bt496.2.2.2.2.1 bt496.2.2.2.2.2.1)))) else (some (([] : List (S46)), ([] : List Int), false, 0, 0, false, 0, 0, 1)))
set_option maxHeartbeats 8000000 in
set_option maxRecDepth 100000 in
theorem spec_LendHandle.calls (k : Nat) (A0_0 : Option Addr) (c0_0 : Nat) (l0_0 : List (S46)) (A0_1 : Option Addr) (c0_1 : Nat) (l0_1 : List Int) (a1 : Int) (a2 : Int) (r1 : List (S46)) (r2 : List Int) (r3 : Bool) (r4 : Int) (r5 : Int) (r6 : Bool) (r7 : Int) (r8 : Int) (r9 : Int) (w : World) (hr0_0 : Kd.C k46 w A0_0 l0_0.length l0_0) (hc0_0 : l0_0.length ≤ c0_0) (hr0_1 : Kd.C (Kd.int .i64) w A0_1 l0_1.length l0_1) (hc0_1 : l0_1.length ≤ c0_1) (h : spec_LendHandle.f k l0_0 l0_1 a1 a2 = some (r1, r2, r3, r4, r5, r6, r7, r8, r9)) :
  Calls Try.prog 44 #[.agg #[.slice A0_0 l0_0.length c0_0, .slice A0_1 l0_1.length c0_1], .int .i64 a1, .int .i64 a2] w fun e w' => ∃ v0_ v1_ : Value, e = .returned (.tuple #[.agg #[v0_, v1_], .agg #[.bool r3, .int .i64 r4, .int .i64 r5, .bool r6, .int .i64 r7, .int .i64 r8], .int .i64 r9]) ∧ Kd.R k46 46 w' w.heap.size (fun _ => True) v0_ r1 ∧ Kd.R (Kd.int .i64) 3 w' w.heap.size (fun _ => True) v1_ r2 ∧ Below w.heap.size w w' := by
 have hu51 := Try.underlying51
 have hu46 := Try.underlying46
 have HR0_0 := Aside0.mk hr0_0
 have HC0_0 := Aside0.mk hc0_0
 clear hr0_0 hc0_0
 have HR0_1 := Aside0.mk hr0_1
 have HC0_1 := Aside0.mk hc0_1
 clear hr0_1 hc0_1
 have HB := Aside0.mk (Below.refl w.heap.size w)
 have H : ((spec_GoodTable.f k l0_0 l0_1).bind fun t489 => (if t489 = true then ((spec_l15Own.f l0_0 l0_1).bind fun bt490 => ((spec_l15Find.f k bt490.1 bt490.2 a1 a2).bind fun bt496 => (if bt496.2.2.2.2.2.2 = 0 then (spec_LendHandle.j0 k a1 bt496.2.2.2.2.2.2 (bt496.2.2.2.2.1 == 1000) bt490.1 bt490.2 bt496.1 bt496.2.1 bt496.2.2.1 bt496.2.2.2.1 bt496.2.2.2.2.1 bt496.2.2.2.2.2.1) else (spec_LendHandle.j0 k a1 bt496.2.2.2.2.2.2 false bt490.1 bt490.2 bt496.1 bt496.2.1 bt496.2.2.1 bt496.2.2.2.1 bt496.2.2.2.2.1 bt496.2.2.2.2.2.1)))) else (some (([] : List (S46)), ([] : List Int), false, 0, 0, false, 0, 0, 1)))) = some (r1, r2, r3, r4, r5, r6, r7, r8, r9) := h
 clear h
 replace H := Option.bind_eq_some_iff.mp H
 obtain ⟨t489, A40, H⟩ := H
 replace H : (if t489 = true then ((spec_l15Own.f l0_0 l0_1).bind fun bt490 => ((spec_l15Find.f k bt490.1 bt490.2 a1 a2).bind fun bt496 => (if bt496.2.2.2.2.2.2 = 0 then (spec_LendHandle.j0 k a1 bt496.2.2.2.2.2.2 (bt496.2.2.2.2.1 == 1000) bt490.1 bt490.2 bt496.1 bt496.2.1 bt496.2.2.1 bt496.2.2.2.1 bt496.2.2.2.2.1 bt496.2.2.2.2.2.1) else (spec_LendHandle.j0 k a1 bt496.2.2.2.2.2.2 false bt490.1 bt490.2 bt496.1 bt496.2.1 bt496.2.2.1 bt496.2.2.2.1 bt496.2.2.2.2.1 bt496.2.2.2.2.2.1)))) else (some (([] : List (S46)), ([] : List Int), false, 0, 0, false, 0, 0, 1))) = some (r1, r2, r3, r4, r5, r6, r7, r8, r9) := H
 have A4 := Aside0.mk A40
 clear A40
 by_cases c5 : t489 = true
 ·subst c5
  have H1 : ((spec_l15Own.f l0_0 l0_1).bind fun bt490 => ((spec_l15Find.f k bt490.1 bt490.2 a1 a2).bind fun bt496 => (if bt496.2.2.2.2.2.2 = 0 then (spec_LendHandle.j0 k a1 bt496.2.2.2.2.2.2 (bt496.2.2.2.2.1 == 1000) bt490.1 bt490.2 bt496.1 bt496.2.1 bt496.2.2.1 bt496.2.2.2.1 bt496.2.2.2.2.1 bt496.2.2.2.2.2.1) else (spec_LendHandle.j0 k a1 bt496.2.2.2.2.2.2 false bt490.1 bt490.2 bt496.1 bt496.2.1 bt496.2.2.1 bt496.2.2.2.1 bt496.2.2.2.2.1 bt496.2.2.2.2.2.1)))) = some (r1, r2, r3, r4, r5, r6, r7, r8, r9) := by rw [if_pos rfl] at H; first | done | exact H
  clear H
  have H := H1
  clear H1
  replace H := Option.bind_eq_some_iff.mp H
  obtain ⟨⟨t490, t493⟩, A60, H⟩ := H
  replace H : ((spec_l15Find.f k t490 t493 a1 a2).bind fun bt496 => (if bt496.2.2.2.2.2.2 = 0 then (spec_LendHandle.j0 k a1 bt496.2.2.2.2.2.2 (bt496.2.2.2.2.1 == 1000) t490 t493 bt496.1 bt496.2.1 bt496.2.2.1 bt496.2.2.2.1 bt496.2.2.2.2.1 bt496.2.2.2.2.2.1) else (spec_LendHandle.j0 k a1 bt496.2.2.2.2.2.2 false t490 t493 bt496.1 bt496.2.1 bt496.2.2.1 bt496.2.2.2.1 bt496.2.2.2.2.1 bt496.2.2.2.2.2.1))) = some (r1, r2, r3, r4, r5, r6, r7, r8, r9) := H
  have A6 := Aside0.mk A60
  clear A60
  replace H := Option.bind_eq_some_iff.mp H
  obtain ⟨⟨t496, t497, t498, t499, t500, t501, t502⟩, A70, H⟩ := H
  replace H : (if t502 = 0 then (spec_LendHandle.j0 k a1 t502 (t500 == 1000) t490 t493 t496 t497 t498 t499 t500 t501) else (spec_LendHandle.j0 k a1 t502 false t490 t493 t496 t497 t498 t499 t500 t501)) = some (r1, r2, r3, r4, r5, r6, r7, r8, r9) := H
  have A7 := Aside0.mk A70
  clear A70
  have HC8 := Aside0.mk H
  clear H
  go_enter Try.func44, Try.ntmps44
  go_upto_region 5 with (first | ((with_reducible refine gate_dst (N := 3) rfl ?_); refine box_event ?hg (N := 3) ?hd (cs := #[.slice A0_0 l0_0.length c0_0, .slice A0_1 l0_1.length c0_1]) (t := 51) ?hr ?_; (case hd => rfl); (case hg => rfl); (case hr => first | (go_simp; done) | (go_simp; rfl)); intro gb486 hg w9 hbox hb; have n0_ := Aside0.mk (below_step (by repeat (first | (with_reducible first | exact HB.out | apply eA | apply eN | apply eD) | exact HB.out)) hb); have n1_ := Aside0.mk (hbox); have n2_ := Aside0.mk ((by rw [hg]; exact (below_size (by repeat (first | (with_reducible first | exact HB.out | apply eA | apply eN | apply eD) | exact HB.out))) : w.heap.size ≤ gb486)); have n3_ := Aside0.mk ((by rw [hg]; exact (below_size (by repeat (first | (with_reducible first | exact HB.out | apply eA | apply eN | apply eD) | exact HB.out))) : w.heap.size ≤ gb486)); clear HB; have HB := n0_; have BK486 := n1_; have GW486 := n2_; have GE486 := n3_; clear n0_ n1_ n2_ n3_; clear hb hbox hg) | ((with_reducible refine gate_dst (N := 6) rfl ?_); refine box_event ?hg (N := 6) ?hd (cs := #[.slice none 0 0, .slice none 0 0]) (t := 51) ?hr ?_; (case hd => rfl); (case hg => rfl); (case hr => first | (go_simp; done) | (go_simp; rfl)); intro gb487 hg w10 hbox hb; have n0_ := Aside0.mk (blk_below (g := gb486) (o := .cells #[.slice A0_0 l0_0.length c0_0, .slice A0_1 l0_1.length c0_1] 51 (0, 0)) (by (with_reducible repeat first | apply bN | apply bD | apply bA); exact BK486.out) hb); have n1_ := Aside0.mk (below_step (by repeat (first | (with_reducible first | exact HB.out | apply eA | apply eN | apply eD | refine below_set ?_ GE486.out) | exact HB.out)) hb); have n2_ := Aside0.mk (hbox); have n3_ := Aside0.mk ((by rw [hg]; exact (below_size (by repeat (first | (with_reducible first | exact HB.out | apply eA | apply eN | apply eD | refine below_set ?_ GE486.out) | exact HB.out))) : w.heap.size ≤ gb487)); have n4_ := Aside0.mk ((by rw [hg]; exact (below_size (by repeat (first | (with_reducible first | exact HB.out | apply eA | apply eN | apply eD | refine below_set ?_ GE486.out) | exact HB.out))) : w.heap.size ≤ gb487)); have n5_ := Aside0.mk ((by rw [hg]; exact Nat.ne_of_lt (blk_lt (g := gb486) (o := .cells #[.slice A0_0 l0_0.length c0_0, .slice A0_1 l0_1.length c0_1] 51 (0, 0)) (by (with_reducible repeat first | apply bN | apply bD | apply bA); exact BK486.out)) : gb486 ≠ gb487)); have n6_ := Aside0.mk ((by rw [hg]; exact Nat.ne_of_gt (blk_lt (g := gb486) (o := .cells #[.slice A0_0 l0_0.length c0_0, .slice A0_1 l0_1.length c0_1] 51 (0, 0)) (by (with_reducible repeat first | apply bN | apply bD | apply bA); exact BK486.out)) : gb487 ≠ gb486)); clear BK486 HB; have BK486 := n0_; have HB := n1_; have BK487 := n2_; have GW487 := n3_; have GE487 := n4_; have NB486_487 := n5_; have NB487_486 := n6_; clear n0_ n1_ n2_ n3_ n4_ n5_ n6_; clear hb hbox hg) | ((with_reducible refine gate_dst (N := 7) rfl ?_); refine box_event ?hg (N := 7) ?hd (cs := #[.bool false, .int .i64 0, .int .i64 0, .bool false, .int .i64 0, .int .i64 0]) (t := 46) ?hr ?_; (case hd => rfl); (case hg => rfl); (case hr => first | (go_simp; done) | (go_simp; rfl)); intro gb488 hg w11 hbox hb; have n0_ := Aside0.mk (blk_below (g := gb486) (o := .cells #[.slice A0_0 l0_0.length c0_0, .slice A0_1 l0_1.length c0_1] 51 (0, 0)) (by (with_reducible repeat first | apply bN | apply bD | apply bA); exact BK486.out) hb); have n1_ := Aside0.mk (blk_below (g := gb487) (o := .cells #[.slice none 0 0, .slice none 0 0] 51 (0, 0)) (by (with_reducible repeat first | apply bN | apply bD | apply bA); exact BK487.out) hb); have n2_ := Aside0.mk (below_step (by repeat (first | (with_reducible first | exact HB.out | apply eA | apply eN | apply eD | refine below_set ?_ GE486.out | refine below_set ?_ GE487.out) | exact HB.out)) hb); have n3_ := Aside0.mk (hbox); have n4_ := Aside0.mk ((by rw [hg]; exact (below_size (by repeat (first | (with_reducible first | exact HB.out | apply eA | apply eN | apply eD | refine below_set ?_ GE486.out | refine below_set ?_ GE487.out) | exact HB.out))) : w.heap.size ≤ gb488)); have n5_ := Aside0.mk ((by rw [hg]; exact (below_size (by repeat (first | (with_reducible first | exact HB.out | apply eA | apply eN | apply eD | refine below_set ?_ GE486.out | refine below_set ?_ GE487.out) | exact HB.out))) : w.heap.size ≤ gb488)); have n6_ := Aside0.mk ((by rw [hg]; exact Nat.ne_of_lt (blk_lt (g := gb486) (o := .cells #[.slice A0_0 l0_0.length c0_0, .slice A0_1 l0_1.length c0_1] 51 (0, 0)) (by (with_reducible repeat first | apply bN | apply bD | apply bA); exact BK486.out)) : gb486 ≠ gb488)); have n7_ := Aside0.mk ((by rw [hg]; exact Nat.ne_of_gt (blk_lt (g := gb486) (o := .cells #[.slice A0_0 l0_0.length c0_0, .slice A0_1 l0_1.length c0_1] 51 (0, 0)) (by (with_reducible repeat first | apply bN | apply bD | apply bA); exact BK486.out)) : gb488 ≠ gb486)); have n8_ := Aside0.mk ((by rw [hg]; exact Nat.ne_of_lt (blk_lt (g := gb487) (o := .cells #[.slice none 0 0, .slice none 0 0] 51 (0, 0)) (by (with_reducible repeat first | apply bN | apply bD | apply bA); exact BK487.out)) : gb487 ≠ gb488)); have n9_ := Aside0.mk ((by rw [hg]; exact Nat.ne_of_gt (blk_lt (g := gb487) (o := .cells #[.slice none 0 0, .slice none 0 0] 51 (0, 0)) (by (with_reducible repeat first | apply bN | apply bD | apply bA); exact BK487.out)) : gb488 ≠ gb487)); clear BK486 BK487 HB; have BK486 := n0_; have BK487 := n1_; have HB := n2_; have BK488 := n3_; have GW488 := n4_; have GE488 := n5_; have NB486_488 := n6_; have NB488_486 := n7_; have NB487_488 := n8_; have NB488_487 := n9_; clear n0_ n1_ n2_ n3_ n4_ n5_ n6_ n7_ n8_ n9_; clear hb hbox hg; have hnb12 := NB486_487.out; have hnc12 := NB487_486.out; have hnb13 := NB486_488.out; have hnc13 := NB488_486.out; have hcz14_0 : w11.cell? ⟨gb486, 0, none⟩ = some (.slice A0_0 l0_0.length c0_0) := (blk_cell BK486.out 0).trans rfl; have hcz14_1 : w11.cell? ⟨gb486, 1, none⟩ = some (.slice A0_1 l0_1.length c0_1) := (blk_cell BK486.out 1).trans rfl; have hfz14_0 := blk_frozen BK486.out 0; have hfz14_1 := blk_frozen BK486.out 1) | ((with_reducible refine gate_callee (f := 64) rfl ?_); refine goesL_ (some 12) rfl rfl Try.func64 (by kernel_rfl) rfl #[.agg #[.slice A0_0 l0_0.length c0_0, .slice A0_1 l0_1.length c0_1]] rfl (by (try simp only [List.map_toArray, List.map_cons, List.map_nil]); first | done | rfl | (simp only [List.length_drop, List.length_take]; rfl)) ?_; (with_reducible refine (spec_GoodTable.calls k _ _ l0_0 _ _ l0_1 true _ ?side1 ?side2 ?side3 ?side4 A4.out).mono ?_); (case side1 => repeat (first | exact (Kd.C_below HR0_0.out HB.out) | (with_reducible refine Kd.C_alloc ?_ _) | (with_reducible refine Kd.C_drewN ?_ _) | (with_reducible refine Kd.C_drew ?_))); (case side2 => exact HC0_0.out); (case side3 => repeat (first | exact (Kd.C_below HR0_1.out HB.out) | (with_reducible refine Kd.C_alloc ?_ _) | (with_reducible refine Kd.C_drewN ?_ _) | (with_reducible refine Kd.C_drew ?_))); (case side4 => exact HC0_1.out); rintro e w15 ⟨rfl, hb⟩; refine ⟨_, rfl, ?_⟩; have n0_ := Aside0.mk (blk_below (g := gb486) (o := .cells #[.slice A0_0 l0_0.length c0_0, .slice A0_1 l0_1.length c0_1] 51 (0, 0)) (by (with_reducible repeat first | apply bN | apply bD | apply bA); exact BK486.out) hb); have n1_ := Aside0.mk (blk_below (g := gb487) (o := .cells #[.slice none 0 0, .slice none 0 0] 51 (0, 0)) (by (with_reducible repeat first | apply bN | apply bD | apply bA); exact BK487.out) hb); have n2_ := Aside0.mk (blk_below (g := gb488) (o := .cells #[.bool false, .int .i64 0, .int .i64 0, .bool false, .int .i64 0, .int .i64 0] 46 (0, 0)) (by (with_reducible repeat first | apply bN | apply bD | apply bA); exact BK488.out) hb); have n3_ := Aside0.mk (below_step (by repeat (first | (with_reducible first | exact HB.out | apply eA | apply eN | apply eD | refine below_set ?_ GE486.out | refine below_set ?_ GE487.out | refine below_set ?_ GE488.out) | exact HB.out)) hb); clear BK486 BK487; clear BK488 HB; have BK486 := n0_; have BK487 := n1_; have BK488 := n2_; have HB := n3_; clear n0_ n1_ n2_ n3_; (try clear hb); (try clear hb2); (try clear hk); (try clear hi); have hcz16_0 : w15.cell? ⟨gb486, 0, none⟩ = some (.slice A0_0 l0_0.length c0_0) := (blk_cell BK486.out 0).trans rfl; have hcz16_1 : w15.cell? ⟨gb486, 1, none⟩ = some (.slice A0_1 l0_1.length c0_1) := (blk_cell BK486.out 1).trans rfl; have hfz16_0 := blk_frozen BK486.out 0; have hfz16_1 := blk_frozen BK486.out 1) | ((with_reducible refine gate_callee (f := 71) rfl ?_); refine goesL_ (some 17) rfl rfl Try.func71 (by kernel_rfl) rfl #[.agg #[.slice A0_0 l0_0.length c0_0, .slice A0_1 l0_1.length c0_1]] rfl (by (try simp only [List.map_toArray, List.map_cons, List.map_nil]); first | done | rfl | (simp only [List.length_drop, List.length_take]; rfl)) ?_; (with_reducible refine (spec_l15Own.calls _ _ l0_0 _ _ l0_1 t490 t493 _ ?side1 ?side2 ?side3 ?side4 A6.out).mono ?_); (case side1 => repeat (first | exact (Kd.C_below HR0_0.out HB.out) | (with_reducible refine Kd.C_alloc ?_ _) | (with_reducible refine Kd.C_drewN ?_ _) | (with_reducible refine Kd.C_drew ?_))); (case side2 => exact HC0_0.out); (case side3 => repeat (first | exact (Kd.C_below HR0_1.out HB.out) | (with_reducible refine Kd.C_alloc ?_ _) | (with_reducible refine Kd.C_drewN ?_ _) | (with_reducible refine Kd.C_drew ?_))); (case side4 => exact HC0_1.out); rintro e w17 ⟨v491, v494, rfl, ho0, ho1, hb⟩; refine ⟨_, rfl, ?_⟩; have n0_ := Aside0.mk (Kd.R_lower (Kd.R_newB ho0 (g := gb488) (o := .cells #[.bool false, .int .i64 0, .int .i64 0, .bool false, .int .i64 0, .int .i64 0] 46 (0, 0)) (by (with_reducible repeat first | apply bN | apply bD | apply bA); exact BK488.out)) (below_size (by repeat (first | (with_reducible first | exact HB.out | apply eA | apply eN | apply eD | refine below_set ?_ GE486.out | refine below_set ?_ GE487.out | refine below_set ?_ GE488.out) | exact HB.out)))); have n1_ := Aside0.mk (Kd.R_lower ho1 (below_size (by repeat (first | (with_reducible first | exact HB.out | apply eA | apply eN | apply eD | refine below_set ?_ GE486.out | refine below_set ?_ GE487.out | refine below_set ?_ GE488.out) | exact HB.out)))); have n2_ := Aside0.mk (blk_below (g := gb486) (o := .cells #[.slice A0_0 l0_0.length c0_0, .slice A0_1 l0_1.length c0_1] 51 (0, 0)) (by (with_reducible repeat first | apply bN | apply bD | apply bA); exact BK486.out) hb); have n3_ := Aside0.mk (blk_below (g := gb487) (o := .cells #[.slice none 0 0, .slice none 0 0] 51 (0, 0)) (by (with_reducible repeat first | apply bN | apply bD | apply bA); exact BK487.out) hb); have n4_ := Aside0.mk (blk_below (g := gb488) (o := .cells #[.bool false, .int .i64 0, .int .i64 0, .bool false, .int .i64 0, .int .i64 0] 46 (0, 0)) (by (with_reducible repeat first | apply bN | apply bD | apply bA); exact BK488.out) hb); have n5_ := Aside0.mk (below_step (by repeat (first | (with_reducible first | exact HB.out | apply eA | apply eN | apply eD | refine below_set ?_ GE486.out | refine below_set ?_ GE487.out | refine below_set ?_ GE488.out) | exact HB.out)) hb); clear BK486 BK487; clear BK488 HB; have HO492 := n0_; have HO495 := n1_; have BK486 := n2_; have BK487 := n3_; have BK488 := n4_; have HB := n5_; clear n0_ n1_ n2_ n3_ n4_ n5_; (try clear hb); (try clear hb2); (try clear hk); (try clear hi); (try clear ho0); (try clear ho1); obtain ⟨Ao18, co18, eo18⟩ := Kd.R_slice HO492.out; subst eo18; have hcz19_0 : w17.cell? ⟨gb486, 0, none⟩ = some (.slice A0_0 l0_0.length c0_0) := (blk_cell BK486.out 0).trans rfl; have hcz19_1 : w17.cell? ⟨gb486, 1, none⟩ = some (.slice A0_1 l0_1.length c0_1) := (blk_cell BK486.out 1).trans rfl; have hfz19_0 := blk_frozen BK486.out 0; have hfz19_1 := blk_frozen BK486.out 1; obtain ⟨Ao20, co20, eo20⟩ := Kd.R_slice HO495.out; subst eo20) | ((with_reducible refine gate_callee (f := 65) rfl ?_); refine goesL_ (some 22) rfl rfl Try.func65 (by kernel_rfl) rfl #[.agg #[.slice Ao18 t490.length co18, .slice Ao20 t493.length co20], .int .i64 a1, .int .i64 a2] rfl (by (try simp only [List.map_toArray, List.map_cons, List.map_nil]); first | done | rfl | (simp only [List.length_drop, List.length_take]; rfl)) ?_; (with_reducible refine (spec_l15Find.calls k _ _ t490 _ _ t493 a1 a2 t496 t497 t498 t499 t500 t501 t502 _ ?side1 ?side2 ?side3 ?side4 A7.out).mono ?_); (case side1 => refine (Kd.R_reads' (e := 46) (base := w.heap.size) (ok := fun k_ => (True ∧ k_ ≠ gb488)) (n := t490.length) (c := co18) ?_).2.2; exact (by (with_reducible repeat first | apply Kd.R_alloc | apply Kd.R_drewN | apply Kd.R_drew); exact (Kd.R_mono (Kd.R_far (p := ⟨gb486, 1, none⟩) (Kd.R_far (p := ⟨gb486, 0, none⟩) (Kd.R_types HO492.out BK486.out (by decide)) (fun _ hk => hk.2) (.slice Ao18 t490.length co18)) (fun _ hk => hk.2) (.slice Ao20 t493.length co20)) (fun _ h_ => h_.1)))); (case side2 => exact (Kd.R_reads' HO492.out).2.1); (case side3 => refine (Kd.R_reads' (e := 3) (base := w.heap.size) (ok := fun k_ => True) (n := t493.length) (c := co20) ?_).2.2; exact (by (with_reducible repeat first | apply Kd.R_alloc | apply Kd.R_drewN | apply Kd.R_drew); exact (Kd.R_mono (Kd.R_far (p := ⟨gb486, 1, none⟩) (Kd.R_far (p := ⟨gb486, 0, none⟩) (Kd.R_types HO495.out BK486.out (by decide)) (fun _ hk => hk.2) (.slice Ao18 t490.length co18)) (fun _ hk => hk.2) (.slice Ao20 t493.length co20)) (fun _ h_ => h_.1)))); (case side4 => exact (Kd.R_reads' HO495.out).2.1); rintro e w21 ⟨rfl, hb⟩; refine ⟨_, rfl, ?_⟩; have n0_ := Aside0.mk (Kd.R_below (by (with_reducible repeat first | apply Kd.R_alloc | apply Kd.R_drewN | apply Kd.R_drew); exact (Kd.R_mono (Kd.R_far (p := ⟨gb486, 1, none⟩) (Kd.R_far (p := ⟨gb486, 0, none⟩) (Kd.R_types HO492.out BK486.out (by decide)) (fun _ hk => hk.2) (.slice Ao18 t490.length co18)) (fun _ hk => hk.2) (.slice Ao20 t493.length co20)) (fun _ h_ => h_.1))) hb); have n1_ := Aside0.mk (Kd.R_below (by (with_reducible repeat first | apply Kd.R_alloc | apply Kd.R_drewN | apply Kd.R_drew); exact (Kd.R_mono (Kd.R_far (p := ⟨gb486, 1, none⟩) (Kd.R_far (p := ⟨gb486, 0, none⟩) (Kd.R_types HO495.out BK486.out (by decide)) (fun _ hk => hk.2) (.slice Ao18 t490.length co18)) (fun _ hk => hk.2) (.slice Ao20 t493.length co20)) (fun _ h_ => h_.1))) hb); have n2_ := Aside0.mk (blk_below (g := gb486) (o := .cells #[.slice Ao18 t490.length co18, .slice Ao20 t493.length co20] 51 (0, 0)) (by (with_reducible repeat first | apply bN | apply bD | apply bA); refine blk_put (cs := #[.slice Ao18 t490.length co18, .slice A0_1 l0_1.length c0_1]) ?_ 1 _ rfl; (with_reducible repeat first | apply bN | apply bD | apply bA); refine blk_put (cs := #[.slice A0_0 l0_0.length c0_0, .slice A0_1 l0_1.length c0_1]) ?_ 0 _ rfl; (with_reducible repeat first | apply bN | apply bD | apply bA); exact BK486.out) hb); have n3_ := Aside0.mk (blk_below (g := gb487) (o := .cells #[.slice none 0 0, .slice none 0 0] 51 (0, 0)) (by (with_reducible repeat first | apply bN | apply bD | apply bA); refine blk_far ?_ NB487_486.out _; (with_reducible repeat first | apply bN | apply bD | apply bA); refine blk_far ?_ NB487_486.out _; (with_reducible repeat first | apply bN | apply bD | apply bA); exact BK487.out) hb); have n4_ := Aside0.mk (blk_below (g := gb488) (o := .cells #[.bool false, .int .i64 0, .int .i64 0, .bool false, .int .i64 0, .int .i64 0] 46 (0, 0)) (by (with_reducible repeat first | apply bN | apply bD | apply bA); refine blk_far ?_ NB488_486.out _; (with_reducible repeat first | apply bN | apply bD | apply bA); refine blk_far ?_ NB488_486.out _; (with_reducible repeat first | apply bN | apply bD | apply bA); exact BK488.out) hb); have n5_ := Aside0.mk (below_step (by repeat (first | (with_reducible first | exact HB.out | apply eA | apply eN | apply eD | refine below_set ?_ GE486.out | refine below_set ?_ GE487.out | refine below_set ?_ GE488.out) | exact HB.out)) hb); clear HO492 HO495; clear BK486 BK487; clear BK488 HB; have HO492 := n0_; have HO495 := n1_; have BK486 := n2_; have BK487 := n3_; have BK488 := n4_; have HB := n5_; clear n0_ n1_ n2_ n3_ n4_ n5_; (try clear hb); (try clear hb2); (try clear hk); (try clear hi)) | ((with_reducible refine gate_dst (N := 9) rfl ?_); refine box_event ?hg (N := 9) ?hd (cs := #[.bool false, .int .i64 0, .int .i64 0, .bool false, .int .i64 0, .int .i64 0]) (t := 46) ?hr ?_; (case hd => rfl); (case hg => rfl); (case hr => first | (go_simp; done) | (go_simp; rfl)); intro gb503 hg w22 hbox hb; have n0_ := Aside0.mk (Kd.R_below (Kd.R_elderB (by (with_reducible repeat first | apply Kd.R_alloc | apply Kd.R_drewN | apply Kd.R_drew); exact HO492.out) gb503 (Nat.le_of_eq hg.symm)) hb); have n1_ := Aside0.mk (Kd.R_below (by (with_reducible repeat first | apply Kd.R_alloc | apply Kd.R_drewN | apply Kd.R_drew); exact HO495.out) hb); have n2_ := Aside0.mk (blk_below (g := gb486) (o := .cells #[.slice Ao18 t490.length co18, .slice Ao20 t493.length co20] 51 (0, 0)) (by (with_reducible repeat first | apply bN | apply bD | apply bA); exact BK486.out) hb); have n3_ := Aside0.mk (blk_below (g := gb487) (o := .cells #[.slice none 0 0, .slice none 0 0] 51 (0, 0)) (by (with_reducible repeat first | apply bN | apply bD | apply bA); exact BK487.out) hb); have n4_ := Aside0.mk (blk_below (g := gb488) (o := .cells #[.bool false, .int .i64 0, .int .i64 0, .bool false, .int .i64 0, .int .i64 0] 46 (0, 0)) (by (with_reducible repeat first | apply bN | apply bD | apply bA); exact BK488.out) hb); have n5_ := Aside0.mk (below_step (by repeat (first | (with_reducible first | exact HB.out | apply eA | apply eN | apply eD | refine below_set ?_ GE486.out | refine below_set ?_ GE487.out | refine below_set ?_ GE488.out) | exact HB.out)) hb); have n6_ := Aside0.mk (hbox); have n7_ := Aside0.mk ((by rw [hg]; exact (below_size (by repeat (first | (with_reducible first | exact HB.out | apply eA | apply eN | apply eD | refine below_set ?_ GE486.out | refine below_set ?_ GE487.out | refine below_set ?_ GE488.out) | exact HB.out))) : w.heap.size ≤ gb503)); have n8_ := Aside0.mk ((by rw [hg]; exact (below_size (by repeat (first | (with_reducible first | exact HB.out | apply eA | apply eN | apply eD | refine below_set ?_ GE486.out | refine below_set ?_ GE487.out | refine below_set ?_ GE488.out) | exact HB.out))) : w.heap.size ≤ gb503)); have n9_ := Aside0.mk ((by rw [hg]; exact Nat.ne_of_lt (blk_lt (g := gb486) (o := .cells #[.slice Ao18 t490.length co18, .slice Ao20 t493.length co20] 51 (0, 0)) (by (with_reducible repeat first | apply bN | apply bD | apply bA); exact BK486.out)) : gb486 ≠ gb503)); have n10_ := Aside0.mk ((by rw [hg]; exact Nat.ne_of_gt (blk_lt (g := gb486) (o := .cells #[.slice Ao18 t490.length co18, .slice Ao20 t493.length co20] 51 (0, 0)) (by (with_reducible repeat first | apply bN | apply bD | apply bA); exact BK486.out)) : gb503 ≠ gb486)); have n11_ := Aside0.mk ((by rw [hg]; exact Nat.ne_of_lt (blk_lt (g := gb487) (o := .cells #[.slice none 0 0, .slice none 0 0] 51 (0, 0)) (by (with_reducible repeat first | apply bN | apply bD | apply bA); exact BK487.out)) : gb487 ≠ gb503)); have n12_ := Aside0.mk ((by rw [hg]; exact Nat.ne_of_gt (blk_lt (g := gb487) (o := .cells #[.slice none 0 0, .slice none 0 0] 51 (0, 0)) (by (with_reducible repeat first | apply bN | apply bD | apply bA); exact BK487.out)) : gb503 ≠ gb487)); have n13_ := Aside0.mk ((by rw [hg]; exact Nat.ne_of_lt (blk_lt (g := gb488) (o := .cells #[.bool false, .int .i64 0, .int .i64 0, .bool false, .int .i64 0, .int .i64 0] 46 (0, 0)) (by (with_reducible repeat first | apply bN | apply bD | apply bA); exact BK488.out)) : gb488 ≠ gb503)); have n14_ := Aside0.mk ((by rw [hg]; exact Nat.ne_of_gt (blk_lt (g := gb488) (o := .cells #[.bool false, .int .i64 0, .int .i64 0, .bool false, .int .i64 0, .int .i64 0] 46 (0, 0)) (by (with_reducible repeat first | apply bN | apply bD | apply bA); exact BK488.out)) : gb503 ≠ gb488)); clear HO492 HO495; clear BK486 BK487; clear BK488 HB; have HO492 := n0_; have HO495 := n1_; have BK486 := n2_; have BK487 := n3_; have BK488 := n4_; have HB := n5_; have BK503 := n6_; have GW503 := n7_; have GE503 := n8_; have NB486_503 := n9_; have NB503_486 := n10_; have NB487_503 := n11_; have NB503_487 := n12_; have NB488_503 := n13_; have NB503_488 := n14_; clear n0_ n1_ n2_ n3_ n4_ n5_ n6_ n7_ n8_ n9_ n10_ n11_ n12_ n13_ n14_; clear hb hbox hg; have hnb23 := NB503_486.out; have hnc23 := NB486_503.out; have hnb24 := NB503_487.out; have hnc24 := NB487_503.out; have hnb25 := NB503_488.out; have hnc25 := NB488_503.out; have hcz26_0 : w22.cell? ⟨gb503, 0, none⟩ = some (.bool false) := (blk_cell BK503.out 0).trans rfl; have hcz26_1 : w22.cell? ⟨gb503, 1, none⟩ = some (.int .i64 0) := (blk_cell BK503.out 1).trans rfl; have hcz26_2 : w22.cell? ⟨gb503, 2, none⟩ = some (.int .i64 0) := (blk_cell BK503.out 2).trans rfl; have hcz26_3 : w22.cell? ⟨gb503, 3, none⟩ = some (.bool false) := (blk_cell BK503.out 3).trans rfl; have hcz26_4 : w22.cell? ⟨gb503, 4, none⟩ = some (.int .i64 0) := (blk_cell BK503.out 4).trans rfl; have hcz26_5 : w22.cell? ⟨gb503, 5, none⟩ = some (.int .i64 0) := (blk_cell BK503.out 5).trans rfl; have hfz26_0 := blk_frozen BK503.out 0; have hfz26_1 := blk_frozen BK503.out 1; have hfz26_2 := blk_frozen BK503.out 2; have hfz26_3 := blk_frozen BK503.out 3; have hfz26_4 := blk_frozen BK503.out 4; have hfz26_5 := blk_frozen BK503.out 5))
  (try simp only [Act.put, List.setIfInBounds_toArray, List.set_cons_zero, List.set_cons_succ])
  go_cut [31] (fun v31 wc => ∃ (kq : Nat) (x31_7 : Bool), v31 = .bool x31_7 ∧ Aside0 (spec_LendHandle.j0 kq a1 t502 x31_7 t490 t493 t496 t497 t498 t499 t500 t501 = some (r1, r2, r3, r4, r5, r6, r7, r8, r9)) ∧ Aside0 (kq ≤ k) ∧ Aside0 (Kd.R k46 46 wc w.heap.size (fun k_ => k_ ≠ gb488 ∧ k_ ≠ gb503) (.slice Ao18 t490.length co18) t490) ∧ Aside0 (Kd.R (Kd.int .i64) 3 wc w.heap.size (fun _ => True) (.slice Ao20 t493.length co20) t493) ∧ Aside0 (wc.heap[gb486]? = some (.cells #[(.slice Ao18 t490.length co18), (.slice Ao20 t493.length co20)] 51 (0, 0))) ∧ Aside0 (wc.heap[gb487]? = some (.cells #[(.slice none 0 0), (.slice none 0 0)] 51 (0, 0))) ∧ Aside0 (wc.heap[gb488]? = some (.cells #[.bool false, .int .i64 0, .int .i64 0, .bool false, .int .i64 0, .int .i64 0] 46 (0, 0))) ∧ Aside0 (wc.heap[gb503]? = some (.cells #[.bool t496, .int .i64 t497, .int .i64 t498, .bool t499, .int .i64 t500, .int .i64 t501] 46 (0, 0))) ∧ Aside0 (Below w.heap.size w wc))
  case first =>
   have H := HC8.out
   clear HC8
   by_cases c27 : t502 = 0
   ·rw [if_pos c27] at H
    have c27b0 : (t502 == 0) = true := beq_iff_eq.mpr c27
    have c27b1 : (t502 != 0) = false := bne_eq_false_iff_eq.mpr c27
    clear c27
    (first | rw [c27b0] | (simp only [i64_w, i32_w]; rw [c27b0]) | skip)
    have H' := Aside0.mk H
    clear H
    have hnb28 := NB503_486.out
    have hnc28 := NB486_503.out
    have hnb29 := NB503_487.out
    have hnc29 := NB487_503.out
    have hnb30 := NB503_488.out
    have hnc30 := NB488_503.out
    have hcz31_0 : w22.cell? ⟨gb503, 0, none⟩ = some (.bool false) := (blk_cell BK503.out 0).trans rfl
    have hcz31_1 : w22.cell? ⟨gb503, 1, none⟩ = some (.int .i64 0) := (blk_cell BK503.out 1).trans rfl
    have hcz31_2 : w22.cell? ⟨gb503, 2, none⟩ = some (.int .i64 0) := (blk_cell BK503.out 2).trans rfl
    have hcz31_3 : w22.cell? ⟨gb503, 3, none⟩ = some (.bool false) := (blk_cell BK503.out 3).trans rfl
    have hcz31_4 : w22.cell? ⟨gb503, 4, none⟩ = some (.int .i64 0) := (blk_cell BK503.out 4).trans rfl
    have hcz31_5 : w22.cell? ⟨gb503, 5, none⟩ = some (.int .i64 0) := (blk_cell BK503.out 5).trans rfl
    have hfz31_0 := blk_frozen BK503.out 0
    have hfz31_1 := blk_frozen BK503.out 1
    have hfz31_2 := blk_frozen BK503.out 2
    have hfz31_3 := blk_frozen BK503.out 3
    have hfz31_4 := blk_frozen BK503.out 4
    have hfz31_5 := blk_frozen BK503.out 5
    go_wp2
    go_meet
    case rel => exact ⟨_, ((t500 == 1000)), (by first | rfl | (simp; done) | (simp [*]; done)), H', ⟨by first | omega | exact Nat.le_refl _⟩, ⟨by (with_reducible repeat first | apply Kd.R_alloc | apply Kd.R_drewN | apply Kd.R_drew); exact Kd.R_mono (Kd.R_far (p := ⟨gb503, 5, none⟩) (Kd.R_far (p := ⟨gb503, 4, none⟩) (Kd.R_far (p := ⟨gb503, 3, none⟩) (Kd.R_far (p := ⟨gb503, 2, none⟩) (Kd.R_far (p := ⟨gb503, 1, none⟩) (Kd.R_far (p := ⟨gb503, 0, none⟩) (Kd.R_mono HO492.out (fun k_ hk => (⟨hk, hk.2⟩ : _ ∧ k_ ≠ gb503))) (fun _ hk => hk.2) (.bool t496)) (fun _ hk => hk.2) (.int .i64 t497)) (fun _ hk => hk.2) (.int .i64 t498)) (fun _ hk => hk.2) (.bool t499)) (fun _ hk => hk.2) (.int .i64 t500)) (fun _ hk => hk.2) (.int .i64 t501)) (fun _ hk => ⟨hk.1.1.2, hk.1.2⟩)⟩, ⟨by (with_reducible repeat first | apply Kd.R_alloc | apply Kd.R_drewN | apply Kd.R_drew); exact Kd.R_mono (Kd.R_far (p := ⟨gb503, 5, none⟩) (Kd.R_far (p := ⟨gb503, 4, none⟩) (Kd.R_far (p := ⟨gb503, 3, none⟩) (Kd.R_far (p := ⟨gb503, 2, none⟩) (Kd.R_far (p := ⟨gb503, 1, none⟩) (Kd.R_far (p := ⟨gb503, 0, none⟩) (Kd.R_types HO495.out BK503.out (by decide)) (fun _ hk => hk.2) (.bool t496)) (fun _ hk => hk.2) (.int .i64 t497)) (fun _ hk => hk.2) (.int .i64 t498)) (fun _ hk => hk.2) (.bool t499)) (fun _ hk => hk.2) (.int .i64 t500)) (fun _ hk => hk.2) (.int .i64 t501)) (fun _ hk => trivial)⟩, ⟨by (with_reducible repeat first | apply bN | apply bD | apply bA); refine blk_far ?_ NB486_503.out _; (with_reducible repeat first | apply bN | apply bD | apply bA); refine blk_far ?_ NB486_503.out _; (with_reducible repeat first | apply bN | apply bD | apply bA); refine blk_far ?_ NB486_503.out _; (with_reducible repeat first | apply bN | apply bD | apply bA); refine blk_far ?_ NB486_503.out _; (with_reducible repeat first | apply bN | apply bD | apply bA); refine blk_far ?_ NB486_503.out _; (with_reducible repeat first | apply bN | apply bD | apply bA); refine blk_far ?_ NB486_503.out _; (with_reducible repeat first | apply bN | apply bD | apply bA); exact BK486.out⟩, ⟨by (with_reducible repeat first | apply bN | apply bD | apply bA); refine blk_far ?_ NB487_503.out _; (with_reducible repeat first | apply bN | apply bD | apply bA); refine blk_far ?_ NB487_503.out _; (with_reducible repeat first | apply bN | apply bD | apply bA); refine blk_far ?_ NB487_503.out _; (with_reducible repeat first | apply bN | apply bD | apply bA); refine blk_far ?_ NB487_503.out _; (with_reducible repeat first | apply bN | apply bD | apply bA); refine blk_far ?_ NB487_503.out _; (with_reducible repeat first | apply bN | apply bD | apply bA); refine blk_far ?_ NB487_503.out _; (with_reducible repeat first | apply bN | apply bD | apply bA); exact BK487.out⟩, ⟨by (with_reducible repeat first | apply bN | apply bD | apply bA); refine blk_far ?_ NB488_503.out _; (with_reducible repeat first | apply bN | apply bD | apply bA); refine blk_far ?_ NB488_503.out _; (with_reducible repeat first | apply bN | apply bD | apply bA); refine blk_far ?_ NB488_503.out _; (with_reducible repeat first | apply bN | apply bD | apply bA); refine blk_far ?_ NB488_503.out _; (with_reducible repeat first | apply bN | apply bD | apply bA); refine blk_far ?_ NB488_503.out _; (with_reducible repeat first | apply bN | apply bD | apply bA); refine blk_far ?_ NB488_503.out _; (with_reducible repeat first | apply bN | apply bD | apply bA); exact BK488.out⟩, ⟨by (with_reducible repeat first | apply bN | apply bD | apply bA); refine blk_put (cs := #[.bool t496, .int .i64 t497, .int .i64 t498, .bool t499, .int .i64 t500, .int .i64 0]) ?_ 5 _ rfl; (with_reducible repeat first | apply bN | apply bD | apply bA); refine blk_put (cs := #[.bool t496, .int .i64 t497, .int .i64 t498, .bool t499, .int .i64 0, .int .i64 0]) ?_ 4 _ rfl; (with_reducible repeat first | apply bN | apply bD | apply bA); refine blk_put (cs := #[.bool t496, .int .i64 t497, .int .i64 t498, .bool false, .int .i64 0, .int .i64 0]) ?_ 3 _ rfl; (with_reducible repeat first | apply bN | apply bD | apply bA); refine blk_put (cs := #[.bool t496, .int .i64 t497, .int .i64 0, .bool false, .int .i64 0, .int .i64 0]) ?_ 2 _ rfl; (with_reducible repeat first | apply bN | apply bD | apply bA); refine blk_put (cs := #[.bool t496, .int .i64 0, .int .i64 0, .bool false, .int .i64 0, .int .i64 0]) ?_ 1 _ rfl; (with_reducible repeat first | apply bN | apply bD | apply bA); refine blk_put (cs := #[.bool false, .int .i64 0, .int .i64 0, .bool false, .int .i64 0, .int .i64 0]) ?_ 0 _ rfl; (with_reducible repeat first | apply bN | apply bD | apply bA); exact BK503.out⟩, ⟨by repeat (first | (with_reducible first | exact HB.out | apply eA | apply eN | apply eD | refine below_set ?_ GE486.out | refine below_set ?_ GE487.out | refine below_set ?_ GE488.out | refine below_set ?_ GE503.out) | exact HB.out)⟩⟩
   ·rw [if_neg c27] at H
    have c27b0 : (t502 == 0) = false := beq_eq_false_iff_ne.mpr c27
    have c27b1 : (t502 != 0) = true := bne_iff_ne.mpr c27
    (first | rw [c27b0] | (simp only [i64_w, i32_w]; rw [c27b0]) | skip)
    have H' := Aside0.mk H
    clear H
    go_wp2
    go_meet
    case rel => exact ⟨_, (false), (by first | rfl | (simp; done) | (simp [*]; done)), H', ⟨by first | omega | exact Nat.le_refl _⟩, ⟨by (with_reducible repeat first | apply Kd.R_alloc | apply Kd.R_drewN | apply Kd.R_drew); exact Kd.R_mono (Kd.R_far (p := ⟨gb503, 5, none⟩) (Kd.R_far (p := ⟨gb503, 4, none⟩) (Kd.R_far (p := ⟨gb503, 3, none⟩) (Kd.R_far (p := ⟨gb503, 2, none⟩) (Kd.R_far (p := ⟨gb503, 1, none⟩) (Kd.R_far (p := ⟨gb503, 0, none⟩) (Kd.R_mono HO492.out (fun k_ hk => (⟨hk, hk.2⟩ : _ ∧ k_ ≠ gb503))) (fun _ hk => hk.2) (.bool t496)) (fun _ hk => hk.2) (.int .i64 t497)) (fun _ hk => hk.2) (.int .i64 t498)) (fun _ hk => hk.2) (.bool t499)) (fun _ hk => hk.2) (.int .i64 t500)) (fun _ hk => hk.2) (.int .i64 t501)) (fun _ hk => ⟨hk.1.1.2, hk.1.2⟩)⟩, ⟨by (with_reducible repeat first | apply Kd.R_alloc | apply Kd.R_drewN | apply Kd.R_drew); exact Kd.R_mono (Kd.R_far (p := ⟨gb503, 5, none⟩) (Kd.R_far (p := ⟨gb503, 4, none⟩) (Kd.R_far (p := ⟨gb503, 3, none⟩) (Kd.R_far (p := ⟨gb503, 2, none⟩) (Kd.R_far (p := ⟨gb503, 1, none⟩) (Kd.R_far (p := ⟨gb503, 0, none⟩) (Kd.R_types HO495.out BK503.out (by decide)) (fun _ hk => hk.2) (.bool t496)) (fun _ hk => hk.2) (.int .i64 t497)) (fun _ hk => hk.2) (.int .i64 t498)) (fun _ hk => hk.2) (.bool t499)) (fun _ hk => hk.2) (.int .i64 t500)) (fun _ hk => hk.2) (.int .i64 t501)) (fun _ hk => trivial)⟩, ⟨by (with_reducible repeat first | apply bN | apply bD | apply bA); refine blk_far ?_ NB486_503.out _; (with_reducible repeat first | apply bN | apply bD | apply bA); refine blk_far ?_ NB486_503.out _; (with_reducible repeat first | apply bN | apply bD | apply bA); refine blk_far ?_ NB486_503.out _; (with_reducible repeat first | apply bN | apply bD | apply bA); refine blk_far ?_ NB486_503.out _; (with_reducible repeat first | apply bN | apply bD | apply bA); refine blk_far ?_ NB486_503.out _; (with_reducible repeat first | apply bN | apply bD | apply bA); refine blk_far ?_ NB486_503.out _; (with_reducible repeat first | apply bN | apply bD | apply bA); exact BK486.out⟩, ⟨by (with_reducible repeat first | apply bN | apply bD | apply bA); refine blk_far ?_ NB487_503.out _; (with_reducible repeat first | apply bN | apply bD | apply bA); refine blk_far ?_ NB487_503.out _; (with_reducible repeat first | apply bN | apply bD | apply bA); refine blk_far ?_ NB487_503.out _; (with_reducible repeat first | apply bN | apply bD | apply bA); refine blk_far ?_ NB487_503.out _; (with_reducible repeat first | apply bN | apply bD | apply bA); refine blk_far ?_ NB487_503.out _; (with_reducible repeat first | apply bN | apply bD | apply bA); refine blk_far ?_ NB487_503.out _; (with_reducible repeat first | apply bN | apply bD | apply bA); exact BK487.out⟩, ⟨by (with_reducible repeat first | apply bN | apply bD | apply bA); refine blk_far ?_ NB488_503.out _; (with_reducible repeat first | apply bN | apply bD | apply bA); refine blk_far ?_ NB488_503.out _; (with_reducible repeat first | apply bN | apply bD | apply bA); refine blk_far ?_ NB488_503.out _; (with_reducible repeat first | apply bN | apply bD | apply bA); refine blk_far ?_ NB488_503.out _; (with_reducible repeat first | apply bN | apply bD | apply bA); refine blk_far ?_ NB488_503.out _; (with_reducible repeat first | apply bN | apply bD | apply bA); refine blk_far ?_ NB488_503.out _; (with_reducible repeat first | apply bN | apply bD | apply bA); exact BK488.out⟩, ⟨by (with_reducible repeat first | apply bN | apply bD | apply bA); refine blk_put (cs := #[.bool t496, .int .i64 t497, .int .i64 t498, .bool t499, .int .i64 t500, .int .i64 0]) ?_ 5 _ rfl; (with_reducible repeat first | apply bN | apply bD | apply bA); refine blk_put (cs := #[.bool t496, .int .i64 t497, .int .i64 t498, .bool t499, .int .i64 0, .int .i64 0]) ?_ 4 _ rfl; (with_reducible repeat first | apply bN | apply bD | apply bA); refine blk_put (cs := #[.bool t496, .int .i64 t497, .int .i64 t498, .bool false, .int .i64 0, .int .i64 0]) ?_ 3 _ rfl; (with_reducible repeat first | apply bN | apply bD | apply bA); refine blk_put (cs := #[.bool t496, .int .i64 t497, .int .i64 0, .bool false, .int .i64 0, .int .i64 0]) ?_ 2 _ rfl; (with_reducible repeat first | apply bN | apply bD | apply bA); refine blk_put (cs := #[.bool t496, .int .i64 0, .int .i64 0, .bool false, .int .i64 0, .int .i64 0]) ?_ 1 _ rfl; (with_reducible repeat first | apply bN | apply bD | apply bA); refine blk_put (cs := #[.bool false, .int .i64 0, .int .i64 0, .bool false, .int .i64 0, .int .i64 0]) ?_ 0 _ rfl; (with_reducible repeat first | apply bN | apply bD | apply bA); exact BK503.out⟩, ⟨by repeat (first | (with_reducible first | exact HB.out | apply eA | apply eN | apply eD | refine below_set ?_ GE486.out | refine below_set ?_ GE487.out | refine below_set ?_ GE488.out | refine below_set ?_ GE503.out) | exact HB.out)⟩⟩
  case rest =>
   clear HC8
   try clear c1
   try clear c2
   try clear p2
   try clear c3
   try clear c4
   try clear c5
   try clear c6
   try clear c7
   try clear c12
   try clear c13
   try clear c23
   try clear c24
   try clear c25
   try clear c27
   try clear c27b0
   try clear c27b1
   try clear c28
   try clear c29
   try clear c30
   try clear hcz14_0
   try clear hcz14_1
   try clear hcz16_0
   try clear hcz16_1
   try clear hcz19_0
   try clear hcz19_1
   try clear hcz26_0
   try clear hcz26_1
   try clear hcz26_2
   try clear hcz26_3
   try clear hcz26_4
   try clear hcz26_5
   try clear hcz31_0
   try clear hcz31_1
   try clear hcz31_2
   try clear hcz31_3
   try clear hcz31_4
   try clear hcz31_5
   try clear hfz14_0
   try clear hfz14_1
   try clear hfz16_0
   try clear hfz16_1
   try clear hfz19_0
   try clear hfz19_1
   try clear hfz26_0
   try clear hfz26_1
   try clear hfz26_2
   try clear hfz26_3
   try clear hfz26_4
   try clear hfz26_5
   try clear hfz31_0
   try clear hfz31_1
   try clear hfz31_2
   try clear hfz31_3
   try clear hfz31_4
   try clear hfz31_5
   obtain ⟨kq, x31_7, rfl, HA, HJ7, HO_487000, HO_487001, BK486, BK487, BK488, BK503, HB⟩ := hcut
   cases kq with
   | zero => exact absurd HA.out (by simp [spec_LendHandle.j0])
   | succ kj7 =>
    have H := HA.out
    clear HA
    simp only [spec_LendHandle.j0] at H
    by_cases c32 : x31_7 = true
    ·subst c32
     have H1 : (if 4 = 0 then (if 0 ≤ a1 then (if a1 < (t490.length : Int) then (some ((t490.set (a1 : Int).toNat (⟨(rd_T46 t490 a1).f0, (rd_T46 t490 a1).f1, (rd_T46 t490 a1).f2, (rd_T46 t490 a1).f3, wrap64 (((rd_T46 t490 a1).f4) + 1), (rd_T46 t490 a1).f5⟩ : S46)), t493, t496, t497, t498, t499, t500, t501, 0)) else (none)) else (none)) else (some (t490, t493, false, 0, 0, false, 0, 0, 4))) = some (r1, r2, r3, r4, r5, r6, r7, r8, r9) := by rw [if_pos rfl] at H; first | done | exact H
     clear H
     have H := H1
     clear H1
     by_cases c33 : 4 = 0
     ·rw [if_pos c33] at H
      have c33b0 : (4 == 0) = true := beq_iff_eq.mpr c33
      exact absurd c33b0 (by decide)
     ·rw [if_neg c33] at H
      have c33b0 : (4 == 0) = false := beq_eq_false_iff_ne.mpr c33
      have c33b1 : (4 != 0) = true := bne_iff_ne.mpr c33
      simp only [Option.some.injEq, Prod.mk.injEq] at H
      obtain ⟨rfl, rfl, rfl, rfl, rfl, rfl, rfl, rfl, rfl⟩ := H
      have hnb52 := NB486_487.out
      have hnc52 := NB487_486.out
      have hnb53 := NB486_488.out
      have hnc53 := NB488_486.out
      have hnb54 := NB486_503.out
      have hnc54 := NB503_486.out
      have hcz55_0 : wc.cell? ⟨gb486, 0, none⟩ = some (.slice Ao18 t490.length co18) := (blk_cell BK486.out 0).trans rfl
      have hcz55_1 : wc.cell? ⟨gb486, 1, none⟩ = some (.slice Ao20 t493.length co20) := (blk_cell BK486.out 1).trans rfl
      have hfz55_0 := blk_frozen BK486.out 0
      have hfz55_1 := blk_frozen BK486.out 1
      have hnb56 := NB487_488.out
      have hnc56 := NB488_487.out
      have hnb57 := NB487_503.out
      have hnc57 := NB503_487.out
      have hcz58_0 : wc.cell? ⟨gb487, 0, none⟩ = some (.slice none 0 0) := (blk_cell BK487.out 0).trans rfl
      have hcz58_1 : wc.cell? ⟨gb487, 1, none⟩ = some (.slice none 0 0) := (blk_cell BK487.out 1).trans rfl
      have hfz58_0 := blk_frozen BK487.out 0
      have hfz58_1 := blk_frozen BK487.out 1
      have hnb59 := NB488_503.out
      have hnc59 := NB503_488.out
      have hcz60_0 : wc.cell? ⟨gb488, 0, none⟩ = some (.bool false) := (blk_cell BK488.out 0).trans rfl
      have hcz60_1 : wc.cell? ⟨gb488, 1, none⟩ = some (.int .i64 0) := (blk_cell BK488.out 1).trans rfl
      have hcz60_2 : wc.cell? ⟨gb488, 2, none⟩ = some (.int .i64 0) := (blk_cell BK488.out 2).trans rfl
      have hcz60_3 : wc.cell? ⟨gb488, 3, none⟩ = some (.bool false) := (blk_cell BK488.out 3).trans rfl
      have hcz60_4 : wc.cell? ⟨gb488, 4, none⟩ = some (.int .i64 0) := (blk_cell BK488.out 4).trans rfl
      have hcz60_5 : wc.cell? ⟨gb488, 5, none⟩ = some (.int .i64 0) := (blk_cell BK488.out 5).trans rfl
      have hfz60_0 := blk_frozen BK488.out 0
      have hfz60_1 := blk_frozen BK488.out 1
      have hfz60_2 := blk_frozen BK488.out 2
      have hfz60_3 := blk_frozen BK488.out 3
      have hfz60_4 := blk_frozen BK488.out 4
      have hfz60_5 := blk_frozen BK488.out 5
      go_wp2
      refine bodyPost_ret (results_list (rs := [.cell 6 51, .cell 7 46, .tmp 8]) rfl (by simp) (.cell gb487 51 #[.slice Ao18 t490.length co18, .slice Ao20 t493.length co20] (0, 0) _ rfl (by (with_reducible repeat first | apply bN | apply bD | apply bA); refine blk_far ?_ NB487_488.out _; (with_reducible repeat first | apply bN | apply bD | apply bA); refine blk_far ?_ NB487_488.out _; (with_reducible repeat first | apply bN | apply bD | apply bA); refine blk_far ?_ NB487_488.out _; (with_reducible repeat first | apply bN | apply bD | apply bA); refine blk_far ?_ NB487_488.out _; (with_reducible repeat first | apply bN | apply bD | apply bA); refine blk_far ?_ NB487_488.out _; (with_reducible repeat first | apply bN | apply bD | apply bA); refine blk_far ?_ NB487_488.out _; (with_reducible repeat first | apply bN | apply bD | apply bA); refine blk_put (cs := #[.slice Ao18 t490.length co18, .slice none 0 0]) ?_ 1 _ rfl; (with_reducible repeat first | apply bN | apply bD | apply bA); refine blk_put (cs := #[.slice none 0 0, .slice none 0 0]) ?_ 0 _ rfl; (with_reducible repeat first | apply bN | apply bD | apply bA); exact BK487.out) Try.underlying51 rfl (by kernel_rfl) (.cell gb488 46 #[.bool false, .int .i64 0, .int .i64 0, .bool false, .int .i64 0, .int .i64 0] (0, 0) _ rfl (by (with_reducible repeat first | apply bN | apply bD | apply bA); refine blk_put (cs := #[.bool false, .int .i64 0, .int .i64 0, .bool false, .int .i64 0, .int .i64 0]) ?_ 5 _ rfl; (with_reducible repeat first | apply bN | apply bD | apply bA); refine blk_put (cs := #[.bool false, .int .i64 0, .int .i64 0, .bool false, .int .i64 0, .int .i64 0]) ?_ 4 _ rfl; (with_reducible repeat first | apply bN | apply bD | apply bA); refine blk_put (cs := #[.bool false, .int .i64 0, .int .i64 0, .bool false, .int .i64 0, .int .i64 0]) ?_ 3 _ rfl; (with_reducible repeat first | apply bN | apply bD | apply bA); refine blk_put (cs := #[.bool false, .int .i64 0, .int .i64 0, .bool false, .int .i64 0, .int .i64 0]) ?_ 2 _ rfl; (with_reducible repeat first | apply bN | apply bD | apply bA); refine blk_put (cs := #[.bool false, .int .i64 0, .int .i64 0, .bool false, .int .i64 0, .int .i64 0]) ?_ 1 _ rfl; (with_reducible repeat first | apply bN | apply bD | apply bA); refine blk_put (cs := #[.bool false, .int .i64 0, .int .i64 0, .bool false, .int .i64 0, .int .i64 0]) ?_ 0 _ rfl; (with_reducible repeat first | apply bN | apply bD | apply bA); refine blk_far ?_ NB488_487.out _; (with_reducible repeat first | apply bN | apply bD | apply bA); refine blk_far ?_ NB488_487.out _; (with_reducible repeat first | apply bN | apply bD | apply bA); exact BK488.out) Try.underlying46 rfl (by kernel_rfl) (.tmp .nil)))) rfl ?_
      exact ⟨_, _, by first | rfl | (simp [errW_none, errW_some] <;> rfl) | (simp [*, errW_none, errW_some] <;> rfl), by (with_reducible repeat first | apply Kd.R_alloc | apply Kd.R_drewN | apply Kd.R_drew); exact Kd.R_mono (Kd.R_far (p := ⟨gb488, 5, none⟩) (Kd.R_far (p := ⟨gb488, 4, none⟩) (Kd.R_far (p := ⟨gb488, 3, none⟩) (Kd.R_far (p := ⟨gb488, 2, none⟩) (Kd.R_far (p := ⟨gb488, 1, none⟩) (Kd.R_far (p := ⟨gb488, 0, none⟩) (Kd.R_far (p := ⟨gb487, 1, none⟩) (Kd.R_far (p := ⟨gb487, 0, none⟩) (Kd.R_mono (Kd.R_types HO_487000.out BK487.out (by decide)) (fun k_ hk => (⟨hk, hk.1.1⟩ : _ ∧ k_ ≠ gb488))) (fun _ hk => hk.1.2) (.slice Ao18 t490.length co18)) (fun _ hk => hk.1.2) (.slice Ao20 t493.length co20)) (fun _ hk => hk.2) (.bool false)) (fun _ hk => hk.2) (.int .i64 0)) (fun _ hk => hk.2) (.int .i64 0)) (fun _ hk => hk.2) (.bool false)) (fun _ hk => hk.2) (.int .i64 0)) (fun _ hk => hk.2) (.int .i64 0)) (fun _ hk => trivial), by (with_reducible repeat first | apply Kd.R_alloc | apply Kd.R_drewN | apply Kd.R_drew); exact Kd.R_mono (Kd.R_far (p := ⟨gb488, 5, none⟩) (Kd.R_far (p := ⟨gb488, 4, none⟩) (Kd.R_far (p := ⟨gb488, 3, none⟩) (Kd.R_far (p := ⟨gb488, 2, none⟩) (Kd.R_far (p := ⟨gb488, 1, none⟩) (Kd.R_far (p := ⟨gb488, 0, none⟩) (Kd.R_far (p := ⟨gb487, 1, none⟩) (Kd.R_far (p := ⟨gb487, 0, none⟩) (Kd.R_types (Kd.R_types HO_487001.out BK487.out (by decide)) BK488.out (by decide)) (fun _ hk => hk.1.2) (.slice Ao18 t490.length co18)) (fun _ hk => hk.1.2) (.slice Ao20 t493.length co20)) (fun _ hk => hk.2) (.bool false)) (fun _ hk => hk.2) (.int .i64 0)) (fun _ hk => hk.2) (.int .i64 0)) (fun _ hk => hk.2) (.bool false)) (fun _ hk => hk.2) (.int .i64 0)) (fun _ hk => hk.2) (.int .i64 0)) (fun _ hk => trivial), by repeat (first | (with_reducible first | exact HB.out | apply eA | apply eN | apply eD | refine below_set ?_ GE486.out | refine below_set ?_ GE487.out | refine below_set ?_ GE488.out | refine below_set ?_ GE503.out) | exact HB.out)⟩
    ·replace c32 := Bool.eq_false_iff.mpr c32
     subst c32
     have H1 : (if t502 = 0 then (if 0 ≤ a1 then (if a1 < (t490.length : Int) then (some ((t490.set (a1 : Int).toNat (⟨(rd_T46 t490 a1).f0, (rd_T46 t490 a1).f1, (rd_T46 t490 a1).f2, (rd_T46 t490 a1).f3, wrap64 (((rd_T46 t490 a1).f4) + 1), (rd_T46 t490 a1).f5⟩ : S46)), t493, t496, t497, t498, t499, t500, t501, 0)) else (none)) else (none)) else (some (t490, t493, false, 0, 0, false, 0, 0, t502))) = some (r1, r2, r3, r4, r5, r6, r7, r8, r9) := by rw [if_neg (show ¬ (false = true) by decide)] at H; first | done | exact H
     clear H
     have H := H1
     clear H1
     by_cases c61 : t502 = 0
     ·rw [if_pos c61] at H
      have c61b0 : (t502 == 0) = true := beq_iff_eq.mpr c61
      have c61b1 : (t502 != 0) = false := bne_eq_false_iff_eq.mpr c61
      clear c61
      by_cases c62 : 0 ≤ a1
      ·rw [if_pos c62] at H
       have c62b0 : decide (0 ≤ a1) = true := decide_eq_true c62
       clear c62
       by_cases c63 : a1 < (t490.length : Int)
       ·rw [if_pos c63] at H
        have c63b0 : decide (a1 < (t490.length : Int)) = true := decide_eq_true c63
        clear c63
        obtain ⟨y507, hy507⟩ : ∃ y_ : List (S46), y_ = (t490.set (a1 : Int).toNat (⟨(rd_T46 t490 a1).f0, (rd_T46 t490 a1).f1, (rd_T46 t490 a1).f2, (rd_T46 t490 a1).f3, wrap64 (((rd_T46 t490 a1).f4) + 1), (rd_T46 t490 a1).f5⟩ : S46)) := ⟨_, rfl⟩
        replace H : (some (y507, t493, t496, t497, t498, t499, t500, t501, 0)) = some (r1, r2, r3, r4, r5, r6, r7, r8, r9) := by first | (rw [hy507]; with_reducible exact H) | (have H2_ := (Option.bind_some _ _).symm.trans H; rw [hy507]; with_reducible exact H2_) | (have H2_ := (Option.bind_some _ _).symm.trans H; with_reducible exact H2_) | with_reducible exact H | (rw [hy507]; exact H) | exact H
        have Ny507 := Aside0.mk hy507
        clear hy507
        simp only [Option.some.injEq, Prod.mk.injEq] at H
        obtain ⟨rfl, rfl, rfl, rfl, rfl, rfl, rfl, rfl, rfl⟩ := H
        have hnb65 := NB486_487.out
        have hnc65 := NB487_486.out
        have hnb66 := NB486_488.out
        have hnc66 := NB488_486.out
        have hnb67 := NB486_503.out
        have hnc67 := NB503_486.out
        have hcz68_0 : wc.cell? ⟨gb486, 0, none⟩ = some (.slice Ao18 t490.length co18) := (blk_cell BK486.out 0).trans rfl
        have hcz68_1 : wc.cell? ⟨gb486, 1, none⟩ = some (.slice Ao20 t493.length co20) := (blk_cell BK486.out 1).trans rfl
        have hfz68_0 := blk_frozen BK486.out 0
        have hfz68_1 := blk_frozen BK486.out 1
        have p506 : 0 ≤ (a1 : Int) := of_decide_eq_true (by first | (with_reducible assumption) | assumption)
        have q506 : a1 < (t490.length : Int) := of_decide_eq_true (by first | (with_reducible assumption) | assumption)
        obtain ⟨ad506, e506, hx506_0, hx506_1, hx506_2, hx506_3, hx506_4, hx506_5⟩ := at_T46 (Kd.R_reads' HO_487000.out).2.2 a1 p506 q506
        cases e506
        replace p506 := eq_true p506
        replace q506 := eq_true q506
        have p64 : 0 ≤ (a1 : Int) := of_decide_eq_true (by first | (with_reducible assumption) | assumption)
        have q64 : (a1 : Int) < ((t490.length : Int) : Int) := of_decide_eq_true (by first | (with_reducible assumption) | assumption)
        obtain ⟨go64, co64, eo64, gb64, gl64, cl64, HG64⟩ := Kd.R_form HO_487000.out (by omega)
        (first | cases eo64 | (injection eo64 with ea_ en_ ec_; (first | subst ea_ | (injection ea_ with ea_; subst ea_)); subst ec_; clear en_))
        have GB64 := Aside0.mk gb64
        have GG64 := Aside0.mk HG64
        clear gb64 gl64 HG64
        (first | simp only [add_plain] at hx506_0 | skip)
        (first | simp only [add_plain] at hx506_1 | skip)
        (first | simp only [add_plain] at hx506_2 | skip)
        (first | simp only [add_plain] at hx506_3 | skip)
        (first | simp only [add_plain] at hx506_4 | skip)
        (first | simp only [add_plain] at hx506_5 | skip)
        obtain ⟨ce64, hcl64, hM64, hcc64, hfr64⟩ := Kd.R_elem HO_487000.out z46 (a1 : Int) p64 q64
        obtain rfl := k46_openM hM64
        have hx64_0 : wc.cell? ⟨go64, (a1 : Int).toNat * 6, none⟩ = some (.bool ((rd_T46 t490 a1).f0)) := hcc64 0 _ rfl
        have hx64_1 : wc.cell? ⟨go64, (a1 : Int).toNat * 6 + 1, none⟩ = some (.int .i64 ((rd_T46 t490 a1).f1)) := hcc64 1 _ rfl
        have hx64_2 : wc.cell? ⟨go64, (a1 : Int).toNat * 6 + 2, none⟩ = some (.int .i64 ((rd_T46 t490 a1).f2)) := hcc64 2 _ rfl
        have hx64_3 : wc.cell? ⟨go64, (a1 : Int).toNat * 6 + 3, none⟩ = some (.bool ((rd_T46 t490 a1).f3)) := hcc64 3 _ rfl
        have hx64_4 : wc.cell? ⟨go64, (a1 : Int).toNat * 6 + 4, none⟩ = some (.int .i64 ((rd_T46 t490 a1).f4)) := hcc64 4 _ rfl
        have hx64_5 : wc.cell? ⟨go64, (a1 : Int).toNat * 6 + 5, none⟩ = some (.int .i64 ((rd_T46 t490 a1).f5)) := hcc64 5 _ rfl
        have hf64_0 : wc.frozen? ⟨go64, (a1 : Int).toNat * 6, none⟩ = false := hfr64 0
        have hf64_1 : wc.frozen? ⟨go64, (a1 : Int).toNat * 6 + 1, none⟩ = false := hfr64 1
        have hf64_2 : wc.frozen? ⟨go64, (a1 : Int).toNat * 6 + 2, none⟩ = false := hfr64 2
        have hf64_3 : wc.frozen? ⟨go64, (a1 : Int).toNat * 6 + 3, none⟩ = false := hfr64 3
        have hf64_4 : wc.frozen? ⟨go64, (a1 : Int).toNat * 6 + 4, none⟩ = false := hfr64 4
        have hf64_5 : wc.frozen? ⟨go64, (a1 : Int).toNat * 6 + 5, none⟩ = false := hfr64 5
        clear hcl64 hcc64 hfr64 hM64
        replace p64 := eq_true p64
        replace q64 := eq_true q64
        have HX69 := Aside0.mk (show Kd.R k46 46 wc w.heap.size (fun k_ => k_ ≠ gb488 ∧ k_ ≠ gb503) (.slice (some ⟨go64, 0, none⟩) t490.length co18) t490 from (by (with_reducible repeat first | apply Kd.R_alloc | apply Kd.R_drewN | apply Kd.R_drew); exact HO_487000.out))
        obtain ⟨ce69, hcl69, hM69, hcc69, hfr69⟩ := Kd.R_elem HX69.out z46 (a1 : Int) (of_decide_eq_true (by first | (with_reducible assumption) | assumption)) (by have h_ : (a1 : Int) < ((t490.length : Int) : Int) := of_decide_eq_true (by first | (with_reducible assumption) | assumption); first | exact h_ | (have e_ := (Kd.R_reads' HO_487000.out).1; omega) | simpa using h_)
        obtain rfl := k46_openM hM69
        have HP69 := Kd.R_seg HX69.out (a1 : Int) (of_decide_eq_true (by first | (with_reducible assumption) | assumption)) (by have h_ : (a1 : Int) < ((t490.length : Int) : Int) := of_decide_eq_true (by first | (with_reducible assumption) | assumption); first | exact h_ | (have e_ := (Kd.R_reads' HO_487000.out).1; omega) | simpa using h_) (seg := [.int .i64 (wrap64 (((rd_T46 t490 a1).f4) + 1))]) (j := 4) hcl69 hcc69 (show 5 ≤ 6 from by decide) (x' := (⟨(rd_T46 t490 a1).f0, (rd_T46 t490 a1).f1, (rd_T46 t490 a1).f2, (rd_T46 t490 a1).f3, wrap64 (((rd_T46 t490 a1).f4) + 1), (rd_T46 t490 a1).f5⟩ : S46)) (k46_mkM _ _ _ (⟨(rd_T46 t490 a1).f0, (rd_T46 t490 a1).f1, (rd_T46 t490 a1).f2, (rd_T46 t490 a1).f3, wrap64 (((rd_T46 t490 a1).f4) + 1), (rd_T46 t490 a1).f5⟩ : S46) ) (fun _ hk => hk)
        have hx69_4 := hcc69 4 _ rfl
        (try simp only [show (k46).sz = 6 from rfl, Nat.mul_one, Nat.add_zero] at hx69_4)
        have hf69_4 := hfr69 4
        (try simp only [show (k46).sz = 6 from rfl, Nat.mul_one, Nat.add_zero] at hf69_4)
        clear hcl69 hcc69 hfr69 hM69
        try go_wp2_with (first | ((with_reducible refine gate_store (t := 3) (p := 45) rfl ?_); refine store_event (t := 3) (p := 45) (v := ?vo_w70) (w1 := (wc.setCell ⟨go64, (a1 : Int).toNat * 6 + 4, none⟩ (.int .i64 (wrap64 (((rd_T46 t490 a1).f4) + 1))))) ?hg ?ho ?hn ?hr ?_; (case ho => rfl); (case hg => rfl); (case hn => rfl); (case hr => first | (go_simp; done) | (go_simp; rfl)); intro w70 hw; have hg : wc.grownBy w70 (some go64) := (by rw [hw]; exact HP69.2); have hp_ : Kd.R k46 46 w70 w.heap.size (fun k_ => k_ ≠ gb488 ∧ k_ ≠ gb503) (.slice (some ⟨go64, 0, none⟩) t490.length co18) y507 := (by rw [hw, Ny507.out]; exact HP69.1); clear HP69; have n0_ := Aside0.mk (hp_); have n1_ := Aside0.mk (Kd.R_over' (v := (.slice (some ⟨go64, 0, none⟩) t490.length co18)) (by (with_reducible repeat first | apply Kd.R_alloc | apply Kd.R_drewN | apply Kd.R_drew); exact HO_487001.out) (Kd.R_typed HO_487000.out) (by decide) hg); have n2_ := Aside0.mk (blk_grown (g := gb486) (o := .cells #[.slice (some ⟨go64, 0, none⟩) t490.length co18, .slice Ao20 t493.length co20] 51 (0, 0)) (by (with_reducible repeat first | apply bN | apply bD | apply bA); exact BK486.out) hg (Kd.R_ne HO_487000.out BK486.out (by decide))); have n3_ := Aside0.mk (blk_grown (g := gb487) (o := .cells #[.slice none 0 0, .slice none 0 0] 51 (0, 0)) (by (with_reducible repeat first | apply bN | apply bD | apply bA); exact BK487.out) hg (Kd.R_ne HO_487000.out BK487.out (by decide))); have n4_ := Aside0.mk (blk_grown (g := gb488) (o := .cells #[.bool false, .int .i64 0, .int .i64 0, .bool false, .int .i64 0, .int .i64 0] 46 (0, 0)) (by (with_reducible repeat first | apply bN | apply bD | apply bA); exact BK488.out) hg (Kd.R_away HO_487000.out (fun _ hk => hk.1))); have n5_ := Aside0.mk (blk_grown (g := gb503) (o := .cells #[.bool t496, .int .i64 t497, .int .i64 t498, .bool t499, .int .i64 t500, .int .i64 t501] 46 (0, 0)) (by (with_reducible repeat first | apply bN | apply bD | apply bA); exact BK503.out) hg (Kd.R_away HO_487000.out (fun _ hk => hk.2))); have n6_ := Aside0.mk ((by rw [hw]; exact below_set (HB.out) GB64.out : Below w.heap.size w w70)); clear HO_487000 HO_487001; clear BK486 BK487; clear BK488 BK503 HB; have HO_487000 := n0_; have HO_487001 := n1_; have BK486 := n2_; have BK487 := n3_; have BK488 := n4_; have BK503 := n5_; have HB := n6_; clear n0_ n1_ n2_ n3_ n4_ n5_ n6_; clear hg hw hp_))
        have n0_ := Aside0.mk (Kd.R_drew HO_487000.out)
        have n1_ := Aside0.mk (Kd.R_drew HO_487001.out)
        have n2_ := Aside0.mk (blk_drew BK486.out)
        have n3_ := Aside0.mk (blk_drew BK487.out)
        have n4_ := Aside0.mk (blk_drew BK488.out)
        have n5_ := Aside0.mk (blk_drew BK503.out)
        have n6_ := Aside0.mk (below_drew1 HB.out)
        clear HO_487000 HO_487001 BK486 BK487 BK488 BK503 HB
        have HO_487000 := n0_
        have HO_487001 := n1_
        have BK486 := n2_
        have BK487 := n3_
        have BK488 := n4_
        have BK503 := n5_
        have HB := n6_
        clear n0_ n1_ n2_ n3_ n4_ n5_ n6_
        refine start_ (n := 5) (S := fun w' => w'.cell? ⟨gb486, 0, none⟩ = some (.slice (some ⟨go64, 0, none⟩) t490.length co18) ∧ w'.cell? ⟨gb486, 1, none⟩ = some (.slice Ao20 t493.length co20) ∧ w'.cell? ⟨gb503, 0, none⟩ = some (.bool t496) ∧ w'.cell? ⟨gb503, 1, none⟩ = some (.int .i64 t497) ∧ w'.cell? ⟨gb503, 2, none⟩ = some (.int .i64 t498) ∧ w'.cell? ⟨gb503, 3, none⟩ = some (.bool t499) ∧ w'.cell? ⟨gb503, 4, none⟩ = some (.int .i64 t500) ∧ w'.cell? ⟨gb503, 5, none⟩ = some (.int .i64 t501)) (ds := []) #[false, false, false, false, false] (by kernel_rfl) rfl rfl ⟨(blk_cell BK486.out 0).trans rfl, (blk_cell BK486.out 1).trans rfl, (blk_cell BK503.out 0).trans rfl, (blk_cell BK503.out 1).trans rfl, (blk_cell BK503.out 2).trans rfl, (blk_cell BK503.out 3).trans rfl, (blk_cell BK503.out 4).trans rfl, (blk_cell BK503.out 5).trans rfl⟩ (fun hHeld => ?_)
        generalize w70.drew = w71 at HO_487000 HO_487001 BK486 BK487 BK488 BK503 HB hHeld ⊢
        refine take_ (i := 0) (N := some 46) (v := ?_) (a' := ?_) #[true, false, false, false, false] rfl rfl (by kernel_rfl) (fun _ _ _ h => h) (Or.inl ⟨by rfl, ?_⟩) hHeld ?_ ?_
        rotate_left
        ·rintro w' ⟨s0, s1, s2, s3, s4, s5, s6, s7⟩
         go_simp
         with_reducible rfl
        rotate_left
        ·simp only [Act.put, List.setIfInBounds_toArray, List.set_cons_zero, List.set_cons_succ, i64_w, i32_w]
         rfl
        refine take_ (i := 1) (N := some 47) (v := ?_) (a' := ?_) #[true, true, false, false, false] rfl rfl (by kernel_rfl) (fun _ _ _ h => h) (Or.inl ⟨by rfl, ?_⟩) hHeld ?_ ?_
        rotate_left
        ·rintro w' ⟨s0, s1, s2, s3, s4, s5, s6, s7⟩
         go_simp
         with_reducible rfl
        rotate_left
        ·simp only [Act.put, List.setIfInBounds_toArray, List.set_cons_zero, List.set_cons_succ, i64_w, i32_w]
         rfl
        refine one_ (i := 2) (N := none) #[true, true, true, false, false] rfl rfl (by kernel_rfl) (by decide) (fun K hK => ?_)
        have hs72 : w71.cell? ⟨gb487, 0, none⟩ = some (.slice none 0 0) := (blk_cell BK487.out 0).trans rfl
        have hfs72 := blk_frozen BK487.out 0
        have hns72_0 := NB486_487.out
        have hns72_2 := NB488_487.out
        have hns72_3 := NB503_487.out
        have hms72_0 := NB487_486.out
        have hms72_2 := NB487_488.out
        have hms72_3 := NB487_503.out
        have hs73 : w71.cell? ⟨gb487, 1, none⟩ = some (.slice none 0 0) := (blk_cell BK487.out 1).trans rfl
        have hfs73 := blk_frozen BK487.out 1
        have hns73_0 := NB486_487.out
        have hns73_2 := NB488_487.out
        have hns73_3 := NB503_487.out
        have hms73_0 := NB487_486.out
        have hms73_2 := NB487_488.out
        have hms73_3 := NB487_503.out
        refine skip_ (w1 := ?_) (by rfl) rfl ?_ ?_
        rotate_left
        ·go_simp
         rfl
        refine hK.out _ _ ⟨((cell_far (p := ⟨gb487, _, none⟩) NB486_487.out _).trans (((cell_far (p := ⟨gb487, _, none⟩) NB486_487.out _).trans (hHeld.1)))), ((cell_far (p := ⟨gb487, _, none⟩) NB486_487.out _).trans (((cell_far (p := ⟨gb487, _, none⟩) NB486_487.out _).trans (hHeld.2.1)))), ((cell_far (p := ⟨gb487, _, none⟩) NB503_487.out _).trans (((cell_far (p := ⟨gb487, _, none⟩) NB503_487.out _).trans (hHeld.2.2.1)))), ((cell_far (p := ⟨gb487, _, none⟩) NB503_487.out _).trans (((cell_far (p := ⟨gb487, _, none⟩) NB503_487.out _).trans (hHeld.2.2.2.1)))), ((cell_far (p := ⟨gb487, _, none⟩) NB503_487.out _).trans (((cell_far (p := ⟨gb487, _, none⟩) NB503_487.out _).trans (hHeld.2.2.2.2.1)))), ((cell_far (p := ⟨gb487, _, none⟩) NB503_487.out _).trans (((cell_far (p := ⟨gb487, _, none⟩) NB503_487.out _).trans (hHeld.2.2.2.2.2.1)))), ((cell_far (p := ⟨gb487, _, none⟩) NB503_487.out _).trans (((cell_far (p := ⟨gb487, _, none⟩) NB503_487.out _).trans (hHeld.2.2.2.2.2.2.1)))), ((cell_far (p := ⟨gb487, _, none⟩) NB503_487.out _).trans (((cell_far (p := ⟨gb487, _, none⟩) NB503_487.out _).trans (hHeld.2.2.2.2.2.2.2))))⟩ (fun hHeld => ?_)
        clear hK K
        refine one_ (i := 3) (N := none) #[true, true, true, true, false] rfl rfl (by kernel_rfl) (by decide) (fun K hK => ?_)
        have hs74 : w71.cell? ⟨gb488, 0, none⟩ = some (.bool false) := (blk_cell BK488.out 0).trans rfl
        have hfs74 := blk_frozen BK488.out 0
        have hns74_0 := NB486_488.out
        have hns74_1 := NB487_488.out
        have hns74_3 := NB503_488.out
        have hms74_0 := NB488_486.out
        have hms74_1 := NB488_487.out
        have hms74_3 := NB488_503.out
        have hs75 : w71.cell? ⟨gb488, 1, none⟩ = some (.int .i64 0) := (blk_cell BK488.out 1).trans rfl
        have hfs75 := blk_frozen BK488.out 1
        have hns75_0 := NB486_488.out
        have hns75_1 := NB487_488.out
        have hns75_3 := NB503_488.out
        have hms75_0 := NB488_486.out
        have hms75_1 := NB488_487.out
        have hms75_3 := NB488_503.out
        have hs76 : w71.cell? ⟨gb488, 2, none⟩ = some (.int .i64 0) := (blk_cell BK488.out 2).trans rfl
        have hfs76 := blk_frozen BK488.out 2
        have hns76_0 := NB486_488.out
        have hns76_1 := NB487_488.out
        have hns76_3 := NB503_488.out
        have hms76_0 := NB488_486.out
        have hms76_1 := NB488_487.out
        have hms76_3 := NB488_503.out
        have hs77 : w71.cell? ⟨gb488, 3, none⟩ = some (.bool false) := (blk_cell BK488.out 3).trans rfl
        have hfs77 := blk_frozen BK488.out 3
        have hns77_0 := NB486_488.out
        have hns77_1 := NB487_488.out
        have hns77_3 := NB503_488.out
        have hms77_0 := NB488_486.out
        have hms77_1 := NB488_487.out
        have hms77_3 := NB488_503.out
        have hs78 : w71.cell? ⟨gb488, 4, none⟩ = some (.int .i64 0) := (blk_cell BK488.out 4).trans rfl
        have hfs78 := blk_frozen BK488.out 4
        have hns78_0 := NB486_488.out
        have hns78_1 := NB487_488.out
        have hns78_3 := NB503_488.out
        have hms78_0 := NB488_486.out
        have hms78_1 := NB488_487.out
        have hms78_3 := NB488_503.out
        have hs79 : w71.cell? ⟨gb488, 5, none⟩ = some (.int .i64 0) := (blk_cell BK488.out 5).trans rfl
        have hfs79 := blk_frozen BK488.out 5
        have hns79_0 := NB486_488.out
        have hns79_1 := NB487_488.out
        have hns79_3 := NB503_488.out
        have hms79_0 := NB488_486.out
        have hms79_1 := NB488_487.out
        have hms79_3 := NB488_503.out
        refine skip_ (w1 := ?_) (by rfl) rfl ?_ ?_
        rotate_left
        ·go_simp
         rfl
        refine hK.out _ _ ⟨((cell_far (p := ⟨gb488, _, none⟩) NB486_488.out _).trans (((cell_far (p := ⟨gb488, _, none⟩) NB486_488.out _).trans (((cell_far (p := ⟨gb488, _, none⟩) NB486_488.out _).trans (((cell_far (p := ⟨gb488, _, none⟩) NB486_488.out _).trans (((cell_far (p := ⟨gb488, _, none⟩) NB486_488.out _).trans (((cell_far (p := ⟨gb488, _, none⟩) NB486_488.out _).trans (hHeld.1)))))))))))), ((cell_far (p := ⟨gb488, _, none⟩) NB486_488.out _).trans (((cell_far (p := ⟨gb488, _, none⟩) NB486_488.out _).trans (((cell_far (p := ⟨gb488, _, none⟩) NB486_488.out _).trans (((cell_far (p := ⟨gb488, _, none⟩) NB486_488.out _).trans (((cell_far (p := ⟨gb488, _, none⟩) NB486_488.out _).trans (((cell_far (p := ⟨gb488, _, none⟩) NB486_488.out _).trans (hHeld.2.1)))))))))))), ((cell_far (p := ⟨gb488, _, none⟩) NB503_488.out _).trans (((cell_far (p := ⟨gb488, _, none⟩) NB503_488.out _).trans (((cell_far (p := ⟨gb488, _, none⟩) NB503_488.out _).trans (((cell_far (p := ⟨gb488, _, none⟩) NB503_488.out _).trans (((cell_far (p := ⟨gb488, _, none⟩) NB503_488.out _).trans (((cell_far (p := ⟨gb488, _, none⟩) NB503_488.out _).trans (hHeld.2.2.1)))))))))))), ((cell_far (p := ⟨gb488, _, none⟩) NB503_488.out _).trans (((cell_far (p := ⟨gb488, _, none⟩) NB503_488.out _).trans (((cell_far (p := ⟨gb488, _, none⟩) NB503_488.out _).trans (((cell_far (p := ⟨gb488, _, none⟩) NB503_488.out _).trans (((cell_far (p := ⟨gb488, _, none⟩) NB503_488.out _).trans (((cell_far (p := ⟨gb488, _, none⟩) NB503_488.out _).trans (hHeld.2.2.2.1)))))))))))), ((cell_far (p := ⟨gb488, _, none⟩) NB503_488.out _).trans (((cell_far (p := ⟨gb488, _, none⟩) NB503_488.out _).trans (((cell_far (p := ⟨gb488, _, none⟩) NB503_488.out _).trans (((cell_far (p := ⟨gb488, _, none⟩) NB503_488.out _).trans (((cell_far (p := ⟨gb488, _, none⟩) NB503_488.out _).trans (((cell_far (p := ⟨gb488, _, none⟩) NB503_488.out _).trans (hHeld.2.2.2.2.1)))))))))))), ((cell_far (p := ⟨gb488, _, none⟩) NB503_488.out _).trans (((cell_far (p := ⟨gb488, _, none⟩) NB503_488.out _).trans (((cell_far (p := ⟨gb488, _, none⟩) NB503_488.out _).trans (((cell_far (p := ⟨gb488, _, none⟩) NB503_488.out _).trans (((cell_far (p := ⟨gb488, _, none⟩) NB503_488.out _).trans (((cell_far (p := ⟨gb488, _, none⟩) NB503_488.out _).trans (hHeld.2.2.2.2.2.1)))))))))))), ((cell_far (p := ⟨gb488, _, none⟩) NB503_488.out _).trans (((cell_far (p := ⟨gb488, _, none⟩) NB503_488.out _).trans (((cell_far (p := ⟨gb488, _, none⟩) NB503_488.out _).trans (((cell_far (p := ⟨gb488, _, none⟩) NB503_488.out _).trans (((cell_far (p := ⟨gb488, _, none⟩) NB503_488.out _).trans (((cell_far (p := ⟨gb488, _, none⟩) NB503_488.out _).trans (hHeld.2.2.2.2.2.2.1)))))))))))), ((cell_far (p := ⟨gb488, _, none⟩) NB503_488.out _).trans (((cell_far (p := ⟨gb488, _, none⟩) NB503_488.out _).trans (((cell_far (p := ⟨gb488, _, none⟩) NB503_488.out _).trans (((cell_far (p := ⟨gb488, _, none⟩) NB503_488.out _).trans (((cell_far (p := ⟨gb488, _, none⟩) NB503_488.out _).trans (((cell_far (p := ⟨gb488, _, none⟩) NB503_488.out _).trans (hHeld.2.2.2.2.2.2.2))))))))))))⟩ (fun hHeld => ?_)
        clear hK K
        refine pure_ (i := 4) (N := some 8) (v := ?_) (a' := ?_) #[true, true, true, true, true] rfl rfl (by kernel_rfl) (fun _ _ _ h => h) (Or.inl ⟨by rfl, ?_⟩) ?_ ?_
        rotate_left
        ·intro w'
         go_simp
         with_reducible rfl
        rotate_left
        ·simp only [Act.put, List.setIfInBounds_toArray, List.set_cons_zero, List.set_cons_succ, i64_w, i32_w]
         rfl
        refine done_ (by kernel_rfl) ?_
        try go_wp2
        refine bodyPost_ret (results_list (rs := [.cell 6 51, .cell 7 46, .tmp 8]) rfl (by simp) (.cell gb487 51 #[.slice (some ⟨go64, 0, none⟩) t490.length co18, .slice Ao20 t493.length co20] (0, 0) _ rfl (by (with_reducible repeat first | apply bN | apply bD | apply bA); refine blk_far ?_ NB487_488.out _; (with_reducible repeat first | apply bN | apply bD | apply bA); refine blk_far ?_ NB487_488.out _; (with_reducible repeat first | apply bN | apply bD | apply bA); refine blk_far ?_ NB487_488.out _; (with_reducible repeat first | apply bN | apply bD | apply bA); refine blk_far ?_ NB487_488.out _; (with_reducible repeat first | apply bN | apply bD | apply bA); refine blk_far ?_ NB487_488.out _; (with_reducible repeat first | apply bN | apply bD | apply bA); refine blk_far ?_ NB487_488.out _; (with_reducible repeat first | apply bN | apply bD | apply bA); refine blk_put (cs := #[.slice (some ⟨go64, 0, none⟩) t490.length co18, .slice none 0 0]) ?_ 1 _ rfl; (with_reducible repeat first | apply bN | apply bD | apply bA); refine blk_put (cs := #[.slice none 0 0, .slice none 0 0]) ?_ 0 _ rfl; (with_reducible repeat first | apply bN | apply bD | apply bA); exact BK487.out) Try.underlying51 rfl (by kernel_rfl) (.cell gb488 46 #[.bool t496, .int .i64 t497, .int .i64 t498, .bool t499, .int .i64 t500, .int .i64 t501] (0, 0) _ rfl (by (with_reducible repeat first | apply bN | apply bD | apply bA); refine blk_put (cs := #[.bool t496, .int .i64 t497, .int .i64 t498, .bool t499, .int .i64 t500, .int .i64 0]) ?_ 5 _ rfl; (with_reducible repeat first | apply bN | apply bD | apply bA); refine blk_put (cs := #[.bool t496, .int .i64 t497, .int .i64 t498, .bool t499, .int .i64 0, .int .i64 0]) ?_ 4 _ rfl; (with_reducible repeat first | apply bN | apply bD | apply bA); refine blk_put (cs := #[.bool t496, .int .i64 t497, .int .i64 t498, .bool false, .int .i64 0, .int .i64 0]) ?_ 3 _ rfl; (with_reducible repeat first | apply bN | apply bD | apply bA); refine blk_put (cs := #[.bool t496, .int .i64 t497, .int .i64 0, .bool false, .int .i64 0, .int .i64 0]) ?_ 2 _ rfl; (with_reducible repeat first | apply bN | apply bD | apply bA); refine blk_put (cs := #[.bool t496, .int .i64 0, .int .i64 0, .bool false, .int .i64 0, .int .i64 0]) ?_ 1 _ rfl; (with_reducible repeat first | apply bN | apply bD | apply bA); refine blk_put (cs := #[.bool false, .int .i64 0, .int .i64 0, .bool false, .int .i64 0, .int .i64 0]) ?_ 0 _ rfl; (with_reducible repeat first | apply bN | apply bD | apply bA); refine blk_far ?_ NB488_487.out _; (with_reducible repeat first | apply bN | apply bD | apply bA); refine blk_far ?_ NB488_487.out _; (with_reducible repeat first | apply bN | apply bD | apply bA); exact BK488.out) Try.underlying46 rfl (by kernel_rfl) (.tmp .nil)))) rfl ?_
        exact ⟨_, _, by first | rfl | (simp [errW_none, errW_some] <;> rfl) | (simp [*, errW_none, errW_some] <;> rfl), by (with_reducible repeat first | apply Kd.R_alloc | apply Kd.R_drewN | apply Kd.R_drew); exact Kd.R_mono (Kd.R_far (p := ⟨gb488, 5, none⟩) (Kd.R_far (p := ⟨gb488, 4, none⟩) (Kd.R_far (p := ⟨gb488, 3, none⟩) (Kd.R_far (p := ⟨gb488, 2, none⟩) (Kd.R_far (p := ⟨gb488, 1, none⟩) (Kd.R_far (p := ⟨gb488, 0, none⟩) (Kd.R_far (p := ⟨gb487, 1, none⟩) (Kd.R_far (p := ⟨gb487, 0, none⟩) (Kd.R_mono (Kd.R_types HO_487000.out BK487.out (by decide)) (fun k_ hk => (⟨hk, hk.1.1⟩ : _ ∧ k_ ≠ gb488))) (fun _ hk => hk.1.2) (.slice (some ⟨go64, 0, none⟩) t490.length co18)) (fun _ hk => hk.1.2) (.slice Ao20 t493.length co20)) (fun _ hk => hk.2) (.bool t496)) (fun _ hk => hk.2) (.int .i64 t497)) (fun _ hk => hk.2) (.int .i64 t498)) (fun _ hk => hk.2) (.bool t499)) (fun _ hk => hk.2) (.int .i64 t500)) (fun _ hk => hk.2) (.int .i64 t501)) (fun _ hk => trivial), by (with_reducible repeat first | apply Kd.R_alloc | apply Kd.R_drewN | apply Kd.R_drew); exact Kd.R_mono (Kd.R_far (p := ⟨gb488, 5, none⟩) (Kd.R_far (p := ⟨gb488, 4, none⟩) (Kd.R_far (p := ⟨gb488, 3, none⟩) (Kd.R_far (p := ⟨gb488, 2, none⟩) (Kd.R_far (p := ⟨gb488, 1, none⟩) (Kd.R_far (p := ⟨gb488, 0, none⟩) (Kd.R_far (p := ⟨gb487, 1, none⟩) (Kd.R_far (p := ⟨gb487, 0, none⟩) (Kd.R_types (Kd.R_types HO_487001.out BK487.out (by decide)) BK488.out (by decide)) (fun _ hk => hk.1.2) (.slice (some ⟨go64, 0, none⟩) t490.length co18)) (fun _ hk => hk.1.2) (.slice Ao20 t493.length co20)) (fun _ hk => hk.2) (.bool t496)) (fun _ hk => hk.2) (.int .i64 t497)) (fun _ hk => hk.2) (.int .i64 t498)) (fun _ hk => hk.2) (.bool t499)) (fun _ hk => hk.2) (.int .i64 t500)) (fun _ hk => hk.2) (.int .i64 t501)) (fun _ hk => trivial), by repeat (first | (with_reducible first | exact HB.out | apply eA | apply eN | apply eD | refine below_set ?_ GE486.out | refine below_set ?_ GE487.out | refine below_set ?_ GE488.out | refine below_set ?_ GE503.out) | exact HB.out)⟩
       ·rw [if_neg c63] at H
        exact absurd H (by simp)
      ·rw [if_neg c62] at H
       exact absurd H (by simp)
     ·rw [if_neg c61] at H
      have c61b0 : (t502 == 0) = false := beq_eq_false_iff_ne.mpr c61
      have c61b1 : (t502 != 0) = true := bne_iff_ne.mpr c61
      simp only [Option.some.injEq, Prod.mk.injEq] at H
      obtain ⟨rfl, rfl, rfl, rfl, rfl, rfl, rfl, rfl, rfl⟩ := H
      have hnb80 := NB486_487.out
      have hnc80 := NB487_486.out
      have hnb81 := NB486_488.out
      have hnc81 := NB488_486.out
      have hnb82 := NB486_503.out
      have hnc82 := NB503_486.out
      have hcz83_0 : wc.cell? ⟨gb486, 0, none⟩ = some (.slice Ao18 t490.length co18) := (blk_cell BK486.out 0).trans rfl
      have hcz83_1 : wc.cell? ⟨gb486, 1, none⟩ = some (.slice Ao20 t493.length co20) := (blk_cell BK486.out 1).trans rfl
      have hfz83_0 := blk_frozen BK486.out 0
      have hfz83_1 := blk_frozen BK486.out 1
      have hnb84 := NB487_488.out
      have hnc84 := NB488_487.out
      have hnb85 := NB487_503.out
      have hnc85 := NB503_487.out
      have hcz86_0 : wc.cell? ⟨gb487, 0, none⟩ = some (.slice none 0 0) := (blk_cell BK487.out 0).trans rfl
      have hcz86_1 : wc.cell? ⟨gb487, 1, none⟩ = some (.slice none 0 0) := (blk_cell BK487.out 1).trans rfl
      have hfz86_0 := blk_frozen BK487.out 0
      have hfz86_1 := blk_frozen BK487.out 1
      have hnb87 := NB488_503.out
      have hnc87 := NB503_488.out
      have hcz88_0 : wc.cell? ⟨gb488, 0, none⟩ = some (.bool false) := (blk_cell BK488.out 0).trans rfl
      have hcz88_1 : wc.cell? ⟨gb488, 1, none⟩ = some (.int .i64 0) := (blk_cell BK488.out 1).trans rfl
      have hcz88_2 : wc.cell? ⟨gb488, 2, none⟩ = some (.int .i64 0) := (blk_cell BK488.out 2).trans rfl
      have hcz88_3 : wc.cell? ⟨gb488, 3, none⟩ = some (.bool false) := (blk_cell BK488.out 3).trans rfl
      have hcz88_4 : wc.cell? ⟨gb488, 4, none⟩ = some (.int .i64 0) := (blk_cell BK488.out 4).trans rfl
      have hcz88_5 : wc.cell? ⟨gb488, 5, none⟩ = some (.int .i64 0) := (blk_cell BK488.out 5).trans rfl
      have hfz88_0 := blk_frozen BK488.out 0
      have hfz88_1 := blk_frozen BK488.out 1
      have hfz88_2 := blk_frozen BK488.out 2
      have hfz88_3 := blk_frozen BK488.out 3
      have hfz88_4 := blk_frozen BK488.out 4
      have hfz88_5 := blk_frozen BK488.out 5
      go_wp2
      refine bodyPost_ret (results_list (rs := [.cell 6 51, .cell 7 46, .tmp 8]) rfl (by simp) (.cell gb487 51 #[.slice Ao18 t490.length co18, .slice Ao20 t493.length co20] (0, 0) _ rfl (by (with_reducible repeat first | apply bN | apply bD | apply bA); refine blk_far ?_ NB487_488.out _; (with_reducible repeat first | apply bN | apply bD | apply bA); refine blk_far ?_ NB487_488.out _; (with_reducible repeat first | apply bN | apply bD | apply bA); refine blk_far ?_ NB487_488.out _; (with_reducible repeat first | apply bN | apply bD | apply bA); refine blk_far ?_ NB487_488.out _; (with_reducible repeat first | apply bN | apply bD | apply bA); refine blk_far ?_ NB487_488.out _; (with_reducible repeat first | apply bN | apply bD | apply bA); refine blk_far ?_ NB487_488.out _; (with_reducible repeat first | apply bN | apply bD | apply bA); refine blk_put (cs := #[.slice Ao18 t490.length co18, .slice none 0 0]) ?_ 1 _ rfl; (with_reducible repeat first | apply bN | apply bD | apply bA); refine blk_put (cs := #[.slice none 0 0, .slice none 0 0]) ?_ 0 _ rfl; (with_reducible repeat first | apply bN | apply bD | apply bA); exact BK487.out) Try.underlying51 rfl (by kernel_rfl) (.cell gb488 46 #[.bool false, .int .i64 0, .int .i64 0, .bool false, .int .i64 0, .int .i64 0] (0, 0) _ rfl (by (with_reducible repeat first | apply bN | apply bD | apply bA); refine blk_put (cs := #[.bool false, .int .i64 0, .int .i64 0, .bool false, .int .i64 0, .int .i64 0]) ?_ 5 _ rfl; (with_reducible repeat first | apply bN | apply bD | apply bA); refine blk_put (cs := #[.bool false, .int .i64 0, .int .i64 0, .bool false, .int .i64 0, .int .i64 0]) ?_ 4 _ rfl; (with_reducible repeat first | apply bN | apply bD | apply bA); refine blk_put (cs := #[.bool false, .int .i64 0, .int .i64 0, .bool false, .int .i64 0, .int .i64 0]) ?_ 3 _ rfl; (with_reducible repeat first | apply bN | apply bD | apply bA); refine blk_put (cs := #[.bool false, .int .i64 0, .int .i64 0, .bool false, .int .i64 0, .int .i64 0]) ?_ 2 _ rfl; (with_reducible repeat first | apply bN | apply bD | apply bA); refine blk_put (cs := #[.bool false, .int .i64 0, .int .i64 0, .bool false, .int .i64 0, .int .i64 0]) ?_ 1 _ rfl; (with_reducible repeat first | apply bN | apply bD | apply bA); refine blk_put (cs := #[.bool false, .int .i64 0, .int .i64 0, .bool false, .int .i64 0, .int .i64 0]) ?_ 0 _ rfl; (with_reducible repeat first | apply bN | apply bD | apply bA); refine blk_far ?_ NB488_487.out _; (with_reducible repeat first | apply bN | apply bD | apply bA); refine blk_far ?_ NB488_487.out _; (with_reducible repeat first | apply bN | apply bD | apply bA); exact BK488.out) Try.underlying46 rfl (by kernel_rfl) (.tmp .nil)))) rfl ?_
      exact ⟨_, _, by first | rfl | (simp [errW_none, errW_some] <;> rfl) | (simp [*, errW_none, errW_some] <;> rfl), by (with_reducible repeat first | apply Kd.R_alloc | apply Kd.R_drewN | apply Kd.R_drew); exact Kd.R_mono (Kd.R_far (p := ⟨gb488, 5, none⟩) (Kd.R_far (p := ⟨gb488, 4, none⟩) (Kd.R_far (p := ⟨gb488, 3, none⟩) (Kd.R_far (p := ⟨gb488, 2, none⟩) (Kd.R_far (p := ⟨gb488, 1, none⟩) (Kd.R_far (p := ⟨gb488, 0, none⟩) (Kd.R_far (p := ⟨gb487, 1, none⟩) (Kd.R_far (p := ⟨gb487, 0, none⟩) (Kd.R_mono (Kd.R_types HO_487000.out BK487.out (by decide)) (fun k_ hk => (⟨hk, hk.1.1⟩ : _ ∧ k_ ≠ gb488))) (fun _ hk => hk.1.2) (.slice Ao18 t490.length co18)) (fun _ hk => hk.1.2) (.slice Ao20 t493.length co20)) (fun _ hk => hk.2) (.bool false)) (fun _ hk => hk.2) (.int .i64 0)) (fun _ hk => hk.2) (.int .i64 0)) (fun _ hk => hk.2) (.bool false)) (fun _ hk => hk.2) (.int .i64 0)) (fun _ hk => hk.2) (.int .i64 0)) (fun _ hk => trivial), by (with_reducible repeat first | apply Kd.R_alloc | apply Kd.R_drewN | apply Kd.R_drew); exact Kd.R_mono (Kd.R_far (p := ⟨gb488, 5, none⟩) (Kd.R_far (p := ⟨gb488, 4, none⟩) (Kd.R_far (p := ⟨gb488, 3, none⟩) (Kd.R_far (p := ⟨gb488, 2, none⟩) (Kd.R_far (p := ⟨gb488, 1, none⟩) (Kd.R_far (p := ⟨gb488, 0, none⟩) (Kd.R_far (p := ⟨gb487, 1, none⟩) (Kd.R_far (p := ⟨gb487, 0, none⟩) (Kd.R_types (Kd.R_types HO_487001.out BK487.out (by decide)) BK488.out (by decide)) (fun _ hk => hk.1.2) (.slice Ao18 t490.length co18)) (fun _ hk => hk.1.2) (.slice Ao20 t493.length co20)) (fun _ hk => hk.2) (.bool false)) (fun _ hk => hk.2) (.int .i64 0)) (fun _ hk => hk.2) (.int .i64 0)) (fun _ hk => hk.2) (.bool false)) (fun _ hk => hk.2) (.int .i64 0)) (fun _ hk => hk.2) (.int .i64 0)) (fun _ hk => trivial), by repeat (first | (with_reducible first | exact HB.out | apply eA | apply eN | apply eD | refine below_set ?_ GE486.out | refine below_set ?_ GE487.out | refine below_set ?_ GE488.out | refine below_set ?_ GE503.out) | exact HB.out)⟩
 ·replace c5 := Bool.eq_false_iff.mpr c5
  subst c5
  have H1 : (some (([] : List (S46)), ([] : List Int), false, 0, 0, false, 0, 0, 1)) = some (r1, r2, r3, r4, r5, r6, r7, r8, r9) := by rw [if_neg (show ¬ (false = true) by decide)] at H; first | done | exact H
  clear H
  have H := H1
  clear H1
  simp only [Option.some.injEq, Prod.mk.injEq] at H
  obtain ⟨rfl, rfl, rfl, rfl, rfl, rfl, rfl, rfl, rfl⟩ := H
  go_enter Try.func44, Try.ntmps44
  go_wp2_with (first | ((with_reducible refine gate_dst (N := 3) rfl ?_); refine box_event ?hg (N := 3) ?hd (cs := #[.slice A0_0 l0_0.length c0_0, .slice A0_1 l0_1.length c0_1]) (t := 51) ?hr ?_; (case hd => rfl); (case hg => rfl); (case hr => first | (go_simp; done) | (go_simp; rfl)); intro gb486 hg w89 hbox hb; have n0_ := Aside0.mk (below_step (by repeat (first | (with_reducible first | exact HB.out | apply eA | apply eN | apply eD) | exact HB.out)) hb); have n1_ := Aside0.mk (hbox); have n2_ := Aside0.mk ((by rw [hg]; exact (below_size (by repeat (first | (with_reducible first | exact HB.out | apply eA | apply eN | apply eD) | exact HB.out))) : w.heap.size ≤ gb486)); have n3_ := Aside0.mk ((by rw [hg]; exact (below_size (by repeat (first | (with_reducible first | exact HB.out | apply eA | apply eN | apply eD) | exact HB.out))) : w.heap.size ≤ gb486)); clear HB; have HB := n0_; have BK486 := n1_; have GW486 := n2_; have GE486 := n3_; clear n0_ n1_ n2_ n3_; clear hb hbox hg) | ((with_reducible refine gate_dst (N := 6) rfl ?_); refine box_event ?hg (N := 6) ?hd (cs := #[.slice none 0 0, .slice none 0 0]) (t := 51) ?hr ?_; (case hd => rfl); (case hg => rfl); (case hr => first | (go_simp; done) | (go_simp; rfl)); intro gb487 hg w90 hbox hb; have n0_ := Aside0.mk (blk_below (g := gb486) (o := .cells #[.slice A0_0 l0_0.length c0_0, .slice A0_1 l0_1.length c0_1] 51 (0, 0)) (by (with_reducible repeat first | apply bN | apply bD | apply bA); exact BK486.out) hb); have n1_ := Aside0.mk (below_step (by repeat (first | (with_reducible first | exact HB.out | apply eA | apply eN | apply eD | refine below_set ?_ GE486.out) | exact HB.out)) hb); have n2_ := Aside0.mk (hbox); have n3_ := Aside0.mk ((by rw [hg]; exact (below_size (by repeat (first | (with_reducible first | exact HB.out | apply eA | apply eN | apply eD | refine below_set ?_ GE486.out) | exact HB.out))) : w.heap.size ≤ gb487)); have n4_ := Aside0.mk ((by rw [hg]; exact (below_size (by repeat (first | (with_reducible first | exact HB.out | apply eA | apply eN | apply eD | refine below_set ?_ GE486.out) | exact HB.out))) : w.heap.size ≤ gb487)); have n5_ := Aside0.mk ((by rw [hg]; exact Nat.ne_of_lt (blk_lt (g := gb486) (o := .cells #[.slice A0_0 l0_0.length c0_0, .slice A0_1 l0_1.length c0_1] 51 (0, 0)) (by (with_reducible repeat first | apply bN | apply bD | apply bA); exact BK486.out)) : gb486 ≠ gb487)); have n6_ := Aside0.mk ((by rw [hg]; exact Nat.ne_of_gt (blk_lt (g := gb486) (o := .cells #[.slice A0_0 l0_0.length c0_0, .slice A0_1 l0_1.length c0_1] 51 (0, 0)) (by (with_reducible repeat first | apply bN | apply bD | apply bA); exact BK486.out)) : gb487 ≠ gb486)); clear BK486 HB; have BK486 := n0_; have HB := n1_; have BK487 := n2_; have GW487 := n3_; have GE487 := n4_; have NB486_487 := n5_; have NB487_486 := n6_; clear n0_ n1_ n2_ n3_ n4_ n5_ n6_; clear hb hbox hg) | ((with_reducible refine gate_dst (N := 7) rfl ?_); refine box_event ?hg (N := 7) ?hd (cs := #[.bool false, .int .i64 0, .int .i64 0, .bool false, .int .i64 0, .int .i64 0]) (t := 46) ?hr ?_; (case hd => rfl); (case hg => rfl); (case hr => first | (go_simp; done) | (go_simp; rfl)); intro gb488 hg w91 hbox hb; have n0_ := Aside0.mk (blk_below (g := gb486) (o := .cells #[.slice A0_0 l0_0.length c0_0, .slice A0_1 l0_1.length c0_1] 51 (0, 0)) (by (with_reducible repeat first | apply bN | apply bD | apply bA); exact BK486.out) hb); have n1_ := Aside0.mk (blk_below (g := gb487) (o := .cells #[.slice none 0 0, .slice none 0 0] 51 (0, 0)) (by (with_reducible repeat first | apply bN | apply bD | apply bA); exact BK487.out) hb); have n2_ := Aside0.mk (below_step (by repeat (first | (with_reducible first | exact HB.out | apply eA | apply eN | apply eD | refine below_set ?_ GE486.out | refine below_set ?_ GE487.out) | exact HB.out)) hb); have n3_ := Aside0.mk (hbox); have n4_ := Aside0.mk ((by rw [hg]; exact (below_size (by repeat (first | (with_reducible first | exact HB.out | apply eA | apply eN | apply eD | refine below_set ?_ GE486.out | refine below_set ?_ GE487.out) | exact HB.out))) : w.heap.size ≤ gb488)); have n5_ := Aside0.mk ((by rw [hg]; exact (below_size (by repeat (first | (with_reducible first | exact HB.out | apply eA | apply eN | apply eD | refine below_set ?_ GE486.out | refine below_set ?_ GE487.out) | exact HB.out))) : w.heap.size ≤ gb488)); have n6_ := Aside0.mk ((by rw [hg]; exact Nat.ne_of_lt (blk_lt (g := gb486) (o := .cells #[.slice A0_0 l0_0.length c0_0, .slice A0_1 l0_1.length c0_1] 51 (0, 0)) (by (with_reducible repeat first | apply bN | apply bD | apply bA); exact BK486.out)) : gb486 ≠ gb488)); have n7_ := Aside0.mk ((by rw [hg]; exact Nat.ne_of_gt (blk_lt (g := gb486) (o := .cells #[.slice A0_0 l0_0.length c0_0, .slice A0_1 l0_1.length c0_1] 51 (0, 0)) (by (with_reducible repeat first | apply bN | apply bD | apply bA); exact BK486.out)) : gb488 ≠ gb486)); have n8_ := Aside0.mk ((by rw [hg]; exact Nat.ne_of_lt (blk_lt (g := gb487) (o := .cells #[.slice none 0 0, .slice none 0 0] 51 (0, 0)) (by (with_reducible repeat first | apply bN | apply bD | apply bA); exact BK487.out)) : gb487 ≠ gb488)); have n9_ := Aside0.mk ((by rw [hg]; exact Nat.ne_of_gt (blk_lt (g := gb487) (o := .cells #[.slice none 0 0, .slice none 0 0] 51 (0, 0)) (by (with_reducible repeat first | apply bN | apply bD | apply bA); exact BK487.out)) : gb488 ≠ gb487)); clear BK486 BK487 HB; have BK486 := n0_; have BK487 := n1_; have HB := n2_; have BK488 := n3_; have GW488 := n4_; have GE488 := n5_; have NB486_488 := n6_; have NB488_486 := n7_; have NB487_488 := n8_; have NB488_487 := n9_; clear n0_ n1_ n2_ n3_ n4_ n5_ n6_ n7_ n8_ n9_; clear hb hbox hg; have hnb92 := NB486_487.out; have hnc92 := NB487_486.out; have hnb93 := NB486_488.out; have hnc93 := NB488_486.out; have hcz94_0 : w91.cell? ⟨gb486, 0, none⟩ = some (.slice A0_0 l0_0.length c0_0) := (blk_cell BK486.out 0).trans rfl; have hcz94_1 : w91.cell? ⟨gb486, 1, none⟩ = some (.slice A0_1 l0_1.length c0_1) := (blk_cell BK486.out 1).trans rfl; have hfz94_0 := blk_frozen BK486.out 0; have hfz94_1 := blk_frozen BK486.out 1) | ((with_reducible refine gate_callee (f := 64) rfl ?_); refine goesL_ (some 12) rfl rfl Try.func64 (by kernel_rfl) rfl #[.agg #[.slice A0_0 l0_0.length c0_0, .slice A0_1 l0_1.length c0_1]] rfl (by (try simp only [List.map_toArray, List.map_cons, List.map_nil]); first | done | rfl | (simp only [List.length_drop, List.length_take]; rfl)) ?_; (with_reducible refine (spec_GoodTable.calls k _ _ l0_0 _ _ l0_1 false _ ?side1 ?side2 ?side3 ?side4 A4.out).mono ?_); (case side1 => repeat (first | exact (Kd.C_below HR0_0.out HB.out) | (with_reducible refine Kd.C_alloc ?_ _) | (with_reducible refine Kd.C_drewN ?_ _) | (with_reducible refine Kd.C_drew ?_))); (case side2 => exact HC0_0.out); (case side3 => repeat (first | exact (Kd.C_below HR0_1.out HB.out) | (with_reducible refine Kd.C_alloc ?_ _) | (with_reducible refine Kd.C_drewN ?_ _) | (with_reducible refine Kd.C_drew ?_))); (case side4 => exact HC0_1.out); rintro e w95 ⟨rfl, hb⟩; refine ⟨_, rfl, ?_⟩; have n0_ := Aside0.mk (blk_below (g := gb486) (o := .cells #[.slice A0_0 l0_0.length c0_0, .slice A0_1 l0_1.length c0_1] 51 (0, 0)) (by (with_reducible repeat first | apply bN | apply bD | apply bA); exact BK486.out) hb); have n1_ := Aside0.mk (blk_below (g := gb487) (o := .cells #[.slice none 0 0, .slice none 0 0] 51 (0, 0)) (by (with_reducible repeat first | apply bN | apply bD | apply bA); exact BK487.out) hb); have n2_ := Aside0.mk (blk_below (g := gb488) (o := .cells #[.bool false, .int .i64 0, .int .i64 0, .bool false, .int .i64 0, .int .i64 0] 46 (0, 0)) (by (with_reducible repeat first | apply bN | apply bD | apply bA); exact BK488.out) hb); have n3_ := Aside0.mk (below_step (by repeat (first | (with_reducible first | exact HB.out | apply eA | apply eN | apply eD | refine below_set ?_ GE486.out | refine below_set ?_ GE487.out | refine below_set ?_ GE488.out) | exact HB.out)) hb); clear BK486 BK487; clear BK488 HB; have BK486 := n0_; have BK487 := n1_; have BK488 := n2_; have HB := n3_; clear n0_ n1_ n2_ n3_; (try clear hb); (try clear hb2); (try clear hk); (try clear hi); have hnb96 := NB487_488.out; have hnc96 := NB488_487.out; have hcz97_0 : w95.cell? ⟨gb487, 0, none⟩ = some (.slice none 0 0) := (blk_cell BK487.out 0).trans rfl; have hcz97_1 : w95.cell? ⟨gb487, 1, none⟩ = some (.slice none 0 0) := (blk_cell BK487.out 1).trans rfl; have hfz97_0 := blk_frozen BK487.out 0; have hfz97_1 := blk_frozen BK487.out 1; have hcz98_0 : w95.cell? ⟨gb488, 0, none⟩ = some (.bool false) := (blk_cell BK488.out 0).trans rfl; have hcz98_1 : w95.cell? ⟨gb488, 1, none⟩ = some (.int .i64 0) := (blk_cell BK488.out 1).trans rfl; have hcz98_2 : w95.cell? ⟨gb488, 2, none⟩ = some (.int .i64 0) := (blk_cell BK488.out 2).trans rfl; have hcz98_3 : w95.cell? ⟨gb488, 3, none⟩ = some (.bool false) := (blk_cell BK488.out 3).trans rfl; have hcz98_4 : w95.cell? ⟨gb488, 4, none⟩ = some (.int .i64 0) := (blk_cell BK488.out 4).trans rfl; have hcz98_5 : w95.cell? ⟨gb488, 5, none⟩ = some (.int .i64 0) := (blk_cell BK488.out 5).trans rfl; have hfz98_0 := blk_frozen BK488.out 0; have hfz98_1 := blk_frozen BK488.out 1; have hfz98_2 := blk_frozen BK488.out 2; have hfz98_3 := blk_frozen BK488.out 3; have hfz98_4 := blk_frozen BK488.out 4; have hfz98_5 := blk_frozen BK488.out 5))
  refine bodyPost_ret (results_list (rs := [.cell 6 51, .cell 7 46, .tmp 8]) rfl (by simp) (.cell gb487 51 #[.slice none 0 0, .slice none 0 0] (0, 0) _ rfl (by (with_reducible repeat first | apply bN | apply bD | apply bA); refine blk_far ?_ NB487_488.out _; (with_reducible repeat first | apply bN | apply bD | apply bA); refine blk_far ?_ NB487_488.out _; (with_reducible repeat first | apply bN | apply bD | apply bA); refine blk_far ?_ NB487_488.out _; (with_reducible repeat first | apply bN | apply bD | apply bA); refine blk_far ?_ NB487_488.out _; (with_reducible repeat first | apply bN | apply bD | apply bA); refine blk_far ?_ NB487_488.out _; (with_reducible repeat first | apply bN | apply bD | apply bA); refine blk_far ?_ NB487_488.out _; (with_reducible repeat first | apply bN | apply bD | apply bA); refine blk_put (cs := #[.slice none 0 0, .slice none 0 0]) ?_ 1 _ rfl; (with_reducible repeat first | apply bN | apply bD | apply bA); refine blk_put (cs := #[.slice none 0 0, .slice none 0 0]) ?_ 0 _ rfl; (with_reducible repeat first | apply bN | apply bD | apply bA); exact BK487.out) Try.underlying51 rfl (by kernel_rfl) (.cell gb488 46 #[.bool false, .int .i64 0, .int .i64 0, .bool false, .int .i64 0, .int .i64 0] (0, 0) _ rfl (by (with_reducible repeat first | apply bN | apply bD | apply bA); refine blk_put (cs := #[.bool false, .int .i64 0, .int .i64 0, .bool false, .int .i64 0, .int .i64 0]) ?_ 5 _ rfl; (with_reducible repeat first | apply bN | apply bD | apply bA); refine blk_put (cs := #[.bool false, .int .i64 0, .int .i64 0, .bool false, .int .i64 0, .int .i64 0]) ?_ 4 _ rfl; (with_reducible repeat first | apply bN | apply bD | apply bA); refine blk_put (cs := #[.bool false, .int .i64 0, .int .i64 0, .bool false, .int .i64 0, .int .i64 0]) ?_ 3 _ rfl; (with_reducible repeat first | apply bN | apply bD | apply bA); refine blk_put (cs := #[.bool false, .int .i64 0, .int .i64 0, .bool false, .int .i64 0, .int .i64 0]) ?_ 2 _ rfl; (with_reducible repeat first | apply bN | apply bD | apply bA); refine blk_put (cs := #[.bool false, .int .i64 0, .int .i64 0, .bool false, .int .i64 0, .int .i64 0]) ?_ 1 _ rfl; (with_reducible repeat first | apply bN | apply bD | apply bA); refine blk_put (cs := #[.bool false, .int .i64 0, .int .i64 0, .bool false, .int .i64 0, .int .i64 0]) ?_ 0 _ rfl; (with_reducible repeat first | apply bN | apply bD | apply bA); refine blk_far ?_ NB488_487.out _; (with_reducible repeat first | apply bN | apply bD | apply bA); refine blk_far ?_ NB488_487.out _; (with_reducible repeat first | apply bN | apply bD | apply bA); exact BK488.out) Try.underlying46 rfl (by kernel_rfl) (.tmp .nil)))) rfl ?_
  exact ⟨_, _, by first | rfl | (simp [errW_none, errW_some] <;> rfl) | (simp [*, errW_none, errW_some] <;> rfl), by first | exact Kd.R_nil _ _ _ _ _ | exact Kd.N_nil _ _ _ _ _ | exact Kd.V_nil _ _ _ _ _ | exact Kd.Q_nil _ _ _ _ _ | exact Kd.S_nil _ _ _ _ _, by first | exact Kd.R_nil _ _ _ _ _ | exact Kd.N_nil _ _ _ _ _ | exact Kd.V_nil _ _ _ _ _ | exact Kd.Q_nil _ _ _ _ _ | exact Kd.S_nil _ _ _ _ _, by repeat (first | (with_reducible first | exact HB.out | apply eA | apply eN | apply eD | refine below_set ?_ GE486.out | refine below_set ?_ GE487.out | refine below_set ?_ GE488.out) | exact HB.out)⟩

-- NOT PRINTED: function 11 (laws_FnExactLendHandle)

-- NOT PRINTED: function 105 (impl_Table_drop)

end Go.Proofs.Ytoomeeoijbkmnaa.PH
