-- Printed by a program of this session (after the kit's print.sh, with contracts of its own beside): Lean checks it.
import Derived.Test.YtoomeeoijbkmnaaC9PHx0
import Derived.Test.YtoomeeoijbkmnaaC9PHx2
import Derived.Test.YtoomeeoijbkmnaaC9PHx3
import Derived.Test.YtoomeeoijbkmnaaC9PHx8
namespace Go.Proofs.Ytoomeeoijbkmnaa.PH
open Go.RowKit Go.Proofs.YtoomeeoijbkmnaaW.PrintWords Go.Proofs.YtoomeeoijbkmnaaW.PrintLast Go.Proofs.YtoomeeoijbkmnaaW.PrintMore
attribute [local go_sem] max2_int min2_int max_two min_two max_three min_three max_four min_four   -- for this text's walks alone
set_option linter.unusedVariables false
set_option linter.unusedSimpArgs false

def spec_NewHandle.j0 : Nat → Bool → List (S46) → List Int → Bool → Int → Int → Bool → Int → Int → Option ((List (S46)) × List Int × Int × Int)
 | 0, _, _, _, _, _, _, _, _, _ => none
 | k + 1, x22, x361000, x361001, x362000, x362001, x362002, x362003, x362004, x362005 => if x22 = true then (some (x361000, x361001, 0, 1)) else (if (x361001.length : Int) > 0 then (if 0 ≤ (wrap64 ((x361001.length : Int) - 1)) then (if (wrap64 ((x361001.length : Int) - 1)) < (x361001.length : Int) then (if (wrap64 ((x361001.length : Int) - 1)) ≤ (x361001.length : Int) then (if 0 ≤ (rd x361001 (wrap64 ((x361001.length : Int) - 1))) then (if (rd x361001 (wrap64 ((x361001.length : Int) - 1))) < (x361000.length : Int) then (some ((x361000.set ((rd x361001 (wrap64 ((x361001.length : Int) - 1))) : Int).toNat (⟨x362000, x362001, x362002, x362003, x362004, x362005⟩ : S46)), (x361001.take ((wrap64 ((x361001.length : Int) - 1)) : Int).toNat), rd x361001 (wrap64 ((x361001.length : Int) - 1)), 0)) else (none)) else (none)) else (none)) else (none)) else (none)) else (if (x361000.length : Int) = 40 then (some (x361000, x361001, 0, 5)) else (if x361000.length < 2932031007402 then ((some (x361000 ++ [(⟨x362000, x362001, x362002, x362003, x362004, x362005⟩ : S46)] : List (S46))).bind fun y376 => (some (y376, x361001, wrap64 ((y376.length : Int) - 1), 0))) else (none))))
def spec_NewHandle.f (k : Nat) (l0_0 : List (S46)) (l0_1 : List Int) (a1_0 : Bool) (a1_1 : Int) (a1_2 : Int) (a1_3 : Bool) (a1_4 : Int) (a1_5 : Int) : Option ((List (S46)) × List Int × Int × Int) := (spec_GoodTable.f k l0_0 l0_1).bind fun t363 => (if t363 = true then ((spec_l15Own.f l0_0 l0_1).bind fun bt364 => ((spec_l15Handle.f a1_0 a1_1 a1_2 a1_3 a1_4 a1_5).bind fun t370 => (if t370 = true then (spec_NewHandle.j0 k (a1_4 != 0) bt364.1 bt364.2 a1_0 a1_1 a1_2 a1_3 a1_4 a1_5) else (spec_NewHandle.j0 k true bt364.1 bt364.2 a1_0 a1_1 a1_2 a1_3 a1_4 a1_5)))) else (some (([] : List (S46)), ([] : List Int), 0, 1)))
def spec_NewHandle.T15 : Bool × List (List Nat × List Nat) := (true, [([], []), ([], []), ([1], [1]), ([2], [2]), ([3], [3]), ([0, 0], [0]), ([4, 5, 0, 1, 2, 3, 4, 5], [4]), ([6, 0, 1, 2, 3, 4, 5, 6], [])])
def spec_NewHandle.B15 : List Nat := [0, 0, 2, 6, 14, 1, 63, 127]
theorem spec_NewHandle.tab15 : rtab .any (opsOf Try.f34 15) = spec_NewHandle.T15 := by kernel_rfl
theorem spec_NewHandle.bits15 : waitsOk spec_NewHandle.T15.2 spec_NewHandle.B15 = true := by kernel_rfl
set_option maxHeartbeats 8000000 in
set_option maxRecDepth 100000 in
theorem spec_NewHandle.calls (k : Nat) (A0_0 : Option Addr) (c0_0 : Nat) (l0_0 : List (S46)) (A0_1 : Option Addr) (c0_1 : Nat) (l0_1 : List Int) (a1_0 : Bool) (a1_1 : Int) (a1_2 : Int) (a1_3 : Bool) (a1_4 : Int) (a1_5 : Int) (r1 : List (S46)) (r2 : List Int) (r3 : Int) (r4 : Int) (w : World) (hr0_0 : Kd.C k46 w A0_0 l0_0.length l0_0) (hc0_0 : l0_0.length ≤ c0_0) (hr0_1 : Kd.C (Kd.int .i64) w A0_1 l0_1.length l0_1) (hc0_1 : l0_1.length ≤ c0_1) (h : spec_NewHandle.f k l0_0 l0_1 a1_0 a1_1 a1_2 a1_3 a1_4 a1_5 = some (r1, r2, r3, r4)) :
  Calls Try.prog 34 #[.agg #[.slice A0_0 l0_0.length c0_0, .slice A0_1 l0_1.length c0_1], .agg #[.bool a1_0, .int .i64 a1_1, .int .i64 a1_2, .bool a1_3, .int .i64 a1_4, .int .i64 a1_5]] w fun e w' => ∃ v0_ v1_ : Value, e = .returned (.tuple #[.agg #[v0_, v1_], .int .i64 r3, .int .i64 r4]) ∧ Kd.R k46 46 w' w.heap.size (fun _ => True) v0_ r1 ∧ Kd.R (Kd.int .i64) 3 w' w.heap.size (fun _ => True) v1_ r2 ∧ Below w.heap.size w w' := by
 have hu51 := Try.underlying51
 have hu46 := Try.underlying46
 have HR0_0 := Aside0.mk hr0_0
 have HC0_0 := Aside0.mk hc0_0
 clear hr0_0 hc0_0
 have HR0_1 := Aside0.mk hr0_1
 have HC0_1 := Aside0.mk hc0_1
 clear hr0_1 hc0_1
 have HB := Aside0.mk (Below.refl w.heap.size w)
 have H : ((spec_GoodTable.f k l0_0 l0_1).bind fun t363 => (if t363 = true then ((spec_l15Own.f l0_0 l0_1).bind fun bt364 => ((spec_l15Handle.f a1_0 a1_1 a1_2 a1_3 a1_4 a1_5).bind fun t370 => (if t370 = true then (spec_NewHandle.j0 k (a1_4 != 0) bt364.1 bt364.2 a1_0 a1_1 a1_2 a1_3 a1_4 a1_5) else (spec_NewHandle.j0 k true bt364.1 bt364.2 a1_0 a1_1 a1_2 a1_3 a1_4 a1_5)))) else (some (([] : List (S46)), ([] : List Int), 0, 1)))) = some (r1, r2, r3, r4) := h
 clear h
 replace H := Option.bind_eq_some_iff.mp H
 obtain ⟨t363, A30, H⟩ := H
 replace H : (if t363 = true then ((spec_l15Own.f l0_0 l0_1).bind fun bt364 => ((spec_l15Handle.f a1_0 a1_1 a1_2 a1_3 a1_4 a1_5).bind fun t370 => (if t370 = true then (spec_NewHandle.j0 k (a1_4 != 0) bt364.1 bt364.2 a1_0 a1_1 a1_2 a1_3 a1_4 a1_5) else (spec_NewHandle.j0 k true bt364.1 bt364.2 a1_0 a1_1 a1_2 a1_3 a1_4 a1_5)))) else (some (([] : List (S46)), ([] : List Int), 0, 1))) = some (r1, r2, r3, r4) := H
 have A3 := Aside0.mk A30
 clear A30
 by_cases c4 : t363 = true
 ·subst c4
  have H1 : ((spec_l15Own.f l0_0 l0_1).bind fun bt364 => ((spec_l15Handle.f a1_0 a1_1 a1_2 a1_3 a1_4 a1_5).bind fun t370 => (if t370 = true then (spec_NewHandle.j0 k (a1_4 != 0) bt364.1 bt364.2 a1_0 a1_1 a1_2 a1_3 a1_4 a1_5) else (spec_NewHandle.j0 k true bt364.1 bt364.2 a1_0 a1_1 a1_2 a1_3 a1_4 a1_5)))) = some (r1, r2, r3, r4) := by rw [if_pos rfl] at H; first | done | exact H
  clear H
  have H := H1
  clear H1
  replace H := Option.bind_eq_some_iff.mp H
  obtain ⟨⟨t364, t367⟩, A50, H⟩ := H
  replace H : ((spec_l15Handle.f a1_0 a1_1 a1_2 a1_3 a1_4 a1_5).bind fun t370 => (if t370 = true then (spec_NewHandle.j0 k (a1_4 != 0) t364 t367 a1_0 a1_1 a1_2 a1_3 a1_4 a1_5) else (spec_NewHandle.j0 k true t364 t367 a1_0 a1_1 a1_2 a1_3 a1_4 a1_5))) = some (r1, r2, r3, r4) := H
  have A5 := Aside0.mk A50
  clear A50
  have HC6 := Aside0.mk H
  clear H
  go_enter Try.func34, Try.ntmps34
  go_upto_region 4 with (first | ((with_reducible refine gate_dst (N := 2) rfl ?_); refine box_event ?hg (N := 2) ?hd (cs := #[.slice A0_0 l0_0.length c0_0, .slice A0_1 l0_1.length c0_1]) (t := 51) ?hr ?_; (case hd => rfl); (case hg => rfl); (case hr => first | (go_simp; done) | (go_simp; rfl)); intro gb360 hg w7 hbox hb; have n0_ := Aside0.mk (below_step (by repeat (first | (with_reducible first | exact HB.out | apply eA | apply eN | apply eD) | exact HB.out)) hb); have n1_ := Aside0.mk (hbox); have n2_ := Aside0.mk ((by rw [hg]; exact (below_size (by repeat (first | (with_reducible first | exact HB.out | apply eA | apply eN | apply eD) | exact HB.out))) : w.heap.size ≤ gb360)); have n3_ := Aside0.mk ((by rw [hg]; exact (below_size (by repeat (first | (with_reducible first | exact HB.out | apply eA | apply eN | apply eD) | exact HB.out))) : w.heap.size ≤ gb360)); clear HB; have HB := n0_; have BK360 := n1_; have GW360 := n2_; have GE360 := n3_; clear n0_ n1_ n2_ n3_; clear hb hbox hg) | ((with_reducible refine gate_dst (N := 3) rfl ?_); refine box_event ?hg (N := 3) ?hd (cs := #[.bool a1_0, .int .i64 a1_1, .int .i64 a1_2, .bool a1_3, .int .i64 a1_4, .int .i64 a1_5]) (t := 46) ?hr ?_; (case hd => rfl); (case hg => rfl); (case hr => first | (go_simp; done) | (go_simp; rfl)); intro gb361 hg w8 hbox hb; have n0_ := Aside0.mk (blk_below (g := gb360) (o := .cells #[.slice A0_0 l0_0.length c0_0, .slice A0_1 l0_1.length c0_1] 51 (0, 0)) (by (with_reducible repeat first | apply bN | apply bD | apply bA); exact BK360.out) hb); have n1_ := Aside0.mk (below_step (by repeat (first | (with_reducible first | exact HB.out | apply eA | apply eN | apply eD | refine below_set ?_ GE360.out) | exact HB.out)) hb); have n2_ := Aside0.mk (hbox); have n3_ := Aside0.mk ((by rw [hg]; exact (below_size (by repeat (first | (with_reducible first | exact HB.out | apply eA | apply eN | apply eD | refine below_set ?_ GE360.out) | exact HB.out))) : w.heap.size ≤ gb361)); have n4_ := Aside0.mk ((by rw [hg]; exact (below_size (by repeat (first | (with_reducible first | exact HB.out | apply eA | apply eN | apply eD | refine below_set ?_ GE360.out) | exact HB.out))) : w.heap.size ≤ gb361)); have n5_ := Aside0.mk ((by rw [hg]; exact Nat.ne_of_lt (blk_lt (g := gb360) (o := .cells #[.slice A0_0 l0_0.length c0_0, .slice A0_1 l0_1.length c0_1] 51 (0, 0)) (by (with_reducible repeat first | apply bN | apply bD | apply bA); exact BK360.out)) : gb360 ≠ gb361)); have n6_ := Aside0.mk ((by rw [hg]; exact Nat.ne_of_gt (blk_lt (g := gb360) (o := .cells #[.slice A0_0 l0_0.length c0_0, .slice A0_1 l0_1.length c0_1] 51 (0, 0)) (by (with_reducible repeat first | apply bN | apply bD | apply bA); exact BK360.out)) : gb361 ≠ gb360)); clear BK360 HB; have BK360 := n0_; have HB := n1_; have BK361 := n2_; have GW361 := n3_; have GE361 := n4_; have NB360_361 := n5_; have NB361_360 := n6_; clear n0_ n1_ n2_ n3_ n4_ n5_ n6_; clear hb hbox hg) | ((with_reducible refine gate_dst (N := 4) rfl ?_); refine box_event ?hg (N := 4) ?hd (cs := #[.slice none 0 0, .slice none 0 0]) (t := 51) ?hr ?_; (case hd => rfl); (case hg => rfl); (case hr => first | (go_simp; done) | (go_simp; rfl)); intro gb362 hg w9 hbox hb; have n0_ := Aside0.mk (blk_below (g := gb360) (o := .cells #[.slice A0_0 l0_0.length c0_0, .slice A0_1 l0_1.length c0_1] 51 (0, 0)) (by (with_reducible repeat first | apply bN | apply bD | apply bA); exact BK360.out) hb); have n1_ := Aside0.mk (blk_below (g := gb361) (o := .cells #[.bool a1_0, .int .i64 a1_1, .int .i64 a1_2, .bool a1_3, .int .i64 a1_4, .int .i64 a1_5] 46 (0, 0)) (by (with_reducible repeat first | apply bN | apply bD | apply bA); exact BK361.out) hb); have n2_ := Aside0.mk (below_step (by repeat (first | (with_reducible first | exact HB.out | apply eA | apply eN | apply eD | refine below_set ?_ GE360.out | refine below_set ?_ GE361.out) | exact HB.out)) hb); have n3_ := Aside0.mk (hbox); have n4_ := Aside0.mk ((by rw [hg]; exact (below_size (by repeat (first | (with_reducible first | exact HB.out | apply eA | apply eN | apply eD | refine below_set ?_ GE360.out | refine below_set ?_ GE361.out) | exact HB.out))) : w.heap.size ≤ gb362)); have n5_ := Aside0.mk ((by rw [hg]; exact (below_size (by repeat (first | (with_reducible first | exact HB.out | apply eA | apply eN | apply eD | refine below_set ?_ GE360.out | refine below_set ?_ GE361.out) | exact HB.out))) : w.heap.size ≤ gb362)); have n6_ := Aside0.mk ((by rw [hg]; exact Nat.ne_of_lt (blk_lt (g := gb360) (o := .cells #[.slice A0_0 l0_0.length c0_0, .slice A0_1 l0_1.length c0_1] 51 (0, 0)) (by (with_reducible repeat first | apply bN | apply bD | apply bA); exact BK360.out)) : gb360 ≠ gb362)); have n7_ := Aside0.mk ((by rw [hg]; exact Nat.ne_of_gt (blk_lt (g := gb360) (o := .cells #[.slice A0_0 l0_0.length c0_0, .slice A0_1 l0_1.length c0_1] 51 (0, 0)) (by (with_reducible repeat first | apply bN | apply bD | apply bA); exact BK360.out)) : gb362 ≠ gb360)); have n8_ := Aside0.mk ((by rw [hg]; exact Nat.ne_of_lt (blk_lt (g := gb361) (o := .cells #[.bool a1_0, .int .i64 a1_1, .int .i64 a1_2, .bool a1_3, .int .i64 a1_4, .int .i64 a1_5] 46 (0, 0)) (by (with_reducible repeat first | apply bN | apply bD | apply bA); exact BK361.out)) : gb361 ≠ gb362)); have n9_ := Aside0.mk ((by rw [hg]; exact Nat.ne_of_gt (blk_lt (g := gb361) (o := .cells #[.bool a1_0, .int .i64 a1_1, .int .i64 a1_2, .bool a1_3, .int .i64 a1_4, .int .i64 a1_5] 46 (0, 0)) (by (with_reducible repeat first | apply bN | apply bD | apply bA); exact BK361.out)) : gb362 ≠ gb361)); clear BK360 BK361 HB; have BK360 := n0_; have BK361 := n1_; have HB := n2_; have BK362 := n3_; have GW362 := n4_; have GE362 := n5_; have NB360_362 := n6_; have NB362_360 := n7_; have NB361_362 := n8_; have NB362_361 := n9_; clear n0_ n1_ n2_ n3_ n4_ n5_ n6_ n7_ n8_ n9_; clear hb hbox hg; have hnb10 := NB360_361.out; have hnc10 := NB361_360.out; have hnb11 := NB360_362.out; have hnc11 := NB362_360.out; have hcz12_0 : w9.cell? ⟨gb360, 0, none⟩ = some (.slice A0_0 l0_0.length c0_0) := (blk_cell BK360.out 0).trans rfl; have hcz12_1 : w9.cell? ⟨gb360, 1, none⟩ = some (.slice A0_1 l0_1.length c0_1) := (blk_cell BK360.out 1).trans rfl; have hfz12_0 := blk_frozen BK360.out 0; have hfz12_1 := blk_frozen BK360.out 1) | ((with_reducible refine gate_callee (f := 64) rfl ?_); refine goesL_ (some 10) rfl rfl Try.func64 (by kernel_rfl) rfl #[.agg #[.slice A0_0 l0_0.length c0_0, .slice A0_1 l0_1.length c0_1]] rfl (by (try simp only [List.map_toArray, List.map_cons, List.map_nil]); first | done | rfl | (simp only [List.length_drop, List.length_take]; rfl)) ?_; (with_reducible refine (spec_GoodTable.calls k _ _ l0_0 _ _ l0_1 true _ ?side1 ?side2 ?side3 ?side4 A3.out).mono ?_); (case side1 => repeat (first | exact (Kd.C_below HR0_0.out HB.out) | (with_reducible refine Kd.C_alloc ?_ _) | (with_reducible refine Kd.C_drewN ?_ _) | (with_reducible refine Kd.C_drew ?_))); (case side2 => exact HC0_0.out); (case side3 => repeat (first | exact (Kd.C_below HR0_1.out HB.out) | (with_reducible refine Kd.C_alloc ?_ _) | (with_reducible refine Kd.C_drewN ?_ _) | (with_reducible refine Kd.C_drew ?_))); (case side4 => exact HC0_1.out); rintro e w13 ⟨rfl, hb⟩; refine ⟨_, rfl, ?_⟩; have n0_ := Aside0.mk (blk_below (g := gb360) (o := .cells #[.slice A0_0 l0_0.length c0_0, .slice A0_1 l0_1.length c0_1] 51 (0, 0)) (by (with_reducible repeat first | apply bN | apply bD | apply bA); exact BK360.out) hb); have n1_ := Aside0.mk (blk_below (g := gb361) (o := .cells #[.bool a1_0, .int .i64 a1_1, .int .i64 a1_2, .bool a1_3, .int .i64 a1_4, .int .i64 a1_5] 46 (0, 0)) (by (with_reducible repeat first | apply bN | apply bD | apply bA); exact BK361.out) hb); have n2_ := Aside0.mk (blk_below (g := gb362) (o := .cells #[.slice none 0 0, .slice none 0 0] 51 (0, 0)) (by (with_reducible repeat first | apply bN | apply bD | apply bA); exact BK362.out) hb); have n3_ := Aside0.mk (below_step (by repeat (first | (with_reducible first | exact HB.out | apply eA | apply eN | apply eD | refine below_set ?_ GE360.out | refine below_set ?_ GE361.out | refine below_set ?_ GE362.out) | exact HB.out)) hb); clear BK360 BK361; clear BK362 HB; have BK360 := n0_; have BK361 := n1_; have BK362 := n2_; have HB := n3_; clear n0_ n1_ n2_ n3_; (try clear hb); (try clear hb2); (try clear hk); (try clear hi); have hcz14_0 : w13.cell? ⟨gb360, 0, none⟩ = some (.slice A0_0 l0_0.length c0_0) := (blk_cell BK360.out 0).trans rfl; have hcz14_1 : w13.cell? ⟨gb360, 1, none⟩ = some (.slice A0_1 l0_1.length c0_1) := (blk_cell BK360.out 1).trans rfl; have hfz14_0 := blk_frozen BK360.out 0; have hfz14_1 := blk_frozen BK360.out 1) | ((with_reducible refine gate_callee (f := 71) rfl ?_); refine goesL_ (some 14) rfl rfl Try.func71 (by kernel_rfl) rfl #[.agg #[.slice A0_0 l0_0.length c0_0, .slice A0_1 l0_1.length c0_1]] rfl (by (try simp only [List.map_toArray, List.map_cons, List.map_nil]); first | done | rfl | (simp only [List.length_drop, List.length_take]; rfl)) ?_; (with_reducible refine (spec_l15Own.calls _ _ l0_0 _ _ l0_1 t364 t367 _ ?side1 ?side2 ?side3 ?side4 A5.out).mono ?_); (case side1 => repeat (first | exact (Kd.C_below HR0_0.out HB.out) | (with_reducible refine Kd.C_alloc ?_ _) | (with_reducible refine Kd.C_drewN ?_ _) | (with_reducible refine Kd.C_drew ?_))); (case side2 => exact HC0_0.out); (case side3 => repeat (first | exact (Kd.C_below HR0_1.out HB.out) | (with_reducible refine Kd.C_alloc ?_ _) | (with_reducible refine Kd.C_drewN ?_ _) | (with_reducible refine Kd.C_drew ?_))); (case side4 => exact HC0_1.out); rintro e w15 ⟨v365, v368, rfl, ho0, ho1, hb⟩; refine ⟨_, rfl, ?_⟩; have n0_ := Aside0.mk (Kd.R_lower (Kd.R_newB ho0 (g := gb361) (o := .cells #[.bool a1_0, .int .i64 a1_1, .int .i64 a1_2, .bool a1_3, .int .i64 a1_4, .int .i64 a1_5] 46 (0, 0)) (by (with_reducible repeat first | apply bN | apply bD | apply bA); exact BK361.out)) (below_size (by repeat (first | (with_reducible first | exact HB.out | apply eA | apply eN | apply eD | refine below_set ?_ GE360.out | refine below_set ?_ GE361.out | refine below_set ?_ GE362.out) | exact HB.out)))); have n1_ := Aside0.mk (Kd.R_lower ho1 (below_size (by repeat (first | (with_reducible first | exact HB.out | apply eA | apply eN | apply eD | refine below_set ?_ GE360.out | refine below_set ?_ GE361.out | refine below_set ?_ GE362.out) | exact HB.out)))); have n2_ := Aside0.mk (blk_below (g := gb360) (o := .cells #[.slice A0_0 l0_0.length c0_0, .slice A0_1 l0_1.length c0_1] 51 (0, 0)) (by (with_reducible repeat first | apply bN | apply bD | apply bA); exact BK360.out) hb); have n3_ := Aside0.mk (blk_below (g := gb361) (o := .cells #[.bool a1_0, .int .i64 a1_1, .int .i64 a1_2, .bool a1_3, .int .i64 a1_4, .int .i64 a1_5] 46 (0, 0)) (by (with_reducible repeat first | apply bN | apply bD | apply bA); exact BK361.out) hb); have n4_ := Aside0.mk (blk_below (g := gb362) (o := .cells #[.slice none 0 0, .slice none 0 0] 51 (0, 0)) (by (with_reducible repeat first | apply bN | apply bD | apply bA); exact BK362.out) hb); have n5_ := Aside0.mk (below_step (by repeat (first | (with_reducible first | exact HB.out | apply eA | apply eN | apply eD | refine below_set ?_ GE360.out | refine below_set ?_ GE361.out | refine below_set ?_ GE362.out) | exact HB.out)) hb); clear BK360 BK361; clear BK362 HB; have HO366 := n0_; have HO369 := n1_; have BK360 := n2_; have BK361 := n3_; have BK362 := n4_; have HB := n5_; clear n0_ n1_ n2_ n3_ n4_ n5_; (try clear hb); (try clear hb2); (try clear hk); (try clear hi); (try clear ho0); (try clear ho1); obtain ⟨Ao16, co16, eo16⟩ := Kd.R_slice HO366.out; subst eo16; have hcz17_0 : w15.cell? ⟨gb360, 0, none⟩ = some (.slice A0_0 l0_0.length c0_0) := (blk_cell BK360.out 0).trans rfl; have hcz17_1 : w15.cell? ⟨gb360, 1, none⟩ = some (.slice A0_1 l0_1.length c0_1) := (blk_cell BK360.out 1).trans rfl; have hfz17_0 := blk_frozen BK360.out 0; have hfz17_1 := blk_frozen BK360.out 1; obtain ⟨Ao18, co18, eo18⟩ := Kd.R_slice HO369.out; subst eo18))
  (try simp only [Act.put, List.setIfInBounds_toArray, List.set_cons_zero, List.set_cons_succ])
  go_cut [22] (fun v22 wc => ∃ (kq : Nat) (x22_5 : Bool), v22 = .bool x22_5 ∧ Aside0 (spec_NewHandle.j0 kq x22_5 t364 t367 a1_0 a1_1 a1_2 a1_3 a1_4 a1_5 = some (r1, r2, r3, r4)) ∧ Aside0 (kq ≤ k) ∧ Aside0 (Kd.R k46 46 wc w.heap.size (fun k_ => k_ ≠ gb361) (.slice Ao16 t364.length co16) t364) ∧ Aside0 (Kd.R (Kd.int .i64) 3 wc w.heap.size (fun _ => True) (.slice Ao18 t367.length co18) t367) ∧ Aside0 (wc.heap[gb360]? = some (.cells #[(.slice Ao16 t364.length co16), (.slice Ao18 t367.length co18)] 51 (0, 0))) ∧ Aside0 (wc.heap[gb361]? = some (.cells #[.bool a1_0, .int .i64 a1_1, .int .i64 a1_2, .bool a1_3, .int .i64 a1_4, .int .i64 a1_5] 46 (0, 0))) ∧ Aside0 (wc.heap[gb362]? = some (.cells #[(.slice none 0 0), (.slice none 0 0)] 51 (0, 0))) ∧ Aside0 (Below w.heap.size w wc))
  case first =>
   have H := HC6.out
   clear HC6
   replace H := Option.bind_eq_some_iff.mp H
   obtain ⟨t370, A190, H⟩ := H
   replace H : (if t370 = true then (spec_NewHandle.j0 k (a1_4 != 0) t364 t367 a1_0 a1_1 a1_2 a1_3 a1_4 a1_5) else (spec_NewHandle.j0 k true t364 t367 a1_0 a1_1 a1_2 a1_3 a1_4 a1_5)) = some (r1, r2, r3, r4) := H
   have A19 := Aside0.mk A190
   clear A190
   by_cases c20 : t370 = true
   ·subst c20
    have H1 : (spec_NewHandle.j0 k (a1_4 != 0) t364 t367 a1_0 a1_1 a1_2 a1_3 a1_4 a1_5) = some (r1, r2, r3, r4) := by rw [if_pos rfl] at H; first | done | exact H
    clear H
    have H := H1
    clear H1
    have H' := Aside0.mk H
    clear H
    have hnb21 := NB361_360.out
    have hnc21 := NB360_361.out
    have hnb22 := NB361_362.out
    have hnc22 := NB362_361.out
    have hcz23_0 : w15.cell? ⟨gb361, 0, none⟩ = some (.bool a1_0) := (blk_cell BK361.out 0).trans rfl
    have hcz23_1 : w15.cell? ⟨gb361, 1, none⟩ = some (.int .i64 a1_1) := (blk_cell BK361.out 1).trans rfl
    have hcz23_2 : w15.cell? ⟨gb361, 2, none⟩ = some (.int .i64 a1_2) := (blk_cell BK361.out 2).trans rfl
    have hcz23_3 : w15.cell? ⟨gb361, 3, none⟩ = some (.bool a1_3) := (blk_cell BK361.out 3).trans rfl
    have hcz23_4 : w15.cell? ⟨gb361, 4, none⟩ = some (.int .i64 a1_4) := (blk_cell BK361.out 4).trans rfl
    have hcz23_5 : w15.cell? ⟨gb361, 5, none⟩ = some (.int .i64 a1_5) := (blk_cell BK361.out 5).trans rfl
    have hfz23_0 := blk_frozen BK361.out 0
    have hfz23_1 := blk_frozen BK361.out 1
    have hfz23_2 := blk_frozen BK361.out 2
    have hfz23_3 := blk_frozen BK361.out 3
    have hfz23_4 := blk_frozen BK361.out 4
    have hfz23_5 := blk_frozen BK361.out 5
    go_wp2_with (first | ((with_reducible refine gate_callee (f := 78) rfl ?_); refine goesL_ (some 16) rfl rfl Try.func78 (by kernel_rfl) rfl #[.agg #[.bool a1_0, .int .i64 a1_1, .int .i64 a1_2, .bool a1_3, .int .i64 a1_4, .int .i64 a1_5]] rfl (by (try simp only [List.map_toArray, List.map_cons, List.map_nil]); first | done | rfl | (simp only [List.length_drop, List.length_take]; rfl)) ?_; (with_reducible refine (spec_l15Handle.calls a1_0 a1_1 a1_2 a1_3 a1_4 a1_5 true _ A19.out).mono ?_); rintro e w24 ⟨rfl, hb⟩; refine ⟨_, rfl, ?_⟩; have n0_ := Aside0.mk (Kd.R_below (by (with_reducible repeat first | apply Kd.R_alloc | apply Kd.R_drewN | apply Kd.R_drew); exact (Kd.R_mono (Kd.R_far (p := ⟨gb360, 1, none⟩) (Kd.R_far (p := ⟨gb360, 0, none⟩) (Kd.R_types HO366.out BK360.out (by decide)) (fun _ hk => hk.2) (.slice Ao16 t364.length co16)) (fun _ hk => hk.2) (.slice Ao18 t367.length co18)) (fun _ h_ => h_.1))) hb); have n1_ := Aside0.mk (Kd.R_below (by (with_reducible repeat first | apply Kd.R_alloc | apply Kd.R_drewN | apply Kd.R_drew); exact (Kd.R_mono (Kd.R_far (p := ⟨gb360, 1, none⟩) (Kd.R_far (p := ⟨gb360, 0, none⟩) (Kd.R_types HO369.out BK360.out (by decide)) (fun _ hk => hk.2) (.slice Ao16 t364.length co16)) (fun _ hk => hk.2) (.slice Ao18 t367.length co18)) (fun _ h_ => h_.1))) hb); have n2_ := Aside0.mk (blk_below (g := gb360) (o := .cells #[.slice Ao16 t364.length co16, .slice Ao18 t367.length co18] 51 (0, 0)) (by (with_reducible repeat first | apply bN | apply bD | apply bA); refine blk_put (cs := #[.slice Ao16 t364.length co16, .slice A0_1 l0_1.length c0_1]) ?_ 1 _ rfl; (with_reducible repeat first | apply bN | apply bD | apply bA); refine blk_put (cs := #[.slice A0_0 l0_0.length c0_0, .slice A0_1 l0_1.length c0_1]) ?_ 0 _ rfl; (with_reducible repeat first | apply bN | apply bD | apply bA); exact BK360.out) hb); have n3_ := Aside0.mk (blk_below (g := gb361) (o := .cells #[.bool a1_0, .int .i64 a1_1, .int .i64 a1_2, .bool a1_3, .int .i64 a1_4, .int .i64 a1_5] 46 (0, 0)) (by (with_reducible repeat first | apply bN | apply bD | apply bA); refine blk_far ?_ NB361_360.out _; (with_reducible repeat first | apply bN | apply bD | apply bA); refine blk_far ?_ NB361_360.out _; (with_reducible repeat first | apply bN | apply bD | apply bA); exact BK361.out) hb); have n4_ := Aside0.mk (blk_below (g := gb362) (o := .cells #[.slice none 0 0, .slice none 0 0] 51 (0, 0)) (by (with_reducible repeat first | apply bN | apply bD | apply bA); refine blk_far ?_ NB362_360.out _; (with_reducible repeat first | apply bN | apply bD | apply bA); refine blk_far ?_ NB362_360.out _; (with_reducible repeat first | apply bN | apply bD | apply bA); exact BK362.out) hb); have n5_ := Aside0.mk (below_step (by repeat (first | (with_reducible first | exact HB.out | apply eA | apply eN | apply eD | refine below_set ?_ GE360.out | refine below_set ?_ GE361.out | refine below_set ?_ GE362.out) | exact HB.out)) hb); clear HO366 HO369; clear BK360 BK361; clear BK362 HB; have HO366 := n0_; have HO369 := n1_; have BK360 := n2_; have BK361 := n3_; have BK362 := n4_; have HB := n5_; clear n0_ n1_ n2_ n3_ n4_ n5_; (try clear hb); (try clear hb2); (try clear hk); (try clear hi); have hcz25_0 : w24.cell? ⟨gb361, 0, none⟩ = some (.bool a1_0) := (blk_cell BK361.out 0).trans rfl; have hcz25_1 : w24.cell? ⟨gb361, 1, none⟩ = some (.int .i64 a1_1) := (blk_cell BK361.out 1).trans rfl; have hcz25_2 : w24.cell? ⟨gb361, 2, none⟩ = some (.int .i64 a1_2) := (blk_cell BK361.out 2).trans rfl; have hcz25_3 : w24.cell? ⟨gb361, 3, none⟩ = some (.bool a1_3) := (blk_cell BK361.out 3).trans rfl; have hcz25_4 : w24.cell? ⟨gb361, 4, none⟩ = some (.int .i64 a1_4) := (blk_cell BK361.out 4).trans rfl; have hcz25_5 : w24.cell? ⟨gb361, 5, none⟩ = some (.int .i64 a1_5) := (blk_cell BK361.out 5).trans rfl; have hfz25_0 := blk_frozen BK361.out 0; have hfz25_1 := blk_frozen BK361.out 1; have hfz25_2 := blk_frozen BK361.out 2; have hfz25_3 := blk_frozen BK361.out 3; have hfz25_4 := blk_frozen BK361.out 4; have hfz25_5 := blk_frozen BK361.out 5))
    go_meet
    case rel => exact ⟨_, ((a1_4 != 0)), (by first | rfl | (simp; done) | (simp [*]; done)), H', ⟨by first | omega | exact Nat.le_refl _⟩, ⟨by (with_reducible repeat first | apply Kd.R_alloc | apply Kd.R_drewN | apply Kd.R_drew); exact Kd.R_mono HO366.out (fun _ hk => hk.2)⟩, ⟨by (with_reducible repeat first | apply Kd.R_alloc | apply Kd.R_drewN | apply Kd.R_drew); exact HO369.out⟩, ⟨by (with_reducible repeat first | apply bN | apply bD | apply bA); exact BK360.out⟩, ⟨by (with_reducible repeat first | apply bN | apply bD | apply bA); exact BK361.out⟩, ⟨by (with_reducible repeat first | apply bN | apply bD | apply bA); exact BK362.out⟩, ⟨by repeat (first | (with_reducible first | exact HB.out | apply eA | apply eN | apply eD | refine below_set ?_ GE360.out | refine below_set ?_ GE361.out | refine below_set ?_ GE362.out) | exact HB.out)⟩⟩
   ·replace c20 := Bool.eq_false_iff.mpr c20
    subst c20
    have H1 : (spec_NewHandle.j0 k true t364 t367 a1_0 a1_1 a1_2 a1_3 a1_4 a1_5) = some (r1, r2, r3, r4) := by rw [if_neg (show ¬ (false = true) by decide)] at H; first | done | exact H
    clear H
    have H := H1
    clear H1
    have H' := Aside0.mk H
    clear H
    have hnb26 := NB361_360.out
    have hnc26 := NB360_361.out
    have hnb27 := NB361_362.out
    have hnc27 := NB362_361.out
    have hcz28_0 : w15.cell? ⟨gb361, 0, none⟩ = some (.bool a1_0) := (blk_cell BK361.out 0).trans rfl
    have hcz28_1 : w15.cell? ⟨gb361, 1, none⟩ = some (.int .i64 a1_1) := (blk_cell BK361.out 1).trans rfl
    have hcz28_2 : w15.cell? ⟨gb361, 2, none⟩ = some (.int .i64 a1_2) := (blk_cell BK361.out 2).trans rfl
    have hcz28_3 : w15.cell? ⟨gb361, 3, none⟩ = some (.bool a1_3) := (blk_cell BK361.out 3).trans rfl
    have hcz28_4 : w15.cell? ⟨gb361, 4, none⟩ = some (.int .i64 a1_4) := (blk_cell BK361.out 4).trans rfl
    have hcz28_5 : w15.cell? ⟨gb361, 5, none⟩ = some (.int .i64 a1_5) := (blk_cell BK361.out 5).trans rfl
    have hfz28_0 := blk_frozen BK361.out 0
    have hfz28_1 := blk_frozen BK361.out 1
    have hfz28_2 := blk_frozen BK361.out 2
    have hfz28_3 := blk_frozen BK361.out 3
    have hfz28_4 := blk_frozen BK361.out 4
    have hfz28_5 := blk_frozen BK361.out 5
    go_wp2_with (first | ((with_reducible refine gate_callee (f := 78) rfl ?_); refine goesL_ (some 16) rfl rfl Try.func78 (by kernel_rfl) rfl #[.agg #[.bool a1_0, .int .i64 a1_1, .int .i64 a1_2, .bool a1_3, .int .i64 a1_4, .int .i64 a1_5]] rfl (by (try simp only [List.map_toArray, List.map_cons, List.map_nil]); first | done | rfl | (simp only [List.length_drop, List.length_take]; rfl)) ?_; (with_reducible refine (spec_l15Handle.calls a1_0 a1_1 a1_2 a1_3 a1_4 a1_5 false _ A19.out).mono ?_); rintro e w29 ⟨rfl, hb⟩; refine ⟨_, rfl, ?_⟩; have n0_ := Aside0.mk (Kd.R_below (by (with_reducible repeat first | apply Kd.R_alloc | apply Kd.R_drewN | apply Kd.R_drew); exact (Kd.R_mono (Kd.R_far (p := ⟨gb360, 1, none⟩) (Kd.R_far (p := ⟨gb360, 0, none⟩) (Kd.R_types HO366.out BK360.out (by decide)) (fun _ hk => hk.2) (.slice Ao16 t364.length co16)) (fun _ hk => hk.2) (.slice Ao18 t367.length co18)) (fun _ h_ => h_.1))) hb); have n1_ := Aside0.mk (Kd.R_below (by (with_reducible repeat first | apply Kd.R_alloc | apply Kd.R_drewN | apply Kd.R_drew); exact (Kd.R_mono (Kd.R_far (p := ⟨gb360, 1, none⟩) (Kd.R_far (p := ⟨gb360, 0, none⟩) (Kd.R_types HO369.out BK360.out (by decide)) (fun _ hk => hk.2) (.slice Ao16 t364.length co16)) (fun _ hk => hk.2) (.slice Ao18 t367.length co18)) (fun _ h_ => h_.1))) hb); have n2_ := Aside0.mk (blk_below (g := gb360) (o := .cells #[.slice Ao16 t364.length co16, .slice Ao18 t367.length co18] 51 (0, 0)) (by (with_reducible repeat first | apply bN | apply bD | apply bA); refine blk_put (cs := #[.slice Ao16 t364.length co16, .slice A0_1 l0_1.length c0_1]) ?_ 1 _ rfl; (with_reducible repeat first | apply bN | apply bD | apply bA); refine blk_put (cs := #[.slice A0_0 l0_0.length c0_0, .slice A0_1 l0_1.length c0_1]) ?_ 0 _ rfl; (with_reducible repeat first | apply bN | apply bD | apply bA); exact BK360.out) hb); have n3_ := Aside0.mk (blk_below (g := gb361) (o := .cells #[.bool a1_0, .int .i64 a1_1, .int .i64 a1_2, .bool a1_3, .int .i64 a1_4, .int .i64 a1_5] 46 (0, 0)) (by (with_reducible repeat first | apply bN | apply bD | apply bA); refine blk_far ?_ NB361_360.out _; (with_reducible repeat first | apply bN | apply bD | apply bA); refine blk_far ?_ NB361_360.out _; (with_reducible repeat first | apply bN | apply bD | apply bA); exact BK361.out) hb); have n4_ := Aside0.mk (blk_below (g := gb362) (o := .cells #[.slice none 0 0, .slice none 0 0] 51 (0, 0)) (by (with_reducible repeat first | apply bN | apply bD | apply bA); refine blk_far ?_ NB362_360.out _; (with_reducible repeat first | apply bN | apply bD | apply bA); refine blk_far ?_ NB362_360.out _; (with_reducible repeat first | apply bN | apply bD | apply bA); exact BK362.out) hb); have n5_ := Aside0.mk (below_step (by repeat (first | (with_reducible first | exact HB.out | apply eA | apply eN | apply eD | refine below_set ?_ GE360.out | refine below_set ?_ GE361.out | refine below_set ?_ GE362.out) | exact HB.out)) hb); clear HO366 HO369; clear BK360 BK361; clear BK362 HB; have HO366 := n0_; have HO369 := n1_; have BK360 := n2_; have BK361 := n3_; have BK362 := n4_; have HB := n5_; clear n0_ n1_ n2_ n3_ n4_ n5_; (try clear hb); (try clear hb2); (try clear hk); (try clear hi)))
    go_meet
    case rel => exact ⟨_, (true), (by first | rfl | (simp; done) | (simp [*]; done)), H', ⟨by first | omega | exact Nat.le_refl _⟩, ⟨by (with_reducible repeat first | apply Kd.R_alloc | apply Kd.R_drewN | apply Kd.R_drew); exact Kd.R_mono HO366.out (fun _ hk => hk.2)⟩, ⟨by (with_reducible repeat first | apply Kd.R_alloc | apply Kd.R_drewN | apply Kd.R_drew); exact HO369.out⟩, ⟨by (with_reducible repeat first | apply bN | apply bD | apply bA); exact BK360.out⟩, ⟨by (with_reducible repeat first | apply bN | apply bD | apply bA); exact BK361.out⟩, ⟨by (with_reducible repeat first | apply bN | apply bD | apply bA); exact BK362.out⟩, ⟨by repeat (first | (with_reducible first | exact HB.out | apply eA | apply eN | apply eD | refine below_set ?_ GE360.out | refine below_set ?_ GE361.out | refine below_set ?_ GE362.out) | exact HB.out)⟩⟩
  case rest =>
   clear HC6
   try clear c1
   try clear c2
   try clear p2
   try clear c3
   try clear c4
   try clear c6
   try clear c7
   try clear c10
   try clear c11
   try clear c20
   try clear c21
   try clear c22
   try clear c26
   try clear c27
   try clear hcz12_0
   try clear hcz12_1
   try clear hcz14_0
   try clear hcz14_1
   try clear hcz17_0
   try clear hcz17_1
   try clear hcz23_0
   try clear hcz23_1
   try clear hcz23_2
   try clear hcz23_3
   try clear hcz23_4
   try clear hcz23_5
   try clear hcz25_0
   try clear hcz25_1
   try clear hcz25_2
   try clear hcz25_3
   try clear hcz25_4
   try clear hcz25_5
   try clear hcz28_0
   try clear hcz28_1
   try clear hcz28_2
   try clear hcz28_3
   try clear hcz28_4
   try clear hcz28_5
   try clear hfz12_0
   try clear hfz12_1
   try clear hfz14_0
   try clear hfz14_1
   try clear hfz17_0
   try clear hfz17_1
   try clear hfz23_0
   try clear hfz23_1
   try clear hfz23_2
   try clear hfz23_3
   try clear hfz23_4
   try clear hfz23_5
   try clear hfz25_0
   try clear hfz25_1
   try clear hfz25_2
   try clear hfz25_3
   try clear hfz25_4
   try clear hfz25_5
   try clear hfz28_0
   try clear hfz28_1
   try clear hfz28_2
   try clear hfz28_3
   try clear hfz28_4
   try clear hfz28_5
   obtain ⟨kq, x22_5, rfl, HA, HJ5, HO_361000, HO_361001, BK360, BK361, BK362, HB⟩ := hcut
   cases kq with
   | zero => exact absurd HA.out (by simp [spec_NewHandle.j0])
   | succ kj5 =>
    have H := HA.out
    clear HA
    simp only [spec_NewHandle.j0] at H
    by_cases c30 : x22_5 = true
    ·subst c30
     have H1 : (some (t364, t367, 0, 1)) = some (r1, r2, r3, r4) := by rw [if_pos rfl] at H; first | done | exact H
     clear H
     have H := H1
     clear H1
     simp only [Option.some.injEq, Prod.mk.injEq] at H
     obtain ⟨rfl, rfl, rfl, rfl⟩ := H
     have hnb31 := NB360_361.out
     have hnc31 := NB361_360.out
     have hnb32 := NB360_362.out
     have hnc32 := NB362_360.out
     have hcz33_0 : wc.cell? ⟨gb360, 0, none⟩ = some (.slice Ao16 t364.length co16) := (blk_cell BK360.out 0).trans rfl
     have hcz33_1 : wc.cell? ⟨gb360, 1, none⟩ = some (.slice Ao18 t367.length co18) := (blk_cell BK360.out 1).trans rfl
     have hfz33_0 := blk_frozen BK360.out 0
     have hfz33_1 := blk_frozen BK360.out 1
     have hnb34 := NB362_361.out
     have hnc34 := NB361_362.out
     have hcz35_0 : wc.cell? ⟨gb362, 0, none⟩ = some (.slice none 0 0) := (blk_cell BK362.out 0).trans rfl
     have hcz35_1 : wc.cell? ⟨gb362, 1, none⟩ = some (.slice none 0 0) := (blk_cell BK362.out 1).trans rfl
     have hfz35_0 := blk_frozen BK362.out 0
     have hfz35_1 := blk_frozen BK362.out 1
     go_wp2
     refine bodyPost_ret (results_ctt rfl _ _ gb362 51 #[.slice Ao16 t364.length co16, .slice Ao18 t367.length co18] (0, 0) _ rfl (by (with_reducible repeat first | apply bN | apply bD | apply bA); refine blk_put (cs := #[.slice Ao16 t364.length co16, .slice none 0 0]) ?_ 1 _ rfl; (with_reducible repeat first | apply bN | apply bD | apply bA); refine blk_put (cs := #[.slice none 0 0, .slice none 0 0]) ?_ 0 _ rfl; (with_reducible repeat first | apply bN | apply bD | apply bA); exact BK362.out) Try.underlying51 rfl (by kernel_rfl)) rfl ?_
     exact ⟨_, _, by first | rfl | (simp [errW_none, errW_some] <;> rfl) | (simp [*, errW_none, errW_some] <;> rfl), by (with_reducible repeat first | apply Kd.R_alloc | apply Kd.R_drewN | apply Kd.R_drew); exact Kd.R_mono (Kd.R_far (p := ⟨gb362, 1, none⟩) (Kd.R_far (p := ⟨gb362, 0, none⟩) (Kd.R_types HO_361000.out BK362.out (by decide)) (fun _ hk => hk.2) (.slice Ao16 t364.length co16)) (fun _ hk => hk.2) (.slice Ao18 t367.length co18)) (fun _ hk => trivial), by (with_reducible repeat first | apply Kd.R_alloc | apply Kd.R_drewN | apply Kd.R_drew); exact Kd.R_mono (Kd.R_far (p := ⟨gb362, 1, none⟩) (Kd.R_far (p := ⟨gb362, 0, none⟩) (Kd.R_types HO_361001.out BK362.out (by decide)) (fun _ hk => hk.2) (.slice Ao16 t364.length co16)) (fun _ hk => hk.2) (.slice Ao18 t367.length co18)) (fun _ hk => trivial), by repeat (first | (with_reducible first | exact HB.out | apply eA | apply eN | apply eD | refine below_set ?_ GE360.out | refine below_set ?_ GE361.out | refine below_set ?_ GE362.out) | exact HB.out)⟩
    ·replace c30 := Bool.eq_false_iff.mpr c30
     subst c30
     have H1 : (if (t367.length : Int) > 0 then (if 0 ≤ (wrap64 ((t367.length : Int) - 1)) then (if (wrap64 ((t367.length : Int) - 1)) < (t367.length : Int) then (if (wrap64 ((t367.length : Int) - 1)) ≤ (t367.length : Int) then (if 0 ≤ (rd t367 (wrap64 ((t367.length : Int) - 1))) then (if (rd t367 (wrap64 ((t367.length : Int) - 1))) < (t364.length : Int) then (some ((t364.set ((rd t367 (wrap64 ((t367.length : Int) - 1))) : Int).toNat (⟨a1_0, a1_1, a1_2, a1_3, a1_4, a1_5⟩ : S46)), (t367.take ((wrap64 ((t367.length : Int) - 1)) : Int).toNat), rd t367 (wrap64 ((t367.length : Int) - 1)), 0)) else (none)) else (none)) else (none)) else (none)) else (none)) else (if (t364.length : Int) = 40 then (some (t364, t367, 0, 5)) else (if t364.length < 2932031007402 then ((some (t364 ++ [(⟨a1_0, a1_1, a1_2, a1_3, a1_4, a1_5⟩ : S46)] : List (S46))).bind fun y376 => (some (y376, t367, wrap64 ((y376.length : Int) - 1), 0))) else (none)))) = some (r1, r2, r3, r4) := by rw [if_neg (show ¬ (false = true) by decide)] at H; first | done | exact H
     clear H
     have H := H1
     clear H1
     by_cases c36 : (t367.length : Int) > 0
     ·rw [if_pos c36] at H
      have c36b0 : decide (0 < (t367.length : Int)) = true := decide_eq_true c36
      have c36b1 : decide (0 < t367.length) = true := decide_eq_true (by omega)
      clear c36
      obtain ⟨ji37, hji37⟩ : ∃ j_ : Int, (wrap64 ((t367.length : Int) - 1)) = j_ := ⟨_, rfl⟩
      replace H : (if 0 ≤ (ji37) then (if (ji37) < (t367.length : Int) then (if (ji37) ≤ (t367.length : Int) then (if 0 ≤ (rd t367 (ji37)) then (if (rd t367 (ji37)) < (t364.length : Int) then (some ((t364.set ((rd t367 (ji37)) : Int).toNat (⟨a1_0, a1_1, a1_2, a1_3, a1_4, a1_5⟩ : S46)), (t367.take ((ji37) : Int).toNat), rd t367 (ji37), 0)) else (none)) else (none)) else (none)) else (none)) else (none)) = some (r1, r2, r3, r4) := by first | (rw [hji37] at H; exact H) | (simp only [hji37] at H ⊢; exact H)
      have hji37w : (IntKind.i64.wrap ((t367.length : Int) - 1)) = ji37 := (i64_w _).trans hji37
      by_cases c38 : 0 ≤ (ji37)
      ·rw [if_pos c38] at H
       have c38b0 : decide (0 ≤ (ji37)) = true := decide_eq_true c38
       clear c38
       by_cases c39 : (ji37) < (t367.length : Int)
       ·rw [if_pos c39] at H
        have c39b0 : decide ((ji37) < (t367.length : Int)) = true := decide_eq_true c39
        clear c39
        by_cases c40 : (ji37) ≤ (t367.length : Int)
        ·rw [if_pos c40] at H
         have c40b0 := eq_true c40
         have c40b1 : decide ((ji37) ≤ (t367.length : Int)) = true := decide_eq_true c40
         clear c40
         obtain ⟨y372, hy372⟩ : ∃ y_ : List Int, y_ = (t367.take ((ji37) : Int).toNat) := ⟨_, rfl⟩
         replace H : (if 0 ≤ (rd t367 (ji37)) then (if (rd t367 (ji37)) < (t364.length : Int) then (some ((t364.set ((rd t367 (ji37)) : Int).toNat (⟨a1_0, a1_1, a1_2, a1_3, a1_4, a1_5⟩ : S46)), y372, rd t367 (ji37), 0)) else (none)) else (none)) = some (r1, r2, r3, r4) := by first | (rw [hy372]; with_reducible exact H) | (have H2_ := (Option.bind_some _ _).symm.trans H; rw [hy372]; with_reducible exact H2_) | (have H2_ := (Option.bind_some _ _).symm.trans H; with_reducible exact H2_) | with_reducible exact H | (rw [hy372]; exact H) | exact H
         have Ny372 := Aside0.mk hy372
         clear hy372
         by_cases c41 : 0 ≤ (rd t367 (ji37))
         ·rw [if_pos c41] at H
          have c41b0 : decide (0 ≤ (rd t367 (ji37))) = true := decide_eq_true c41
          clear c41
          by_cases c42 : (rd t367 (ji37)) < (t364.length : Int)
          ·rw [if_pos c42] at H
           have c42b0 : decide ((rd t367 (ji37)) < (t364.length : Int)) = true := decide_eq_true c42
           clear c42
           obtain ⟨y375, hy375⟩ : ∃ y_ : List (S46), y_ = (t364.set ((rd t367 (ji37)) : Int).toNat (⟨a1_0, a1_1, a1_2, a1_3, a1_4, a1_5⟩ : S46)) := ⟨_, rfl⟩
           replace H : (some (y375, y372, rd t367 (ji37), 0)) = some (r1, r2, r3, r4) := by first | (rw [hy375]; with_reducible exact H) | (have H2_ := (Option.bind_some _ _).symm.trans H; rw [hy375]; with_reducible exact H2_) | (have H2_ := (Option.bind_some _ _).symm.trans H; with_reducible exact H2_) | with_reducible exact H | (rw [hy375]; exact H) | exact H
           have Ny375 := Aside0.mk hy375
           clear hy375
           simp only [Option.some.injEq, Prod.mk.injEq] at H
           obtain ⟨rfl, rfl, rfl, rfl⟩ := H
           have hnb44 := NB360_361.out
           have hnc44 := NB361_360.out
           have hnb45 := NB360_362.out
           have hnc45 := NB362_360.out
           have hcz46_0 : wc.cell? ⟨gb360, 0, none⟩ = some (.slice Ao16 t364.length co16) := (blk_cell BK360.out 0).trans rfl
           have hcz46_1 : wc.cell? ⟨gb360, 1, none⟩ = some (.slice Ao18 t367.length co18) := (blk_cell BK360.out 1).trans rfl
           have hfz46_0 := blk_frozen BK360.out 0
           have hfz46_1 := blk_frozen BK360.out 1
           have p371 : 0 ≤ ((ji37) : Int) := of_decide_eq_true (by first | (with_reducible assumption) | assumption)
           have q371 : (ji37) < (t367.length : Int) := of_decide_eq_true (by first | (with_reducible assumption) | assumption)
           obtain ⟨ad371, e371, hx371_0⟩ := Kd.at_int (Kd.R_reads' HO_361001.out).2.2 (ji37) p371 q371
           cases e371
           replace p371 := eq_true p371
           replace q371 := eq_true q371
           have q47 : ((ji37) : Int) ≤ ((t367.length : Int) : Int) := of_decide_eq_true (by first | (with_reducible assumption) | assumption)
           obtain ⟨i047, hi047, _, hsz47, _⟩ := info_parts info3
           have hcut47 := cut_to (P := Try.prog) 41 3 .i64 Try.underlying41 hi047 (some ad371) t367.length co18 (ji37) (of_decide_eq_true (by first | (with_reducible assumption) | assumption)) q47 (Kd.R_reads' HO_361001.out).2.1
           have hr47 := Kd.R_take (m := ((ji37) : Int).toNat) HO_361001.out (by omega)
           have hy47 : y372.length = ((ji37) : Int).toNat := (by rw [Ny372.out, List.length_take]; omega)
           rw [← Ny372.out] at hr47
           rw [← hy47] at hr47 hcut47
           clear hy47 hi047 hsz47 HO_361001
           have HO374 := Aside0.mk hr47
           clear hr47
           replace q47 := eq_true q47
           go_wp2_with (first | ((with_reducible refine gate_store (t := 41) (p := 40) rfl ?_); refine store_event (t := 41) (p := 40) (v := ?vo_w48) (w1 := (wc.setCell ⟨gb360, 1, none⟩ (.slice (some ad371) y372.length co18))) ?hg ?ho ?hn ?hr ?_; (case ho => rfl); (case hg => rfl); (case hn => rfl); (case hr => first | (go_simp; done) | (go_simp; rfl)); intro w48 hw; have n0_ : Aside0 (Kd.R k46 46 w48 w.heap.size (fun k_ => k_ ≠ gb361) (.slice Ao16 t364.length co16) t364) := ⟨(by rw [hw]; exact (by (with_reducible repeat first | apply Kd.R_alloc | apply Kd.R_drewN | apply Kd.R_drew); exact Kd.R_mono (Kd.R_far (p := ⟨gb360, 1, none⟩) (Kd.R_types HO_361000.out BK360.out (by decide)) (fun _ hk => hk.2) (.slice (some ad371) y372.length co18)) (fun _ hk => hk.1)))⟩; have n1_ : Aside0 (Kd.R (Kd.int .i64) 3 w48 w.heap.size (fun _ => True) (.slice (some ad371) y372.length co18) y372) := ⟨(by rw [hw]; exact (by (with_reducible repeat first | apply Kd.R_alloc | apply Kd.R_drewN | apply Kd.R_drew); exact Kd.R_mono (Kd.R_far (p := ⟨gb360, 1, none⟩) (Kd.R_types HO374.out BK360.out (by decide)) (fun _ hk => hk.2) (.slice (some ad371) y372.length co18)) (fun _ hk => trivial)))⟩; have n2_ : Aside0 (w48.heap[gb360]? = some (.cells #[.slice Ao16 t364.length co16, .slice (some ad371) y372.length co18] 51 (0, 0))) := ⟨(by rw [hw]; exact (by (with_reducible repeat first | apply bN | apply bD | apply bA); refine blk_put (cs := #[.slice Ao16 t364.length co16, .slice (some ad371) t367.length co18]) ?_ 1 _ rfl; (with_reducible repeat first | apply bN | apply bD | apply bA); exact BK360.out))⟩; have n3_ : Aside0 (w48.heap[gb361]? = some (.cells #[.bool a1_0, .int .i64 a1_1, .int .i64 a1_2, .bool a1_3, .int .i64 a1_4, .int .i64 a1_5] 46 (0, 0))) := ⟨(by rw [hw]; exact (by (with_reducible repeat first | apply bN | apply bD | apply bA); refine blk_far ?_ NB361_360.out _; (with_reducible repeat first | apply bN | apply bD | apply bA); exact BK361.out))⟩; have n4_ : Aside0 (w48.heap[gb362]? = some (.cells #[.slice none 0 0, .slice none 0 0] 51 (0, 0))) := ⟨(by rw [hw]; exact (by (with_reducible repeat first | apply bN | apply bD | apply bA); refine blk_far ?_ NB362_360.out _; (with_reducible repeat first | apply bN | apply bD | apply bA); exact BK362.out))⟩; have n5_ : Aside0 (Below w.heap.size w w48) := ⟨(by rw [hw]; exact (by repeat (first | (with_reducible first | exact HB.out | apply eA | apply eN | apply eD | refine below_set ?_ GE360.out | refine below_set ?_ GE361.out | refine below_set ?_ GE362.out) | exact HB.out)))⟩; clear hw HO_361000; clear HO374 BK360; clear BK361 BK362 HB; have HO_361000 := n0_; have HO374 := n1_; have BK360 := n2_; have BK361 := n3_; have BK362 := n4_; have HB := n5_; clear n0_ n1_ n2_ n3_ n4_ n5_; have hcz49_0 : w48.cell? ⟨gb360, 0, none⟩ = some (.slice Ao16 t364.length co16) := (blk_cell BK360.out 0).trans rfl; have hcz49_1 : w48.cell? ⟨gb360, 1, none⟩ = some (.slice (some ad371) y372.length co18) := (blk_cell BK360.out 1).trans rfl; have hfz49_0 := blk_frozen BK360.out 0; have hfz49_1 := blk_frozen BK360.out 1; have hnb50 := NB361_362.out; have hnc50 := NB362_361.out; have hcz51_0 : w48.cell? ⟨gb361, 0, none⟩ = some (.bool a1_0) := (blk_cell BK361.out 0).trans rfl; have hcz51_1 : w48.cell? ⟨gb361, 1, none⟩ = some (.int .i64 a1_1) := (blk_cell BK361.out 1).trans rfl; have hcz51_2 : w48.cell? ⟨gb361, 2, none⟩ = some (.int .i64 a1_2) := (blk_cell BK361.out 2).trans rfl; have hcz51_3 : w48.cell? ⟨gb361, 3, none⟩ = some (.bool a1_3) := (blk_cell BK361.out 3).trans rfl; have hcz51_4 : w48.cell? ⟨gb361, 4, none⟩ = some (.int .i64 a1_4) := (blk_cell BK361.out 4).trans rfl; have hcz51_5 : w48.cell? ⟨gb361, 5, none⟩ = some (.int .i64 a1_5) := (blk_cell BK361.out 5).trans rfl; have hfz51_0 := blk_frozen BK361.out 0; have hfz51_1 := blk_frozen BK361.out 1; have hfz51_2 := blk_frozen BK361.out 2; have hfz51_3 := blk_frozen BK361.out 3; have hfz51_4 := blk_frozen BK361.out 4; have hfz51_5 := blk_frozen BK361.out 5; have p43 : 0 ≤ ((rd t367 (ji37)) : Int) := of_decide_eq_true (by first | (with_reducible assumption) | assumption); have q43 : ((rd t367 (ji37)) : Int) < ((t364.length : Int) : Int) := of_decide_eq_true (by first | (with_reducible assumption) | assumption); obtain ⟨go43, co43, eo43, gb43, gl43, cl43, HG43⟩ := Kd.R_form HO_361000.out (by omega); (first | cases eo43 | (injection eo43 with ea_ en_ ec_; (first | subst ea_ | (injection ea_ with ea_; subst ea_)); subst ec_; clear en_)); have GB43 := Aside0.mk gb43; have GG43 := Aside0.mk HG43; clear gb43 gl43 HG43; obtain ⟨ce43, hcl43, hM43, hcc43, hfr43⟩ := Kd.R_elem HO_361000.out z46 ((rd t367 (ji37)) : Int) p43 q43; obtain rfl := k46_openM hM43; have hx43_0 : w48.cell? ⟨go43, ((rd t367 (ji37)) : Int).toNat * 6, none⟩ = some (.bool ((rd_T46 t364 (rd t367 (ji37))).f0)) := hcc43 0 _ rfl; have hx43_1 : w48.cell? ⟨go43, ((rd t367 (ji37)) : Int).toNat * 6 + 1, none⟩ = some (.int .i64 ((rd_T46 t364 (rd t367 (ji37))).f1)) := hcc43 1 _ rfl; have hx43_2 : w48.cell? ⟨go43, ((rd t367 (ji37)) : Int).toNat * 6 + 2, none⟩ = some (.int .i64 ((rd_T46 t364 (rd t367 (ji37))).f2)) := hcc43 2 _ rfl; have hx43_3 : w48.cell? ⟨go43, ((rd t367 (ji37)) : Int).toNat * 6 + 3, none⟩ = some (.bool ((rd_T46 t364 (rd t367 (ji37))).f3)) := hcc43 3 _ rfl; have hx43_4 : w48.cell? ⟨go43, ((rd t367 (ji37)) : Int).toNat * 6 + 4, none⟩ = some (.int .i64 ((rd_T46 t364 (rd t367 (ji37))).f4)) := hcc43 4 _ rfl; have hx43_5 : w48.cell? ⟨go43, ((rd t367 (ji37)) : Int).toNat * 6 + 5, none⟩ = some (.int .i64 ((rd_T46 t364 (rd t367 (ji37))).f5)) := hcc43 5 _ rfl; have hf43_0 : w48.frozen? ⟨go43, ((rd t367 (ji37)) : Int).toNat * 6, none⟩ = false := hfr43 0; have hf43_1 : w48.frozen? ⟨go43, ((rd t367 (ji37)) : Int).toNat * 6 + 1, none⟩ = false := hfr43 1; have hf43_2 : w48.frozen? ⟨go43, ((rd t367 (ji37)) : Int).toNat * 6 + 2, none⟩ = false := hfr43 2; have hf43_3 : w48.frozen? ⟨go43, ((rd t367 (ji37)) : Int).toNat * 6 + 3, none⟩ = false := hfr43 3; have hf43_4 : w48.frozen? ⟨go43, ((rd t367 (ji37)) : Int).toNat * 6 + 4, none⟩ = false := hfr43 4; have hf43_5 : w48.frozen? ⟨go43, ((rd t367 (ji37)) : Int).toNat * 6 + 5, none⟩ = false := hfr43 5; clear hcl43 hcc43 hfr43 hM43; replace p43 := eq_true p43; replace q43 := eq_true q43; have HX52 := Aside0.mk (show Kd.R k46 46 w48 w.heap.size (fun k_ => k_ ≠ gb361) (.slice (some ⟨go43, 0, none⟩) t364.length co16) t364 from (by (with_reducible repeat first | apply Kd.R_alloc | apply Kd.R_drewN | apply Kd.R_drew); exact HO_361000.out)); obtain ⟨ce52, hcl52, hM52, hcc52, hfr52⟩ := Kd.R_elem HX52.out z46 ((rd t367 (ji37)) : Int) (of_decide_eq_true (by first | (with_reducible assumption) | assumption)) (by have h_ : ((rd t367 (ji37)) : Int) < ((t364.length : Int) : Int) := of_decide_eq_true (by first | (with_reducible assumption) | assumption); first | exact h_ | (have e_ := (Kd.R_reads' HO_361000.out).1; omega) | simpa using h_); obtain rfl := k46_openM hM52; have HP52 := Kd.R_seg HX52.out ((rd t367 (ji37)) : Int) (of_decide_eq_true (by first | (with_reducible assumption) | assumption)) (by have h_ : ((rd t367 (ji37)) : Int) < ((t364.length : Int) : Int) := of_decide_eq_true (by first | (with_reducible assumption) | assumption); first | exact h_ | (have e_ := (Kd.R_reads' HO_361000.out).1; omega) | simpa using h_) (seg := [.bool a1_0, .int .i64 a1_1, .int .i64 a1_2, .bool a1_3, .int .i64 a1_4, .int .i64 a1_5]) (j := 0) hcl52 hcc52 (show 6 ≤ 6 from by decide) (x' := (⟨a1_0, a1_1, a1_2, a1_3, a1_4, a1_5⟩ : S46)) (k46_mkM _ _ _ (⟨a1_0, a1_1, a1_2, a1_3, a1_4, a1_5⟩ : S46) ) (fun _ hk => hk); have hx52_0 := hcc52 0 _ rfl; (try simp only [show (k46).sz = 6 from rfl, Nat.mul_one, Nat.add_zero] at hx52_0); have hf52_0 := hfr52 0; (try simp only [show (k46).sz = 6 from rfl, Nat.mul_one, Nat.add_zero] at hf52_0); have hx52_1 := hcc52 1 _ rfl; (try simp only [show (k46).sz = 6 from rfl, Nat.mul_one, Nat.add_zero] at hx52_1); have hf52_1 := hfr52 1; (try simp only [show (k46).sz = 6 from rfl, Nat.mul_one, Nat.add_zero] at hf52_1); have hx52_2 := hcc52 2 _ rfl; (try simp only [show (k46).sz = 6 from rfl, Nat.mul_one, Nat.add_zero] at hx52_2); have hf52_2 := hfr52 2; (try simp only [show (k46).sz = 6 from rfl, Nat.mul_one, Nat.add_zero] at hf52_2); have hx52_3 := hcc52 3 _ rfl; (try simp only [show (k46).sz = 6 from rfl, Nat.mul_one, Nat.add_zero] at hx52_3); have hf52_3 := hfr52 3; (try simp only [show (k46).sz = 6 from rfl, Nat.mul_one, Nat.add_zero] at hf52_3); have hx52_4 := hcc52 4 _ rfl; (try simp only [show (k46).sz = 6 from rfl, Nat.mul_one, Nat.add_zero] at hx52_4); have hf52_4 := hfr52 4; (try simp only [show (k46).sz = 6 from rfl, Nat.mul_one, Nat.add_zero] at hf52_4); have hx52_5 := hcc52 5 _ rfl; (try simp only [show (k46).sz = 6 from rfl, Nat.mul_one, Nat.add_zero] at hx52_5); have hf52_5 := hfr52 5; (try simp only [show (k46).sz = 6 from rfl, Nat.mul_one, Nat.add_zero] at hf52_5); clear hcl52 hcc52 hfr52 hM52) | ((with_reducible refine gate_store (t := 46) (p := 45) rfl ?_); refine store_event (t := 46) (p := 45) (v := ?vo_w53) (w1 := ((((((w48.setCell ⟨go43, ((rd t367 (ji37)) : Int).toNat * 6, none⟩ (.bool a1_0)).setCell ⟨go43, ((rd t367 (ji37)) : Int).toNat * 6 + 1, none⟩ (.int .i64 a1_1)).setCell ⟨go43, ((rd t367 (ji37)) : Int).toNat * 6 + 2, none⟩ (.int .i64 a1_2)).setCell ⟨go43, ((rd t367 (ji37)) : Int).toNat * 6 + 3, none⟩ (.bool a1_3)).setCell ⟨go43, ((rd t367 (ji37)) : Int).toNat * 6 + 4, none⟩ (.int .i64 a1_4)).setCell ⟨go43, ((rd t367 (ji37)) : Int).toNat * 6 + 5, none⟩ (.int .i64 a1_5))) ?hg ?ho ?hn ?hr ?_; (case ho => rfl); (case hg => rfl); (case hn => rfl); (case hr => first | (go_simp; done) | (go_simp; rfl)); intro w53 hw; have hg : w48.grownBy w53 (some go43) := (by rw [hw]; exact HP52.2); have hp_ : Kd.R k46 46 w53 w.heap.size (fun k_ => k_ ≠ gb361) (.slice (some ⟨go43, 0, none⟩) t364.length co16) y375 := (by rw [hw, Ny375.out]; exact HP52.1); clear HP52; have n0_ := Aside0.mk (hp_); have n1_ := Aside0.mk (Kd.R_over' (v := (.slice (some ⟨go43, 0, none⟩) t364.length co16)) (by (with_reducible repeat first | apply Kd.R_alloc | apply Kd.R_drewN | apply Kd.R_drew); exact HO374.out) (Kd.R_typed HO_361000.out) (by decide) hg); have n2_ := Aside0.mk (blk_grown (g := gb360) (o := .cells #[.slice (some ⟨go43, 0, none⟩) t364.length co16, .slice (some ad371) y372.length co18] 51 (0, 0)) (by (with_reducible repeat first | apply bN | apply bD | apply bA); exact BK360.out) hg (Kd.R_ne HO_361000.out BK360.out (by decide))); have n3_ := Aside0.mk (blk_grown (g := gb361) (o := .cells #[.bool a1_0, .int .i64 a1_1, .int .i64 a1_2, .bool a1_3, .int .i64 a1_4, .int .i64 a1_5] 46 (0, 0)) (by (with_reducible repeat first | apply bN | apply bD | apply bA); exact BK361.out) hg (Kd.R_away HO_361000.out (fun _ hk => hk))); have n4_ := Aside0.mk (blk_grown (g := gb362) (o := .cells #[.slice none 0 0, .slice none 0 0] 51 (0, 0)) (by (with_reducible repeat first | apply bN | apply bD | apply bA); exact BK362.out) hg (Kd.R_ne HO_361000.out BK362.out (by decide))); have n5_ := Aside0.mk ((by rw [hw]; exact below_set (below_set (below_set (below_set (below_set (below_set (HB.out) GB43.out) GB43.out) GB43.out) GB43.out) GB43.out) GB43.out : Below w.heap.size w w53)); clear HO_361000 HO374; clear BK360 BK361; clear BK362 HB; have HO_361000 := n0_; have HO374 := n1_; have BK360 := n2_; have BK361 := n3_; have BK362 := n4_; have HB := n5_; clear n0_ n1_ n2_ n3_ n4_ n5_; clear hg hw hp_; have hcz54_0 : w53.cell? ⟨gb360, 0, none⟩ = some (.slice (some ⟨go43, 0, none⟩) t364.length co16) := (blk_cell BK360.out 0).trans rfl; have hcz54_1 : w53.cell? ⟨gb360, 1, none⟩ = some (.slice (some ad371) y372.length co18) := (blk_cell BK360.out 1).trans rfl; have hfz54_0 := blk_frozen BK360.out 0; have hfz54_1 := blk_frozen BK360.out 1; have hcz55_0 : w53.cell? ⟨gb362, 0, none⟩ = some (.slice none 0 0) := (blk_cell BK362.out 0).trans rfl; have hcz55_1 : w53.cell? ⟨gb362, 1, none⟩ = some (.slice none 0 0) := (blk_cell BK362.out 1).trans rfl; have hfz55_0 := blk_frozen BK362.out 0; have hfz55_1 := blk_frozen BK362.out 1))
           refine bodyPost_ret (results_ctt rfl _ _ gb362 51 #[.slice (some ⟨go43, 0, none⟩) t364.length co16, .slice (some ad371) y372.length co18] (0, 0) _ rfl (by (with_reducible repeat first | apply bN | apply bD | apply bA); refine blk_put (cs := #[.slice (some ⟨go43, 0, none⟩) t364.length co16, .slice none 0 0]) ?_ 1 _ rfl; (with_reducible repeat first | apply bN | apply bD | apply bA); refine blk_put (cs := #[.slice none 0 0, .slice none 0 0]) ?_ 0 _ rfl; (with_reducible repeat first | apply bN | apply bD | apply bA); exact BK362.out) Try.underlying51 rfl (by kernel_rfl)) rfl ?_
           exact ⟨_, _, by first | rfl | (simp [errW_none, errW_some] <;> rfl) | (simp only [← hji37]; first | rfl | (simp [errW_none, errW_some] <;> rfl)) | (simp [*, errW_none, errW_some] <;> rfl), by (with_reducible repeat first | apply Kd.R_alloc | apply Kd.R_drewN | apply Kd.R_drew); exact Kd.R_mono (Kd.R_far (p := ⟨gb362, 1, none⟩) (Kd.R_far (p := ⟨gb362, 0, none⟩) (Kd.R_types HO_361000.out BK362.out (by decide)) (fun _ hk => hk.2) (.slice (some ⟨go43, 0, none⟩) t364.length co16)) (fun _ hk => hk.2) (.slice (some ad371) y372.length co18)) (fun _ hk => trivial), by (with_reducible repeat first | apply Kd.R_alloc | apply Kd.R_drewN | apply Kd.R_drew); exact Kd.R_mono (Kd.R_far (p := ⟨gb362, 1, none⟩) (Kd.R_far (p := ⟨gb362, 0, none⟩) (Kd.R_types HO374.out BK362.out (by decide)) (fun _ hk => hk.2) (.slice (some ⟨go43, 0, none⟩) t364.length co16)) (fun _ hk => hk.2) (.slice (some ad371) y372.length co18)) (fun _ hk => trivial), by repeat (first | (with_reducible first | exact HB.out | apply eA | apply eN | apply eD | refine below_set ?_ GE360.out | refine below_set ?_ GE361.out | refine below_set ?_ GE362.out) | exact HB.out)⟩
          ·rw [if_neg c42] at H
           exact absurd H (by simp)
         ·rw [if_neg c41] at H
          exact absurd H (by simp)
        ·rw [if_neg c40] at H
         exact absurd H (by simp)
       ·rw [if_neg c39] at H
        exact absurd H (by simp)
      ·rw [if_neg c38] at H
       exact absurd H (by simp)
     ·rw [if_neg c36] at H
      have c36b0 : decide (0 < (t367.length : Int)) = false := decide_eq_false c36
      have c36b1 : decide (0 < t367.length) = false := decide_eq_false (by omega)
      clear c36
      by_cases c56 : (t364.length : Int) = 40
      ·rw [if_pos c56] at H
       have c56b0 : ((t364.length : Int) == 40) = true := beq_iff_eq.mpr c56
       have c56b1 : ((t364.length : Int) != 40) = false := bne_eq_false_iff_eq.mpr c56
       clear c56
       simp only [Option.some.injEq, Prod.mk.injEq] at H
       obtain ⟨rfl, rfl, rfl, rfl⟩ := H
       have hnb57 := NB360_361.out
       have hnc57 := NB361_360.out
       have hnb58 := NB360_362.out
       have hnc58 := NB362_360.out
       have hcz59_0 : wc.cell? ⟨gb360, 0, none⟩ = some (.slice Ao16 t364.length co16) := (blk_cell BK360.out 0).trans rfl
       have hcz59_1 : wc.cell? ⟨gb360, 1, none⟩ = some (.slice Ao18 t367.length co18) := (blk_cell BK360.out 1).trans rfl
       have hfz59_0 := blk_frozen BK360.out 0
       have hfz59_1 := blk_frozen BK360.out 1
       have hnb60 := NB362_361.out
       have hnc60 := NB361_362.out
       have hcz61_0 : wc.cell? ⟨gb362, 0, none⟩ = some (.slice none 0 0) := (blk_cell BK362.out 0).trans rfl
       have hcz61_1 : wc.cell? ⟨gb362, 1, none⟩ = some (.slice none 0 0) := (blk_cell BK362.out 1).trans rfl
       have hfz61_0 := blk_frozen BK362.out 0
       have hfz61_1 := blk_frozen BK362.out 1
       go_wp2
       refine bodyPost_ret (results_ctt rfl _ _ gb362 51 #[.slice Ao16 t364.length co16, .slice Ao18 t367.length co18] (0, 0) _ rfl (by (with_reducible repeat first | apply bN | apply bD | apply bA); refine blk_put (cs := #[.slice Ao16 t364.length co16, .slice none 0 0]) ?_ 1 _ rfl; (with_reducible repeat first | apply bN | apply bD | apply bA); refine blk_put (cs := #[.slice none 0 0, .slice none 0 0]) ?_ 0 _ rfl; (with_reducible repeat first | apply bN | apply bD | apply bA); exact BK362.out) Try.underlying51 rfl (by kernel_rfl)) rfl ?_
       exact ⟨_, _, by first | rfl | (simp [errW_none, errW_some] <;> rfl) | (simp [*, errW_none, errW_some] <;> rfl), by (with_reducible repeat first | apply Kd.R_alloc | apply Kd.R_drewN | apply Kd.R_drew); exact Kd.R_mono (Kd.R_far (p := ⟨gb362, 1, none⟩) (Kd.R_far (p := ⟨gb362, 0, none⟩) (Kd.R_types HO_361000.out BK362.out (by decide)) (fun _ hk => hk.2) (.slice Ao16 t364.length co16)) (fun _ hk => hk.2) (.slice Ao18 t367.length co18)) (fun _ hk => trivial), by (with_reducible repeat first | apply Kd.R_alloc | apply Kd.R_drewN | apply Kd.R_drew); exact Kd.R_mono (Kd.R_far (p := ⟨gb362, 1, none⟩) (Kd.R_far (p := ⟨gb362, 0, none⟩) (Kd.R_types HO_361001.out BK362.out (by decide)) (fun _ hk => hk.2) (.slice Ao16 t364.length co16)) (fun _ hk => hk.2) (.slice Ao18 t367.length co18)) (fun _ hk => trivial), by repeat (first | (with_reducible first | exact HB.out | apply eA | apply eN | apply eD | refine below_set ?_ GE360.out | refine below_set ?_ GE361.out | refine below_set ?_ GE362.out) | exact HB.out)⟩
      ·rw [if_neg c56] at H
       have c56b0 : ((t364.length : Int) == 40) = false := beq_eq_false_iff_ne.mpr c56
       have c56b1 : ((t364.length : Int) != 40) = true := bne_iff_ne.mpr c56
       by_cases c62 : t364.length < 2932031007402
       ·rw [if_pos c62] at H
        have LMc62 := Aside0.mk c62
        clear c62
        obtain ⟨y376, hy376⟩ : ∃ y_ : List (S46), y_ = (t364 ++ [(⟨a1_0, a1_1, a1_2, a1_3, a1_4, a1_5⟩ : S46)]) := ⟨_, rfl⟩
        replace H : (some (y376, t367, wrap64 ((y376.length : Int) - 1), 0)) = some (r1, r2, r3, r4) := by first | (rw [hy376]; with_reducible exact H) | (have H2_ := (Option.bind_some _ _).symm.trans H; rw [hy376]; with_reducible exact H2_) | (have H2_ := (Option.bind_some _ _).symm.trans H; with_reducible exact H2_) | with_reducible exact H | (rw [hy376]; exact H) | exact H
        have Ny376 := Aside0.mk hy376
        clear hy376
        simp only [Option.some.injEq, Prod.mk.injEq] at H
        obtain ⟨rfl, rfl, rfl, rfl⟩ := H
        have hnb63 := NB360_361.out
        have hnc63 := NB361_360.out
        have hnb64 := NB360_362.out
        have hnc64 := NB362_360.out
        have hcz65_0 : wc.cell? ⟨gb360, 0, none⟩ = some (.slice Ao16 t364.length co16) := (blk_cell BK360.out 0).trans rfl
        have hcz65_1 : wc.cell? ⟨gb360, 1, none⟩ = some (.slice Ao18 t367.length co18) := (blk_cell BK360.out 1).trans rfl
        have hfz65_0 := blk_frozen BK360.out 0
        have hfz65_1 := blk_frozen BK360.out 1
        have hnb66 := NB361_362.out
        have hnc66 := NB362_361.out
        have hcz67_0 : wc.cell? ⟨gb361, 0, none⟩ = some (.bool a1_0) := (blk_cell BK361.out 0).trans rfl
        have hcz67_1 : wc.cell? ⟨gb361, 1, none⟩ = some (.int .i64 a1_1) := (blk_cell BK361.out 1).trans rfl
        have hcz67_2 : wc.cell? ⟨gb361, 2, none⟩ = some (.int .i64 a1_2) := (blk_cell BK361.out 2).trans rfl
        have hcz67_3 : wc.cell? ⟨gb361, 3, none⟩ = some (.bool a1_3) := (blk_cell BK361.out 3).trans rfl
        have hcz67_4 : wc.cell? ⟨gb361, 4, none⟩ = some (.int .i64 a1_4) := (blk_cell BK361.out 4).trans rfl
        have hcz67_5 : wc.cell? ⟨gb361, 5, none⟩ = some (.int .i64 a1_5) := (blk_cell BK361.out 5).trans rfl
        have hfz67_0 := blk_frozen BK361.out 0
        have hfz67_1 := blk_frozen BK361.out 1
        have hfz67_2 := blk_frozen BK361.out 2
        have hfz67_3 := blk_frozen BK361.out 3
        have hfz67_4 := blk_frozen BK361.out 4
        have hfz67_5 := blk_frozen BK361.out 5
        try go_wp2_with (first | ((with_reducible refine gate_builtin (b := .append) (xs := #[.tmp 54, .tmp 56]) rfl ?_); at_builtin; refine Kd.R_append k46 (w0 := w) w.heap.size rfl (.tmp 54) (.tmp 56) 49 46 (.agg #[(.bool false), (.int .i64 0), (.int .i64 0), (.bool false), (.int .i64 0), (.int .i64 0)]) 48 rfl Try.underlying49 info46 rfl (by decide) (by omega) (.slice Ao16 t364.length co16) t364 (⟨a1_0, a1_1, a1_2, a1_3, a1_4, a1_5⟩ : S46) [.bool a1_0, .int .i64 a1_1, .int .i64 a1_2, .bool a1_3, .int .i64 a1_4, .int .i64 a1_5] (fun k_ => k_ ≠ gb361) (fun _ => False) rfl rfl ?aP (fun _ hk => hk.elim) ?aF ?aO ?aB ?aS ?aL ?_; (case aP => exact k46_mkM _ _ _ (⟨a1_0, a1_1, a1_2, a1_3, a1_4, a1_5⟩ : S46)); (case aB => exact (by repeat (first | (with_reducible first | exact HB.out | apply eA | apply eN | apply eD | refine below_set ?_ GE360.out | refine below_set ?_ GE361.out | refine below_set ?_ GE362.out) | exact HB.out))); (case aF => exact (fun k_ hk => Kd.freshB (g := gb361) (o := .cells #[.bool a1_0, .int .i64 a1_1, .int .i64 a1_2, .bool a1_3, .int .i64 a1_4, .int .i64 a1_5] 46 (0, 0)) (by (with_reducible repeat first | apply bN | apply bD | apply bA); exact BK361.out) k_ hk)); (case aO => exact (by (with_reducible repeat first | apply Kd.R_alloc | apply Kd.R_drewN | apply Kd.R_drew); exact HO_361000.out)); (case aS => exact (below_size (by repeat (first | (with_reducible first | exact HB.out | apply eA | apply eN | apply eD | refine below_set ?_ GE360.out | refine below_set ?_ GE361.out | refine below_set ?_ GE362.out) | exact HB.out)))); (case aL => have := LMc62.out; omega); intro v377 w68 ho hb hg hat; rw [← Ny376.out] at ho; have n0_ := Aside0.mk (Kd.R_over' (by (with_reducible repeat first | apply Kd.R_alloc | apply Kd.R_drewN | apply Kd.R_drew); exact HO_361001.out) (Kd.R_typed (by (with_reducible repeat first | apply Kd.R_alloc | apply Kd.R_drewN | apply Kd.R_drew); exact HO_361000.out)) (by decide) hg); have n1_ := Aside0.mk (blk_grown (g := gb360) (o := .cells #[.slice Ao16 t364.length co16, .slice Ao18 t367.length co18] 51 (0, 0)) (by (with_reducible repeat first | apply bN | apply bD | apply bA); exact BK360.out) hg (Kd.R_ne HO_361000.out BK360.out (by decide))); have n2_ := Aside0.mk (blk_grown (g := gb361) (o := .cells #[.bool a1_0, .int .i64 a1_1, .int .i64 a1_2, .bool a1_3, .int .i64 a1_4, .int .i64 a1_5] 46 (0, 0)) (by (with_reducible repeat first | apply bN | apply bD | apply bA); exact BK361.out) hg (Kd.R_away HO_361000.out (fun _ hk => hk))); have n3_ := Aside0.mk (blk_grown (g := gb362) (o := .cells #[.slice none 0 0, .slice none 0 0] 51 (0, 0)) (by (with_reducible repeat first | apply bN | apply bD | apply bA); exact BK362.out) hg (Kd.R_ne HO_361000.out BK362.out (by decide))); have n4_ := Aside0.mk (hb); have n5_ := Aside0.mk (ho); clear HO_361001 BK360; clear BK361 BK362; clear HB HO_361000; have HO_361001 := n0_; have BK360 := n1_; have BK361 := n2_; have BK362 := n3_; have HB := n4_; have HO378 := n5_; clear n0_ n1_ n2_ n3_ n4_ n5_; clear ho hb hg hat; obtain ⟨Ao69, co69, eo69⟩ := Kd.R_slice HO378.out; subst eo69; have hcz70_0 : w68.cell? ⟨gb360, 0, none⟩ = some (.slice Ao16 t364.length co16) := (blk_cell BK360.out 0).trans rfl; have hcz70_1 : w68.cell? ⟨gb360, 1, none⟩ = some (.slice Ao18 t367.length co18) := (blk_cell BK360.out 1).trans rfl; have hfz70_0 := blk_frozen BK360.out 0; have hfz70_1 := blk_frozen BK360.out 1))
        have n0_ : Aside0 (Kd.R (Kd.int .i64) 3 (w68.setCell ⟨gb360, 0, none⟩ (.slice Ao69 y376.length co69)) w.heap.size (fun _ => True) (.slice Ao18 t367.length co18) t367) := ⟨by (with_reducible repeat first | apply Kd.R_alloc | apply Kd.R_drewN | apply Kd.R_drew); exact Kd.R_mono (Kd.R_far (p := ⟨gb360, 0, none⟩) (Kd.R_types HO_361001.out BK360.out (by decide)) (fun _ hk => hk.2) (.slice Ao69 y376.length co69)) (fun _ hk => trivial)⟩
        have n1_ : Aside0 (Kd.R k46 46 (w68.setCell ⟨gb360, 0, none⟩ (.slice Ao69 y376.length co69)) w.heap.size (fun k_ => k_ ≠ gb361) (.slice Ao69 y376.length co69) y376) := ⟨by (with_reducible repeat first | apply Kd.R_alloc | apply Kd.R_drewN | apply Kd.R_drew); exact Kd.R_mono (Kd.R_far (p := ⟨gb360, 0, none⟩) (Kd.R_types HO378.out BK360.out (by decide)) (fun _ hk => hk.2) (.slice Ao69 y376.length co69)) (fun _ hk => hk.1)⟩
        have n2_ : Aside0 ((w68.setCell ⟨gb360, 0, none⟩ (.slice Ao69 y376.length co69)).heap[gb360]? = some (.cells #[.slice Ao69 y376.length co69, .slice Ao18 t367.length co18] 51 (0, 0))) := ⟨by (with_reducible repeat first | apply bN | apply bD | apply bA); refine blk_put (cs := #[.slice Ao16 t364.length co16, .slice Ao18 t367.length co18]) ?_ 0 _ rfl; (with_reducible repeat first | apply bN | apply bD | apply bA); exact BK360.out⟩
        have n3_ : Aside0 ((w68.setCell ⟨gb360, 0, none⟩ (.slice Ao69 y376.length co69)).heap[gb361]? = some (.cells #[.bool a1_0, .int .i64 a1_1, .int .i64 a1_2, .bool a1_3, .int .i64 a1_4, .int .i64 a1_5] 46 (0, 0))) := ⟨by (with_reducible repeat first | apply bN | apply bD | apply bA); refine blk_far ?_ NB361_360.out _; (with_reducible repeat first | apply bN | apply bD | apply bA); exact BK361.out⟩
        have n4_ : Aside0 ((w68.setCell ⟨gb360, 0, none⟩ (.slice Ao69 y376.length co69)).heap[gb362]? = some (.cells #[.slice none 0 0, .slice none 0 0] 51 (0, 0))) := ⟨by (with_reducible repeat first | apply bN | apply bD | apply bA); refine blk_far ?_ NB362_360.out _; (with_reducible repeat first | apply bN | apply bD | apply bA); exact BK362.out⟩
        have n5_ : Aside0 (Below w.heap.size w (w68.setCell ⟨gb360, 0, none⟩ (.slice Ao69 y376.length co69))) := ⟨by repeat (first | (with_reducible first | exact HB.out | apply eA | apply eN | apply eD | refine below_set ?_ GE360.out | refine below_set ?_ GE361.out | refine below_set ?_ GE362.out) | exact HB.out)⟩
        (try clear HO_361001)
        (try clear HO378)
        (try clear BK360)
        (try clear BK361)
        (try clear BK362)
        (try clear HB)
        generalize (w68.setCell ⟨gb360, 0, none⟩ (.slice Ao69 y376.length co69)) = w71 at n0_ n1_ n2_ n3_ n4_ n5_ ⊢
        have HO_361001 := n0_
        have HO378 := n1_
        have BK360 := n2_
        have BK361 := n3_
        have BK362 := n4_
        have HB := n5_
        clear n0_ n1_ n2_ n3_ n4_ n5_
        have n0_ := Aside0.mk (Kd.R_drew HO_361001.out)
        have n1_ := Aside0.mk (Kd.R_drew HO378.out)
        have n2_ := Aside0.mk (blk_drew BK360.out)
        have n3_ := Aside0.mk (blk_drew BK361.out)
        have n4_ := Aside0.mk (blk_drew BK362.out)
        have n5_ := Aside0.mk (below_drew1 HB.out)
        clear HO_361001 HO378 BK360 BK361 BK362 HB
        have HO_361001 := n0_
        have HO378 := n1_
        have BK360 := n2_
        have BK361 := n3_
        have BK362 := n4_
        have HB := n5_
        clear n0_ n1_ n2_ n3_ n4_ n5_
        refine start_ (n := 8) (S := fun w' => w'.cell? ⟨gb360, 0, none⟩ = some (.slice Ao69 y376.length co69) ∧ w'.cell? ⟨gb360, 1, none⟩ = some (.slice Ao18 t367.length co18)) (ds := []) #[false, false, false, false, false, false, false, false] (by kernel_rfl) rfl rfl ⟨(blk_cell BK360.out 0).trans rfl, (blk_cell BK360.out 1).trans rfl⟩ (fun hHeld => ?_); refine with_tabW spec_NewHandle.tab15 spec_NewHandle.bits15 (fun HT_ HW_ => ?_)
        generalize w71.drew = w72 at HO_361001 HO378 BK360 BK361 BK362 HB hHeld ⊢
        refine pure_ (i := 1) (N := some 60) (v := ?_) (a' := ?_) #[false, true, false, false, false, false, false, false] rfl rfl (any_of HT_.out (by kernel_rfl)) (fun _ _ _ h => h) (Or.inl ⟨by rfl, ?_⟩) ?_ ?_
        rotate_left
        ·intro w'
         go_simp
         with_reducible rfl
        rotate_left
        ·simp only [Act.put, List.setIfInBounds_toArray, List.set_cons_zero, List.set_cons_succ, i64_w, i32_w]
         rfl
        refine take_ (i := 0) (N := some 59) (v := ?_) (a' := ?_) #[true, true, false, false, false, false, false, false] rfl rfl (take_ofW HT_.out HW_.out (by kernel_rfl)) (fun _ _ _ h => h) (Or.inl ⟨by rfl, ?_⟩) hHeld ?_ ?_
        rotate_left
        ·rintro w' ⟨s0, s1⟩
         go_simp
         with_reducible rfl
        rotate_left
        ·simp only [Act.put, List.setIfInBounds_toArray, List.set_cons_zero, List.set_cons_succ, i64_w, i32_w]
         rfl
        refine take_ (i := 2) (N := some 61) (v := ?_) (a' := ?_) #[true, true, true, false, false, false, false, false] rfl rfl (take_ofW HT_.out HW_.out (by kernel_rfl)) (fun _ _ _ h => h) (Or.inl ⟨by rfl, ?_⟩) hHeld ?_ ?_
        rotate_left
        ·rintro w' ⟨s0, s1⟩
         go_simp
         with_reducible rfl
        rotate_left
        ·simp only [Act.put, List.setIfInBounds_toArray, List.set_cons_zero, List.set_cons_succ, i64_w, i32_w]
         rfl
        refine pure_ (i := 3) (N := some 62) (v := ?_) (a' := ?_) #[true, true, true, true, false, false, false, false] rfl rfl (any_of HT_.out (by kernel_rfl)) (fun _ _ _ h => h) (Or.inl ⟨by rfl, ?_⟩) ?_ ?_
        rotate_left
        ·intro w'
         go_simp
         with_reducible rfl
        rotate_left
        ·simp only [Act.put, List.setIfInBounds_toArray, List.set_cons_zero, List.set_cons_succ, i64_w, i32_w]
         rfl
        refine pure_ (i := 4) (N := some 63) (v := ?_) (a' := ?_) #[true, true, true, true, true, false, false, false] rfl rfl (any_of HT_.out (by kernel_rfl)) (fun _ _ _ h => h) (Or.inl ⟨by rfl, ?_⟩) ?_ ?_
        rotate_left
        ·intro w'
         go_simp
         with_reducible rfl
        rotate_left
        ·simp only [Act.put, List.setIfInBounds_toArray, List.set_cons_zero, List.set_cons_succ, i64_w, i32_w]
         rfl
        refine one_ (i := 5) (N := none) #[true, true, true, true, true, true, false, false] rfl rfl (one_of HT_.out (by kernel_rfl)) (by decide) (fun K hK => ?_)
        have hs73 : w72.cell? ⟨gb362, 0, none⟩ = some (.slice none 0 0) := (blk_cell BK362.out 0).trans rfl
        have hfs73 := blk_frozen BK362.out 0
        have hns73_0 := NB360_362.out
        have hns73_1 := NB361_362.out
        have hms73_0 := NB362_360.out
        have hms73_1 := NB362_361.out
        have hs74 : w72.cell? ⟨gb362, 1, none⟩ = some (.slice none 0 0) := (blk_cell BK362.out 1).trans rfl
        have hfs74 := blk_frozen BK362.out 1
        have hns74_0 := NB360_362.out
        have hns74_1 := NB361_362.out
        have hms74_0 := NB362_360.out
        have hms74_1 := NB362_361.out
        refine skip_ (w1 := ?_) (by rfl) rfl ?_ ?_
        rotate_left
        ·go_simp
         rfl
        refine hK.out _ _ ⟨((cell_far (p := ⟨gb362, _, none⟩) NB360_362.out _).trans (((cell_far (p := ⟨gb362, _, none⟩) NB360_362.out _).trans (hHeld.1)))), ((cell_far (p := ⟨gb362, _, none⟩) NB360_362.out _).trans (((cell_far (p := ⟨gb362, _, none⟩) NB360_362.out _).trans (hHeld.2))))⟩ (fun hHeld => ?_)
        clear hK K
        refine pure_ (i := 6) (N := some 5) (v := ?_) (a' := ?_) #[true, true, true, true, true, true, true, false] rfl rfl (any_of HT_.out (by kernel_rfl)) (fun _ _ _ h => h) (Or.inl ⟨by rfl, ?_⟩) ?_ ?_
        rotate_left
        ·intro w'
         go_simp
         with_reducible rfl
        rotate_left
        ·simp only [Act.put, List.setIfInBounds_toArray, List.set_cons_zero, List.set_cons_succ, i64_w, i32_w]
         rfl
        refine pure_ (i := 7) (N := some 6) (v := ?_) (a' := ?_) #[true, true, true, true, true, true, true, true] rfl rfl (any_of HT_.out (by kernel_rfl)) (fun _ _ _ h => h) (Or.inl ⟨by rfl, ?_⟩) ?_ ?_
        rotate_left
        ·intro w'
         go_simp
         with_reducible rfl
        rotate_left
        ·simp only [Act.put, List.setIfInBounds_toArray, List.set_cons_zero, List.set_cons_succ, i64_w, i32_w]
         rfl
        refine done_ (done_of HT_.out (by kernel_rfl)) ?_
        try go_wp2
        refine bodyPost_ret (results_ctt rfl _ _ gb362 51 #[.slice Ao69 y376.length co69, .slice Ao18 t367.length co18] (0, 0) _ rfl (by (with_reducible repeat first | apply bN | apply bD | apply bA); refine blk_put (cs := #[.slice Ao69 y376.length co69, .slice none 0 0]) ?_ 1 _ rfl; (with_reducible repeat first | apply bN | apply bD | apply bA); refine blk_put (cs := #[.slice none 0 0, .slice none 0 0]) ?_ 0 _ rfl; (with_reducible repeat first | apply bN | apply bD | apply bA); exact BK362.out) Try.underlying51 rfl (by kernel_rfl)) rfl ?_
        exact ⟨_, _, by first | rfl | (simp [errW_none, errW_some] <;> rfl) | (simp [*, errW_none, errW_some] <;> rfl), by (with_reducible repeat first | apply Kd.R_alloc | apply Kd.R_drewN | apply Kd.R_drew); exact Kd.R_mono (Kd.R_far (p := ⟨gb362, 1, none⟩) (Kd.R_far (p := ⟨gb362, 0, none⟩) (Kd.R_types HO378.out BK362.out (by decide)) (fun _ hk => hk.2) (.slice Ao69 y376.length co69)) (fun _ hk => hk.2) (.slice Ao18 t367.length co18)) (fun _ hk => trivial), by (with_reducible repeat first | apply Kd.R_alloc | apply Kd.R_drewN | apply Kd.R_drew); exact Kd.R_mono (Kd.R_far (p := ⟨gb362, 1, none⟩) (Kd.R_far (p := ⟨gb362, 0, none⟩) (Kd.R_types HO_361001.out BK362.out (by decide)) (fun _ hk => hk.2) (.slice Ao69 y376.length co69)) (fun _ hk => hk.2) (.slice Ao18 t367.length co18)) (fun _ hk => trivial), by repeat (first | (with_reducible first | exact HB.out | apply eA | apply eN | apply eD | refine below_set ?_ GE360.out | refine below_set ?_ GE361.out | refine below_set ?_ GE362.out) | exact HB.out)⟩
       ·rw [if_neg c62] at H
        exact absurd H (by simp)
 ·replace c4 := Bool.eq_false_iff.mpr c4
  subst c4
  have H1 : (some (([] : List (S46)), ([] : List Int), 0, 1)) = some (r1, r2, r3, r4) := by rw [if_neg (show ¬ (false = true) by decide)] at H; first | done | exact H
  clear H
  have H := H1
  clear H1
  simp only [Option.some.injEq, Prod.mk.injEq] at H
  obtain ⟨rfl, rfl, rfl, rfl⟩ := H
  go_enter Try.func34, Try.ntmps34
  go_wp2_with (first | ((with_reducible refine gate_dst (N := 2) rfl ?_); refine box_event ?hg (N := 2) ?hd (cs := #[.slice A0_0 l0_0.length c0_0, .slice A0_1 l0_1.length c0_1]) (t := 51) ?hr ?_; (case hd => rfl); (case hg => rfl); (case hr => first | (go_simp; done) | (go_simp; rfl)); intro gb360 hg w75 hbox hb; have n0_ := Aside0.mk (below_step (by repeat (first | (with_reducible first | exact HB.out | apply eA | apply eN | apply eD) | exact HB.out)) hb); have n1_ := Aside0.mk (hbox); have n2_ := Aside0.mk ((by rw [hg]; exact (below_size (by repeat (first | (with_reducible first | exact HB.out | apply eA | apply eN | apply eD) | exact HB.out))) : w.heap.size ≤ gb360)); have n3_ := Aside0.mk ((by rw [hg]; exact (below_size (by repeat (first | (with_reducible first | exact HB.out | apply eA | apply eN | apply eD) | exact HB.out))) : w.heap.size ≤ gb360)); clear HB; have HB := n0_; have BK360 := n1_; have GW360 := n2_; have GE360 := n3_; clear n0_ n1_ n2_ n3_; clear hb hbox hg) | ((with_reducible refine gate_dst (N := 3) rfl ?_); refine box_event ?hg (N := 3) ?hd (cs := #[.bool a1_0, .int .i64 a1_1, .int .i64 a1_2, .bool a1_3, .int .i64 a1_4, .int .i64 a1_5]) (t := 46) ?hr ?_; (case hd => rfl); (case hg => rfl); (case hr => first | (go_simp; done) | (go_simp; rfl)); intro gb361 hg w76 hbox hb; have n0_ := Aside0.mk (blk_below (g := gb360) (o := .cells #[.slice A0_0 l0_0.length c0_0, .slice A0_1 l0_1.length c0_1] 51 (0, 0)) (by (with_reducible repeat first | apply bN | apply bD | apply bA); exact BK360.out) hb); have n1_ := Aside0.mk (below_step (by repeat (first | (with_reducible first | exact HB.out | apply eA | apply eN | apply eD | refine below_set ?_ GE360.out) | exact HB.out)) hb); have n2_ := Aside0.mk (hbox); have n3_ := Aside0.mk ((by rw [hg]; exact (below_size (by repeat (first | (with_reducible first | exact HB.out | apply eA | apply eN | apply eD | refine below_set ?_ GE360.out) | exact HB.out))) : w.heap.size ≤ gb361)); have n4_ := Aside0.mk ((by rw [hg]; exact (below_size (by repeat (first | (with_reducible first | exact HB.out | apply eA | apply eN | apply eD | refine below_set ?_ GE360.out) | exact HB.out))) : w.heap.size ≤ gb361)); have n5_ := Aside0.mk ((by rw [hg]; exact Nat.ne_of_lt (blk_lt (g := gb360) (o := .cells #[.slice A0_0 l0_0.length c0_0, .slice A0_1 l0_1.length c0_1] 51 (0, 0)) (by (with_reducible repeat first | apply bN | apply bD | apply bA); exact BK360.out)) : gb360 ≠ gb361)); have n6_ := Aside0.mk ((by rw [hg]; exact Nat.ne_of_gt (blk_lt (g := gb360) (o := .cells #[.slice A0_0 l0_0.length c0_0, .slice A0_1 l0_1.length c0_1] 51 (0, 0)) (by (with_reducible repeat first | apply bN | apply bD | apply bA); exact BK360.out)) : gb361 ≠ gb360)); clear BK360 HB; have BK360 := n0_; have HB := n1_; have BK361 := n2_; have GW361 := n3_; have GE361 := n4_; have NB360_361 := n5_; have NB361_360 := n6_; clear n0_ n1_ n2_ n3_ n4_ n5_ n6_; clear hb hbox hg) | ((with_reducible refine gate_dst (N := 4) rfl ?_); refine box_event ?hg (N := 4) ?hd (cs := #[.slice none 0 0, .slice none 0 0]) (t := 51) ?hr ?_; (case hd => rfl); (case hg => rfl); (case hr => first | (go_simp; done) | (go_simp; rfl)); intro gb362 hg w77 hbox hb; have n0_ := Aside0.mk (blk_below (g := gb360) (o := .cells #[.slice A0_0 l0_0.length c0_0, .slice A0_1 l0_1.length c0_1] 51 (0, 0)) (by (with_reducible repeat first | apply bN | apply bD | apply bA); exact BK360.out) hb); have n1_ := Aside0.mk (blk_below (g := gb361) (o := .cells #[.bool a1_0, .int .i64 a1_1, .int .i64 a1_2, .bool a1_3, .int .i64 a1_4, .int .i64 a1_5] 46 (0, 0)) (by (with_reducible repeat first | apply bN | apply bD | apply bA); exact BK361.out) hb); have n2_ := Aside0.mk (below_step (by repeat (first | (with_reducible first | exact HB.out | apply eA | apply eN | apply eD | refine below_set ?_ GE360.out | refine below_set ?_ GE361.out) | exact HB.out)) hb); have n3_ := Aside0.mk (hbox); have n4_ := Aside0.mk ((by rw [hg]; exact (below_size (by repeat (first | (with_reducible first | exact HB.out | apply eA | apply eN | apply eD | refine below_set ?_ GE360.out | refine below_set ?_ GE361.out) | exact HB.out))) : w.heap.size ≤ gb362)); have n5_ := Aside0.mk ((by rw [hg]; exact (below_size (by repeat (first | (with_reducible first | exact HB.out | apply eA | apply eN | apply eD | refine below_set ?_ GE360.out | refine below_set ?_ GE361.out) | exact HB.out))) : w.heap.size ≤ gb362)); have n6_ := Aside0.mk ((by rw [hg]; exact Nat.ne_of_lt (blk_lt (g := gb360) (o := .cells #[.slice A0_0 l0_0.length c0_0, .slice A0_1 l0_1.length c0_1] 51 (0, 0)) (by (with_reducible repeat first | apply bN | apply bD | apply bA); exact BK360.out)) : gb360 ≠ gb362)); have n7_ := Aside0.mk ((by rw [hg]; exact Nat.ne_of_gt (blk_lt (g := gb360) (o := .cells #[.slice A0_0 l0_0.length c0_0, .slice A0_1 l0_1.length c0_1] 51 (0, 0)) (by (with_reducible repeat first | apply bN | apply bD | apply bA); exact BK360.out)) : gb362 ≠ gb360)); have n8_ := Aside0.mk ((by rw [hg]; exact Nat.ne_of_lt (blk_lt (g := gb361) (o := .cells #[.bool a1_0, .int .i64 a1_1, .int .i64 a1_2, .bool a1_3, .int .i64 a1_4, .int .i64 a1_5] 46 (0, 0)) (by (with_reducible repeat first | apply bN | apply bD | apply bA); exact BK361.out)) : gb361 ≠ gb362)); have n9_ := Aside0.mk ((by rw [hg]; exact Nat.ne_of_gt (blk_lt (g := gb361) (o := .cells #[.bool a1_0, .int .i64 a1_1, .int .i64 a1_2, .bool a1_3, .int .i64 a1_4, .int .i64 a1_5] 46 (0, 0)) (by (with_reducible repeat first | apply bN | apply bD | apply bA); exact BK361.out)) : gb362 ≠ gb361)); clear BK360 BK361 HB; have BK360 := n0_; have BK361 := n1_; have HB := n2_; have BK362 := n3_; have GW362 := n4_; have GE362 := n5_; have NB360_362 := n6_; have NB362_360 := n7_; have NB361_362 := n8_; have NB362_361 := n9_; clear n0_ n1_ n2_ n3_ n4_ n5_ n6_ n7_ n8_ n9_; clear hb hbox hg; have hnb78 := NB360_361.out; have hnc78 := NB361_360.out; have hnb79 := NB360_362.out; have hnc79 := NB362_360.out; have hcz80_0 : w77.cell? ⟨gb360, 0, none⟩ = some (.slice A0_0 l0_0.length c0_0) := (blk_cell BK360.out 0).trans rfl; have hcz80_1 : w77.cell? ⟨gb360, 1, none⟩ = some (.slice A0_1 l0_1.length c0_1) := (blk_cell BK360.out 1).trans rfl; have hfz80_0 := blk_frozen BK360.out 0; have hfz80_1 := blk_frozen BK360.out 1) | ((with_reducible refine gate_callee (f := 64) rfl ?_); refine goesL_ (some 10) rfl rfl Try.func64 (by kernel_rfl) rfl #[.agg #[.slice A0_0 l0_0.length c0_0, .slice A0_1 l0_1.length c0_1]] rfl (by (try simp only [List.map_toArray, List.map_cons, List.map_nil]); first | done | rfl | (simp only [List.length_drop, List.length_take]; rfl)) ?_; (with_reducible refine (spec_GoodTable.calls k _ _ l0_0 _ _ l0_1 false _ ?side1 ?side2 ?side3 ?side4 A3.out).mono ?_); (case side1 => repeat (first | exact (Kd.C_below HR0_0.out HB.out) | (with_reducible refine Kd.C_alloc ?_ _) | (with_reducible refine Kd.C_drewN ?_ _) | (with_reducible refine Kd.C_drew ?_))); (case side2 => exact HC0_0.out); (case side3 => repeat (first | exact (Kd.C_below HR0_1.out HB.out) | (with_reducible refine Kd.C_alloc ?_ _) | (with_reducible refine Kd.C_drewN ?_ _) | (with_reducible refine Kd.C_drew ?_))); (case side4 => exact HC0_1.out); rintro e w81 ⟨rfl, hb⟩; refine ⟨_, rfl, ?_⟩; have n0_ := Aside0.mk (blk_below (g := gb360) (o := .cells #[.slice A0_0 l0_0.length c0_0, .slice A0_1 l0_1.length c0_1] 51 (0, 0)) (by (with_reducible repeat first | apply bN | apply bD | apply bA); exact BK360.out) hb); have n1_ := Aside0.mk (blk_below (g := gb361) (o := .cells #[.bool a1_0, .int .i64 a1_1, .int .i64 a1_2, .bool a1_3, .int .i64 a1_4, .int .i64 a1_5] 46 (0, 0)) (by (with_reducible repeat first | apply bN | apply bD | apply bA); exact BK361.out) hb); have n2_ := Aside0.mk (blk_below (g := gb362) (o := .cells #[.slice none 0 0, .slice none 0 0] 51 (0, 0)) (by (with_reducible repeat first | apply bN | apply bD | apply bA); exact BK362.out) hb); have n3_ := Aside0.mk (below_step (by repeat (first | (with_reducible first | exact HB.out | apply eA | apply eN | apply eD | refine below_set ?_ GE360.out | refine below_set ?_ GE361.out | refine below_set ?_ GE362.out) | exact HB.out)) hb); clear BK360 BK361; clear BK362 HB; have BK360 := n0_; have BK361 := n1_; have BK362 := n2_; have HB := n3_; clear n0_ n1_ n2_ n3_; (try clear hb); (try clear hb2); (try clear hk); (try clear hi); have hnb82 := NB362_361.out; have hnc82 := NB361_362.out; have hcz83_0 : w81.cell? ⟨gb362, 0, none⟩ = some (.slice none 0 0) := (blk_cell BK362.out 0).trans rfl; have hcz83_1 : w81.cell? ⟨gb362, 1, none⟩ = some (.slice none 0 0) := (blk_cell BK362.out 1).trans rfl; have hfz83_0 := blk_frozen BK362.out 0; have hfz83_1 := blk_frozen BK362.out 1))
  refine bodyPost_ret (results_ctt rfl _ _ gb362 51 #[.slice none 0 0, .slice none 0 0] (0, 0) _ rfl (by (with_reducible repeat first | apply bN | apply bD | apply bA); refine blk_put (cs := #[.slice none 0 0, .slice none 0 0]) ?_ 1 _ rfl; (with_reducible repeat first | apply bN | apply bD | apply bA); refine blk_put (cs := #[.slice none 0 0, .slice none 0 0]) ?_ 0 _ rfl; (with_reducible repeat first | apply bN | apply bD | apply bA); exact BK362.out) Try.underlying51 rfl (by kernel_rfl)) rfl ?_
  exact ⟨_, _, by first | rfl | (simp [errW_none, errW_some] <;> rfl) | (simp [*, errW_none, errW_some] <;> rfl), by first | exact Kd.R_nil _ _ _ _ _ | exact Kd.N_nil _ _ _ _ _ | exact Kd.V_nil _ _ _ _ _ | exact Kd.Q_nil _ _ _ _ _ | exact Kd.S_nil _ _ _ _ _, by first | exact Kd.R_nil _ _ _ _ _ | exact Kd.N_nil _ _ _ _ _ | exact Kd.V_nil _ _ _ _ _ | exact Kd.Q_nil _ _ _ _ _ | exact Kd.S_nil _ _ _ _ _, by repeat (first | (with_reducible first | exact HB.out | apply eA | apply eN | apply eD | refine below_set ?_ GE360.out | refine below_set ?_ GE361.out | refine below_set ?_ GE362.out) | exact HB.out)⟩

def impl_Table_full.f (s0_0 : List (S46)) (s0_1 : List Int) : Option (Bool) := if (s0_1.length : Int) = 0 then (some ((s0_0.length : Int) == 40)) else (some false)

-- NOT PRINTED: function 81 (impl_Table_add)

end Go.Proofs.Ytoomeeoijbkmnaa.PH
