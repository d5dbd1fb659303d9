-- Printed by a program of this session (after the kit's print.sh, with contracts of its own beside): Lean checks it.
import Derived.Test.YtdoflfifnkpacaaFRx0
import Derived.Test.YtdoflfifnkpacaaFRx3
import Derived.Test.YtdoflfifnkpacaaFRx4
import Derived.Test.YtdoflfifnkpacaaFRx5
import Derived.Test.YtdoflfifnkpacaaFRx6
namespace Go.Proofs.Ytdoflfifnkpacaa.FR
open Go.RowKit Go.Proofs.YtdoflfifnkpacaaW.PrintWords Go.Proofs.YtdoflfifnkpacaaW.PrintLast Go.Proofs.YtdoflfifnkpacaaW.PrintMore
attribute [local go_sem] max2_int min2_int max_two min_two max_three min_three max_four min_four   -- for this text's walks alone
set_option linter.unusedVariables false
set_option linter.unusedSimpArgs false

/-! ### impl_FSqrt: function 12 -/
def impl_FSqrt.j0 : Nat → Bool → Int → Int → Bool → Bool → Bool → Int → Int → Option (Int)
 | 0, _, _, _, _, _, _, _, _ => none
 | k + 1, x26, x200000, x200001, x206000, x206001, x206002, x206003, x206004 => if x26 = true then ((impl_format_signed.f x200000 x200001 x206000 0).bind fun t207 => (some t207)) else (if x206000 = true then ((impl_format_noNumber.f x200000 x200001).bind fun t208 => (some t208)) else (if x206002 = true then ((impl_format_infinite.f x200000 x200001 false).bind fun t209 => (some t209)) else ((bits_Len64.f k x206003).bind fun t210 => (if (Int.tmod (wrap64 (x206004 - (wrap64 (60 - t210)))) 2) = 0 then (if 0 ≤ (wrap64 (60 - t210)) then ((impl_root.f k (shl .u64 x206003 (wrap64 (60 - t210)))).bind fun t211 => ((impl_format_round.f k x200000 x200001 false t211 (wrap64 (Int.tdiv (wrap64 (x206004 - (wrap64 (60 - t210)))) 2)) ((IntKind.u64.wrap (t211 * t211)) != (shl .u64 x206003 (wrap64 (60 - t210))))).bind fun t212 => (some t212))) else (none)) else (if 0 ≤ (wrap64 ((wrap64 (60 - t210)) - 1)) then ((impl_root.f k (shl .u64 x206003 (wrap64 ((wrap64 (60 - t210)) - 1)))).bind fun t213 => ((impl_format_round.f k x200000 x200001 false t213 (wrap64 (Int.tdiv (wrap64 (x206004 - (wrap64 ((wrap64 (60 - t210)) - 1)))) 2)) ((IntKind.u64.wrap (t213 * t213)) != (shl .u64 x206003 (wrap64 ((wrap64 (60 - t210)) - 1))))).bind fun t214 => (some t214))) else (none))))))
def impl_FSqrt.f (k : Nat) (a0 : Int) (a1 : Int) : Option (Int) := (impl_formatOf.f a0).bind fun bt196 => (if bt196.2.2 = true then ((impl_format_open.f bt196.1 bt196.2.1 a1).bind fun bt200 => (if bt200.2.1 = true then ((impl_format_noNumber.f bt196.1 bt196.2.1).bind fun t206 => (some t206)) else (if bt200.2.2.1 = true then (impl_FSqrt.j0 k false bt196.1 bt196.2.1 bt200.1 bt200.2.1 bt200.2.2.1 bt200.2.2.2.1 bt200.2.2.2.2) else (impl_FSqrt.j0 k (bt200.2.2.2.1 == 0) bt196.1 bt196.2.1 bt200.1 bt200.2.1 bt200.2.2.1 bt200.2.2.2.1 bt200.2.2.2.2)))) else (some 0))
theorem impl_FSqrt.mono_l : ∀ k, (∀ y0 y1 y2 y3 y4 y5 y6 y7, LeO (impl_FSqrt.j0 k y0 y1 y2 y3 y4 y5 y6 y7) (impl_FSqrt.j0 (k + 1) y0 y1 y2 y3 y4 y5 y6 y7))
 | 0 => fun _ _ _ _ _ _ _ _ r h => by simp [impl_FSqrt.j0] at h
 | k + 1 => by
  have ih0 := impl_FSqrt.mono_l k
  ·intro y0 y1 y2 y3 y4 y5 y6 y7
   unfold impl_FSqrt.j0
   repeat' first
   | (with_reducible exact ih0 _ _ _ _ _ _ _ _)
   | (with_reducible exact bits_Len64.mono _ _)
   | (with_reducible exact impl_format_round.mono _ _ _ _ _ _ _)
   | (with_reducible exact impl_root.mono _ _)
   | (with_reducible exact LeO.refl _)
   | (with_reducible exact LeO.none _)
   | (with_reducible refine LeO.ite ?_ ?_)
   | (with_reducible refine LeO.bind ?_ (fun _ => ?_))
   | exact ih0 _ _ _ _ _ _ _ _
   | exact bits_Len64.mono _ _
   | exact impl_format_round.mono _ _ _ _ _ _ _
   | exact impl_root.mono _ _
   | exact LeO.none _
   | refine LeO.ite ?_ ?_
   | refine LeO.bind ?_ (fun _ => ?_)
theorem impl_FSqrt.mono : ∀ a0 a1 k, LeO (impl_FSqrt.f k a0 a1) (impl_FSqrt.f (k + 1) a0 a1) := by
 intro a0 a1 k
 have ih0 := impl_FSqrt.mono_l k
 unfold impl_FSqrt.f
 repeat' first
   | (with_reducible exact ih0 _ _ _ _ _ _ _ _)
   | (with_reducible exact bits_Len64.mono _ _)
   | (with_reducible exact impl_format_round.mono _ _ _ _ _ _ _)
   | (with_reducible exact impl_root.mono _ _)
   | (with_reducible exact LeO.refl _)
   | (with_reducible exact LeO.none _)
   | (with_reducible refine LeO.ite ?_ ?_)
   | (with_reducible refine LeO.bind ?_ (fun _ => ?_))
   | exact ih0 _ _ _ _ _ _ _ _
   | exact bits_Len64.mono _ _
   | exact impl_format_round.mono _ _ _ _ _ _ _
   | exact impl_root.mono _ _
   | exact LeO.none _
   | refine LeO.ite ?_ ?_
   | refine LeO.bind ?_ (fun _ => ?_)
set_option maxHeartbeats 8000000 in
set_option maxRecDepth 100000 in
theorem impl_FSqrt.calls (k : Nat) (a0 : Int) (a1 : Int) (r : Int) (w : World) (h : impl_FSqrt.f k a0 a1 = some r) :
  Calls Try.prog 12 #[.int .i64 a0, .int .u32 a1] w fun e w' => e = .returned (.int .u32 r) ∧ Below w.heap.size w w' := by
 have hu96 := Try.underlying96
 have hu100 := Try.underlying100
 have HB := Aside0.mk (Below.refl w.heap.size w)
 have H : ((impl_formatOf.f a0).bind fun bt196 => (if bt196.2.2 = true then ((impl_format_open.f bt196.1 bt196.2.1 a1).bind fun bt200 => (if bt200.2.1 = true then ((impl_format_noNumber.f bt196.1 bt196.2.1).bind fun t206 => (some t206)) else (if bt200.2.2.1 = true then (impl_FSqrt.j0 k false bt196.1 bt196.2.1 bt200.1 bt200.2.1 bt200.2.2.1 bt200.2.2.2.1 bt200.2.2.2.2) else (impl_FSqrt.j0 k (bt200.2.2.2.1 == 0) bt196.1 bt196.2.1 bt200.1 bt200.2.1 bt200.2.2.1 bt200.2.2.2.1 bt200.2.2.2.2)))) else (some 0))) = some r := h
 clear h
 replace H := Option.bind_eq_some_iff.mp H
 obtain ⟨⟨t196, t197, t198⟩, A30, H⟩ := H
 replace H : (if t198 = true then ((impl_format_open.f t196 t197 a1).bind fun bt200 => (if bt200.2.1 = true then ((impl_format_noNumber.f t196 t197).bind fun t206 => (some t206)) else (if bt200.2.2.1 = true then (impl_FSqrt.j0 k false t196 t197 bt200.1 bt200.2.1 bt200.2.2.1 bt200.2.2.2.1 bt200.2.2.2.2) else (impl_FSqrt.j0 k (bt200.2.2.2.1 == 0) t196 t197 bt200.1 bt200.2.1 bt200.2.2.1 bt200.2.2.2.1 bt200.2.2.2.2)))) else (some 0)) = some r := H
 have A3 := Aside0.mk A30
 clear A30
 by_cases c4 : t198 = true
 ·subst c4
  have H1 : ((impl_format_open.f t196 t197 a1).bind fun bt200 => (if bt200.2.1 = true then ((impl_format_noNumber.f t196 t197).bind fun t206 => (some t206)) else (if bt200.2.2.1 = true then (impl_FSqrt.j0 k false t196 t197 bt200.1 bt200.2.1 bt200.2.2.1 bt200.2.2.2.1 bt200.2.2.2.2) else (impl_FSqrt.j0 k (bt200.2.2.2.1 == 0) t196 t197 bt200.1 bt200.2.1 bt200.2.2.1 bt200.2.2.2.1 bt200.2.2.2.2)))) = some r := by rw [if_pos rfl] at H; first | done | exact H
  clear H
  have H := H1
  clear H1
  replace H := Option.bind_eq_some_iff.mp H
  obtain ⟨⟨t200, t201, t202, t203, t204⟩, A50, H⟩ := H
  replace H : (if t201 = true then ((impl_format_noNumber.f t196 t197).bind fun t206 => (some t206)) else (if t202 = true then (impl_FSqrt.j0 k false t196 t197 t200 t201 t202 t203 t204) else (impl_FSqrt.j0 k (t203 == 0) t196 t197 t200 t201 t202 t203 t204))) = some r := H
  have A5 := Aside0.mk A50
  clear A50
  by_cases c6 : t201 = true
  ·subst c6
   have H1 : ((impl_format_noNumber.f t196 t197).bind fun t206 => (some t206)) = some r := by rw [if_pos rfl] at H; first | done | exact H
   clear H
   have H := H1
   clear H1
   replace H := Option.bind_eq_some_iff.mp H
   obtain ⟨t206, A70, H⟩ := H
   replace H : (some t206) = some r := H
   have A7 := Aside0.mk A70
   clear A70
   obtain rfl := Option.some.inj H
   go_enter Try.func12, Try.ntmps12
   go_wp2_with (first | ((with_reducible refine gate_callee (f := 55) rfl ?_); refine goesL_ (some 13) rfl rfl Try.func55 (by kernel_rfl) rfl #[.int .i64 a0] rfl (by (try simp only [List.map_toArray, List.map_cons, List.map_nil]); first | done | rfl | (simp only [List.length_drop, List.length_take]; rfl)) ?_; (with_reducible refine (impl_formatOf.calls a0 t196 t197 true _ A3.out).mono ?_); rintro e w8 ⟨rfl, hb⟩; refine ⟨_, rfl, ?_⟩; have n0_ := Aside0.mk (below_step (by repeat (first | (with_reducible first | exact HB.out | apply eA | apply eN | apply eD) | exact HB.out)) hb); clear HB; have HB := n0_; clear n0_; (try clear hb); (try clear hb2); (try clear hk); (try clear hi)) | ((with_reducible refine gate_dst (N := 5) rfl ?_); refine box_event ?hg (N := 5) ?hd (cs := #[.int .i64 0, .int .i64 0]) (t := 96) ?hr ?_; (case hd => rfl); (case hg => rfl); (case hr => first | (go_simp; done) | (go_simp; rfl)); intro gb199 hg w9 hbox hb; have n0_ := Aside0.mk (below_step (by repeat (first | (with_reducible first | exact HB.out | apply eA | apply eN | apply eD) | exact HB.out)) hb); have n1_ := Aside0.mk (hbox); have n2_ := Aside0.mk ((by rw [hg]; exact (below_size (by repeat (first | (with_reducible first | exact HB.out | apply eA | apply eN | apply eD) | exact HB.out))) : w.heap.size ≤ gb199)); have n3_ := Aside0.mk ((by rw [hg]; exact (below_size (by repeat (first | (with_reducible first | exact HB.out | apply eA | apply eN | apply eD) | exact HB.out))) : w.heap.size ≤ gb199)); clear HB; have HB := n0_; have BK199 := n1_; have GW199 := n2_; have GE199 := n3_; clear n0_ n1_ n2_ n3_; clear hb hbox hg; have hcz10_0 : w9.cell? ⟨gb199, 0, none⟩ = some (.int .i64 0) := (blk_cell BK199.out 0).trans rfl; have hcz10_1 : w9.cell? ⟨gb199, 1, none⟩ = some (.int .i64 0) := (blk_cell BK199.out 1).trans rfl; have hfz10_0 := blk_frozen BK199.out 0; have hfz10_1 := blk_frozen BK199.out 1) | ((with_reducible refine gate_callee (f := 56) rfl ?_); refine goesL_ (some 20) rfl rfl Try.func56 (by kernel_rfl) rfl #[.agg #[.int .i64 t196, .int .i64 t197], .int .u32 a1] rfl (by (try simp only [List.map_toArray, List.map_cons, List.map_nil]); first | done | rfl | (simp only [List.length_drop, List.length_take]; rfl)) ?_; (with_reducible refine (impl_format_open.calls t196 t197 a1 t200 true t202 t203 t204 _ A5.out).mono ?_); rintro e w11 ⟨rfl, hb⟩; refine ⟨_, rfl, ?_⟩; have n0_ := Aside0.mk (blk_below (g := gb199) (o := .cells #[.int .i64 t196, .int .i64 t197] 96 (0, 0)) (by (with_reducible repeat first | apply bN | apply bD | apply bA); refine blk_put (cs := #[.int .i64 t196, .int .i64 0]) ?_ 1 _ rfl; (with_reducible repeat first | apply bN | apply bD | apply bA); refine blk_put (cs := #[.int .i64 0, .int .i64 0]) ?_ 0 _ rfl; (with_reducible repeat first | apply bN | apply bD | apply bA); exact BK199.out) hb); have n1_ := Aside0.mk (below_step (by repeat (first | (with_reducible first | exact HB.out | apply eA | apply eN | apply eD | refine below_set ?_ GE199.out) | exact HB.out)) hb); clear BK199 HB; have BK199 := n0_; have HB := n1_; clear n0_ n1_; (try clear hb); (try clear hb2); (try clear hk); (try clear hi)) | ((with_reducible refine gate_dst (N := 7) rfl ?_); refine box_event ?hg (N := 7) ?hd (cs := #[.bool false, .bool false, .bool false, .int .u64 0, .int .i64 0]) (t := 100) ?hr ?_; (case hd => rfl); (case hg => rfl); (case hr => first | (go_simp; done) | (go_simp; rfl)); intro gb205 hg w12 hbox hb; have n0_ := Aside0.mk (blk_below (g := gb199) (o := .cells #[.int .i64 t196, .int .i64 t197] 96 (0, 0)) (by (with_reducible repeat first | apply bN | apply bD | apply bA); exact BK199.out) hb); have n1_ := Aside0.mk (below_step (by repeat (first | (with_reducible first | exact HB.out | apply eA | apply eN | apply eD | refine below_set ?_ GE199.out) | exact HB.out)) hb); have n2_ := Aside0.mk (hbox); have n3_ := Aside0.mk ((by rw [hg]; exact (below_size (by repeat (first | (with_reducible first | exact HB.out | apply eA | apply eN | apply eD | refine below_set ?_ GE199.out) | exact HB.out))) : w.heap.size ≤ gb205)); have n4_ := Aside0.mk ((by rw [hg]; exact (below_size (by repeat (first | (with_reducible first | exact HB.out | apply eA | apply eN | apply eD | refine below_set ?_ GE199.out) | exact HB.out))) : w.heap.size ≤ gb205)); have n5_ := Aside0.mk ((by rw [hg]; exact Nat.ne_of_lt (blk_lt (g := gb199) (o := .cells #[.int .i64 t196, .int .i64 t197] 96 (0, 0)) (by (with_reducible repeat first | apply bN | apply bD | apply bA); exact BK199.out)) : gb199 ≠ gb205)); have n6_ := Aside0.mk ((by rw [hg]; exact Nat.ne_of_gt (blk_lt (g := gb199) (o := .cells #[.int .i64 t196, .int .i64 t197] 96 (0, 0)) (by (with_reducible repeat first | apply bN | apply bD | apply bA); exact BK199.out)) : gb205 ≠ gb199)); clear BK199 HB; have BK199 := n0_; have HB := n1_; have BK205 := n2_; have GW205 := n3_; have GE205 := n4_; have NB199_205 := n5_; have NB205_199 := n6_; clear n0_ n1_ n2_ n3_ n4_ n5_ n6_; clear hb hbox hg; have hnb13 := NB205_199.out; have hnc13 := NB199_205.out; have hcz14_0 : w12.cell? ⟨gb205, 0, none⟩ = some (.bool false) := (blk_cell BK205.out 0).trans rfl; have hcz14_1 : w12.cell? ⟨gb205, 1, none⟩ = some (.bool false) := (blk_cell BK205.out 1).trans rfl; have hcz14_2 : w12.cell? ⟨gb205, 2, none⟩ = some (.bool false) := (blk_cell BK205.out 2).trans rfl; have hcz14_3 : w12.cell? ⟨gb205, 3, none⟩ = some (.int .u64 0) := (blk_cell BK205.out 3).trans rfl; have hcz14_4 : w12.cell? ⟨gb205, 4, none⟩ = some (.int .i64 0) := (blk_cell BK205.out 4).trans rfl; have hfz14_0 := blk_frozen BK205.out 0; have hfz14_1 := blk_frozen BK205.out 1; have hfz14_2 := blk_frozen BK205.out 2; have hfz14_3 := blk_frozen BK205.out 3; have hfz14_4 := blk_frozen BK205.out 4; have hcz15_0 : w12.cell? ⟨gb199, 0, none⟩ = some (.int .i64 t196) := (blk_cell BK199.out 0).trans rfl; have hcz15_1 : w12.cell? ⟨gb199, 1, none⟩ = some (.int .i64 t197) := (blk_cell BK199.out 1).trans rfl; have hfz15_0 := blk_frozen BK199.out 0; have hfz15_1 := blk_frozen BK199.out 1) | ((with_reducible refine gate_callee (f := 57) rfl ?_); refine goesL_ (some 25) rfl rfl Try.func57 (by kernel_rfl) rfl #[.agg #[.int .i64 t196, .int .i64 t197]] rfl (by (try simp only [List.map_toArray, List.map_cons, List.map_nil]); first | done | rfl | (simp only [List.length_drop, List.length_take]; rfl)) ?_; (with_reducible refine (impl_format_noNumber.calls t196 t197 t206 _ A7.out).mono ?_); rintro e w16 ⟨rfl, hb⟩; refine ⟨_, rfl, ?_⟩; have n0_ := Aside0.mk (blk_below (g := gb199) (o := .cells #[.int .i64 t196, .int .i64 t197] 96 (0, 0)) (by (with_reducible repeat first | apply bN | apply bD | apply bA); refine blk_far ?_ NB199_205.out _; (with_reducible repeat first | apply bN | apply bD | apply bA); refine blk_far ?_ NB199_205.out _; (with_reducible repeat first | apply bN | apply bD | apply bA); refine blk_far ?_ NB199_205.out _; (with_reducible repeat first | apply bN | apply bD | apply bA); refine blk_far ?_ NB199_205.out _; (with_reducible repeat first | apply bN | apply bD | apply bA); refine blk_far ?_ NB199_205.out _; (with_reducible repeat first | apply bN | apply bD | apply bA); exact BK199.out) hb); have n1_ := Aside0.mk (blk_below (g := gb205) (o := .cells #[.bool t200, .bool true, .bool t202, .int .u64 t203, .int .i64 t204] 100 (0, 0)) (by (with_reducible repeat first | apply bN | apply bD | apply bA); refine blk_put (cs := #[.bool t200, .bool true, .bool t202, .int .u64 t203, .int .i64 0]) ?_ 4 _ rfl; (with_reducible repeat first | apply bN | apply bD | apply bA); refine blk_put (cs := #[.bool t200, .bool true, .bool t202, .int .u64 0, .int .i64 0]) ?_ 3 _ rfl; (with_reducible repeat first | apply bN | apply bD | apply bA); refine blk_put (cs := #[.bool t200, .bool true, .bool false, .int .u64 0, .int .i64 0]) ?_ 2 _ rfl; (with_reducible repeat first | apply bN | apply bD | apply bA); refine blk_put (cs := #[.bool t200, .bool false, .bool false, .int .u64 0, .int .i64 0]) ?_ 1 _ rfl; (with_reducible repeat first | apply bN | apply bD | apply bA); refine blk_put (cs := #[.bool false, .bool false, .bool false, .int .u64 0, .int .i64 0]) ?_ 0 _ rfl; (with_reducible repeat first | apply bN | apply bD | apply bA); exact BK205.out) hb); have n2_ := Aside0.mk (below_step (by repeat (first | (with_reducible first | exact HB.out | apply eA | apply eN | apply eD | refine below_set ?_ GE199.out | refine below_set ?_ GE205.out) | exact HB.out)) hb); clear BK199 BK205 HB; have BK199 := n0_; have BK205 := n1_; have HB := n2_; clear n0_ n1_ n2_; (try clear hb); (try clear hb2); (try clear hk); (try clear hi)))
   go_ret
   exact ⟨by first | rfl | (simp [errW_none, errW_some] <;> rfl) | (simp [*, errW_none, errW_some] <;> rfl), by repeat (first | (with_reducible first | exact HB.out | apply eA | apply eN | apply eD | refine below_set ?_ GE199.out | refine below_set ?_ GE205.out) | exact HB.out)⟩
  ·replace c6 := Bool.eq_false_iff.mpr c6
   subst c6
   have H1 : (if t202 = true then (impl_FSqrt.j0 k false t196 t197 t200 false t202 t203 t204) else (impl_FSqrt.j0 k (t203 == 0) t196 t197 t200 false t202 t203 t204)) = some r := by rw [if_neg (show ¬ (false = true) by decide)] at H; first | done | exact H
   clear H
   have H := H1
   clear H1
   have HC17 := Aside0.mk H
   clear H
   go_enter Try.func12, Try.ntmps12
   go_upto_region 7 with (first | ((with_reducible refine gate_callee (f := 55) rfl ?_); refine goesL_ (some 13) rfl rfl Try.func55 (by kernel_rfl) rfl #[.int .i64 a0] rfl (by (try simp only [List.map_toArray, List.map_cons, List.map_nil]); first | done | rfl | (simp only [List.length_drop, List.length_take]; rfl)) ?_; (with_reducible refine (impl_formatOf.calls a0 t196 t197 true _ A3.out).mono ?_); rintro e w18 ⟨rfl, hb⟩; refine ⟨_, rfl, ?_⟩; have n0_ := Aside0.mk (below_step (by repeat (first | (with_reducible first | exact HB.out | apply eA | apply eN | apply eD) | exact HB.out)) hb); clear HB; have HB := n0_; clear n0_; (try clear hb); (try clear hb2); (try clear hk); (try clear hi)) | ((with_reducible refine gate_dst (N := 5) rfl ?_); refine box_event ?hg (N := 5) ?hd (cs := #[.int .i64 0, .int .i64 0]) (t := 96) ?hr ?_; (case hd => rfl); (case hg => rfl); (case hr => first | (go_simp; done) | (go_simp; rfl)); intro gb199 hg w19 hbox hb; have n0_ := Aside0.mk (below_step (by repeat (first | (with_reducible first | exact HB.out | apply eA | apply eN | apply eD) | exact HB.out)) hb); have n1_ := Aside0.mk (hbox); have n2_ := Aside0.mk ((by rw [hg]; exact (below_size (by repeat (first | (with_reducible first | exact HB.out | apply eA | apply eN | apply eD) | exact HB.out))) : w.heap.size ≤ gb199)); have n3_ := Aside0.mk ((by rw [hg]; exact (below_size (by repeat (first | (with_reducible first | exact HB.out | apply eA | apply eN | apply eD) | exact HB.out))) : w.heap.size ≤ gb199)); clear HB; have HB := n0_; have BK199 := n1_; have GW199 := n2_; have GE199 := n3_; clear n0_ n1_ n2_ n3_; clear hb hbox hg; have hcz20_0 : w19.cell? ⟨gb199, 0, none⟩ = some (.int .i64 0) := (blk_cell BK199.out 0).trans rfl; have hcz20_1 : w19.cell? ⟨gb199, 1, none⟩ = some (.int .i64 0) := (blk_cell BK199.out 1).trans rfl; have hfz20_0 := blk_frozen BK199.out 0; have hfz20_1 := blk_frozen BK199.out 1) | ((with_reducible refine gate_callee (f := 56) rfl ?_); refine goesL_ (some 20) rfl rfl Try.func56 (by kernel_rfl) rfl #[.agg #[.int .i64 t196, .int .i64 t197], .int .u32 a1] rfl (by (try simp only [List.map_toArray, List.map_cons, List.map_nil]); first | done | rfl | (simp only [List.length_drop, List.length_take]; rfl)) ?_; (with_reducible refine (impl_format_open.calls t196 t197 a1 t200 false t202 t203 t204 _ A5.out).mono ?_); rintro e w21 ⟨rfl, hb⟩; refine ⟨_, rfl, ?_⟩; have n0_ := Aside0.mk (blk_below (g := gb199) (o := .cells #[.int .i64 t196, .int .i64 t197] 96 (0, 0)) (by (with_reducible repeat first | apply bN | apply bD | apply bA); refine blk_put (cs := #[.int .i64 t196, .int .i64 0]) ?_ 1 _ rfl; (with_reducible repeat first | apply bN | apply bD | apply bA); refine blk_put (cs := #[.int .i64 0, .int .i64 0]) ?_ 0 _ rfl; (with_reducible repeat first | apply bN | apply bD | apply bA); exact BK199.out) hb); have n1_ := Aside0.mk (below_step (by repeat (first | (with_reducible first | exact HB.out | apply eA | apply eN | apply eD | refine below_set ?_ GE199.out) | exact HB.out)) hb); clear BK199 HB; have BK199 := n0_; have HB := n1_; clear n0_ n1_; (try clear hb); (try clear hb2); (try clear hk); (try clear hi)) | ((with_reducible refine gate_dst (N := 7) rfl ?_); refine box_event ?hg (N := 7) ?hd (cs := #[.bool false, .bool false, .bool false, .int .u64 0, .int .i64 0]) (t := 100) ?hr ?_; (case hd => rfl); (case hg => rfl); (case hr => first | (go_simp; done) | (go_simp; rfl)); intro gb205 hg w22 hbox hb; have n0_ := Aside0.mk (blk_below (g := gb199) (o := .cells #[.int .i64 t196, .int .i64 t197] 96 (0, 0)) (by (with_reducible repeat first | apply bN | apply bD | apply bA); exact BK199.out) hb); have n1_ := Aside0.mk (below_step (by repeat (first | (with_reducible first | exact HB.out | apply eA | apply eN | apply eD | refine below_set ?_ GE199.out) | exact HB.out)) hb); have n2_ := Aside0.mk (hbox); have n3_ := Aside0.mk ((by rw [hg]; exact (below_size (by repeat (first | (with_reducible first | exact HB.out | apply eA | apply eN | apply eD | refine below_set ?_ GE199.out) | exact HB.out))) : w.heap.size ≤ gb205)); have n4_ := Aside0.mk ((by rw [hg]; exact (below_size (by repeat (first | (with_reducible first | exact HB.out | apply eA | apply eN | apply eD | refine below_set ?_ GE199.out) | exact HB.out))) : w.heap.size ≤ gb205)); have n5_ := Aside0.mk ((by rw [hg]; exact Nat.ne_of_lt (blk_lt (g := gb199) (o := .cells #[.int .i64 t196, .int .i64 t197] 96 (0, 0)) (by (with_reducible repeat first | apply bN | apply bD | apply bA); exact BK199.out)) : gb199 ≠ gb205)); have n6_ := Aside0.mk ((by rw [hg]; exact Nat.ne_of_gt (blk_lt (g := gb199) (o := .cells #[.int .i64 t196, .int .i64 t197] 96 (0, 0)) (by (with_reducible repeat first | apply bN | apply bD | apply bA); exact BK199.out)) : gb205 ≠ gb199)); clear BK199 HB; have BK199 := n0_; have HB := n1_; have BK205 := n2_; have GW205 := n3_; have GE205 := n4_; have NB199_205 := n5_; have NB205_199 := n6_; clear n0_ n1_ n2_ n3_ n4_ n5_ n6_; clear hb hbox hg; have hnb23 := NB205_199.out; have hnc23 := NB199_205.out; have hcz24_0 : w22.cell? ⟨gb205, 0, none⟩ = some (.bool false) := (blk_cell BK205.out 0).trans rfl; have hcz24_1 : w22.cell? ⟨gb205, 1, none⟩ = some (.bool false) := (blk_cell BK205.out 1).trans rfl; have hcz24_2 : w22.cell? ⟨gb205, 2, none⟩ = some (.bool false) := (blk_cell BK205.out 2).trans rfl; have hcz24_3 : w22.cell? ⟨gb205, 3, none⟩ = some (.int .u64 0) := (blk_cell BK205.out 3).trans rfl; have hcz24_4 : w22.cell? ⟨gb205, 4, none⟩ = some (.int .i64 0) := (blk_cell BK205.out 4).trans rfl; have hfz24_0 := blk_frozen BK205.out 0; have hfz24_1 := blk_frozen BK205.out 1; have hfz24_2 := blk_frozen BK205.out 2; have hfz24_3 := blk_frozen BK205.out 3; have hfz24_4 := blk_frozen BK205.out 4))
   (try simp only [Act.put, List.setIfInBounds_toArray, List.set_cons_zero, List.set_cons_succ])
   go_cut [26] (fun v26 wc => ∃ (kq : Nat) (x26_16 : Bool), v26 = .bool x26_16 ∧ Aside0 (impl_FSqrt.j0 kq x26_16 t196 t197 t200 false t202 t203 t204 = some r) ∧ Aside0 (kq ≤ k) ∧ Aside0 (wc.heap[gb199]? = some (.cells #[.int .i64 t196, .int .i64 t197] 96 (0, 0))) ∧ Aside0 (wc.heap[gb205]? = some (.cells #[.bool t200, .bool false, .bool t202, .int .u64 t203, .int .i64 t204] 100 (0, 0))) ∧ Aside0 (Below w.heap.size w wc))
   case first =>
    have H := HC17.out
    clear HC17
    by_cases c25 : t202 = true
    ·subst c25
     have H1 : (impl_FSqrt.j0 k false t196 t197 t200 false true t203 t204) = some r := by rw [if_pos rfl] at H; first | done | exact H
     clear H
     have H := H1
     clear H1
     have H' := Aside0.mk H
     clear H
     have hnb26 := NB205_199.out
     have hnc26 := NB199_205.out
     have hcz27_0 : w22.cell? ⟨gb205, 0, none⟩ = some (.bool false) := (blk_cell BK205.out 0).trans rfl
     have hcz27_1 : w22.cell? ⟨gb205, 1, none⟩ = some (.bool false) := (blk_cell BK205.out 1).trans rfl
     have hcz27_2 : w22.cell? ⟨gb205, 2, none⟩ = some (.bool false) := (blk_cell BK205.out 2).trans rfl
     have hcz27_3 : w22.cell? ⟨gb205, 3, none⟩ = some (.int .u64 0) := (blk_cell BK205.out 3).trans rfl
     have hcz27_4 : w22.cell? ⟨gb205, 4, none⟩ = some (.int .i64 0) := (blk_cell BK205.out 4).trans rfl
     have hfz27_0 := blk_frozen BK205.out 0
     have hfz27_1 := blk_frozen BK205.out 1
     have hfz27_2 := blk_frozen BK205.out 2
     have hfz27_3 := blk_frozen BK205.out 3
     have hfz27_4 := blk_frozen BK205.out 4
     go_wp2
     go_meet
     case rel => exact ⟨_, (false), (by first | rfl | (simp; done) | (simp [*]; done)), H', ⟨by first | omega | exact Nat.le_refl _⟩, ⟨by (with_reducible repeat first | apply bN | apply bD | apply bA); refine blk_far ?_ NB199_205.out _; (with_reducible repeat first | apply bN | apply bD | apply bA); refine blk_far ?_ NB199_205.out _; (with_reducible repeat first | apply bN | apply bD | apply bA); refine blk_far ?_ NB199_205.out _; (with_reducible repeat first | apply bN | apply bD | apply bA); refine blk_far ?_ NB199_205.out _; (with_reducible repeat first | apply bN | apply bD | apply bA); refine blk_far ?_ NB199_205.out _; (with_reducible repeat first | apply bN | apply bD | apply bA); exact BK199.out⟩, ⟨by (with_reducible repeat first | apply bN | apply bD | apply bA); refine blk_put (cs := #[.bool t200, .bool false, .bool true, .int .u64 t203, .int .i64 0]) ?_ 4 _ rfl; (with_reducible repeat first | apply bN | apply bD | apply bA); refine blk_put (cs := #[.bool t200, .bool false, .bool true, .int .u64 0, .int .i64 0]) ?_ 3 _ rfl; (with_reducible repeat first | apply bN | apply bD | apply bA); refine blk_put (cs := #[.bool t200, .bool false, .bool false, .int .u64 0, .int .i64 0]) ?_ 2 _ rfl; (with_reducible repeat first | apply bN | apply bD | apply bA); refine blk_put (cs := #[.bool t200, .bool false, .bool false, .int .u64 0, .int .i64 0]) ?_ 1 _ rfl; (with_reducible repeat first | apply bN | apply bD | apply bA); refine blk_put (cs := #[.bool false, .bool false, .bool false, .int .u64 0, .int .i64 0]) ?_ 0 _ rfl; (with_reducible repeat first | apply bN | apply bD | apply bA); exact BK205.out⟩, ⟨by repeat (first | (with_reducible first | exact HB.out | apply eA | apply eN | apply eD | refine below_set ?_ GE199.out | refine below_set ?_ GE205.out) | exact HB.out)⟩⟩
    ·replace c25 := Bool.eq_false_iff.mpr c25
     subst c25
     have H1 : (impl_FSqrt.j0 k (t203 == 0) t196 t197 t200 false false t203 t204) = some r := by rw [if_neg (show ¬ (false = true) by decide)] at H; first | done | exact H
     clear H
     have H := H1
     clear H1
     have H' := Aside0.mk H
     clear H
     have hnb28 := NB205_199.out
     have hnc28 := NB199_205.out
     have hcz29_0 : w22.cell? ⟨gb205, 0, none⟩ = some (.bool false) := (blk_cell BK205.out 0).trans rfl
     have hcz29_1 : w22.cell? ⟨gb205, 1, none⟩ = some (.bool false) := (blk_cell BK205.out 1).trans rfl
     have hcz29_2 : w22.cell? ⟨gb205, 2, none⟩ = some (.bool false) := (blk_cell BK205.out 2).trans rfl
     have hcz29_3 : w22.cell? ⟨gb205, 3, none⟩ = some (.int .u64 0) := (blk_cell BK205.out 3).trans rfl
     have hcz29_4 : w22.cell? ⟨gb205, 4, none⟩ = some (.int .i64 0) := (blk_cell BK205.out 4).trans rfl
     have hfz29_0 := blk_frozen BK205.out 0
     have hfz29_1 := blk_frozen BK205.out 1
     have hfz29_2 := blk_frozen BK205.out 2
     have hfz29_3 := blk_frozen BK205.out 3
     have hfz29_4 := blk_frozen BK205.out 4
     go_wp2
     go_meet
     case rel => exact ⟨_, ((t203 == 0)), (by first | rfl | (simp; done) | (simp [*]; done)), H', ⟨by first | omega | exact Nat.le_refl _⟩, ⟨by (with_reducible repeat first | apply bN | apply bD | apply bA); refine blk_far ?_ NB199_205.out _; (with_reducible repeat first | apply bN | apply bD | apply bA); refine blk_far ?_ NB199_205.out _; (with_reducible repeat first | apply bN | apply bD | apply bA); refine blk_far ?_ NB199_205.out _; (with_reducible repeat first | apply bN | apply bD | apply bA); refine blk_far ?_ NB199_205.out _; (with_reducible repeat first | apply bN | apply bD | apply bA); refine blk_far ?_ NB199_205.out _; (with_reducible repeat first | apply bN | apply bD | apply bA); exact BK199.out⟩, ⟨by (with_reducible repeat first | apply bN | apply bD | apply bA); refine blk_put (cs := #[.bool t200, .bool false, .bool false, .int .u64 t203, .int .i64 0]) ?_ 4 _ rfl; (with_reducible repeat first | apply bN | apply bD | apply bA); refine blk_put (cs := #[.bool t200, .bool false, .bool false, .int .u64 0, .int .i64 0]) ?_ 3 _ rfl; (with_reducible repeat first | apply bN | apply bD | apply bA); refine blk_put (cs := #[.bool t200, .bool false, .bool false, .int .u64 0, .int .i64 0]) ?_ 2 _ rfl; (with_reducible repeat first | apply bN | apply bD | apply bA); refine blk_put (cs := #[.bool t200, .bool false, .bool false, .int .u64 0, .int .i64 0]) ?_ 1 _ rfl; (with_reducible repeat first | apply bN | apply bD | apply bA); refine blk_put (cs := #[.bool false, .bool false, .bool false, .int .u64 0, .int .i64 0]) ?_ 0 _ rfl; (with_reducible repeat first | apply bN | apply bD | apply bA); exact BK205.out⟩, ⟨by repeat (first | (with_reducible first | exact HB.out | apply eA | apply eN | apply eD | refine below_set ?_ GE199.out | refine below_set ?_ GE205.out) | exact HB.out)⟩⟩
   case rest =>
    clear HC17
    try clear c1
    try clear c2
    try clear p2
    try clear c4
    try clear c5
    try clear c6
    try clear c12
    try clear c13
    try clear c23
    try clear c25
    try clear c26
    try clear c28
    try clear hcz10_0
    try clear hcz10_1
    try clear hcz14_0
    try clear hcz14_1
    try clear hcz14_2
    try clear hcz14_3
    try clear hcz14_4
    try clear hcz15_0
    try clear hcz15_1
    try clear hcz20_0
    try clear hcz20_1
    try clear hcz24_0
    try clear hcz24_1
    try clear hcz24_2
    try clear hcz24_3
    try clear hcz24_4
    try clear hcz27_0
    try clear hcz27_1
    try clear hcz27_2
    try clear hcz27_3
    try clear hcz27_4
    try clear hcz29_0
    try clear hcz29_1
    try clear hcz29_2
    try clear hcz29_3
    try clear hcz29_4
    try clear hfz10_0
    try clear hfz10_1
    try clear hfz14_0
    try clear hfz14_1
    try clear hfz14_2
    try clear hfz14_3
    try clear hfz14_4
    try clear hfz15_0
    try clear hfz15_1
    try clear hfz20_0
    try clear hfz20_1
    try clear hfz24_0
    try clear hfz24_1
    try clear hfz24_2
    try clear hfz24_3
    try clear hfz24_4
    try clear hfz27_0
    try clear hfz27_1
    try clear hfz27_2
    try clear hfz27_3
    try clear hfz27_4
    try clear hfz29_0
    try clear hfz29_1
    try clear hfz29_2
    try clear hfz29_3
    try clear hfz29_4
    obtain ⟨kq, x26_16, rfl, HA, HJ16, BK199, BK205, HB⟩ := hcut
    cases kq with
    | zero => exact absurd HA.out (by simp [impl_FSqrt.j0])
    | succ kj16 =>
     have H := HA.out
     clear HA
     simp only [impl_FSqrt.j0] at H
     by_cases c30 : x26_16 = true
     ·subst c30
      have H1 : ((impl_format_signed.f t196 t197 t200 0).bind fun t207 => (some t207)) = some r := by rw [if_pos rfl] at H; first | done | exact H
      clear H
      have H := H1
      clear H1
      replace H := Option.bind_eq_some_iff.mp H
      obtain ⟨t207, A310, H⟩ := H
      replace H : (some t207) = some r := H
      have A31 := Aside0.mk A310
      clear A310
      obtain rfl := Option.some.inj H
      have hnb32 := NB199_205.out
      have hnc32 := NB205_199.out
      have hcz33_0 : wc.cell? ⟨gb199, 0, none⟩ = some (.int .i64 t196) := (blk_cell BK199.out 0).trans rfl
      have hcz33_1 : wc.cell? ⟨gb199, 1, none⟩ = some (.int .i64 t197) := (blk_cell BK199.out 1).trans rfl
      have hfz33_0 := blk_frozen BK199.out 0
      have hfz33_1 := blk_frozen BK199.out 1
      have hcz34_0 : wc.cell? ⟨gb205, 0, none⟩ = some (.bool t200) := (blk_cell BK205.out 0).trans rfl
      have hcz34_1 : wc.cell? ⟨gb205, 1, none⟩ = some (.bool false) := (blk_cell BK205.out 1).trans rfl
      have hcz34_2 : wc.cell? ⟨gb205, 2, none⟩ = some (.bool t202) := (blk_cell BK205.out 2).trans rfl
      have hcz34_3 : wc.cell? ⟨gb205, 3, none⟩ = some (.int .u64 t203) := (blk_cell BK205.out 3).trans rfl
      have hcz34_4 : wc.cell? ⟨gb205, 4, none⟩ = some (.int .i64 t204) := (blk_cell BK205.out 4).trans rfl
      have hfz34_0 := blk_frozen BK205.out 0
      have hfz34_1 := blk_frozen BK205.out 1
      have hfz34_2 := blk_frozen BK205.out 2
      have hfz34_3 := blk_frozen BK205.out 3
      have hfz34_4 := blk_frozen BK205.out 4
      go_wp2_with (first | ((with_reducible refine gate_callee (f := 58) rfl ?_); refine goesL_ (some 38) rfl rfl Try.func58 (by kernel_rfl) rfl #[.agg #[.int .i64 t196, .int .i64 t197], .bool t200, .int .u32 0] rfl (by (try simp only [List.map_toArray, List.map_cons, List.map_nil]); first | done | rfl | (simp only [List.length_drop, List.length_take]; rfl)) ?_; (with_reducible refine (impl_format_signed.calls t196 t197 t200 0 t207 _ A31.out).mono ?_); rintro e w35 ⟨rfl, hb⟩; refine ⟨_, rfl, ?_⟩; have n0_ := Aside0.mk (blk_below (g := gb199) (o := .cells #[.int .i64 t196, .int .i64 t197] 96 (0, 0)) (by (with_reducible repeat first | apply bN | apply bD | apply bA); exact BK199.out) hb); have n1_ := Aside0.mk (blk_below (g := gb205) (o := .cells #[.bool t200, .bool false, .bool t202, .int .u64 t203, .int .i64 t204] 100 (0, 0)) (by (with_reducible repeat first | apply bN | apply bD | apply bA); exact BK205.out) hb); have n2_ := Aside0.mk (below_step (by repeat (first | (with_reducible first | exact HB.out | apply eA | apply eN | apply eD | refine below_set ?_ GE199.out | refine below_set ?_ GE205.out) | exact HB.out)) hb); clear BK199 BK205 HB; have BK199 := n0_; have BK205 := n1_; have HB := n2_; clear n0_ n1_ n2_; (try clear hb); (try clear hb2); (try clear hk); (try clear hi)))
      go_ret
      exact ⟨by first | rfl | (simp [errW_none, errW_some] <;> rfl) | (simp [*, errW_none, errW_some] <;> rfl), by repeat (first | (with_reducible first | exact HB.out | apply eA | apply eN | apply eD | refine below_set ?_ GE199.out | refine below_set ?_ GE205.out) | exact HB.out)⟩
     ·replace c30 := Bool.eq_false_iff.mpr c30
      subst c30
      have H1 : (if t200 = true then ((impl_format_noNumber.f t196 t197).bind fun t208 => (some t208)) else (if t202 = true then ((impl_format_infinite.f t196 t197 false).bind fun t209 => (some t209)) else ((bits_Len64.f kj16 t203).bind fun t210 => (if (Int.tmod (wrap64 (t204 - (wrap64 (60 - t210)))) 2) = 0 then (if 0 ≤ (wrap64 (60 - t210)) then ((impl_root.f kj16 (shl .u64 t203 (wrap64 (60 - t210)))).bind fun t211 => ((impl_format_round.f kj16 t196 t197 false t211 (wrap64 (Int.tdiv (wrap64 (t204 - (wrap64 (60 - t210)))) 2)) ((IntKind.u64.wrap (t211 * t211)) != (shl .u64 t203 (wrap64 (60 - t210))))).bind fun t212 => (some t212))) else (none)) else (if 0 ≤ (wrap64 ((wrap64 (60 - t210)) - 1)) then ((impl_root.f kj16 (shl .u64 t203 (wrap64 ((wrap64 (60 - t210)) - 1)))).bind fun t213 => ((impl_format_round.f kj16 t196 t197 false t213 (wrap64 (Int.tdiv (wrap64 (t204 - (wrap64 ((wrap64 (60 - t210)) - 1)))) 2)) ((IntKind.u64.wrap (t213 * t213)) != (shl .u64 t203 (wrap64 ((wrap64 (60 - t210)) - 1))))).bind fun t214 => (some t214))) else (none)))))) = some r := by rw [if_neg (show ¬ (false = true) by decide)] at H; first | done | exact H
      clear H
      have H := H1
      clear H1
      by_cases c36 : t200 = true
      ·subst c36
       have H1 : ((impl_format_noNumber.f t196 t197).bind fun t208 => (some t208)) = some r := by rw [if_pos rfl] at H; first | done | exact H
       clear H
       have H := H1
       clear H1
       replace H := Option.bind_eq_some_iff.mp H
       obtain ⟨t208, A370, H⟩ := H
       replace H : (some t208) = some r := H
       have A37 := Aside0.mk A370
       clear A370
       obtain rfl := Option.some.inj H
       have hnb38 := NB205_199.out
       have hnc38 := NB199_205.out
       have hcz39_0 : wc.cell? ⟨gb205, 0, none⟩ = some (.bool true) := (blk_cell BK205.out 0).trans rfl
       have hcz39_1 : wc.cell? ⟨gb205, 1, none⟩ = some (.bool false) := (blk_cell BK205.out 1).trans rfl
       have hcz39_2 : wc.cell? ⟨gb205, 2, none⟩ = some (.bool t202) := (blk_cell BK205.out 2).trans rfl
       have hcz39_3 : wc.cell? ⟨gb205, 3, none⟩ = some (.int .u64 t203) := (blk_cell BK205.out 3).trans rfl
       have hcz39_4 : wc.cell? ⟨gb205, 4, none⟩ = some (.int .i64 t204) := (blk_cell BK205.out 4).trans rfl
       have hfz39_0 := blk_frozen BK205.out 0
       have hfz39_1 := blk_frozen BK205.out 1
       have hfz39_2 := blk_frozen BK205.out 2
       have hfz39_3 := blk_frozen BK205.out 3
       have hfz39_4 := blk_frozen BK205.out 4
       have hcz40_0 : wc.cell? ⟨gb199, 0, none⟩ = some (.int .i64 t196) := (blk_cell BK199.out 0).trans rfl
       have hcz40_1 : wc.cell? ⟨gb199, 1, none⟩ = some (.int .i64 t197) := (blk_cell BK199.out 1).trans rfl
       have hfz40_0 := blk_frozen BK199.out 0
       have hfz40_1 := blk_frozen BK199.out 1
       go_wp2_with (first | ((with_reducible refine gate_callee (f := 57) rfl ?_); refine goesL_ (some 43) rfl rfl Try.func57 (by kernel_rfl) rfl #[.agg #[.int .i64 t196, .int .i64 t197]] rfl (by (try simp only [List.map_toArray, List.map_cons, List.map_nil]); first | done | rfl | (simp only [List.length_drop, List.length_take]; rfl)) ?_; (with_reducible refine (impl_format_noNumber.calls t196 t197 t208 _ A37.out).mono ?_); rintro e w41 ⟨rfl, hb⟩; refine ⟨_, rfl, ?_⟩; have n0_ := Aside0.mk (blk_below (g := gb199) (o := .cells #[.int .i64 t196, .int .i64 t197] 96 (0, 0)) (by (with_reducible repeat first | apply bN | apply bD | apply bA); exact BK199.out) hb); have n1_ := Aside0.mk (blk_below (g := gb205) (o := .cells #[.bool true, .bool false, .bool t202, .int .u64 t203, .int .i64 t204] 100 (0, 0)) (by (with_reducible repeat first | apply bN | apply bD | apply bA); exact BK205.out) hb); have n2_ := Aside0.mk (below_step (by repeat (first | (with_reducible first | exact HB.out | apply eA | apply eN | apply eD | refine below_set ?_ GE199.out | refine below_set ?_ GE205.out) | exact HB.out)) hb); clear BK199 BK205 HB; have BK199 := n0_; have BK205 := n1_; have HB := n2_; clear n0_ n1_ n2_; (try clear hb); (try clear hb2); (try clear hk); (try clear hi)))
       go_ret
       exact ⟨by first | rfl | (simp [errW_none, errW_some] <;> rfl) | (simp [*, errW_none, errW_some] <;> rfl), by repeat (first | (with_reducible first | exact HB.out | apply eA | apply eN | apply eD | refine below_set ?_ GE199.out | refine below_set ?_ GE205.out) | exact HB.out)⟩
      ·replace c36 := Bool.eq_false_iff.mpr c36
       subst c36
       have H1 : (if t202 = true then ((impl_format_infinite.f t196 t197 false).bind fun t209 => (some t209)) else ((bits_Len64.f kj16 t203).bind fun t210 => (if (Int.tmod (wrap64 (t204 - (wrap64 (60 - t210)))) 2) = 0 then (if 0 ≤ (wrap64 (60 - t210)) then ((impl_root.f kj16 (shl .u64 t203 (wrap64 (60 - t210)))).bind fun t211 => ((impl_format_round.f kj16 t196 t197 false t211 (wrap64 (Int.tdiv (wrap64 (t204 - (wrap64 (60 - t210)))) 2)) ((IntKind.u64.wrap (t211 * t211)) != (shl .u64 t203 (wrap64 (60 - t210))))).bind fun t212 => (some t212))) else (none)) else (if 0 ≤ (wrap64 ((wrap64 (60 - t210)) - 1)) then ((impl_root.f kj16 (shl .u64 t203 (wrap64 ((wrap64 (60 - t210)) - 1)))).bind fun t213 => ((impl_format_round.f kj16 t196 t197 false t213 (wrap64 (Int.tdiv (wrap64 (t204 - (wrap64 ((wrap64 (60 - t210)) - 1)))) 2)) ((IntKind.u64.wrap (t213 * t213)) != (shl .u64 t203 (wrap64 ((wrap64 (60 - t210)) - 1))))).bind fun t214 => (some t214))) else (none))))) = some r := by rw [if_neg (show ¬ (false = true) by decide)] at H; first | done | exact H
       clear H
       have H := H1
       clear H1
       by_cases c42 : t202 = true
       ·subst c42
        have H1 : ((impl_format_infinite.f t196 t197 false).bind fun t209 => (some t209)) = some r := by rw [if_pos rfl] at H; first | done | exact H
        clear H
        have H := H1
        clear H1
        replace H := Option.bind_eq_some_iff.mp H
        obtain ⟨t209, A430, H⟩ := H
        replace H : (some t209) = some r := H
        have A43 := Aside0.mk A430
        clear A430
        obtain rfl := Option.some.inj H
        have hnb44 := NB205_199.out
        have hnc44 := NB199_205.out
        have hcz45_0 : wc.cell? ⟨gb205, 0, none⟩ = some (.bool false) := (blk_cell BK205.out 0).trans rfl
        have hcz45_1 : wc.cell? ⟨gb205, 1, none⟩ = some (.bool false) := (blk_cell BK205.out 1).trans rfl
        have hcz45_2 : wc.cell? ⟨gb205, 2, none⟩ = some (.bool true) := (blk_cell BK205.out 2).trans rfl
        have hcz45_3 : wc.cell? ⟨gb205, 3, none⟩ = some (.int .u64 t203) := (blk_cell BK205.out 3).trans rfl
        have hcz45_4 : wc.cell? ⟨gb205, 4, none⟩ = some (.int .i64 t204) := (blk_cell BK205.out 4).trans rfl
        have hfz45_0 := blk_frozen BK205.out 0
        have hfz45_1 := blk_frozen BK205.out 1
        have hfz45_2 := blk_frozen BK205.out 2
        have hfz45_3 := blk_frozen BK205.out 3
        have hfz45_4 := blk_frozen BK205.out 4
        have hcz46_0 : wc.cell? ⟨gb199, 0, none⟩ = some (.int .i64 t196) := (blk_cell BK199.out 0).trans rfl
        have hcz46_1 : wc.cell? ⟨gb199, 1, none⟩ = some (.int .i64 t197) := (blk_cell BK199.out 1).trans rfl
        have hfz46_0 := blk_frozen BK199.out 0
        have hfz46_1 := blk_frozen BK199.out 1
        go_wp2_with (first | ((with_reducible refine gate_callee (f := 59) rfl ?_); refine goesL_ (some 48) rfl rfl Try.func59 (by kernel_rfl) rfl #[.agg #[.int .i64 t196, .int .i64 t197], .bool false] rfl (by (try simp only [List.map_toArray, List.map_cons, List.map_nil]); first | done | rfl | (simp only [List.length_drop, List.length_take]; rfl)) ?_; (with_reducible refine (impl_format_infinite.calls t196 t197 false t209 _ A43.out).mono ?_); rintro e w47 ⟨rfl, hb⟩; refine ⟨_, rfl, ?_⟩; have n0_ := Aside0.mk (blk_below (g := gb199) (o := .cells #[.int .i64 t196, .int .i64 t197] 96 (0, 0)) (by (with_reducible repeat first | apply bN | apply bD | apply bA); exact BK199.out) hb); have n1_ := Aside0.mk (blk_below (g := gb205) (o := .cells #[.bool false, .bool false, .bool true, .int .u64 t203, .int .i64 t204] 100 (0, 0)) (by (with_reducible repeat first | apply bN | apply bD | apply bA); exact BK205.out) hb); have n2_ := Aside0.mk (below_step (by repeat (first | (with_reducible first | exact HB.out | apply eA | apply eN | apply eD | refine below_set ?_ GE199.out | refine below_set ?_ GE205.out) | exact HB.out)) hb); clear BK199 BK205 HB; have BK199 := n0_; have BK205 := n1_; have HB := n2_; clear n0_ n1_ n2_; (try clear hb); (try clear hb2); (try clear hk); (try clear hi)))
        go_ret
        exact ⟨by first | rfl | (simp [errW_none, errW_some] <;> rfl) | (simp [*, errW_none, errW_some] <;> rfl), by repeat (first | (with_reducible first | exact HB.out | apply eA | apply eN | apply eD | refine below_set ?_ GE199.out | refine below_set ?_ GE205.out) | exact HB.out)⟩
       ·replace c42 := Bool.eq_false_iff.mpr c42
        subst c42
        have H1 : ((bits_Len64.f kj16 t203).bind fun t210 => (if (Int.tmod (wrap64 (t204 - (wrap64 (60 - t210)))) 2) = 0 then (if 0 ≤ (wrap64 (60 - t210)) then ((impl_root.f kj16 (shl .u64 t203 (wrap64 (60 - t210)))).bind fun t211 => ((impl_format_round.f kj16 t196 t197 false t211 (wrap64 (Int.tdiv (wrap64 (t204 - (wrap64 (60 - t210)))) 2)) ((IntKind.u64.wrap (t211 * t211)) != (shl .u64 t203 (wrap64 (60 - t210))))).bind fun t212 => (some t212))) else (none)) else (if 0 ≤ (wrap64 ((wrap64 (60 - t210)) - 1)) then ((impl_root.f kj16 (shl .u64 t203 (wrap64 ((wrap64 (60 - t210)) - 1)))).bind fun t213 => ((impl_format_round.f kj16 t196 t197 false t213 (wrap64 (Int.tdiv (wrap64 (t204 - (wrap64 ((wrap64 (60 - t210)) - 1)))) 2)) ((IntKind.u64.wrap (t213 * t213)) != (shl .u64 t203 (wrap64 ((wrap64 (60 - t210)) - 1))))).bind fun t214 => (some t214))) else (none)))) = some r := by rw [if_neg (show ¬ (false = true) by decide)] at H; first | done | exact H
        clear H
        have H := H1
        clear H1
        replace H := Option.bind_eq_some_iff.mp H
        obtain ⟨t210, A480, H⟩ := H
        replace H : (if (Int.tmod (wrap64 (t204 - (wrap64 (60 - t210)))) 2) = 0 then (if 0 ≤ (wrap64 (60 - t210)) then ((impl_root.f kj16 (shl .u64 t203 (wrap64 (60 - t210)))).bind fun t211 => ((impl_format_round.f kj16 t196 t197 false t211 (wrap64 (Int.tdiv (wrap64 (t204 - (wrap64 (60 - t210)))) 2)) ((IntKind.u64.wrap (t211 * t211)) != (shl .u64 t203 (wrap64 (60 - t210))))).bind fun t212 => (some t212))) else (none)) else (if 0 ≤ (wrap64 ((wrap64 (60 - t210)) - 1)) then ((impl_root.f kj16 (shl .u64 t203 (wrap64 ((wrap64 (60 - t210)) - 1)))).bind fun t213 => ((impl_format_round.f kj16 t196 t197 false t213 (wrap64 (Int.tdiv (wrap64 (t204 - (wrap64 ((wrap64 (60 - t210)) - 1)))) 2)) ((IntKind.u64.wrap (t213 * t213)) != (shl .u64 t203 (wrap64 ((wrap64 (60 - t210)) - 1))))).bind fun t214 => (some t214))) else (none))) = some r := H
        have A48 := Aside0.mk A480
        clear A480
        by_cases c49 : (Int.tmod (wrap64 (t204 - (wrap64 (60 - t210)))) 2) = 0
        ·rw [if_pos c49] at H
         have c49b0 : ((Int.tmod (wrap64 (t204 - (wrap64 (60 - t210)))) 2) == 0) = true := beq_iff_eq.mpr c49
         have c49b1 : ((Int.tmod (wrap64 (t204 - (wrap64 (60 - t210)))) 2) != 0) = false := bne_eq_false_iff_eq.mpr c49
         clear c49
         obtain ⟨ji50, hji50⟩ : ∃ j_ : Int, (wrap64 (60 - t210)) = j_ := ⟨_, rfl⟩
         replace H : (if 0 ≤ (ji50) then ((impl_root.f kj16 (shl .u64 t203 (ji50))).bind fun t211 => ((impl_format_round.f kj16 t196 t197 false t211 (wrap64 (Int.tdiv (wrap64 (t204 - (ji50))) 2)) ((IntKind.u64.wrap (t211 * t211)) != (shl .u64 t203 (ji50)))).bind fun t212 => (some t212))) else (none)) = some r := by first | (rw [hji50] at H; exact H) | (simp only [hji50] at H ⊢; exact H)
         (try rw [hji50] at c49b0)
         (try rw [hji50] at c49b1)
         (try rw [hji50] at A48)
         have hji50w : (IntKind.i64.wrap (60 - t210)) = ji50 := (i64_w _).trans hji50
         by_cases c51 : 0 ≤ (ji50)
         ·rw [if_pos c51] at H
          have c51b0 := eq_true c51
          have c51b1 : decide (0 ≤ (ji50)) = true := decide_eq_true c51
          clear c51
          obtain ⟨ji52, hji52⟩ : ∃ j_ : Int, (shl .u64 t203 (ji50)) = j_ := ⟨_, rfl⟩
          replace H : ((impl_root.f kj16 (ji52)).bind fun t211 => ((impl_format_round.f kj16 t196 t197 false t211 (wrap64 (Int.tdiv (wrap64 (t204 - (ji50))) 2)) ((IntKind.u64.wrap (t211 * t211)) != (ji52))).bind fun t212 => (some t212))) = some r := by first | (rw [hji52] at H; exact H) | (simp only [hji52] at H ⊢; exact H)
          (try rw [hji52] at A48)
          have hji52_ : (IntKind.u64.wrap (t203 * 2 ^ min (ji50).toNat 64)) = ji52 := hji52
          have hji52z : (ji50) ≤ 64 → (IntKind.u64.wrap (t203 * 2 ^ (ji50).toNat)) = ji52 := shl_small hji52
          replace H := Option.bind_eq_some_iff.mp H
          obtain ⟨t211, A530, H⟩ := H
          replace H : ((impl_format_round.f kj16 t196 t197 false t211 (wrap64 (Int.tdiv (wrap64 (t204 - (ji50))) 2)) ((IntKind.u64.wrap (t211 * t211)) != (ji52))).bind fun t212 => (some t212)) = some r := H
          have A53 := Aside0.mk A530
          clear A530
          replace H := Option.bind_eq_some_iff.mp H
          obtain ⟨t212, A540, H⟩ := H
          replace H : (some t212) = some r := H
          have A54 := Aside0.mk A540
          clear A540
          obtain rfl := Option.some.inj H
          have hnb55 := NB205_199.out
          have hnc55 := NB199_205.out
          have hcz56_0 : wc.cell? ⟨gb205, 0, none⟩ = some (.bool false) := (blk_cell BK205.out 0).trans rfl
          have hcz56_1 : wc.cell? ⟨gb205, 1, none⟩ = some (.bool false) := (blk_cell BK205.out 1).trans rfl
          have hcz56_2 : wc.cell? ⟨gb205, 2, none⟩ = some (.bool false) := (blk_cell BK205.out 2).trans rfl
          have hcz56_3 : wc.cell? ⟨gb205, 3, none⟩ = some (.int .u64 t203) := (blk_cell BK205.out 3).trans rfl
          have hcz56_4 : wc.cell? ⟨gb205, 4, none⟩ = some (.int .i64 t204) := (blk_cell BK205.out 4).trans rfl
          have hfz56_0 := blk_frozen BK205.out 0
          have hfz56_1 := blk_frozen BK205.out 1
          have hfz56_2 := blk_frozen BK205.out 2
          have hfz56_3 := blk_frozen BK205.out 3
          have hfz56_4 := blk_frozen BK205.out 4
          go_wp2_with (first | ((with_reducible refine gate_callee (f := 60) rfl ?_); refine goesL_ (some 51) rfl rfl Try.func60 (by kernel_rfl) rfl #[.int .u64 t203] rfl (by (try simp only [List.map_toArray, List.map_cons, List.map_nil]); first | done | rfl | (simp only [List.length_drop, List.length_take]; rfl)) ?_; (with_reducible refine (bits_Len64.calls kj16 t203 t210 _ A48.out).mono ?_); rintro e w' ⟨rfl, ⟨nd, rfl⟩⟩; refine ⟨_, rfl, ?_⟩) | ((with_reducible refine gate_callee (f := 61) rfl ?_); refine goesL_ (some 66) rfl rfl Try.func61 (by kernel_rfl) rfl #[.int .u64 ji52] rfl (by (try simp only [List.map_toArray, List.map_cons, List.map_nil]); first | done | (simp only [hji52]; rfl) | rfl | (simp only [List.length_drop, List.length_take]; rfl)) ?_; (with_reducible refine (impl_root.calls kj16 ji52 t211 _ A53.out).mono ?_); rintro e w' ⟨rfl, ⟨nd, rfl⟩⟩; refine ⟨_, rfl, ?_⟩; have hcz57_0 : wc.cell? ⟨gb199, 0, none⟩ = some (.int .i64 t196) := (blk_cell BK199.out 0).trans rfl; have hcz57_1 : wc.cell? ⟨gb199, 1, none⟩ = some (.int .i64 t197) := (blk_cell BK199.out 1).trans rfl; have hfz57_0 := blk_frozen BK199.out 0; have hfz57_1 := blk_frozen BK199.out 1) | ((with_reducible refine gate_callee (f := 62) rfl ?_); refine goesL_ (some 79) rfl rfl Try.func62 (by kernel_rfl) rfl #[.agg #[.int .i64 t196, .int .i64 t197], .bool false, .int .u64 t211, .int .i64 (wrap64 (Int.tdiv (wrap64 (t204 - (ji50))) 2)), .bool ((IntKind.u64.wrap (t211 * t211)) != (ji52))] rfl (by (try simp only [List.map_toArray, List.map_cons, List.map_nil]); first | done | (simp only [hji50, hji52]; rfl) | rfl | (simp only [List.length_drop, List.length_take]; rfl)) ?_; (with_reducible refine (impl_format_round.calls kj16 t196 t197 false t211 (wrap64 (Int.tdiv (wrap64 (t204 - (ji50))) 2)) ((IntKind.u64.wrap (t211 * t211)) != (ji52)) t212 _ A54.out).mono ?_); rintro e w58 ⟨rfl, hb⟩; refine ⟨_, rfl, ?_⟩; have n0_ := Aside0.mk (blk_below (g := gb199) (o := .cells #[.int .i64 t196, .int .i64 t197] 96 (0, 0)) (by (with_reducible repeat first | apply bN | apply bD | apply bA); exact BK199.out) hb); have n1_ := Aside0.mk (blk_below (g := gb205) (o := .cells #[.bool false, .bool false, .bool false, .int .u64 t203, .int .i64 t204] 100 (0, 0)) (by (with_reducible repeat first | apply bN | apply bD | apply bA); exact BK205.out) hb); have n2_ := Aside0.mk (below_step (by repeat (first | (with_reducible first | exact HB.out | apply eA | apply eN | apply eD | refine below_set ?_ GE199.out | refine below_set ?_ GE205.out) | exact HB.out)) hb); clear BK199 BK205 HB; have BK199 := n0_; have BK205 := n1_; have HB := n2_; clear n0_ n1_ n2_; (try clear hb); (try clear hb2); (try clear hk); (try clear hi)))
          go_ret
          exact ⟨by first | rfl | (simp [errW_none, errW_some] <;> rfl) | (simp only [← hji50, ← hji52]; first | rfl | (simp [errW_none, errW_some] <;> rfl)) | (simp [*, errW_none, errW_some] <;> rfl), by repeat (first | (with_reducible first | exact HB.out | apply eA | apply eN | apply eD | refine below_set ?_ GE199.out | refine below_set ?_ GE205.out) | exact HB.out)⟩
         ·rw [if_neg c51] at H
          exact absurd H (by simp)
        ·rw [if_neg c49] at H
         have c49b0 : ((Int.tmod (wrap64 (t204 - (wrap64 (60 - t210)))) 2) == 0) = false := beq_eq_false_iff_ne.mpr c49
         have c49b1 : ((Int.tmod (wrap64 (t204 - (wrap64 (60 - t210)))) 2) != 0) = true := bne_iff_ne.mpr c49
         obtain ⟨ji59, hji59⟩ : ∃ j_ : Int, (wrap64 ((wrap64 (60 - t210)) - 1)) = j_ := ⟨_, rfl⟩
         replace H : (if 0 ≤ (ji59) then ((impl_root.f kj16 (shl .u64 t203 (ji59))).bind fun t213 => ((impl_format_round.f kj16 t196 t197 false t213 (wrap64 (Int.tdiv (wrap64 (t204 - (ji59))) 2)) ((IntKind.u64.wrap (t213 * t213)) != (shl .u64 t203 (ji59)))).bind fun t214 => (some t214))) else (none)) = some r := by first | (rw [hji59] at H; exact H) | (simp only [hji59] at H ⊢; exact H)
         (try rw [hji59] at A48)
         have hji59w : (IntKind.i64.wrap ((wrap64 (60 - t210)) - 1)) = ji59 := (i64_w _).trans hji59
         by_cases c60 : 0 ≤ (ji59)
         ·rw [if_pos c60] at H
          have c60b0 := eq_true c60
          have c60b1 : decide (0 ≤ (ji59)) = true := decide_eq_true c60
          clear c60
          obtain ⟨ji61, hji61⟩ : ∃ j_ : Int, (shl .u64 t203 (ji59)) = j_ := ⟨_, rfl⟩
          replace H : ((impl_root.f kj16 (ji61)).bind fun t213 => ((impl_format_round.f kj16 t196 t197 false t213 (wrap64 (Int.tdiv (wrap64 (t204 - (ji59))) 2)) ((IntKind.u64.wrap (t213 * t213)) != (ji61))).bind fun t214 => (some t214))) = some r := by first | (rw [hji61] at H; exact H) | (simp only [hji61] at H ⊢; exact H)
          (try rw [hji61] at A48)
          have hji61_ : (IntKind.u64.wrap (t203 * 2 ^ min (ji59).toNat 64)) = ji61 := hji61
          have hji61z : (ji59) ≤ 64 → (IntKind.u64.wrap (t203 * 2 ^ (ji59).toNat)) = ji61 := shl_small hji61
          replace H := Option.bind_eq_some_iff.mp H
          obtain ⟨t213, A620, H⟩ := H
          replace H : ((impl_format_round.f kj16 t196 t197 false t213 (wrap64 (Int.tdiv (wrap64 (t204 - (ji59))) 2)) ((IntKind.u64.wrap (t213 * t213)) != (ji61))).bind fun t214 => (some t214)) = some r := H
          have A62 := Aside0.mk A620
          clear A620
          replace H := Option.bind_eq_some_iff.mp H
          obtain ⟨t214, A630, H⟩ := H
          replace H : (some t214) = some r := H
          have A63 := Aside0.mk A630
          clear A630
          obtain rfl := Option.some.inj H
          have hnb64 := NB205_199.out
          have hnc64 := NB199_205.out
          have hcz65_0 : wc.cell? ⟨gb205, 0, none⟩ = some (.bool false) := (blk_cell BK205.out 0).trans rfl
          have hcz65_1 : wc.cell? ⟨gb205, 1, none⟩ = some (.bool false) := (blk_cell BK205.out 1).trans rfl
          have hcz65_2 : wc.cell? ⟨gb205, 2, none⟩ = some (.bool false) := (blk_cell BK205.out 2).trans rfl
          have hcz65_3 : wc.cell? ⟨gb205, 3, none⟩ = some (.int .u64 t203) := (blk_cell BK205.out 3).trans rfl
          have hcz65_4 : wc.cell? ⟨gb205, 4, none⟩ = some (.int .i64 t204) := (blk_cell BK205.out 4).trans rfl
          have hfz65_0 := blk_frozen BK205.out 0
          have hfz65_1 := blk_frozen BK205.out 1
          have hfz65_2 := blk_frozen BK205.out 2
          have hfz65_3 := blk_frozen BK205.out 3
          have hfz65_4 := blk_frozen BK205.out 4
          go_wp2_with (first | ((with_reducible refine gate_callee (f := 60) rfl ?_); refine goesL_ (some 51) rfl rfl Try.func60 (by kernel_rfl) rfl #[.int .u64 t203] rfl (by (try simp only [List.map_toArray, List.map_cons, List.map_nil]); first | done | rfl | (simp only [List.length_drop, List.length_take]; rfl)) ?_; (with_reducible refine (bits_Len64.calls kj16 t203 t210 _ A48.out).mono ?_); rintro e w' ⟨rfl, ⟨nd, rfl⟩⟩; refine ⟨_, rfl, ?_⟩) | ((with_reducible refine gate_callee (f := 61) rfl ?_); refine goesL_ (some 66) rfl rfl Try.func61 (by kernel_rfl) rfl #[.int .u64 ji61] rfl (by (try simp only [List.map_toArray, List.map_cons, List.map_nil]); first | done | (simp only [hji61]; rfl) | rfl | (simp only [List.length_drop, List.length_take]; rfl)) ?_; (with_reducible refine (impl_root.calls kj16 ji61 t213 _ A62.out).mono ?_); rintro e w' ⟨rfl, ⟨nd, rfl⟩⟩; refine ⟨_, rfl, ?_⟩; have hcz66_0 : wc.cell? ⟨gb199, 0, none⟩ = some (.int .i64 t196) := (blk_cell BK199.out 0).trans rfl; have hcz66_1 : wc.cell? ⟨gb199, 1, none⟩ = some (.int .i64 t197) := (blk_cell BK199.out 1).trans rfl; have hfz66_0 := blk_frozen BK199.out 0; have hfz66_1 := blk_frozen BK199.out 1) | ((with_reducible refine gate_callee (f := 62) rfl ?_); refine goesL_ (some 79) rfl rfl Try.func62 (by kernel_rfl) rfl #[.agg #[.int .i64 t196, .int .i64 t197], .bool false, .int .u64 t213, .int .i64 (wrap64 (Int.tdiv (wrap64 (t204 - (ji59))) 2)), .bool ((IntKind.u64.wrap (t213 * t213)) != (ji61))] rfl (by (try simp only [List.map_toArray, List.map_cons, List.map_nil]); first | done | (simp only [hji59, hji61]; rfl) | rfl | (simp only [List.length_drop, List.length_take]; rfl)) ?_; (with_reducible refine (impl_format_round.calls kj16 t196 t197 false t213 (wrap64 (Int.tdiv (wrap64 (t204 - (ji59))) 2)) ((IntKind.u64.wrap (t213 * t213)) != (ji61)) t214 _ A63.out).mono ?_); rintro e w67 ⟨rfl, hb⟩; refine ⟨_, rfl, ?_⟩; have n0_ := Aside0.mk (blk_below (g := gb199) (o := .cells #[.int .i64 t196, .int .i64 t197] 96 (0, 0)) (by (with_reducible repeat first | apply bN | apply bD | apply bA); exact BK199.out) hb); have n1_ := Aside0.mk (blk_below (g := gb205) (o := .cells #[.bool false, .bool false, .bool false, .int .u64 t203, .int .i64 t204] 100 (0, 0)) (by (with_reducible repeat first | apply bN | apply bD | apply bA); exact BK205.out) hb); have n2_ := Aside0.mk (below_step (by repeat (first | (with_reducible first | exact HB.out | apply eA | apply eN | apply eD | refine below_set ?_ GE199.out | refine below_set ?_ GE205.out) | exact HB.out)) hb); clear BK199 BK205 HB; have BK199 := n0_; have BK205 := n1_; have HB := n2_; clear n0_ n1_ n2_; (try clear hb); (try clear hb2); (try clear hk); (try clear hi)))
          go_ret
          exact ⟨by first | rfl | (simp [errW_none, errW_some] <;> rfl) | (simp only [← hji59, ← hji61]; first | rfl | (simp [errW_none, errW_some] <;> rfl)) | (simp [*, errW_none, errW_some] <;> rfl), by repeat (first | (with_reducible first | exact HB.out | apply eA | apply eN | apply eD | refine below_set ?_ GE199.out | refine below_set ?_ GE205.out) | exact HB.out)⟩
         ·rw [if_neg c60] at H
          exact absurd H (by simp)
 ·replace c4 := Bool.eq_false_iff.mpr c4
  subst c4
  have H1 : (some 0) = some r := by rw [if_neg (show ¬ (false = true) by decide)] at H; first | done | exact H
  clear H
  have H := H1
  clear H1
  obtain rfl := Option.some.inj H
  go_enter Try.func12, Try.ntmps12
  go_wp2_with (first | ((with_reducible refine gate_callee (f := 55) rfl ?_); refine goesL_ (some 13) rfl rfl Try.func55 (by kernel_rfl) rfl #[.int .i64 a0] rfl (by (try simp only [List.map_toArray, List.map_cons, List.map_nil]); first | done | rfl | (simp only [List.length_drop, List.length_take]; rfl)) ?_; (with_reducible refine (impl_formatOf.calls a0 t196 t197 false _ A3.out).mono ?_); rintro e w68 ⟨rfl, hb⟩; refine ⟨_, rfl, ?_⟩; have n0_ := Aside0.mk (below_step (by repeat (first | (with_reducible first | exact HB.out | apply eA | apply eN | apply eD) | exact HB.out)) hb); clear HB; have HB := n0_; clear n0_; (try clear hb); (try clear hb2); (try clear hk); (try clear hi)) | ((with_reducible refine gate_dst (N := 5) rfl ?_); refine box_event ?hg (N := 5) ?hd (cs := #[.int .i64 0, .int .i64 0]) (t := 96) ?hr ?_; (case hd => rfl); (case hg => rfl); (case hr => first | (go_simp; done) | (go_simp; rfl)); intro gb199 hg w69 hbox hb; have n0_ := Aside0.mk (below_step (by repeat (first | (with_reducible first | exact HB.out | apply eA | apply eN | apply eD) | exact HB.out)) hb); have n1_ := Aside0.mk (hbox); have n2_ := Aside0.mk ((by rw [hg]; exact (below_size (by repeat (first | (with_reducible first | exact HB.out | apply eA | apply eN | apply eD) | exact HB.out))) : w.heap.size ≤ gb199)); have n3_ := Aside0.mk ((by rw [hg]; exact (below_size (by repeat (first | (with_reducible first | exact HB.out | apply eA | apply eN | apply eD) | exact HB.out))) : w.heap.size ≤ gb199)); clear HB; have HB := n0_; have BK199 := n1_; have GW199 := n2_; have GE199 := n3_; clear n0_ n1_ n2_ n3_; clear hb hbox hg; have hcz70_0 : w69.cell? ⟨gb199, 0, none⟩ = some (.int .i64 0) := (blk_cell BK199.out 0).trans rfl; have hcz70_1 : w69.cell? ⟨gb199, 1, none⟩ = some (.int .i64 0) := (blk_cell BK199.out 1).trans rfl; have hfz70_0 := blk_frozen BK199.out 0; have hfz70_1 := blk_frozen BK199.out 1))
  go_ret
  exact ⟨by first | rfl | (simp [errW_none, errW_some] <;> rfl) | (simp [*, errW_none, errW_some] <;> rfl), by repeat (first | (with_reducible first | exact HB.out | apply eA | apply eN | apply eD | refine below_set ?_ GE199.out) | exact HB.out)⟩

/-! ### spec_l4K_nan: function 114 -/
def spec_l4K_nan.f (a0_0 : Int) (a0_1 : Int) : Option (Int) := if 0 ≤ a0_0 then (if 0 ≤ a0_1 then (if 0 ≤ (IntKind.u64.wrap (a0_1 - 1)) then (some (Go.bits .or .u32 (shl .u32 (((shl .u32 1 a0_0) - 1) % 4294967296) a0_1) (shl .u32 1 (IntKind.u64.wrap (a0_1 - 1))))) else (none)) else (none)) else (none)
set_option maxHeartbeats 8000000 in
set_option maxRecDepth 100000 in
theorem spec_l4K_nan.calls (a0_0 : Int) (a0_1 : Int) (r : Int) (w : World) (h : spec_l4K_nan.f a0_0 a0_1 = some r) :
  Calls Try.prog 114 #[.agg #[.int .u64 a0_0, .int .u64 a0_1]] w fun e w' => e = .returned (.int .u32 r) ∧ Below w.heap.size w w' := by
 have hu109 := Try.underlying109
 have HB := Aside0.mk (Below.refl w.heap.size w)
 have H : (if 0 ≤ a0_0 then (if 0 ≤ a0_1 then (if 0 ≤ (IntKind.u64.wrap (a0_1 - 1)) then (some (Go.bits .or .u32 (shl .u32 (((shl .u32 1 a0_0) - 1) % 4294967296) a0_1) (shl .u32 1 (IntKind.u64.wrap (a0_1 - 1))))) else (none)) else (none)) else (none)) = some r := h
 clear h
 by_cases c2 : 0 ≤ a0_0
 ·rw [if_pos c2] at H
  have c2b0 := eq_true c2
  have c2b1 : decide (0 ≤ a0_0) = true := decide_eq_true c2
  clear c2
  obtain ⟨ji3, hji3⟩ : ∃ j_ : Int, (shl .u32 1 a0_0) = j_ := ⟨_, rfl⟩
  replace H : (if 0 ≤ a0_1 then (if 0 ≤ (IntKind.u64.wrap (a0_1 - 1)) then (some (Go.bits .or .u32 (shl .u32 (((ji3) - 1) % 4294967296) a0_1) (shl .u32 1 (IntKind.u64.wrap (a0_1 - 1))))) else (none)) else (none)) = some r := by first | (rw [hji3] at H; exact H) | (simp only [hji3] at H ⊢; exact H)
  have hji3_ : (IntKind.u32.wrap (1 * 2 ^ min a0_0.toNat 32)) = ji3 := hji3
  have hji3z : a0_0 ≤ 32 → (IntKind.u32.wrap (1 * 2 ^ a0_0.toNat)) = ji3 := shl_small hji3
  have hji3u : (IntKind.u32.wrap (2 ^ min a0_0.toNat 32)) = ji3 := by have h_ := hji3_; rw [Int.one_mul] at h_; exact h_
  have hji3v : a0_0 ≤ 32 → (IntKind.u32.wrap (2 ^ a0_0.toNat)) = ji3 := fun hle_ => by have h_ := hji3z hle_; rw [Int.one_mul] at h_; exact h_
  by_cases c4 : 0 ≤ a0_1
  ·rw [if_pos c4] at H
   have c4b0 := eq_true c4
   have c4b1 : decide (0 ≤ a0_1) = true := decide_eq_true c4
   clear c4
   obtain ⟨ji5, hji5⟩ : ∃ j_ : Int, (shl .u32 (((ji3) - 1) % 4294967296) a0_1) = j_ := ⟨_, rfl⟩
   replace H : (if 0 ≤ (IntKind.u64.wrap (a0_1 - 1)) then (some (Go.bits .or .u32 (ji5) (shl .u32 1 (IntKind.u64.wrap (a0_1 - 1))))) else (none)) = some r := by first | (rw [hji5] at H; exact H) | (simp only [hji5] at H ⊢; exact H)
   have hji5_ : (IntKind.u32.wrap ((((ji3) - 1) % 4294967296) * 2 ^ min a0_1.toNat 32)) = ji5 := hji5
   have hji5z : a0_1 ≤ 32 → (IntKind.u32.wrap ((((ji3) - 1) % 4294967296) * 2 ^ a0_1.toNat)) = ji5 := shl_small hji5
   obtain ⟨ji6, hji6⟩ : ∃ j_ : Int, (IntKind.u64.wrap (a0_1 - 1)) = j_ := ⟨_, rfl⟩
   replace H : (if 0 ≤ (ji6) then (some (Go.bits .or .u32 (ji5) (shl .u32 1 (ji6)))) else (none)) = some r := by first | (rw [hji6] at H; exact H) | (simp only [hji6] at H ⊢; exact H)
   by_cases c7 : 0 ≤ (ji6)
   ·rw [if_pos c7] at H
    have c7b0 := eq_true c7
    have c7b1 : decide (0 ≤ (ji6)) = true := decide_eq_true c7
    clear c7
    obtain ⟨ji8, hji8⟩ : ∃ j_ : Int, (shl .u32 1 (ji6)) = j_ := ⟨_, rfl⟩
    replace H : (some (Go.bits .or .u32 (ji5) (ji8))) = some r := by first | (rw [hji8] at H; exact H) | (simp only [hji8] at H ⊢; exact H)
    have hji8_ : (IntKind.u32.wrap (1 * 2 ^ min (ji6).toNat 32)) = ji8 := hji8
    have hji8z : (ji6) ≤ 32 → (IntKind.u32.wrap (1 * 2 ^ (ji6).toNat)) = ji8 := shl_small hji8
    have hji8u : (IntKind.u32.wrap (2 ^ min (ji6).toNat 32)) = ji8 := by have h_ := hji8_; rw [Int.one_mul] at h_; exact h_
    have hji8v : (ji6) ≤ 32 → (IntKind.u32.wrap (2 ^ (ji6).toNat)) = ji8 := fun hle_ => by have h_ := hji8z hle_; rw [Int.one_mul] at h_; exact h_
    obtain rfl := Option.some.inj H
    go_enter Try.func114, Try.ntmps114
    go_wp2_with (first | ((with_reducible refine gate_dst (N := 1) rfl ?_); refine box_event ?hg (N := 1) ?hd (cs := #[.int .u64 a0_0, .int .u64 a0_1]) (t := 109) ?hr ?_; (case hd => rfl); (case hg => rfl); (case hr => first | (go_simp; done) | (go_simp; rfl)); intro gb215 hg w9 hbox hb; have n0_ := Aside0.mk (below_step (by repeat (first | (with_reducible first | exact HB.out | apply eA | apply eN | apply eD) | exact HB.out)) hb); have n1_ := Aside0.mk (hbox); have n2_ := Aside0.mk ((by rw [hg]; exact (below_size (by repeat (first | (with_reducible first | exact HB.out | apply eA | apply eN | apply eD) | exact HB.out))) : w.heap.size ≤ gb215)); have n3_ := Aside0.mk ((by rw [hg]; exact (below_size (by repeat (first | (with_reducible first | exact HB.out | apply eA | apply eN | apply eD) | exact HB.out))) : w.heap.size ≤ gb215)); clear HB; have HB := n0_; have BK215 := n1_; have GW215 := n2_; have GE215 := n3_; clear n0_ n1_ n2_ n3_; clear hb hbox hg; have hcz10_0 : w9.cell? ⟨gb215, 0, none⟩ = some (.int .u64 a0_0) := (blk_cell BK215.out 0).trans rfl; have hcz10_1 : w9.cell? ⟨gb215, 1, none⟩ = some (.int .u64 a0_1) := (blk_cell BK215.out 1).trans rfl; have hfz10_0 := blk_frozen BK215.out 0; have hfz10_1 := blk_frozen BK215.out 1))
    go_ret
    exact ⟨by first | rfl | (simp [errW_none, errW_some] <;> rfl) | (simp only [← hji3, ← hji5, ← hji6, ← hji8]; first | rfl | (simp [errW_none, errW_some] <;> rfl)) | (simp [*, errW_none, errW_some] <;> rfl), by repeat (first | (with_reducible first | exact HB.out | apply eA | apply eN | apply eD | refine below_set ?_ GE215.out) | exact HB.out)⟩
   ·rw [if_neg c7] at H
    exact absurd H (by simp)
  ·rw [if_neg c4] at H
   exact absurd H (by simp)
 ·rw [if_neg c2] at H
  exact absurd H (by simp)

/-! ### spec_l4K_full: function 117 -/
def spec_l4K_full.l0 : Nat → Int → Int → Bool → Bool → Bool → Int → Int → Option (Bool × Bool × Bool × Int × Int)
 | 0, _, _, _, _, _, _, _ => none
 | k + 1, x217000, x217001, x218000, x218001, x218002, x218003, x218004 => if x218003 = 0 then (some (x218000, x218001, x218002, x218003, x218004)) else (if 0 ≤ x217001 then (if x218003 < (shl .u64 1 x217001) then (spec_l4K_full.l0 k x217000 x217001 x218000 x218001 x218002 (IntKind.u64.wrap (x218003 * 2)) (wrap64 (x218004 - 1))) else (some (x218000, x218001, x218002, x218003, x218004))) else (none))
def spec_l4K_full.f (k : Nat) (a0_0 : Int) (a0_1 : Int) (a1_0 : Bool) (a1_1 : Bool) (a1_2 : Bool) (a1_3 : Int) (a1_4 : Int) : Option (Bool × Bool × Bool × Int × Int) := spec_l4K_full.l0 k a0_0 a0_1 a1_0 a1_1 a1_2 a1_3 a1_4
theorem spec_l4K_full.mono_l : ∀ k, (∀ y0 y1 y2 y3 y4 y5 y6, LeO (spec_l4K_full.l0 k y0 y1 y2 y3 y4 y5 y6) (spec_l4K_full.l0 (k + 1) y0 y1 y2 y3 y4 y5 y6))
 | 0 => fun _ _ _ _ _ _ _ r h => by simp [spec_l4K_full.l0] at h
 | k + 1 => by
  have ih0 := spec_l4K_full.mono_l k
  ·intro y0 y1 y2 y3 y4 y5 y6
   unfold spec_l4K_full.l0
   repeat' first
   | (with_reducible exact ih0 _ _ _ _ _ _ _)
   | (with_reducible exact LeO.refl _)
   | (with_reducible exact LeO.none _)
   | (with_reducible refine LeO.ite ?_ ?_)
   | (with_reducible refine LeO.bind ?_ (fun _ => ?_))
   | exact ih0 _ _ _ _ _ _ _
   | exact LeO.none _
   | refine LeO.ite ?_ ?_
   | refine LeO.bind ?_ (fun _ => ?_)
theorem spec_l4K_full.mono : ∀ a0 a1 a2 a3 a4 a5 a6 k, LeO (spec_l4K_full.f k a0 a1 a2 a3 a4 a5 a6) (spec_l4K_full.f (k + 1) a0 a1 a2 a3 a4 a5 a6) := by
 intro a0 a1 a2 a3 a4 a5 a6 k
 have ih0 := spec_l4K_full.mono_l k
 unfold spec_l4K_full.f
 repeat' first
   | (with_reducible exact ih0 _ _ _ _ _ _ _)
   | (with_reducible exact LeO.refl _)
   | (with_reducible exact LeO.none _)
   | (with_reducible refine LeO.ite ?_ ?_)
   | (with_reducible refine LeO.bind ?_ (fun _ => ?_))
   | exact ih0 _ _ _ _ _ _ _
   | exact LeO.none _
   | refine LeO.ite ?_ ?_
   | refine LeO.bind ?_ (fun _ => ?_)
set_option maxHeartbeats 8000000 in
set_option maxRecDepth 100000 in
theorem spec_l4K_full.calls (k : Nat) (a0_0 : Int) (a0_1 : Int) (a1_0 : Bool) (a1_1 : Bool) (a1_2 : Bool) (a1_3 : Int) (a1_4 : Int) (r1 : Bool) (r2 : Bool) (r3 : Bool) (r4 : Int) (r5 : Int) (w : World) (h : spec_l4K_full.f k a0_0 a0_1 a1_0 a1_1 a1_2 a1_3 a1_4 = some (r1, r2, r3, r4, r5)) :
  Calls Try.prog 117 #[.agg #[.int .u64 a0_0, .int .u64 a0_1], .agg #[.bool a1_0, .bool a1_1, .bool a1_2, .int .u64 a1_3, .int .i64 a1_4]] w fun e w' => e = .returned (.agg #[.bool r1, .bool r2, .bool r3, .int .u64 r4, .int .i64 r5]) ∧ Below w.heap.size w w' := by
 have hu109 := Try.underlying109
 have hu114 := Try.underlying114
 have HB := Aside0.mk (Below.refl w.heap.size w)
 have H : (spec_l4K_full.l0 k a0_0 a0_1 a1_0 a1_1 a1_2 a1_3 a1_4) = some (r1, r2, r3, r4, r5) := h
 clear h
 have H' := Aside0.mk H
 clear H
 go_enter Try.func117, Try.ntmps117
 go_wp2_with (first | ((with_reducible refine gate_dst (N := 2) rfl ?_); refine box_event ?hg (N := 2) ?hd (cs := #[.int .u64 a0_0, .int .u64 a0_1]) (t := 109) ?hr ?_; (case hd => rfl); (case hg => rfl); (case hr => first | (go_simp; done) | (go_simp; rfl)); intro gb216 hg w3 hbox hb; have n0_ := Aside0.mk (below_step (by repeat (first | (with_reducible first | exact HB.out | apply eA | apply eN | apply eD) | exact HB.out)) hb); have n1_ := Aside0.mk (hbox); have n2_ := Aside0.mk ((by rw [hg]; exact (below_size (by repeat (first | (with_reducible first | exact HB.out | apply eA | apply eN | apply eD) | exact HB.out))) : w.heap.size ≤ gb216)); have n3_ := Aside0.mk ((by rw [hg]; exact (below_size (by repeat (first | (with_reducible first | exact HB.out | apply eA | apply eN | apply eD) | exact HB.out))) : w.heap.size ≤ gb216)); clear HB; have HB := n0_; have BK216 := n1_; have GW216 := n2_; have GE216 := n3_; clear n0_ n1_ n2_ n3_; clear hb hbox hg) | ((with_reducible refine gate_dst (N := 3) rfl ?_); refine box_event ?hg (N := 3) ?hd (cs := #[.bool a1_0, .bool a1_1, .bool a1_2, .int .u64 a1_3, .int .i64 a1_4]) (t := 114) ?hr ?_; (case hd => rfl); (case hg => rfl); (case hr => first | (go_simp; done) | (go_simp; rfl)); intro gb217 hg w4 hbox hb; have n0_ := Aside0.mk (blk_below (g := gb216) (o := .cells #[.int .u64 a0_0, .int .u64 a0_1] 109 (0, 0)) (by (with_reducible repeat first | apply bN | apply bD | apply bA); exact BK216.out) hb); have n1_ := Aside0.mk (below_step (by repeat (first | (with_reducible first | exact HB.out | apply eA | apply eN | apply eD | refine below_set ?_ GE216.out) | exact HB.out)) hb); have n2_ := Aside0.mk (hbox); have n3_ := Aside0.mk ((by rw [hg]; exact (below_size (by repeat (first | (with_reducible first | exact HB.out | apply eA | apply eN | apply eD | refine below_set ?_ GE216.out) | exact HB.out))) : w.heap.size ≤ gb217)); have n4_ := Aside0.mk ((by rw [hg]; exact (below_size (by repeat (first | (with_reducible first | exact HB.out | apply eA | apply eN | apply eD | refine below_set ?_ GE216.out) | exact HB.out))) : w.heap.size ≤ gb217)); have n5_ := Aside0.mk ((by rw [hg]; exact Nat.ne_of_lt (blk_lt (g := gb216) (o := .cells #[.int .u64 a0_0, .int .u64 a0_1] 109 (0, 0)) (by (with_reducible repeat first | apply bN | apply bD | apply bA); exact BK216.out)) : gb216 ≠ gb217)); have n6_ := Aside0.mk ((by rw [hg]; exact Nat.ne_of_gt (blk_lt (g := gb216) (o := .cells #[.int .u64 a0_0, .int .u64 a0_1] 109 (0, 0)) (by (with_reducible repeat first | apply bN | apply bD | apply bA); exact BK216.out)) : gb217 ≠ gb216)); clear BK216 HB; have BK216 := n0_; have HB := n1_; have BK217 := n2_; have GW217 := n3_; have GE217 := n4_; have NB216_217 := n5_; have NB217_216 := n6_; clear n0_ n1_ n2_ n3_ n4_ n5_ n6_; clear hb hbox hg) | ((with_reducible refine gate_dst (N := 4) rfl ?_); refine box_event ?hg (N := 4) ?hd (cs := #[.bool false, .bool false, .bool false, .int .u64 0, .int .i64 0]) (t := 114) ?hr ?_; (case hd => rfl); (case hg => rfl); (case hr => first | (go_simp; done) | (go_simp; rfl)); intro gb218 hg w5 hbox hb; have n0_ := Aside0.mk (blk_below (g := gb216) (o := .cells #[.int .u64 a0_0, .int .u64 a0_1] 109 (0, 0)) (by (with_reducible repeat first | apply bN | apply bD | apply bA); exact BK216.out) hb); have n1_ := Aside0.mk (blk_below (g := gb217) (o := .cells #[.bool a1_0, .bool a1_1, .bool a1_2, .int .u64 a1_3, .int .i64 a1_4] 114 (0, 0)) (by (with_reducible repeat first | apply bN | apply bD | apply bA); exact BK217.out) hb); have n2_ := Aside0.mk (below_step (by repeat (first | (with_reducible first | exact HB.out | apply eA | apply eN | apply eD | refine below_set ?_ GE216.out | refine below_set ?_ GE217.out) | exact HB.out)) hb); have n3_ := Aside0.mk (hbox); have n4_ := Aside0.mk ((by rw [hg]; exact (below_size (by repeat (first | (with_reducible first | exact HB.out | apply eA | apply eN | apply eD | refine below_set ?_ GE216.out | refine below_set ?_ GE217.out) | exact HB.out))) : w.heap.size ≤ gb218)); have n5_ := Aside0.mk ((by rw [hg]; exact (below_size (by repeat (first | (with_reducible first | exact HB.out | apply eA | apply eN | apply eD | refine below_set ?_ GE216.out | refine below_set ?_ GE217.out) | exact HB.out))) : w.heap.size ≤ gb218)); have n6_ := Aside0.mk ((by rw [hg]; exact Nat.ne_of_lt (blk_lt (g := gb216) (o := .cells #[.int .u64 a0_0, .int .u64 a0_1] 109 (0, 0)) (by (with_reducible repeat first | apply bN | apply bD | apply bA); exact BK216.out)) : gb216 ≠ gb218)); have n7_ := Aside0.mk ((by rw [hg]; exact Nat.ne_of_gt (blk_lt (g := gb216) (o := .cells #[.int .u64 a0_0, .int .u64 a0_1] 109 (0, 0)) (by (with_reducible repeat first | apply bN | apply bD | apply bA); exact BK216.out)) : gb218 ≠ gb216)); have n8_ := Aside0.mk ((by rw [hg]; exact Nat.ne_of_lt (blk_lt (g := gb217) (o := .cells #[.bool a1_0, .bool a1_1, .bool a1_2, .int .u64 a1_3, .int .i64 a1_4] 114 (0, 0)) (by (with_reducible repeat first | apply bN | apply bD | apply bA); exact BK217.out)) : gb217 ≠ gb218)); have n9_ := Aside0.mk ((by rw [hg]; exact Nat.ne_of_gt (blk_lt (g := gb217) (o := .cells #[.bool a1_0, .bool a1_1, .bool a1_2, .int .u64 a1_3, .int .i64 a1_4] 114 (0, 0)) (by (with_reducible repeat first | apply bN | apply bD | apply bA); exact BK217.out)) : gb218 ≠ gb217)); clear BK216 BK217 HB; have BK216 := n0_; have BK217 := n1_; have HB := n2_; have BK218 := n3_; have GW218 := n4_; have GE218 := n5_; have NB216_218 := n6_; have NB218_216 := n7_; have NB217_218 := n8_; have NB218_217 := n9_; clear n0_ n1_ n2_ n3_ n4_ n5_ n6_ n7_ n8_ n9_; clear hb hbox hg))
 (try simp only [Act.put, List.setIfInBounds_toArray, List.set_cons_zero, List.set_cons_succ])
 go_loopg [] k (fun kq w' => ∃ (x218003_1 : Int) (x218004_1 : Int), Aside0 (spec_l4K_full.l0 kq a0_0 a0_1 a1_0 a1_1 a1_2 x218003_1 x218004_1 = some (r1, r2, r3, r4, r5)) ∧ Aside0 (kq ≤ k) ∧ Aside0 (w'.heap[gb216]? = some (.cells #[.int .u64 a0_0, .int .u64 a0_1] 109 (0, 0))) ∧ Aside0 (w'.heap[gb217]? = some (.cells #[.bool a1_0, .bool a1_1, .bool a1_2, .int .u64 x218003_1, .int .i64 x218004_1] 114 (0, 0))) ∧ Aside0 (w'.heap[gb218]? = some (.cells #[.bool false, .bool false, .bool false, .int .u64 0, .int .i64 0] 114 (0, 0))) ∧ Aside0 (Below w.heap.size w w'))
 case atStart => exact ⟨(a1_3), (a1_4), H', ⟨Nat.le_refl _⟩, ⟨by (with_reducible repeat first | apply bN | apply bD | apply bA); exact BK216.out⟩, ⟨by (with_reducible repeat first | apply bN | apply bD | apply bA); exact BK217.out⟩, ⟨by (with_reducible repeat first | apply bN | apply bD | apply bA); exact BK218.out⟩, ⟨by repeat (first | (with_reducible first | exact HB.out | apply eA | apply eN | apply eD | refine below_set ?_ GE216.out | refine below_set ?_ GE217.out | refine below_set ?_ GE218.out) | exact HB.out)⟩⟩
 case round =>
  clear H'
  try clear c1
  try clear p2
  obtain ⟨x218003_1, x218004_1, HA, HK1, BK216, BK217, BK218, HB⟩ := hrel
  cases gk with
  | zero => exact absurd HA.out (by simp [spec_l4K_full.l0])
  | succ k1 =>
   have H := HA.out
   clear HA
   simp only [spec_l4K_full.l0] at H
   by_cases c6 : x218003_1 = 0
   ·rw [if_pos c6] at H
    have c6b0 : (x218003_1 == 0) = true := beq_iff_eq.mpr c6
    have c6b1 : (x218003_1 != 0) = false := bne_eq_false_iff_eq.mpr c6
    clear c6
    simp only [Option.some.injEq, Prod.mk.injEq] at H
    obtain ⟨rfl, rfl, rfl, rfl, rfl⟩ := H
    have hnb7 := NB217_216.out
    have hnc7 := NB216_217.out
    have hnb8 := NB217_218.out
    have hnc8 := NB218_217.out
    have hcz9_0 : wr.cell? ⟨gb217, 0, none⟩ = some (.bool a1_0) := (blk_cell BK217.out 0).trans rfl
    have hcz9_1 : wr.cell? ⟨gb217, 1, none⟩ = some (.bool a1_1) := (blk_cell BK217.out 1).trans rfl
    have hcz9_2 : wr.cell? ⟨gb217, 2, none⟩ = some (.bool a1_2) := (blk_cell BK217.out 2).trans rfl
    have hcz9_3 : wr.cell? ⟨gb217, 3, none⟩ = some (.int .u64 x218003_1) := (blk_cell BK217.out 3).trans rfl
    have hcz9_4 : wr.cell? ⟨gb217, 4, none⟩ = some (.int .i64 x218004_1) := (blk_cell BK217.out 4).trans rfl
    have hfz9_0 := blk_frozen BK217.out 0
    have hfz9_1 := blk_frozen BK217.out 1
    have hfz9_2 := blk_frozen BK217.out 2
    have hfz9_3 := blk_frozen BK217.out 3
    have hfz9_4 := blk_frozen BK217.out 4
    have hnb10 := NB218_216.out
    have hnc10 := NB216_218.out
    have hcz11_0 : wr.cell? ⟨gb218, 0, none⟩ = some (.bool false) := (blk_cell BK218.out 0).trans rfl
    have hcz11_1 : wr.cell? ⟨gb218, 1, none⟩ = some (.bool false) := (blk_cell BK218.out 1).trans rfl
    have hcz11_2 : wr.cell? ⟨gb218, 2, none⟩ = some (.bool false) := (blk_cell BK218.out 2).trans rfl
    have hcz11_3 : wr.cell? ⟨gb218, 3, none⟩ = some (.int .u64 0) := (blk_cell BK218.out 3).trans rfl
    have hcz11_4 : wr.cell? ⟨gb218, 4, none⟩ = some (.int .i64 0) := (blk_cell BK218.out 4).trans rfl
    have hfz11_0 := blk_frozen BK218.out 0
    have hfz11_1 := blk_frozen BK218.out 1
    have hfz11_2 := blk_frozen BK218.out 2
    have hfz11_3 := blk_frozen BK218.out 3
    have hfz11_4 := blk_frozen BK218.out 4
    go_wp2
    refine bodyPost_ret (results_cell_row rfl _ _ gb218 114 #[.bool a1_0, .bool a1_1, .bool a1_2, .int .u64 x218003_1, .int .i64 x218004_1] (0, 0) _ rfl (by (with_reducible repeat first | apply bN | apply bD | apply bA); refine blk_put (cs := #[.bool a1_0, .bool a1_1, .bool a1_2, .int .u64 x218003_1, .int .i64 0]) ?_ 4 _ rfl; (with_reducible repeat first | apply bN | apply bD | apply bA); refine blk_put (cs := #[.bool a1_0, .bool a1_1, .bool a1_2, .int .u64 0, .int .i64 0]) ?_ 3 _ rfl; (with_reducible repeat first | apply bN | apply bD | apply bA); refine blk_put (cs := #[.bool a1_0, .bool a1_1, .bool false, .int .u64 0, .int .i64 0]) ?_ 2 _ rfl; (with_reducible repeat first | apply bN | apply bD | apply bA); refine blk_put (cs := #[.bool a1_0, .bool false, .bool false, .int .u64 0, .int .i64 0]) ?_ 1 _ rfl; (with_reducible repeat first | apply bN | apply bD | apply bA); refine blk_put (cs := #[.bool false, .bool false, .bool false, .int .u64 0, .int .i64 0]) ?_ 0 _ rfl; (with_reducible repeat first | apply bN | apply bD | apply bA); exact BK218.out) Try.underlying114 rfl (by kernel_rfl)) rfl ?_
    exact ⟨by first | rfl | (simp [errW_none, errW_some] <;> rfl) | (simp [*, errW_none, errW_some] <;> rfl), by repeat (first | (with_reducible first | exact HB.out | apply eA | apply eN | apply eD | refine below_set ?_ GE216.out | refine below_set ?_ GE217.out | refine below_set ?_ GE218.out) | exact HB.out)⟩
   ·rw [if_neg c6] at H
    have c6b0 : (x218003_1 == 0) = false := beq_eq_false_iff_ne.mpr c6
    have c6b1 : (x218003_1 != 0) = true := bne_iff_ne.mpr c6
    by_cases c12 : 0 ≤ a0_1
    ·rw [if_pos c12] at H
     have c12b0 := eq_true c12
     have c12b1 : decide (0 ≤ a0_1) = true := decide_eq_true c12
     clear c12
     obtain ⟨ji13, hji13⟩ : ∃ j_ : Int, (shl .u64 1 a0_1) = j_ := ⟨_, rfl⟩
     replace H : (if x218003_1 < (ji13) then (spec_l4K_full.l0 k1 a0_0 a0_1 a1_0 a1_1 a1_2 (IntKind.u64.wrap (x218003_1 * 2)) (wrap64 (x218004_1 - 1))) else (some (a1_0, a1_1, a1_2, x218003_1, x218004_1))) = some (r1, r2, r3, r4, r5) := by first | (rw [hji13] at H; exact H) | (simp only [hji13] at H ⊢; exact H)
     have hji13_ : (IntKind.u64.wrap (1 * 2 ^ min a0_1.toNat 64)) = ji13 := hji13
     have hji13z : a0_1 ≤ 64 → (IntKind.u64.wrap (1 * 2 ^ a0_1.toNat)) = ji13 := shl_small hji13
     have hji13u : (IntKind.u64.wrap (2 ^ min a0_1.toNat 64)) = ji13 := by have h_ := hji13_; rw [Int.one_mul] at h_; exact h_
     have hji13v : a0_1 ≤ 64 → (IntKind.u64.wrap (2 ^ a0_1.toNat)) = ji13 := fun hle_ => by have h_ := hji13z hle_; rw [Int.one_mul] at h_; exact h_
     by_cases c14 : x218003_1 < (ji13)
     ·rw [if_pos c14] at H
      have c14b0 : decide (x218003_1 < (ji13)) = true := decide_eq_true c14
      clear c14
      have H' := Aside0.mk H
      clear H
      have hnb15 := NB217_216.out
      have hnc15 := NB216_217.out
      have hnb16 := NB217_218.out
      have hnc16 := NB218_217.out
      have hcz17_0 : wr.cell? ⟨gb217, 0, none⟩ = some (.bool a1_0) := (blk_cell BK217.out 0).trans rfl
      have hcz17_1 : wr.cell? ⟨gb217, 1, none⟩ = some (.bool a1_1) := (blk_cell BK217.out 1).trans rfl
      have hcz17_2 : wr.cell? ⟨gb217, 2, none⟩ = some (.bool a1_2) := (blk_cell BK217.out 2).trans rfl
      have hcz17_3 : wr.cell? ⟨gb217, 3, none⟩ = some (.int .u64 x218003_1) := (blk_cell BK217.out 3).trans rfl
      have hcz17_4 : wr.cell? ⟨gb217, 4, none⟩ = some (.int .i64 x218004_1) := (blk_cell BK217.out 4).trans rfl
      have hfz17_0 := blk_frozen BK217.out 0
      have hfz17_1 := blk_frozen BK217.out 1
      have hfz17_2 := blk_frozen BK217.out 2
      have hfz17_3 := blk_frozen BK217.out 3
      have hfz17_4 := blk_frozen BK217.out 4
      have hnb18 := NB216_218.out
      have hnc18 := NB218_216.out
      have hcz19_0 : wr.cell? ⟨gb216, 0, none⟩ = some (.int .u64 a0_0) := (blk_cell BK216.out 0).trans rfl
      have hcz19_1 : wr.cell? ⟨gb216, 1, none⟩ = some (.int .u64 a0_1) := (blk_cell BK216.out 1).trans rfl
      have hfz19_0 := blk_frozen BK216.out 0
      have hfz19_1 := blk_frozen BK216.out 1
      go_wp2
      go_roundg k1
      case measure => have := HK1.out; omega
      case rel => exact ⟨(IntKind.u64.wrap (x218003_1 * 2)), (wrap64 (x218004_1 - 1)), H', ⟨by have := HK1.out; omega⟩, ⟨by (with_reducible repeat first | apply bN | apply bD | apply bA); refine blk_far ?_ NB216_217.out _; (with_reducible repeat first | apply bN | apply bD | apply bA); refine blk_far ?_ NB216_217.out _; (with_reducible repeat first | apply bN | apply bD | apply bA); exact BK216.out⟩, ⟨by (with_reducible repeat first | apply bN | apply bD | apply bA); refine blk_put (cs := #[.bool a1_0, .bool a1_1, .bool a1_2, .int .u64 (IntKind.u64.wrap (x218003_1 * 2)), .int .i64 x218004_1]) ?_ 4 _ rfl; (with_reducible repeat first | apply bN | apply bD | apply bA); refine blk_put (cs := #[.bool a1_0, .bool a1_1, .bool a1_2, .int .u64 x218003_1, .int .i64 x218004_1]) ?_ 3 _ rfl; (with_reducible repeat first | apply bN | apply bD | apply bA); exact BK217.out⟩, ⟨by (with_reducible repeat first | apply bN | apply bD | apply bA); refine blk_far ?_ NB218_217.out _; (with_reducible repeat first | apply bN | apply bD | apply bA); refine blk_far ?_ NB218_217.out _; (with_reducible repeat first | apply bN | apply bD | apply bA); exact BK218.out⟩, ⟨by repeat (first | (with_reducible first | exact HB.out | apply eA | apply eN | apply eD | refine below_set ?_ GE216.out | refine below_set ?_ GE217.out | refine below_set ?_ GE218.out) | exact HB.out)⟩⟩
     ·rw [if_neg c14] at H
      have c14b0 : decide (x218003_1 < (ji13)) = false := decide_eq_false c14
      clear c14
      simp only [Option.some.injEq, Prod.mk.injEq] at H
      obtain ⟨rfl, rfl, rfl, rfl, rfl⟩ := H
      have hnb20 := NB217_216.out
      have hnc20 := NB216_217.out
      have hnb21 := NB217_218.out
      have hnc21 := NB218_217.out
      have hcz22_0 : wr.cell? ⟨gb217, 0, none⟩ = some (.bool a1_0) := (blk_cell BK217.out 0).trans rfl
      have hcz22_1 : wr.cell? ⟨gb217, 1, none⟩ = some (.bool a1_1) := (blk_cell BK217.out 1).trans rfl
      have hcz22_2 : wr.cell? ⟨gb217, 2, none⟩ = some (.bool a1_2) := (blk_cell BK217.out 2).trans rfl
      have hcz22_3 : wr.cell? ⟨gb217, 3, none⟩ = some (.int .u64 x218003_1) := (blk_cell BK217.out 3).trans rfl
      have hcz22_4 : wr.cell? ⟨gb217, 4, none⟩ = some (.int .i64 x218004_1) := (blk_cell BK217.out 4).trans rfl
      have hfz22_0 := blk_frozen BK217.out 0
      have hfz22_1 := blk_frozen BK217.out 1
      have hfz22_2 := blk_frozen BK217.out 2
      have hfz22_3 := blk_frozen BK217.out 3
      have hfz22_4 := blk_frozen BK217.out 4
      have hnb23 := NB216_218.out
      have hnc23 := NB218_216.out
      have hcz24_0 : wr.cell? ⟨gb216, 0, none⟩ = some (.int .u64 a0_0) := (blk_cell BK216.out 0).trans rfl
      have hcz24_1 : wr.cell? ⟨gb216, 1, none⟩ = some (.int .u64 a0_1) := (blk_cell BK216.out 1).trans rfl
      have hfz24_0 := blk_frozen BK216.out 0
      have hfz24_1 := blk_frozen BK216.out 1
      have hcz25_0 : wr.cell? ⟨gb218, 0, none⟩ = some (.bool false) := (blk_cell BK218.out 0).trans rfl
      have hcz25_1 : wr.cell? ⟨gb218, 1, none⟩ = some (.bool false) := (blk_cell BK218.out 1).trans rfl
      have hcz25_2 : wr.cell? ⟨gb218, 2, none⟩ = some (.bool false) := (blk_cell BK218.out 2).trans rfl
      have hcz25_3 : wr.cell? ⟨gb218, 3, none⟩ = some (.int .u64 0) := (blk_cell BK218.out 3).trans rfl
      have hcz25_4 : wr.cell? ⟨gb218, 4, none⟩ = some (.int .i64 0) := (blk_cell BK218.out 4).trans rfl
      have hfz25_0 := blk_frozen BK218.out 0
      have hfz25_1 := blk_frozen BK218.out 1
      have hfz25_2 := blk_frozen BK218.out 2
      have hfz25_3 := blk_frozen BK218.out 3
      have hfz25_4 := blk_frozen BK218.out 4
      go_wp2
      refine bodyPost_ret (results_cell_row rfl _ _ gb218 114 #[.bool a1_0, .bool a1_1, .bool a1_2, .int .u64 x218003_1, .int .i64 x218004_1] (0, 0) _ rfl (by (with_reducible repeat first | apply bN | apply bD | apply bA); refine blk_put (cs := #[.bool a1_0, .bool a1_1, .bool a1_2, .int .u64 x218003_1, .int .i64 0]) ?_ 4 _ rfl; (with_reducible repeat first | apply bN | apply bD | apply bA); refine blk_put (cs := #[.bool a1_0, .bool a1_1, .bool a1_2, .int .u64 0, .int .i64 0]) ?_ 3 _ rfl; (with_reducible repeat first | apply bN | apply bD | apply bA); refine blk_put (cs := #[.bool a1_0, .bool a1_1, .bool false, .int .u64 0, .int .i64 0]) ?_ 2 _ rfl; (with_reducible repeat first | apply bN | apply bD | apply bA); refine blk_put (cs := #[.bool a1_0, .bool false, .bool false, .int .u64 0, .int .i64 0]) ?_ 1 _ rfl; (with_reducible repeat first | apply bN | apply bD | apply bA); refine blk_put (cs := #[.bool false, .bool false, .bool false, .int .u64 0, .int .i64 0]) ?_ 0 _ rfl; (with_reducible repeat first | apply bN | apply bD | apply bA); exact BK218.out) Try.underlying114 rfl (by kernel_rfl)) rfl ?_
      exact ⟨by first | rfl | (simp [errW_none, errW_some] <;> rfl) | (simp only [← hji13]; first | rfl | (simp [errW_none, errW_some] <;> rfl)) | (simp [*, errW_none, errW_some] <;> rfl), by repeat (first | (with_reducible first | exact HB.out | apply eA | apply eN | apply eD | refine below_set ?_ GE216.out | refine below_set ?_ GE217.out | refine below_set ?_ GE218.out) | exact HB.out)⟩
    ·rw [if_neg c12] at H
     exact absurd H (by simp)

/-! ### spec_l4Root: function 119 -/
def spec_l4Root.l0 : Nat → Int → Int → Int → Option (Int)
 | 0, _, _, _ => none
 | k + 1, x0, x3, x4 => if x4 > 0 then (if (IntKind.u64.wrap ((Go.bits .or .u64 x3 x4) * (Go.bits .or .u64 x3 x4))) ≤ x0 then (spec_l4Root.l0 k x0 (Go.bits .or .u64 x3 x4) (x4 / 2)) else (spec_l4Root.l0 k x0 x3 (x4 / 2))) else (some x3)
def spec_l4Root.f (k : Nat) (a0 : Int) : Option (Int) := spec_l4Root.l0 k a0 0 1073741824
theorem spec_l4Root.mono_l : ∀ k, (∀ y0 y1 y2, LeO (spec_l4Root.l0 k y0 y1 y2) (spec_l4Root.l0 (k + 1) y0 y1 y2))
 | 0 => fun _ _ _ r h => by simp [spec_l4Root.l0] at h
 | k + 1 => by
  have ih0 := spec_l4Root.mono_l k
  ·intro y0 y1 y2
   unfold spec_l4Root.l0
   repeat' first
   | (with_reducible exact ih0 _ _ _)
   | (with_reducible exact LeO.refl _)
   | (with_reducible exact LeO.none _)
   | (with_reducible refine LeO.ite ?_ ?_)
   | (with_reducible refine LeO.bind ?_ (fun _ => ?_))
   | exact ih0 _ _ _
   | exact LeO.none _
   | refine LeO.ite ?_ ?_
   | refine LeO.bind ?_ (fun _ => ?_)
theorem spec_l4Root.mono : ∀ a0 k, LeO (spec_l4Root.f k a0) (spec_l4Root.f (k + 1) a0) := by
 intro a0 k
 have ih0 := spec_l4Root.mono_l k
 unfold spec_l4Root.f
 repeat' first
   | (with_reducible exact ih0 _ _ _)
   | (with_reducible exact LeO.refl _)
   | (with_reducible exact LeO.none _)
   | (with_reducible refine LeO.ite ?_ ?_)
   | (with_reducible refine LeO.bind ?_ (fun _ => ?_))
   | exact ih0 _ _ _
   | exact LeO.none _
   | refine LeO.ite ?_ ?_
   | refine LeO.bind ?_ (fun _ => ?_)
set_option maxHeartbeats 8000000 in
set_option maxRecDepth 100000 in
theorem spec_l4Root.calls (k : Nat) (a0 : Int) (r : Int) (w : World) (h : spec_l4Root.f k a0 = some r) :
  Calls Try.prog 119 #[.int .u64 a0] w fun e w' => e = .returned (.int .u64 r) ∧ Drawn0 w w' := by
 have H : (spec_l4Root.l0 k a0 0 1073741824) = some r := h
 clear h
 have H' := Aside0.mk H
 clear H
 go_enter Try.func119, Try.ntmps119
 go_wp2
 go_loopg [3, 4] k (fun kq v3 v4 w' => ∃ (x3_1 : Int) (x4_1 : Int), v3 = .int .u64 x3_1 ∧ v4 = .int .u64 x4_1 ∧ Aside0 (spec_l4Root.l0 kq a0 x3_1 x4_1 = some r) ∧ Aside0 (kq ≤ k) ∧ Drawn0 w w')
 case atStart => exact ⟨(0), (1073741824), (by first | rfl | (simp; done) | (simp [*]; done)), (by first | rfl | (simp; done) | (simp [*]; done)), H', ⟨Nat.le_refl _⟩, by repeat (first | exact Drawn0.refl _ | apply Drawn0.step)⟩
 case round =>
  clear H'
  try clear c1
  obtain ⟨x3_1, x4_1, rfl, rfl, HA, HK1, ⟨m1, rfl⟩⟩ := hrel
  cases gk with
  | zero => exact absurd HA.out (by simp [spec_l4Root.l0])
  | succ k1 =>
   have H := HA.out
   clear HA
   simp only [spec_l4Root.l0] at H
   by_cases c2 : x4_1 > 0
   ·rw [if_pos c2] at H
    have c2b0 : decide (0 < x4_1) = true := decide_eq_true c2
    clear c2
    by_cases c3 : (IntKind.u64.wrap ((Go.bits .or .u64 x3_1 x4_1) * (Go.bits .or .u64 x3_1 x4_1))) ≤ a0
    ·rw [if_pos c3] at H
     have c3b0 : decide ((IntKind.u64.wrap ((Go.bits .or .u64 x3_1 x4_1) * (Go.bits .or .u64 x3_1 x4_1))) ≤ a0) = true := decide_eq_true c3
     clear c3
     have H' := Aside0.mk H
     clear H
     go_wp2
     go_roundg k1
     case measure => have := HK1.out; omega
     case rel => exact ⟨(Go.bits .or .u64 x3_1 x4_1), (x4_1 / 2), (by first | rfl | (simp; done) | (simp [*]; done)), (by first | rfl | (simp; done) | (simp [*]; done)), H', ⟨by have := HK1.out; omega⟩, by repeat (first | exact Drawn0.refl _ | apply Drawn0.step)⟩
    ·rw [if_neg c3] at H
     have c3b0 : decide ((IntKind.u64.wrap ((Go.bits .or .u64 x3_1 x4_1) * (Go.bits .or .u64 x3_1 x4_1))) ≤ a0) = false := decide_eq_false c3
     clear c3
     have H' := Aside0.mk H
     clear H
     go_wp2
     go_roundg k1
     case measure => have := HK1.out; omega
     case rel => exact ⟨(x3_1), (x4_1 / 2), (by first | rfl | (simp; done) | (simp [*]; done)), (by first | rfl | (simp; done) | (simp [*]; done)), H', ⟨by have := HK1.out; omega⟩, by repeat (first | exact Drawn0.refl _ | apply Drawn0.step)⟩
   ·rw [if_neg c2] at H
    have c2b0 : decide (0 < x4_1) = false := decide_eq_false c2
    clear c2
    obtain rfl := Option.some.inj H
    go_wp2
    go_ret
    exact ⟨by first | rfl | (simp; done) | (simp [*]; done), by repeat (first | exact Drawn0.refl _ | apply Drawn0.step)⟩

end Go.Proofs.Ytdoflfifnkpacaa.FR
