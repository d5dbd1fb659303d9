-- Printed by a program of this session (after the kit's print.sh, with contracts of its own beside): Lean checks it.
import Derived.Test.YtdoflfifnkpacaaFRx0
import Derived.Test.YtdoflfifnkpacaaFRx1
import Derived.Test.YtdoflfifnkpacaaFRx2
import Derived.Test.YtdoflfifnkpacaaFRx7
namespace Go.Proofs.Ytdoflfifnkpacaa.FR
open Go.RowKit Go.Proofs.YtdoflfifnkpacaaW.PrintWords Go.Proofs.YtdoflfifnkpacaaW.PrintLast Go.Proofs.YtdoflfifnkpacaaW.PrintMore
attribute [local go_sem] max2_int min2_int max_two min_two max_three min_three max_four min_four   -- for this text's walks alone
set_option linter.unusedVariables false
set_option linter.unusedSimpArgs false

/-! ### spec_l4K_root: function 64 -/
def spec_l4K_root.j0 : Nat → Bool → Int → Int → Bool → Bool → Bool → Int → Int → Option (Int)
 | 0, _, _, _, _, _, _, _, _ => none
 | k + 1, x8, x220000, x220001, x221000, x221001, x221002, x221003, x221004 => if x8 = true then ((spec_l4K_nan.f x220000 x220001).bind fun t221 => (some t221)) else (if x221001 = true then ((spec_l4K_inf.f x220000 x220001 false).bind fun t222 => (some t222)) else (if x221003 = 0 then ((spec_l4K_sign.f x220000 x220001 x221000).bind fun t223 => (some t223)) else ((spec_l4K_full.f k x220000 x220001 x221000 x221001 x221002 x221003 x221004).bind fun bt224 => ((spec_l4Len.f k bt224.2.2.2.1).bind fun t229 => (if (Int.tmod (wrap64 (bt224.2.2.2.2 - (wrap64 (58 - t229)))) 2) = 0 then (if 0 ≤ (IntKind.u64.wrap (wrap64 (58 - t229))) then ((spec_l4Root.f k (shl .u64 bt224.2.2.2.1 (IntKind.u64.wrap (wrap64 (58 - t229))))).bind fun t230 => ((spec_l4K_round.f k x220000 x220001 false t230 (wrap64 (Int.tdiv (wrap64 (bt224.2.2.2.2 - (wrap64 (58 - t229)))) 2)) ((IntKind.u64.wrap (t230 * t230)) != (shl .u64 bt224.2.2.2.1 (IntKind.u64.wrap (wrap64 (58 - t229)))))).bind fun t231 => (some t231))) else (none)) else (if 0 ≤ (IntKind.u64.wrap (wrap64 ((wrap64 (58 - t229)) - 1))) then ((spec_l4Root.f k (shl .u64 bt224.2.2.2.1 (IntKind.u64.wrap (wrap64 ((wrap64 (58 - t229)) - 1))))).bind fun t232 => ((spec_l4K_round.f k x220000 x220001 false t232 (wrap64 (Int.tdiv (wrap64 (bt224.2.2.2.2 - (wrap64 ((wrap64 (58 - t229)) - 1)))) 2)) ((IntKind.u64.wrap (t232 * t232)) != (shl .u64 bt224.2.2.2.1 (IntKind.u64.wrap (wrap64 ((wrap64 (58 - t229)) - 1)))))).bind fun t233 => (some t233))) else (none)))))))
def spec_l4K_root.f (k : Nat) (a0_0 : Int) (a0_1 : Int) (a1_0 : Bool) (a1_1 : Bool) (a1_2 : Bool) (a1_3 : Int) (a1_4 : Int) : Option (Int) := if a1_2 = true then (spec_l4K_root.j0 k true a0_0 a0_1 a1_0 a1_1 a1_2 a1_3 a1_4) else (if a1_0 = true then (if a1_1 = true then (spec_l4K_root.j0 k true a0_0 a0_1 a1_0 a1_1 a1_2 a1_3 a1_4) else (spec_l4K_root.j0 k (a1_3 != 0) a0_0 a0_1 a1_0 a1_1 a1_2 a1_3 a1_4)) else (spec_l4K_root.j0 k false a0_0 a0_1 a1_0 a1_1 a1_2 a1_3 a1_4))
theorem spec_l4K_root.mono_l : ∀ k, (∀ y0 y1 y2 y3 y4 y5 y6 y7, LeO (spec_l4K_root.j0 k y0 y1 y2 y3 y4 y5 y6 y7) (spec_l4K_root.j0 (k + 1) y0 y1 y2 y3 y4 y5 y6 y7))
 | 0 => fun _ _ _ _ _ _ _ _ r h => by simp [spec_l4K_root.j0] at h
 | k + 1 => by
  have ih0 := spec_l4K_root.mono_l k
  ·intro y0 y1 y2 y3 y4 y5 y6 y7
   unfold spec_l4K_root.j0
   repeat' first
   | (with_reducible exact ih0 _ _ _ _ _ _ _ _)
   | (with_reducible exact spec_l4K_full.mono _ _ _ _ _ _ _ _)
   | (with_reducible exact spec_l4K_round.mono _ _ _ _ _ _ _)
   | (with_reducible exact spec_l4Len.mono _ _)
   | (with_reducible exact spec_l4Root.mono _ _)
   | (with_reducible exact LeO.refl _)
   | (with_reducible exact LeO.none _)
   | (with_reducible refine LeO.ite ?_ ?_)
   | (with_reducible refine LeO.bind ?_ (fun _ => ?_))
   | exact ih0 _ _ _ _ _ _ _ _
   | exact spec_l4K_full.mono _ _ _ _ _ _ _ _
   | exact spec_l4K_round.mono _ _ _ _ _ _ _
   | exact spec_l4Len.mono _ _
   | exact spec_l4Root.mono _ _
   | exact LeO.none _
   | refine LeO.ite ?_ ?_
   | refine LeO.bind ?_ (fun _ => ?_)
theorem spec_l4K_root.mono : ∀ a0 a1 a2 a3 a4 a5 a6 k, LeO (spec_l4K_root.f k a0 a1 a2 a3 a4 a5 a6) (spec_l4K_root.f (k + 1) a0 a1 a2 a3 a4 a5 a6) := by
 intro a0 a1 a2 a3 a4 a5 a6 k
 have ih0 := spec_l4K_root.mono_l k
 unfold spec_l4K_root.f
 repeat' first
   | (with_reducible exact ih0 _ _ _ _ _ _ _ _)
   | (with_reducible exact spec_l4K_full.mono _ _ _ _ _ _ _ _)
   | (with_reducible exact spec_l4K_round.mono _ _ _ _ _ _ _)
   | (with_reducible exact spec_l4Len.mono _ _)
   | (with_reducible exact spec_l4Root.mono _ _)
   | (with_reducible exact LeO.refl _)
   | (with_reducible exact LeO.none _)
   | (with_reducible refine LeO.ite ?_ ?_)
   | (with_reducible refine LeO.bind ?_ (fun _ => ?_))
   | exact ih0 _ _ _ _ _ _ _ _
   | exact spec_l4K_full.mono _ _ _ _ _ _ _ _
   | exact spec_l4K_round.mono _ _ _ _ _ _ _
   | exact spec_l4Len.mono _ _
   | exact spec_l4Root.mono _ _
   | exact LeO.none _
   | refine LeO.ite ?_ ?_
   | refine LeO.bind ?_ (fun _ => ?_)
set_option maxHeartbeats 8000000 in
set_option maxRecDepth 100000 in
theorem spec_l4K_root.calls (k : Nat) (a0_0 : Int) (a0_1 : Int) (a1_0 : Bool) (a1_1 : Bool) (a1_2 : Bool) (a1_3 : Int) (a1_4 : Int) (r : Int) (w : World) (h : spec_l4K_root.f k a0_0 a0_1 a1_0 a1_1 a1_2 a1_3 a1_4 = some r) :
  Calls Try.prog 64 #[.agg #[.int .u64 a0_0, .int .u64 a0_1], .agg #[.bool a1_0, .bool a1_1, .bool a1_2, .int .u64 a1_3, .int .i64 a1_4]] w fun e w' => e = .returned (.int .u32 r) ∧ Below w.heap.size w w' := by
 have hu109 := Try.underlying109
 have hu114 := Try.underlying114
 have HB := Aside0.mk (Below.refl w.heap.size w)
 have H : (if a1_2 = true then (spec_l4K_root.j0 k true a0_0 a0_1 a1_0 a1_1 a1_2 a1_3 a1_4) else (if a1_0 = true then (if a1_1 = true then (spec_l4K_root.j0 k true a0_0 a0_1 a1_0 a1_1 a1_2 a1_3 a1_4) else (spec_l4K_root.j0 k (a1_3 != 0) a0_0 a0_1 a1_0 a1_1 a1_2 a1_3 a1_4)) else (spec_l4K_root.j0 k false a0_0 a0_1 a1_0 a1_1 a1_2 a1_3 a1_4))) = some r := h
 clear h
 have HC3 := Aside0.mk H
 clear H
 go_enter Try.func64, Try.ntmps64
 go_upto_region 1 with (first | ((with_reducible refine gate_dst (N := 2) rfl ?_); refine box_event ?hg (N := 2) ?hd (cs := #[.int .u64 a0_0, .int .u64 a0_1]) (t := 109) ?hr ?_; (case hd => rfl); (case hg => rfl); (case hr => first | (go_simp; done) | (go_simp; rfl)); intro gb219 hg w4 hbox hb; have n0_ := Aside0.mk (below_step (by repeat (first | (with_reducible first | exact HB.out | apply eA | apply eN | apply eD) | exact HB.out)) hb); have n1_ := Aside0.mk (hbox); have n2_ := Aside0.mk ((by rw [hg]; exact (below_size (by repeat (first | (with_reducible first | exact HB.out | apply eA | apply eN | apply eD) | exact HB.out))) : w.heap.size ≤ gb219)); have n3_ := Aside0.mk ((by rw [hg]; exact (below_size (by repeat (first | (with_reducible first | exact HB.out | apply eA | apply eN | apply eD) | exact HB.out))) : w.heap.size ≤ gb219)); clear HB; have HB := n0_; have BK219 := n1_; have GW219 := n2_; have GE219 := n3_; clear n0_ n1_ n2_ n3_; clear hb hbox hg) | ((with_reducible refine gate_dst (N := 3) rfl ?_); refine box_event ?hg (N := 3) ?hd (cs := #[.bool a1_0, .bool a1_1, .bool a1_2, .int .u64 a1_3, .int .i64 a1_4]) (t := 114) ?hr ?_; (case hd => rfl); (case hg => rfl); (case hr => first | (go_simp; done) | (go_simp; rfl)); intro gb220 hg w5 hbox hb; have n0_ := Aside0.mk (blk_below (g := gb219) (o := .cells #[.int .u64 a0_0, .int .u64 a0_1] 109 (0, 0)) (by (with_reducible repeat first | apply bN | apply bD | apply bA); exact BK219.out) hb); have n1_ := Aside0.mk (below_step (by repeat (first | (with_reducible first | exact HB.out | apply eA | apply eN | apply eD | refine below_set ?_ GE219.out) | exact HB.out)) hb); have n2_ := Aside0.mk (hbox); have n3_ := Aside0.mk ((by rw [hg]; exact (below_size (by repeat (first | (with_reducible first | exact HB.out | apply eA | apply eN | apply eD | refine below_set ?_ GE219.out) | exact HB.out))) : w.heap.size ≤ gb220)); have n4_ := Aside0.mk ((by rw [hg]; exact (below_size (by repeat (first | (with_reducible first | exact HB.out | apply eA | apply eN | apply eD | refine below_set ?_ GE219.out) | exact HB.out))) : w.heap.size ≤ gb220)); have n5_ := Aside0.mk ((by rw [hg]; exact Nat.ne_of_lt (blk_lt (g := gb219) (o := .cells #[.int .u64 a0_0, .int .u64 a0_1] 109 (0, 0)) (by (with_reducible repeat first | apply bN | apply bD | apply bA); exact BK219.out)) : gb219 ≠ gb220)); have n6_ := Aside0.mk ((by rw [hg]; exact Nat.ne_of_gt (blk_lt (g := gb219) (o := .cells #[.int .u64 a0_0, .int .u64 a0_1] 109 (0, 0)) (by (with_reducible repeat first | apply bN | apply bD | apply bA); exact BK219.out)) : gb220 ≠ gb219)); clear BK219 HB; have BK219 := n0_; have HB := n1_; have BK220 := n2_; have GW220 := n3_; have GE220 := n4_; have NB219_220 := n5_; have NB220_219 := n6_; clear n0_ n1_ n2_ n3_ n4_ n5_ n6_; clear hb hbox hg))
 (try simp only [Act.put, List.setIfInBounds_toArray, List.set_cons_zero, List.set_cons_succ])
 go_cut [8] (fun v8 wc => ∃ (kq : Nat) (x8_2 : Bool), v8 = .bool x8_2 ∧ Aside0 (spec_l4K_root.j0 kq x8_2 a0_0 a0_1 a1_0 a1_1 a1_2 a1_3 a1_4 = some r) ∧ Aside0 (kq ≤ k) ∧ Aside0 (wc.heap[gb219]? = some (.cells #[.int .u64 a0_0, .int .u64 a0_1] 109 (0, 0))) ∧ Aside0 (wc.heap[gb220]? = some (.cells #[.bool a1_0, .bool a1_1, .bool a1_2, .int .u64 a1_3, .int .i64 a1_4] 114 (0, 0))) ∧ Aside0 (Below w.heap.size w wc))
 case first =>
  have H := HC3.out
  clear HC3
  by_cases c6 : a1_2 = true
  ·subst c6
   have H1 : (spec_l4K_root.j0 k true a0_0 a0_1 a1_0 a1_1 true a1_3 a1_4) = some r := by rw [if_pos rfl] at H; first | done | exact H
   clear H
   have H := H1
   clear H1
   have H' := Aside0.mk H
   clear H
   have hnb7 := NB220_219.out
   have hnc7 := NB219_220.out
   have hcz8_0 : w5.cell? ⟨gb220, 0, none⟩ = some (.bool a1_0) := (blk_cell BK220.out 0).trans rfl
   have hcz8_1 : w5.cell? ⟨gb220, 1, none⟩ = some (.bool a1_1) := (blk_cell BK220.out 1).trans rfl
   have hcz8_2 : w5.cell? ⟨gb220, 2, none⟩ = some (.bool true) := (blk_cell BK220.out 2).trans rfl
   have hcz8_3 : w5.cell? ⟨gb220, 3, none⟩ = some (.int .u64 a1_3) := (blk_cell BK220.out 3).trans rfl
   have hcz8_4 : w5.cell? ⟨gb220, 4, none⟩ = some (.int .i64 a1_4) := (blk_cell BK220.out 4).trans rfl
   have hfz8_0 := blk_frozen BK220.out 0
   have hfz8_1 := blk_frozen BK220.out 1
   have hfz8_2 := blk_frozen BK220.out 2
   have hfz8_3 := blk_frozen BK220.out 3
   have hfz8_4 := blk_frozen BK220.out 4
   go_wp2
   go_meet
   case rel => exact ⟨_, (true), (by first | rfl | (simp; done) | (simp [*]; done)), H', ⟨by first | omega | exact Nat.le_refl _⟩, ⟨by (with_reducible repeat first | apply bN | apply bD | apply bA); exact BK219.out⟩, ⟨by (with_reducible repeat first | apply bN | apply bD | apply bA); exact BK220.out⟩, ⟨by repeat (first | (with_reducible first | exact HB.out | apply eA | apply eN | apply eD | refine below_set ?_ GE219.out | refine below_set ?_ GE220.out) | exact HB.out)⟩⟩
  ·replace c6 := Bool.eq_false_iff.mpr c6
   subst c6
   have H1 : (if a1_0 = true then (if a1_1 = true then (spec_l4K_root.j0 k true a0_0 a0_1 a1_0 a1_1 false a1_3 a1_4) else (spec_l4K_root.j0 k (a1_3 != 0) a0_0 a0_1 a1_0 a1_1 false a1_3 a1_4)) else (spec_l4K_root.j0 k false a0_0 a0_1 a1_0 a1_1 false a1_3 a1_4)) = some r := by rw [if_neg (show ¬ (false = true) by decide)] at H; first | done | exact H
   clear H
   have H := H1
   clear H1
   by_cases c9 : a1_0 = true
   ·subst c9
    have H1 : (if a1_1 = true then (spec_l4K_root.j0 k true a0_0 a0_1 true a1_1 false a1_3 a1_4) else (spec_l4K_root.j0 k (a1_3 != 0) a0_0 a0_1 true a1_1 false a1_3 a1_4)) = some r := by rw [if_pos rfl] at H; first | done | exact H
    clear H
    have H := H1
    clear H1
    by_cases c10 : a1_1 = true
    ·subst c10
     have H1 : (spec_l4K_root.j0 k true a0_0 a0_1 true true false a1_3 a1_4) = some r := by rw [if_pos rfl] at H; first | done | exact H
     clear H
     have H := H1
     clear H1
     have H' := Aside0.mk H
     clear H
     have hnb11 := NB220_219.out
     have hnc11 := NB219_220.out
     have hcz12_0 : w5.cell? ⟨gb220, 0, none⟩ = some (.bool true) := (blk_cell BK220.out 0).trans rfl
     have hcz12_1 : w5.cell? ⟨gb220, 1, none⟩ = some (.bool true) := (blk_cell BK220.out 1).trans rfl
     have hcz12_2 : w5.cell? ⟨gb220, 2, none⟩ = some (.bool false) := (blk_cell BK220.out 2).trans rfl
     have hcz12_3 : w5.cell? ⟨gb220, 3, none⟩ = some (.int .u64 a1_3) := (blk_cell BK220.out 3).trans rfl
     have hcz12_4 : w5.cell? ⟨gb220, 4, none⟩ = some (.int .i64 a1_4) := (blk_cell BK220.out 4).trans rfl
     have hfz12_0 := blk_frozen BK220.out 0
     have hfz12_1 := blk_frozen BK220.out 1
     have hfz12_2 := blk_frozen BK220.out 2
     have hfz12_3 := blk_frozen BK220.out 3
     have hfz12_4 := blk_frozen BK220.out 4
     go_wp2
     go_meet
     case rel => exact ⟨_, (true), (by first | rfl | (simp; done) | (simp [*]; done)), H', ⟨by first | omega | exact Nat.le_refl _⟩, ⟨by (with_reducible repeat first | apply bN | apply bD | apply bA); exact BK219.out⟩, ⟨by (with_reducible repeat first | apply bN | apply bD | apply bA); exact BK220.out⟩, ⟨by repeat (first | (with_reducible first | exact HB.out | apply eA | apply eN | apply eD | refine below_set ?_ GE219.out | refine below_set ?_ GE220.out) | exact HB.out)⟩⟩
    ·replace c10 := Bool.eq_false_iff.mpr c10
     subst c10
     have H1 : (spec_l4K_root.j0 k (a1_3 != 0) a0_0 a0_1 true false false a1_3 a1_4) = some r := by rw [if_neg (show ¬ (false = true) by decide)] at H; first | done | exact H
     clear H
     have H := H1
     clear H1
     have H' := Aside0.mk H
     clear H
     have hnb13 := NB220_219.out
     have hnc13 := NB219_220.out
     have hcz14_0 : w5.cell? ⟨gb220, 0, none⟩ = some (.bool true) := (blk_cell BK220.out 0).trans rfl
     have hcz14_1 : w5.cell? ⟨gb220, 1, none⟩ = some (.bool false) := (blk_cell BK220.out 1).trans rfl
     have hcz14_2 : w5.cell? ⟨gb220, 2, none⟩ = some (.bool false) := (blk_cell BK220.out 2).trans rfl
     have hcz14_3 : w5.cell? ⟨gb220, 3, none⟩ = some (.int .u64 a1_3) := (blk_cell BK220.out 3).trans rfl
     have hcz14_4 : w5.cell? ⟨gb220, 4, none⟩ = some (.int .i64 a1_4) := (blk_cell BK220.out 4).trans rfl
     have hfz14_0 := blk_frozen BK220.out 0
     have hfz14_1 := blk_frozen BK220.out 1
     have hfz14_2 := blk_frozen BK220.out 2
     have hfz14_3 := blk_frozen BK220.out 3
     have hfz14_4 := blk_frozen BK220.out 4
     go_wp2
     go_meet
     case rel => exact ⟨_, ((a1_3 != 0)), (by first | rfl | (simp; done) | (simp [*]; done)), H', ⟨by first | omega | exact Nat.le_refl _⟩, ⟨by (with_reducible repeat first | apply bN | apply bD | apply bA); exact BK219.out⟩, ⟨by (with_reducible repeat first | apply bN | apply bD | apply bA); exact BK220.out⟩, ⟨by repeat (first | (with_reducible first | exact HB.out | apply eA | apply eN | apply eD | refine below_set ?_ GE219.out | refine below_set ?_ GE220.out) | exact HB.out)⟩⟩
   ·replace c9 := Bool.eq_false_iff.mpr c9
    subst c9
    have H1 : (spec_l4K_root.j0 k false a0_0 a0_1 false a1_1 false a1_3 a1_4) = some r := by rw [if_neg (show ¬ (false = true) by decide)] at H; first | done | exact H
    clear H
    have H := H1
    clear H1
    have H' := Aside0.mk H
    clear H
    have hnb15 := NB220_219.out
    have hnc15 := NB219_220.out
    have hcz16_0 : w5.cell? ⟨gb220, 0, none⟩ = some (.bool false) := (blk_cell BK220.out 0).trans rfl
    have hcz16_1 : w5.cell? ⟨gb220, 1, none⟩ = some (.bool a1_1) := (blk_cell BK220.out 1).trans rfl
    have hcz16_2 : w5.cell? ⟨gb220, 2, none⟩ = some (.bool false) := (blk_cell BK220.out 2).trans rfl
    have hcz16_3 : w5.cell? ⟨gb220, 3, none⟩ = some (.int .u64 a1_3) := (blk_cell BK220.out 3).trans rfl
    have hcz16_4 : w5.cell? ⟨gb220, 4, none⟩ = some (.int .i64 a1_4) := (blk_cell BK220.out 4).trans rfl
    have hfz16_0 := blk_frozen BK220.out 0
    have hfz16_1 := blk_frozen BK220.out 1
    have hfz16_2 := blk_frozen BK220.out 2
    have hfz16_3 := blk_frozen BK220.out 3
    have hfz16_4 := blk_frozen BK220.out 4
    go_wp2
    go_meet
    case rel => exact ⟨_, (false), (by first | rfl | (simp; done) | (simp [*]; done)), H', ⟨by first | omega | exact Nat.le_refl _⟩, ⟨by (with_reducible repeat first | apply bN | apply bD | apply bA); exact BK219.out⟩, ⟨by (with_reducible repeat first | apply bN | apply bD | apply bA); exact BK220.out⟩, ⟨by repeat (first | (with_reducible first | exact HB.out | apply eA | apply eN | apply eD | refine below_set ?_ GE219.out | refine below_set ?_ GE220.out) | exact HB.out)⟩⟩
 case rest =>
  clear HC3
  try clear c1
  try clear p2
  try clear c6
  try clear c7
  try clear c9
  try clear c10
  try clear c11
  try clear c13
  try clear c15
  try clear hcz12_0
  try clear hcz12_1
  try clear hcz12_2
  try clear hcz12_3
  try clear hcz12_4
  try clear hcz14_0
  try clear hcz14_1
  try clear hcz14_2
  try clear hcz14_3
  try clear hcz14_4
  try clear hcz16_0
  try clear hcz16_1
  try clear hcz16_2
  try clear hcz16_3
  try clear hcz16_4
  try clear hcz8_0
  try clear hcz8_1
  try clear hcz8_2
  try clear hcz8_3
  try clear hcz8_4
  try clear hfz12_0
  try clear hfz12_1
  try clear hfz12_2
  try clear hfz12_3
  try clear hfz12_4
  try clear hfz14_0
  try clear hfz14_1
  try clear hfz14_2
  try clear hfz14_3
  try clear hfz14_4
  try clear hfz16_0
  try clear hfz16_1
  try clear hfz16_2
  try clear hfz16_3
  try clear hfz16_4
  try clear hfz8_0
  try clear hfz8_1
  try clear hfz8_2
  try clear hfz8_3
  try clear hfz8_4
  obtain ⟨kq, x8_2, rfl, HA, HJ2, BK219, BK220, HB⟩ := hcut
  cases kq with
  | zero => exact absurd HA.out (by simp [spec_l4K_root.j0])
  | succ kj2 =>
   have H := HA.out
   clear HA
   simp only [spec_l4K_root.j0] at H
   by_cases c17 : x8_2 = true
   ·subst c17
    have H1 : ((spec_l4K_nan.f a0_0 a0_1).bind fun t221 => (some t221)) = some r := by rw [if_pos rfl] at H; first | done | exact H
    clear H
    have H := H1
    clear H1
    replace H := Option.bind_eq_some_iff.mp H
    obtain ⟨t221, A180, H⟩ := H
    replace H : (some t221) = some r := H
    have A18 := Aside0.mk A180
    clear A180
    obtain rfl := Option.some.inj H
    have hnb19 := NB219_220.out
    have hnc19 := NB220_219.out
    have hcz20_0 : wc.cell? ⟨gb219, 0, none⟩ = some (.int .u64 a0_0) := (blk_cell BK219.out 0).trans rfl
    have hcz20_1 : wc.cell? ⟨gb219, 1, none⟩ = some (.int .u64 a0_1) := (blk_cell BK219.out 1).trans rfl
    have hfz20_0 := blk_frozen BK219.out 0
    have hfz20_1 := blk_frozen BK219.out 1
    go_wp2_with (first | ((with_reducible refine gate_callee (f := 114) rfl ?_); refine goesL_ (some 25) rfl rfl Try.func114 (by kernel_rfl) rfl #[.agg #[.int .u64 a0_0, .int .u64 a0_1]] rfl (by (try simp only [List.map_toArray, List.map_cons, List.map_nil]); first | done | rfl | (simp only [List.length_drop, List.length_take]; rfl)) ?_; (with_reducible refine (spec_l4K_nan.calls a0_0 a0_1 t221 _ A18.out).mono ?_); rintro e w21 ⟨rfl, hb⟩; refine ⟨_, rfl, ?_⟩; have n0_ := Aside0.mk (blk_below (g := gb219) (o := .cells #[.int .u64 a0_0, .int .u64 a0_1] 109 (0, 0)) (by (with_reducible repeat first | apply bN | apply bD | apply bA); exact BK219.out) hb); have n1_ := Aside0.mk (blk_below (g := gb220) (o := .cells #[.bool a1_0, .bool a1_1, .bool a1_2, .int .u64 a1_3, .int .i64 a1_4] 114 (0, 0)) (by (with_reducible repeat first | apply bN | apply bD | apply bA); exact BK220.out) hb); have n2_ := Aside0.mk (below_step (by repeat (first | (with_reducible first | exact HB.out | apply eA | apply eN | apply eD | refine below_set ?_ GE219.out | refine below_set ?_ GE220.out) | exact HB.out)) hb); clear BK219 BK220 HB; have BK219 := n0_; have BK220 := n1_; have HB := n2_; clear n0_ n1_ n2_; (try clear hb); (try clear hb2); (try clear hk); (try clear hi)))
    go_ret
    exact ⟨by first | rfl | (simp [errW_none, errW_some] <;> rfl) | (simp [*, errW_none, errW_some] <;> rfl), by repeat (first | (with_reducible first | exact HB.out | apply eA | apply eN | apply eD | refine below_set ?_ GE219.out | refine below_set ?_ GE220.out) | exact HB.out)⟩
   ·replace c17 := Bool.eq_false_iff.mpr c17
    subst c17
    have H1 : (if a1_1 = true then ((spec_l4K_inf.f a0_0 a0_1 false).bind fun t222 => (some t222)) else (if a1_3 = 0 then ((spec_l4K_sign.f a0_0 a0_1 a1_0).bind fun t223 => (some t223)) else ((spec_l4K_full.f kj2 a0_0 a0_1 a1_0 a1_1 a1_2 a1_3 a1_4).bind fun bt224 => ((spec_l4Len.f kj2 bt224.2.2.2.1).bind fun t229 => (if (Int.tmod (wrap64 (bt224.2.2.2.2 - (wrap64 (58 - t229)))) 2) = 0 then (if 0 ≤ (IntKind.u64.wrap (wrap64 (58 - t229))) then ((spec_l4Root.f kj2 (shl .u64 bt224.2.2.2.1 (IntKind.u64.wrap (wrap64 (58 - t229))))).bind fun t230 => ((spec_l4K_round.f kj2 a0_0 a0_1 false t230 (wrap64 (Int.tdiv (wrap64 (bt224.2.2.2.2 - (wrap64 (58 - t229)))) 2)) ((IntKind.u64.wrap (t230 * t230)) != (shl .u64 bt224.2.2.2.1 (IntKind.u64.wrap (wrap64 (58 - t229)))))).bind fun t231 => (some t231))) else (none)) else (if 0 ≤ (IntKind.u64.wrap (wrap64 ((wrap64 (58 - t229)) - 1))) then ((spec_l4Root.f kj2 (shl .u64 bt224.2.2.2.1 (IntKind.u64.wrap (wrap64 ((wrap64 (58 - t229)) - 1))))).bind fun t232 => ((spec_l4K_round.f kj2 a0_0 a0_1 false t232 (wrap64 (Int.tdiv (wrap64 (bt224.2.2.2.2 - (wrap64 ((wrap64 (58 - t229)) - 1)))) 2)) ((IntKind.u64.wrap (t232 * t232)) != (shl .u64 bt224.2.2.2.1 (IntKind.u64.wrap (wrap64 ((wrap64 (58 - t229)) - 1)))))).bind fun t233 => (some t233))) else (none))))))) = some r := by rw [if_neg (show ¬ (false = true) by decide)] at H; first | done | exact H
    clear H
    have H := H1
    clear H1
    by_cases c22 : a1_1 = true
    ·subst c22
     have H1 : ((spec_l4K_inf.f a0_0 a0_1 false).bind fun t222 => (some t222)) = some r := by rw [if_pos rfl] at H; first | done | exact H
     clear H
     have H := H1
     clear H1
     replace H := Option.bind_eq_some_iff.mp H
     obtain ⟨t222, A230, H⟩ := H
     replace H : (some t222) = some r := H
     have A23 := Aside0.mk A230
     clear A230
     obtain rfl := Option.some.inj H
     have hnb24 := NB220_219.out
     have hnc24 := NB219_220.out
     have hcz25_0 : wc.cell? ⟨gb220, 0, none⟩ = some (.bool a1_0) := (blk_cell BK220.out 0).trans rfl
     have hcz25_1 : wc.cell? ⟨gb220, 1, none⟩ = some (.bool true) := (blk_cell BK220.out 1).trans rfl
     have hcz25_2 : wc.cell? ⟨gb220, 2, none⟩ = some (.bool a1_2) := (blk_cell BK220.out 2).trans rfl
     have hcz25_3 : wc.cell? ⟨gb220, 3, none⟩ = some (.int .u64 a1_3) := (blk_cell BK220.out 3).trans rfl
     have hcz25_4 : wc.cell? ⟨gb220, 4, none⟩ = some (.int .i64 a1_4) := (blk_cell BK220.out 4).trans rfl
     have hfz25_0 := blk_frozen BK220.out 0
     have hfz25_1 := blk_frozen BK220.out 1
     have hfz25_2 := blk_frozen BK220.out 2
     have hfz25_3 := blk_frozen BK220.out 3
     have hfz25_4 := blk_frozen BK220.out 4
     have hcz26_0 : wc.cell? ⟨gb219, 0, none⟩ = some (.int .u64 a0_0) := (blk_cell BK219.out 0).trans rfl
     have hcz26_1 : wc.cell? ⟨gb219, 1, none⟩ = some (.int .u64 a0_1) := (blk_cell BK219.out 1).trans rfl
     have hfz26_0 := blk_frozen BK219.out 0
     have hfz26_1 := blk_frozen BK219.out 1
     go_wp2_with (first | ((with_reducible refine gate_callee (f := 115) rfl ?_); refine goesL_ (some 30) rfl rfl Try.func115 (by kernel_rfl) rfl #[.agg #[.int .u64 a0_0, .int .u64 a0_1], .bool false] rfl (by (try simp only [List.map_toArray, List.map_cons, List.map_nil]); first | done | rfl | (simp only [List.length_drop, List.length_take]; rfl)) ?_; (with_reducible refine (spec_l4K_inf.calls a0_0 a0_1 false t222 _ A23.out).mono ?_); rintro e w27 ⟨rfl, hb⟩; refine ⟨_, rfl, ?_⟩; have n0_ := Aside0.mk (blk_below (g := gb219) (o := .cells #[.int .u64 a0_0, .int .u64 a0_1] 109 (0, 0)) (by (with_reducible repeat first | apply bN | apply bD | apply bA); exact BK219.out) hb); have n1_ := Aside0.mk (blk_below (g := gb220) (o := .cells #[.bool a1_0, .bool true, .bool a1_2, .int .u64 a1_3, .int .i64 a1_4] 114 (0, 0)) (by (with_reducible repeat first | apply bN | apply bD | apply bA); exact BK220.out) hb); have n2_ := Aside0.mk (below_step (by repeat (first | (with_reducible first | exact HB.out | apply eA | apply eN | apply eD | refine below_set ?_ GE219.out | refine below_set ?_ GE220.out) | exact HB.out)) hb); clear BK219 BK220 HB; have BK219 := n0_; have BK220 := n1_; have HB := n2_; clear n0_ n1_ n2_; (try clear hb); (try clear hb2); (try clear hk); (try clear hi)))
     go_ret
     exact ⟨by first | rfl | (simp [errW_none, errW_some] <;> rfl) | (simp [*, errW_none, errW_some] <;> rfl), by repeat (first | (with_reducible first | exact HB.out | apply eA | apply eN | apply eD | refine below_set ?_ GE219.out | refine below_set ?_ GE220.out) | exact HB.out)⟩
    ·replace c22 := Bool.eq_false_iff.mpr c22
     subst c22
     have H1 : (if a1_3 = 0 then ((spec_l4K_sign.f a0_0 a0_1 a1_0).bind fun t223 => (some t223)) else ((spec_l4K_full.f kj2 a0_0 a0_1 a1_0 false a1_2 a1_3 a1_4).bind fun bt224 => ((spec_l4Len.f kj2 bt224.2.2.2.1).bind fun t229 => (if (Int.tmod (wrap64 (bt224.2.2.2.2 - (wrap64 (58 - t229)))) 2) = 0 then (if 0 ≤ (IntKind.u64.wrap (wrap64 (58 - t229))) then ((spec_l4Root.f kj2 (shl .u64 bt224.2.2.2.1 (IntKind.u64.wrap (wrap64 (58 - t229))))).bind fun t230 => ((spec_l4K_round.f kj2 a0_0 a0_1 false t230 (wrap64 (Int.tdiv (wrap64 (bt224.2.2.2.2 - (wrap64 (58 - t229)))) 2)) ((IntKind.u64.wrap (t230 * t230)) != (shl .u64 bt224.2.2.2.1 (IntKind.u64.wrap (wrap64 (58 - t229)))))).bind fun t231 => (some t231))) else (none)) else (if 0 ≤ (IntKind.u64.wrap (wrap64 ((wrap64 (58 - t229)) - 1))) then ((spec_l4Root.f kj2 (shl .u64 bt224.2.2.2.1 (IntKind.u64.wrap (wrap64 ((wrap64 (58 - t229)) - 1))))).bind fun t232 => ((spec_l4K_round.f kj2 a0_0 a0_1 false t232 (wrap64 (Int.tdiv (wrap64 (bt224.2.2.2.2 - (wrap64 ((wrap64 (58 - t229)) - 1)))) 2)) ((IntKind.u64.wrap (t232 * t232)) != (shl .u64 bt224.2.2.2.1 (IntKind.u64.wrap (wrap64 ((wrap64 (58 - t229)) - 1)))))).bind fun t233 => (some t233))) else (none)))))) = some r := by rw [if_neg (show ¬ (false = true) by decide)] at H; first | done | exact H
     clear H
     have H := H1
     clear H1
     by_cases c28 : a1_3 = 0
     ·rw [if_pos c28] at H
      have c28b0 : (a1_3 == 0) = true := beq_iff_eq.mpr c28
      have c28b1 : (a1_3 != 0) = false := bne_eq_false_iff_eq.mpr c28
      clear c28
      replace H := Option.bind_eq_some_iff.mp H
      obtain ⟨t223, A290, H⟩ := H
      replace H : (some t223) = some r := H
      have A29 := Aside0.mk A290
      clear A290
      obtain rfl := Option.some.inj H
      have hnb30 := NB220_219.out
      have hnc30 := NB219_220.out
      have hcz31_0 : wc.cell? ⟨gb220, 0, none⟩ = some (.bool a1_0) := (blk_cell BK220.out 0).trans rfl
      have hcz31_1 : wc.cell? ⟨gb220, 1, none⟩ = some (.bool false) := (blk_cell BK220.out 1).trans rfl
      have hcz31_2 : wc.cell? ⟨gb220, 2, none⟩ = some (.bool a1_2) := (blk_cell BK220.out 2).trans rfl
      have hcz31_3 : wc.cell? ⟨gb220, 3, none⟩ = some (.int .u64 a1_3) := (blk_cell BK220.out 3).trans rfl
      have hcz31_4 : wc.cell? ⟨gb220, 4, none⟩ = some (.int .i64 a1_4) := (blk_cell BK220.out 4).trans rfl
      have hfz31_0 := blk_frozen BK220.out 0
      have hfz31_1 := blk_frozen BK220.out 1
      have hfz31_2 := blk_frozen BK220.out 2
      have hfz31_3 := blk_frozen BK220.out 3
      have hfz31_4 := blk_frozen BK220.out 4
      have hcz32_0 : wc.cell? ⟨gb219, 0, none⟩ = some (.int .u64 a0_0) := (blk_cell BK219.out 0).trans rfl
      have hcz32_1 : wc.cell? ⟨gb219, 1, none⟩ = some (.int .u64 a0_1) := (blk_cell BK219.out 1).trans rfl
      have hfz32_0 := blk_frozen BK219.out 0
      have hfz32_1 := blk_frozen BK219.out 1
      go_wp2_with (first | ((with_reducible refine gate_callee (f := 116) rfl ?_); refine goesL_ (some 38) rfl rfl Try.func116 (by kernel_rfl) rfl #[.agg #[.int .u64 a0_0, .int .u64 a0_1], .bool a1_0] rfl (by (try simp only [List.map_toArray, List.map_cons, List.map_nil]); first | done | rfl | (simp only [List.length_drop, List.length_take]; rfl)) ?_; (with_reducible refine (spec_l4K_sign.calls a0_0 a0_1 a1_0 t223 _ A29.out).mono ?_); rintro e w33 ⟨rfl, hb⟩; refine ⟨_, rfl, ?_⟩; have n0_ := Aside0.mk (blk_below (g := gb219) (o := .cells #[.int .u64 a0_0, .int .u64 a0_1] 109 (0, 0)) (by (with_reducible repeat first | apply bN | apply bD | apply bA); exact BK219.out) hb); have n1_ := Aside0.mk (blk_below (g := gb220) (o := .cells #[.bool a1_0, .bool false, .bool a1_2, .int .u64 a1_3, .int .i64 a1_4] 114 (0, 0)) (by (with_reducible repeat first | apply bN | apply bD | apply bA); exact BK220.out) hb); have n2_ := Aside0.mk (below_step (by repeat (first | (with_reducible first | exact HB.out | apply eA | apply eN | apply eD | refine below_set ?_ GE219.out | refine below_set ?_ GE220.out) | exact HB.out)) hb); clear BK219 BK220 HB; have BK219 := n0_; have BK220 := n1_; have HB := n2_; clear n0_ n1_ n2_; (try clear hb); (try clear hb2); (try clear hk); (try clear hi)))
      go_ret
      exact ⟨by first | rfl | (simp [errW_none, errW_some] <;> rfl) | (simp [*, errW_none, errW_some] <;> rfl), by repeat (first | (with_reducible first | exact HB.out | apply eA | apply eN | apply eD | refine below_set ?_ GE219.out | refine below_set ?_ GE220.out) | exact HB.out)⟩
     ·rw [if_neg c28] at H
      have c28b0 : (a1_3 == 0) = false := beq_eq_false_iff_ne.mpr c28
      have c28b1 : (a1_3 != 0) = true := bne_iff_ne.mpr c28
      replace H := Option.bind_eq_some_iff.mp H
      obtain ⟨⟨t224, t225, t226, t227, t228⟩, A340, H⟩ := H
      replace H : ((spec_l4Len.f kj2 t227).bind fun t229 => (if (Int.tmod (wrap64 (t228 - (wrap64 (58 - t229)))) 2) = 0 then (if 0 ≤ (IntKind.u64.wrap (wrap64 (58 - t229))) then ((spec_l4Root.f kj2 (shl .u64 t227 (IntKind.u64.wrap (wrap64 (58 - t229))))).bind fun t230 => ((spec_l4K_round.f kj2 a0_0 a0_1 false t230 (wrap64 (Int.tdiv (wrap64 (t228 - (wrap64 (58 - t229)))) 2)) ((IntKind.u64.wrap (t230 * t230)) != (shl .u64 t227 (IntKind.u64.wrap (wrap64 (58 - t229)))))).bind fun t231 => (some t231))) else (none)) else (if 0 ≤ (IntKind.u64.wrap (wrap64 ((wrap64 (58 - t229)) - 1))) then ((spec_l4Root.f kj2 (shl .u64 t227 (IntKind.u64.wrap (wrap64 ((wrap64 (58 - t229)) - 1))))).bind fun t232 => ((spec_l4K_round.f kj2 a0_0 a0_1 false t232 (wrap64 (Int.tdiv (wrap64 (t228 - (wrap64 ((wrap64 (58 - t229)) - 1)))) 2)) ((IntKind.u64.wrap (t232 * t232)) != (shl .u64 t227 (IntKind.u64.wrap (wrap64 ((wrap64 (58 - t229)) - 1)))))).bind fun t233 => (some t233))) else (none)))) = some r := H
      have A34 := Aside0.mk A340
      clear A340
      replace H := Option.bind_eq_some_iff.mp H
      obtain ⟨t229, A350, H⟩ := H
      replace H : (if (Int.tmod (wrap64 (t228 - (wrap64 (58 - t229)))) 2) = 0 then (if 0 ≤ (IntKind.u64.wrap (wrap64 (58 - t229))) then ((spec_l4Root.f kj2 (shl .u64 t227 (IntKind.u64.wrap (wrap64 (58 - t229))))).bind fun t230 => ((spec_l4K_round.f kj2 a0_0 a0_1 false t230 (wrap64 (Int.tdiv (wrap64 (t228 - (wrap64 (58 - t229)))) 2)) ((IntKind.u64.wrap (t230 * t230)) != (shl .u64 t227 (IntKind.u64.wrap (wrap64 (58 - t229)))))).bind fun t231 => (some t231))) else (none)) else (if 0 ≤ (IntKind.u64.wrap (wrap64 ((wrap64 (58 - t229)) - 1))) then ((spec_l4Root.f kj2 (shl .u64 t227 (IntKind.u64.wrap (wrap64 ((wrap64 (58 - t229)) - 1))))).bind fun t232 => ((spec_l4K_round.f kj2 a0_0 a0_1 false t232 (wrap64 (Int.tdiv (wrap64 (t228 - (wrap64 ((wrap64 (58 - t229)) - 1)))) 2)) ((IntKind.u64.wrap (t232 * t232)) != (shl .u64 t227 (IntKind.u64.wrap (wrap64 ((wrap64 (58 - t229)) - 1)))))).bind fun t233 => (some t233))) else (none))) = some r := H
      have A35 := Aside0.mk A350
      clear A350
      by_cases c36 : (Int.tmod (wrap64 (t228 - (wrap64 (58 - t229)))) 2) = 0
      ·rw [if_pos c36] at H
       have c36b0 : ((Int.tmod (wrap64 (t228 - (wrap64 (58 - t229)))) 2) == 0) = true := beq_iff_eq.mpr c36
       have c36b1 : ((Int.tmod (wrap64 (t228 - (wrap64 (58 - t229)))) 2) != 0) = false := bne_eq_false_iff_eq.mpr c36
       clear c36
       obtain ⟨ji37, hji37⟩ : ∃ j_ : Int, (IntKind.u64.wrap (wrap64 (58 - t229))) = j_ := ⟨_, rfl⟩
       replace H : (if 0 ≤ (ji37) then ((spec_l4Root.f kj2 (shl .u64 t227 (ji37))).bind fun t230 => ((spec_l4K_round.f kj2 a0_0 a0_1 false t230 (wrap64 (Int.tdiv (wrap64 (t228 - (wrap64 (58 - t229)))) 2)) ((IntKind.u64.wrap (t230 * t230)) != (shl .u64 t227 (ji37)))).bind fun t231 => (some t231))) else (none)) = some r := by first | (rw [hji37] at H; exact H) | (simp only [hji37] at H ⊢; exact H)
       (try rw [hji37] at A34)
       (try rw [hji37] at A35)
       by_cases c38 : 0 ≤ (ji37)
       ·rw [if_pos c38] at H
        have c38b0 := eq_true c38
        have c38b1 : decide (0 ≤ (ji37)) = true := decide_eq_true c38
        clear c38
        obtain ⟨ji39, hji39⟩ : ∃ j_ : Int, (shl .u64 t227 (ji37)) = j_ := ⟨_, rfl⟩
        replace H : ((spec_l4Root.f kj2 (ji39)).bind fun t230 => ((spec_l4K_round.f kj2 a0_0 a0_1 false t230 (wrap64 (Int.tdiv (wrap64 (t228 - (wrap64 (58 - t229)))) 2)) ((IntKind.u64.wrap (t230 * t230)) != (ji39))).bind fun t231 => (some t231))) = some r := by first | (rw [hji39] at H; exact H) | (simp only [hji39] at H ⊢; exact H)
        (try rw [hji39] at A34)
        (try rw [hji39] at A35)
        have hji39_ : (IntKind.u64.wrap (t227 * 2 ^ min (ji37).toNat 64)) = ji39 := hji39
        have hji39z : (ji37) ≤ 64 → (IntKind.u64.wrap (t227 * 2 ^ (ji37).toNat)) = ji39 := shl_small hji39
        replace H := Option.bind_eq_some_iff.mp H
        obtain ⟨t230, A400, H⟩ := H
        replace H : ((spec_l4K_round.f kj2 a0_0 a0_1 false t230 (wrap64 (Int.tdiv (wrap64 (t228 - (wrap64 (58 - t229)))) 2)) ((IntKind.u64.wrap (t230 * t230)) != (ji39))).bind fun t231 => (some t231)) = some r := H
        have A40 := Aside0.mk A400
        clear A400
        replace H := Option.bind_eq_some_iff.mp H
        obtain ⟨t231, A410, H⟩ := H
        replace H : (some t231) = some r := H
        have A41 := Aside0.mk A410
        clear A410
        obtain rfl := Option.some.inj H
        have hnb42 := NB220_219.out
        have hnc42 := NB219_220.out
        have hcz43_0 : wc.cell? ⟨gb220, 0, none⟩ = some (.bool a1_0) := (blk_cell BK220.out 0).trans rfl
        have hcz43_1 : wc.cell? ⟨gb220, 1, none⟩ = some (.bool false) := (blk_cell BK220.out 1).trans rfl
        have hcz43_2 : wc.cell? ⟨gb220, 2, none⟩ = some (.bool a1_2) := (blk_cell BK220.out 2).trans rfl
        have hcz43_3 : wc.cell? ⟨gb220, 3, none⟩ = some (.int .u64 a1_3) := (blk_cell BK220.out 3).trans rfl
        have hcz43_4 : wc.cell? ⟨gb220, 4, none⟩ = some (.int .i64 a1_4) := (blk_cell BK220.out 4).trans rfl
        have hfz43_0 := blk_frozen BK220.out 0
        have hfz43_1 := blk_frozen BK220.out 1
        have hfz43_2 := blk_frozen BK220.out 2
        have hfz43_3 := blk_frozen BK220.out 3
        have hfz43_4 := blk_frozen BK220.out 4
        have hcz44_0 : wc.cell? ⟨gb219, 0, none⟩ = some (.int .u64 a0_0) := (blk_cell BK219.out 0).trans rfl
        have hcz44_1 : wc.cell? ⟨gb219, 1, none⟩ = some (.int .u64 a0_1) := (blk_cell BK219.out 1).trans rfl
        have hfz44_0 := blk_frozen BK219.out 0
        have hfz44_1 := blk_frozen BK219.out 1
        go_wp2_with (first | ((with_reducible refine gate_callee (f := 117) rfl ?_); refine goesL_ (some 41) rfl rfl Try.func117 (by kernel_rfl) rfl #[.agg #[.int .u64 a0_0, .int .u64 a0_1], .agg #[.bool a1_0, .bool false, .bool a1_2, .int .u64 a1_3, .int .i64 a1_4]] rfl (by (try simp only [List.map_toArray, List.map_cons, List.map_nil]); first | done | rfl | (simp only [List.length_drop, List.length_take]; rfl)) ?_; (with_reducible refine (spec_l4K_full.calls kj2 a0_0 a0_1 a1_0 false a1_2 a1_3 a1_4 t224 t225 t226 t227 t228 _ A34.out).mono ?_); rintro e w45 ⟨rfl, hb⟩; refine ⟨_, rfl, ?_⟩; have n0_ := Aside0.mk (blk_below (g := gb219) (o := .cells #[.int .u64 a0_0, .int .u64 a0_1] 109 (0, 0)) (by (with_reducible repeat first | apply bN | apply bD | apply bA); exact BK219.out) hb); have n1_ := Aside0.mk (blk_below (g := gb220) (o := .cells #[.bool a1_0, .bool false, .bool a1_2, .int .u64 a1_3, .int .i64 a1_4] 114 (0, 0)) (by (with_reducible repeat first | apply bN | apply bD | apply bA); exact BK220.out) hb); have n2_ := Aside0.mk (below_step (by repeat (first | (with_reducible first | exact HB.out | apply eA | apply eN | apply eD | refine below_set ?_ GE219.out | refine below_set ?_ GE220.out) | exact HB.out)) hb); clear BK219 BK220 HB; have BK219 := n0_; have BK220 := n1_; have HB := n2_; clear n0_ n1_ n2_; (try clear hb); (try clear hb2); (try clear hk); (try clear hi); have hcz46_0 : w45.cell? ⟨gb220, 0, none⟩ = some (.bool a1_0) := (blk_cell BK220.out 0).trans rfl; have hcz46_1 : w45.cell? ⟨gb220, 1, none⟩ = some (.bool false) := (blk_cell BK220.out 1).trans rfl; have hcz46_2 : w45.cell? ⟨gb220, 2, none⟩ = some (.bool a1_2) := (blk_cell BK220.out 2).trans rfl; have hcz46_3 : w45.cell? ⟨gb220, 3, none⟩ = some (.int .u64 a1_3) := (blk_cell BK220.out 3).trans rfl; have hcz46_4 : w45.cell? ⟨gb220, 4, none⟩ = some (.int .i64 a1_4) := (blk_cell BK220.out 4).trans rfl; have hfz46_0 := blk_frozen BK220.out 0; have hfz46_1 := blk_frozen BK220.out 1; have hfz46_2 := blk_frozen BK220.out 2; have hfz46_3 := blk_frozen BK220.out 3; have hfz46_4 := blk_frozen BK220.out 4) | ((with_reducible refine gate_callee (f := 118) rfl ?_); refine goesL_ (some 44) rfl rfl Try.func118 (by kernel_rfl) rfl #[.int .u64 t227] rfl (by (try simp only [List.map_toArray, List.map_cons, List.map_nil]); first | done | rfl | (simp only [List.length_drop, List.length_take]; rfl)) ?_; (with_reducible refine (spec_l4Len.calls kj2 t227 t229 _ A35.out).mono ?_); rintro e w' ⟨rfl, ⟨nd, rfl⟩⟩; refine ⟨_, rfl, ?_⟩) | ((with_reducible refine gate_callee (f := 119) rfl ?_); refine goesL_ (some 60) rfl rfl Try.func119 (by kernel_rfl) rfl #[.int .u64 ji39] rfl (by (try simp only [List.map_toArray, List.map_cons, List.map_nil]); first | done | (simp only [hji39]; rfl) | rfl | (simp only [List.length_drop, List.length_take]; rfl)) ?_; (with_reducible refine (spec_l4Root.calls kj2 ji39 t230 _ A40.out).mono ?_); rintro e w' ⟨rfl, ⟨nd, rfl⟩⟩; refine ⟨_, rfl, ?_⟩; have hcz47_0 : w45.cell? ⟨gb219, 0, none⟩ = some (.int .u64 a0_0) := (blk_cell BK219.out 0).trans rfl; have hcz47_1 : w45.cell? ⟨gb219, 1, none⟩ = some (.int .u64 a0_1) := (blk_cell BK219.out 1).trans rfl; have hfz47_0 := blk_frozen BK219.out 0; have hfz47_1 := blk_frozen BK219.out 1) | ((with_reducible refine gate_callee (f := 120) rfl ?_); refine goesL_ (some 73) rfl rfl Try.func120 (by kernel_rfl) rfl #[.agg #[.int .u64 a0_0, .int .u64 a0_1], .bool false, .int .u64 t230, .int .i64 (wrap64 (Int.tdiv (wrap64 (t228 - (wrap64 (58 - t229)))) 2)), .bool ((IntKind.u64.wrap (t230 * t230)) != (ji39))] rfl (by (try simp only [List.map_toArray, List.map_cons, List.map_nil]); first | done | (simp only [hji39]; rfl) | rfl | (simp only [List.length_drop, List.length_take]; rfl)) ?_; (with_reducible refine (spec_l4K_round.calls kj2 a0_0 a0_1 false t230 (wrap64 (Int.tdiv (wrap64 (t228 - (wrap64 (58 - t229)))) 2)) ((IntKind.u64.wrap (t230 * t230)) != (ji39)) t231 _ A41.out).mono ?_); rintro e w48 ⟨rfl, hb⟩; refine ⟨_, rfl, ?_⟩; have n0_ := Aside0.mk (blk_below (g := gb219) (o := .cells #[.int .u64 a0_0, .int .u64 a0_1] 109 (0, 0)) (by (with_reducible repeat first | apply bN | apply bD | apply bA); refine blk_far ?_ NB219_220.out _; (with_reducible repeat first | apply bN | apply bD | apply bA); refine blk_far ?_ NB219_220.out _; (with_reducible repeat first | apply bN | apply bD | apply bA); refine blk_far ?_ NB219_220.out _; (with_reducible repeat first | apply bN | apply bD | apply bA); refine blk_far ?_ NB219_220.out _; (with_reducible repeat first | apply bN | apply bD | apply bA); refine blk_far ?_ NB219_220.out _; (with_reducible repeat first | apply bN | apply bD | apply bA); exact BK219.out) hb); have n1_ := Aside0.mk (blk_below (g := gb220) (o := .cells #[.bool t224, .bool t225, .bool t226, .int .u64 t227, .int .i64 t228] 114 (0, 0)) (by (with_reducible repeat first | apply bN | apply bD | apply bA); refine blk_put (cs := #[.bool t224, .bool t225, .bool t226, .int .u64 t227, .int .i64 a1_4]) ?_ 4 _ rfl; (with_reducible repeat first | apply bN | apply bD | apply bA); refine blk_put (cs := #[.bool t224, .bool t225, .bool t226, .int .u64 a1_3, .int .i64 a1_4]) ?_ 3 _ rfl; (with_reducible repeat first | apply bN | apply bD | apply bA); refine blk_put (cs := #[.bool t224, .bool t225, .bool a1_2, .int .u64 a1_3, .int .i64 a1_4]) ?_ 2 _ rfl; (with_reducible repeat first | apply bN | apply bD | apply bA); refine blk_put (cs := #[.bool t224, .bool false, .bool a1_2, .int .u64 a1_3, .int .i64 a1_4]) ?_ 1 _ rfl; (with_reducible repeat first | apply bN | apply bD | apply bA); refine blk_put (cs := #[.bool a1_0, .bool false, .bool a1_2, .int .u64 a1_3, .int .i64 a1_4]) ?_ 0 _ rfl; (with_reducible repeat first | apply bN | apply bD | apply bA); exact BK220.out) hb); have n2_ := Aside0.mk (below_step (by repeat (first | (with_reducible first | exact HB.out | apply eA | apply eN | apply eD | refine below_set ?_ GE219.out | refine below_set ?_ GE220.out) | exact HB.out)) hb); clear BK219 BK220 HB; have BK219 := n0_; have BK220 := n1_; have HB := n2_; clear n0_ n1_ n2_; (try clear hb); (try clear hb2); (try clear hk); (try clear hi)))
        go_ret
        exact ⟨by first | rfl | (simp [errW_none, errW_some] <;> rfl) | (simp only [← hji37, ← hji39]; first | rfl | (simp [errW_none, errW_some] <;> rfl)) | (simp [*, errW_none, errW_some] <;> rfl), by repeat (first | (with_reducible first | exact HB.out | apply eA | apply eN | apply eD | refine below_set ?_ GE219.out | refine below_set ?_ GE220.out) | exact HB.out)⟩
       ·rw [if_neg c38] at H
        exact absurd H (by simp)
      ·rw [if_neg c36] at H
       have c36b0 : ((Int.tmod (wrap64 (t228 - (wrap64 (58 - t229)))) 2) == 0) = false := beq_eq_false_iff_ne.mpr c36
       have c36b1 : ((Int.tmod (wrap64 (t228 - (wrap64 (58 - t229)))) 2) != 0) = true := bne_iff_ne.mpr c36
       obtain ⟨ji49, hji49⟩ : ∃ j_ : Int, (IntKind.u64.wrap (wrap64 ((wrap64 (58 - t229)) - 1))) = j_ := ⟨_, rfl⟩
       replace H : (if 0 ≤ (ji49) then ((spec_l4Root.f kj2 (shl .u64 t227 (ji49))).bind fun t232 => ((spec_l4K_round.f kj2 a0_0 a0_1 false t232 (wrap64 (Int.tdiv (wrap64 (t228 - (wrap64 ((wrap64 (58 - t229)) - 1)))) 2)) ((IntKind.u64.wrap (t232 * t232)) != (shl .u64 t227 (ji49)))).bind fun t233 => (some t233))) else (none)) = some r := by first | (rw [hji49] at H; exact H) | (simp only [hji49] at H ⊢; exact H)
       (try rw [hji49] at A34)
       (try rw [hji49] at A35)
       by_cases c50 : 0 ≤ (ji49)
       ·rw [if_pos c50] at H
        have c50b0 := eq_true c50
        have c50b1 : decide (0 ≤ (ji49)) = true := decide_eq_true c50
        clear c50
        obtain ⟨ji51, hji51⟩ : ∃ j_ : Int, (shl .u64 t227 (ji49)) = j_ := ⟨_, rfl⟩
        replace H : ((spec_l4Root.f kj2 (ji51)).bind fun t232 => ((spec_l4K_round.f kj2 a0_0 a0_1 false t232 (wrap64 (Int.tdiv (wrap64 (t228 - (wrap64 ((wrap64 (58 - t229)) - 1)))) 2)) ((IntKind.u64.wrap (t232 * t232)) != (ji51))).bind fun t233 => (some t233))) = some r := by first | (rw [hji51] at H; exact H) | (simp only [hji51] at H ⊢; exact H)
        (try rw [hji51] at A34)
        (try rw [hji51] at A35)
        have hji51_ : (IntKind.u64.wrap (t227 * 2 ^ min (ji49).toNat 64)) = ji51 := hji51
        have hji51z : (ji49) ≤ 64 → (IntKind.u64.wrap (t227 * 2 ^ (ji49).toNat)) = ji51 := shl_small hji51
        replace H := Option.bind_eq_some_iff.mp H
        obtain ⟨t232, A520, H⟩ := H
        replace H : ((spec_l4K_round.f kj2 a0_0 a0_1 false t232 (wrap64 (Int.tdiv (wrap64 (t228 - (wrap64 ((wrap64 (58 - t229)) - 1)))) 2)) ((IntKind.u64.wrap (t232 * t232)) != (ji51))).bind fun t233 => (some t233)) = some r := H
        have A52 := Aside0.mk A520
        clear A520
        replace H := Option.bind_eq_some_iff.mp H
        obtain ⟨t233, A530, H⟩ := H
        replace H : (some t233) = some r := H
        have A53 := Aside0.mk A530
        clear A530
        obtain rfl := Option.some.inj H
        have hnb54 := NB220_219.out
        have hnc54 := NB219_220.out
        have hcz55_0 : wc.cell? ⟨gb220, 0, none⟩ = some (.bool a1_0) := (blk_cell BK220.out 0).trans rfl
        have hcz55_1 : wc.cell? ⟨gb220, 1, none⟩ = some (.bool false) := (blk_cell BK220.out 1).trans rfl
        have hcz55_2 : wc.cell? ⟨gb220, 2, none⟩ = some (.bool a1_2) := (blk_cell BK220.out 2).trans rfl
        have hcz55_3 : wc.cell? ⟨gb220, 3, none⟩ = some (.int .u64 a1_3) := (blk_cell BK220.out 3).trans rfl
        have hcz55_4 : wc.cell? ⟨gb220, 4, none⟩ = some (.int .i64 a1_4) := (blk_cell BK220.out 4).trans rfl
        have hfz55_0 := blk_frozen BK220.out 0
        have hfz55_1 := blk_frozen BK220.out 1
        have hfz55_2 := blk_frozen BK220.out 2
        have hfz55_3 := blk_frozen BK220.out 3
        have hfz55_4 := blk_frozen BK220.out 4
        have hcz56_0 : wc.cell? ⟨gb219, 0, none⟩ = some (.int .u64 a0_0) := (blk_cell BK219.out 0).trans rfl
        have hcz56_1 : wc.cell? ⟨gb219, 1, none⟩ = some (.int .u64 a0_1) := (blk_cell BK219.out 1).trans rfl
        have hfz56_0 := blk_frozen BK219.out 0
        have hfz56_1 := blk_frozen BK219.out 1
        go_wp2_with (first | ((with_reducible refine gate_callee (f := 117) rfl ?_); refine goesL_ (some 41) rfl rfl Try.func117 (by kernel_rfl) rfl #[.agg #[.int .u64 a0_0, .int .u64 a0_1], .agg #[.bool a1_0, .bool false, .bool a1_2, .int .u64 a1_3, .int .i64 a1_4]] rfl (by (try simp only [List.map_toArray, List.map_cons, List.map_nil]); first | done | rfl | (simp only [List.length_drop, List.length_take]; rfl)) ?_; (with_reducible refine (spec_l4K_full.calls kj2 a0_0 a0_1 a1_0 false a1_2 a1_3 a1_4 t224 t225 t226 t227 t228 _ A34.out).mono ?_); rintro e w57 ⟨rfl, hb⟩; refine ⟨_, rfl, ?_⟩; have n0_ := Aside0.mk (blk_below (g := gb219) (o := .cells #[.int .u64 a0_0, .int .u64 a0_1] 109 (0, 0)) (by (with_reducible repeat first | apply bN | apply bD | apply bA); exact BK219.out) hb); have n1_ := Aside0.mk (blk_below (g := gb220) (o := .cells #[.bool a1_0, .bool false, .bool a1_2, .int .u64 a1_3, .int .i64 a1_4] 114 (0, 0)) (by (with_reducible repeat first | apply bN | apply bD | apply bA); exact BK220.out) hb); have n2_ := Aside0.mk (below_step (by repeat (first | (with_reducible first | exact HB.out | apply eA | apply eN | apply eD | refine below_set ?_ GE219.out | refine below_set ?_ GE220.out) | exact HB.out)) hb); clear BK219 BK220 HB; have BK219 := n0_; have BK220 := n1_; have HB := n2_; clear n0_ n1_ n2_; (try clear hb); (try clear hb2); (try clear hk); (try clear hi); have hcz58_0 : w57.cell? ⟨gb220, 0, none⟩ = some (.bool a1_0) := (blk_cell BK220.out 0).trans rfl; have hcz58_1 : w57.cell? ⟨gb220, 1, none⟩ = some (.bool false) := (blk_cell BK220.out 1).trans rfl; have hcz58_2 : w57.cell? ⟨gb220, 2, none⟩ = some (.bool a1_2) := (blk_cell BK220.out 2).trans rfl; have hcz58_3 : w57.cell? ⟨gb220, 3, none⟩ = some (.int .u64 a1_3) := (blk_cell BK220.out 3).trans rfl; have hcz58_4 : w57.cell? ⟨gb220, 4, none⟩ = some (.int .i64 a1_4) := (blk_cell BK220.out 4).trans rfl; have hfz58_0 := blk_frozen BK220.out 0; have hfz58_1 := blk_frozen BK220.out 1; have hfz58_2 := blk_frozen BK220.out 2; have hfz58_3 := blk_frozen BK220.out 3; have hfz58_4 := blk_frozen BK220.out 4) | ((with_reducible refine gate_callee (f := 118) rfl ?_); refine goesL_ (some 44) rfl rfl Try.func118 (by kernel_rfl) rfl #[.int .u64 t227] rfl (by (try simp only [List.map_toArray, List.map_cons, List.map_nil]); first | done | rfl | (simp only [List.length_drop, List.length_take]; rfl)) ?_; (with_reducible refine (spec_l4Len.calls kj2 t227 t229 _ A35.out).mono ?_); rintro e w' ⟨rfl, ⟨nd, rfl⟩⟩; refine ⟨_, rfl, ?_⟩) | ((with_reducible refine gate_callee (f := 119) rfl ?_); refine goesL_ (some 60) rfl rfl Try.func119 (by kernel_rfl) rfl #[.int .u64 ji51] rfl (by (try simp only [List.map_toArray, List.map_cons, List.map_nil]); first | done | (simp only [hji51]; rfl) | rfl | (simp only [List.length_drop, List.length_take]; rfl)) ?_; (with_reducible refine (spec_l4Root.calls kj2 ji51 t232 _ A52.out).mono ?_); rintro e w' ⟨rfl, ⟨nd, rfl⟩⟩; refine ⟨_, rfl, ?_⟩; have hcz59_0 : w57.cell? ⟨gb219, 0, none⟩ = some (.int .u64 a0_0) := (blk_cell BK219.out 0).trans rfl; have hcz59_1 : w57.cell? ⟨gb219, 1, none⟩ = some (.int .u64 a0_1) := (blk_cell BK219.out 1).trans rfl; have hfz59_0 := blk_frozen BK219.out 0; have hfz59_1 := blk_frozen BK219.out 1) | ((with_reducible refine gate_callee (f := 120) rfl ?_); refine goesL_ (some 73) rfl rfl Try.func120 (by kernel_rfl) rfl #[.agg #[.int .u64 a0_0, .int .u64 a0_1], .bool false, .int .u64 t232, .int .i64 (wrap64 (Int.tdiv (wrap64 (t228 - (wrap64 ((wrap64 (58 - t229)) - 1)))) 2)), .bool ((IntKind.u64.wrap (t232 * t232)) != (ji51))] rfl (by (try simp only [List.map_toArray, List.map_cons, List.map_nil]); first | done | (simp only [hji51]; rfl) | rfl | (simp only [List.length_drop, List.length_take]; rfl)) ?_; (with_reducible refine (spec_l4K_round.calls kj2 a0_0 a0_1 false t232 (wrap64 (Int.tdiv (wrap64 (t228 - (wrap64 ((wrap64 (58 - t229)) - 1)))) 2)) ((IntKind.u64.wrap (t232 * t232)) != (ji51)) t233 _ A53.out).mono ?_); rintro e w60 ⟨rfl, hb⟩; refine ⟨_, rfl, ?_⟩; have n0_ := Aside0.mk (blk_below (g := gb219) (o := .cells #[.int .u64 a0_0, .int .u64 a0_1] 109 (0, 0)) (by (with_reducible repeat first | apply bN | apply bD | apply bA); refine blk_far ?_ NB219_220.out _; (with_reducible repeat first | apply bN | apply bD | apply bA); refine blk_far ?_ NB219_220.out _; (with_reducible repeat first | apply bN | apply bD | apply bA); refine blk_far ?_ NB219_220.out _; (with_reducible repeat first | apply bN | apply bD | apply bA); refine blk_far ?_ NB219_220.out _; (with_reducible repeat first | apply bN | apply bD | apply bA); refine blk_far ?_ NB219_220.out _; (with_reducible repeat first | apply bN | apply bD | apply bA); exact BK219.out) hb); have n1_ := Aside0.mk (blk_below (g := gb220) (o := .cells #[.bool t224, .bool t225, .bool t226, .int .u64 t227, .int .i64 t228] 114 (0, 0)) (by (with_reducible repeat first | apply bN | apply bD | apply bA); refine blk_put (cs := #[.bool t224, .bool t225, .bool t226, .int .u64 t227, .int .i64 a1_4]) ?_ 4 _ rfl; (with_reducible repeat first | apply bN | apply bD | apply bA); refine blk_put (cs := #[.bool t224, .bool t225, .bool t226, .int .u64 a1_3, .int .i64 a1_4]) ?_ 3 _ rfl; (with_reducible repeat first | apply bN | apply bD | apply bA); refine blk_put (cs := #[.bool t224, .bool t225, .bool a1_2, .int .u64 a1_3, .int .i64 a1_4]) ?_ 2 _ rfl; (with_reducible repeat first | apply bN | apply bD | apply bA); refine blk_put (cs := #[.bool t224, .bool false, .bool a1_2, .int .u64 a1_3, .int .i64 a1_4]) ?_ 1 _ rfl; (with_reducible repeat first | apply bN | apply bD | apply bA); refine blk_put (cs := #[.bool a1_0, .bool false, .bool a1_2, .int .u64 a1_3, .int .i64 a1_4]) ?_ 0 _ rfl; (with_reducible repeat first | apply bN | apply bD | apply bA); exact BK220.out) hb); have n2_ := Aside0.mk (below_step (by repeat (first | (with_reducible first | exact HB.out | apply eA | apply eN | apply eD | refine below_set ?_ GE219.out | refine below_set ?_ GE220.out) | exact HB.out)) hb); clear BK219 BK220 HB; have BK219 := n0_; have BK220 := n1_; have HB := n2_; clear n0_ n1_ n2_; (try clear hb); (try clear hb2); (try clear hk); (try clear hi)))
        go_ret
        exact ⟨by first | rfl | (simp [errW_none, errW_some] <;> rfl) | (simp only [← hji49, ← hji51]; first | rfl | (simp [errW_none, errW_some] <;> rfl)) | (simp [*, errW_none, errW_some] <;> rfl), by repeat (first | (with_reducible first | exact HB.out | apply eA | apply eN | apply eD | refine below_set ?_ GE219.out | refine below_set ?_ GE220.out) | exact HB.out)⟩
       ·rw [if_neg c50] at H
        exact absurd H (by simp)


end Go.Proofs.Ytdoflfifnkpacaa.FR
