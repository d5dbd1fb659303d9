-- Printed by a program of this session (after the kit's print.sh, with contracts of its own beside): Lean checks it.
import Derived.Test.YtdoflfifnkpacaaC19WOx0
import Derived.Test.YtdoflfifnkpacaaC19WOx1
import Derived.Test.YtdoflfifnkpacaaC19WOx2
namespace Go.Proofs.Ytdoflfifnkpacaa.WO
open Go.RowKit Go.Proofs.YtdoflfifnkpacaaW.PrintWords Go.Proofs.YtdoflfifnkpacaaW.PrintLast Go.Proofs.YtdoflfifnkpacaaW.PrintMore
attribute [local go_sem] max2_int min2_int max_two min_two max_three min_three max_four min_four   -- for this text's walks alone
set_option linter.unusedVariables false
set_option linter.unusedSimpArgs false

attribute [local go_sem high] eqA75
mutual
def spec_GoodTable.l0 : Nat → Int → List (S75) → Int → Int → List (S75) → List Int → Option (Bool)
 | 0, _, _, _, _, _, _ => none
 | k + 1, x3, x11, x12, x13, x117000, x117001 => if x13 < x12 then (if 0 ≤ x13 then (if x13 < (x11.length : Int) then (if ((rd_T75 x11 x13).f0 = true) then (if (rd_T75 x11 x13).f0 = true then ((spec_l15Handle.f ((rd_T75 x11 x13).f0) ((rd_T75 x11 x13).f1) ((rd_T75 x11 x13).f2) ((rd_T75 x11 x13).f3) ((rd_T75 x11 x13).f4) ((rd_T75 x11 x13).f5)).bind fun t119 => (if t119 = true then (spec_GoodTable.l0 k x3 x11 x12 (wrap64 (x13 + 1)) x117000 x117001) else (some false))) else (spec_GoodTable.l0 k x3 x11 x12 (wrap64 (x13 + 1)) x117000 x117001)) else (if (rd_T75 x11 x13).f0 = true then ((spec_l15Handle.f ((rd_T75 x11 x13).f0) ((rd_T75 x11 x13).f1) ((rd_T75 x11 x13).f2) ((rd_T75 x11 x13).f3) ((rd_T75 x11 x13).f4) ((rd_T75 x11 x13).f5)).bind fun t120 => (if t120 = true then (if (((rd_T75 x11 x13).f0) || (!(((rd_T75 x11 x13).f1) == 0) || (!(((rd_T75 x11 x13).f2) == 0) || (((rd_T75 x11 x13).f3) || (!(((rd_T75 x11 x13).f4) == 0) || (!(((rd_T75 x11 x13).f5) == 0))))))) = true then (some false) else (spec_GoodTable.l0 k (wrap64 (x3 + 1)) x11 x12 (wrap64 (x13 + 1)) x117000 x117001)) else (some false))) else (if (((rd_T75 x11 x13).f0) || (!(((rd_T75 x11 x13).f1) == 0) || (!(((rd_T75 x11 x13).f2) == 0) || (((rd_T75 x11 x13).f3) || (!(((rd_T75 x11 x13).f4) == 0) || (!(((rd_T75 x11 x13).f5) == 0))))))) = true then (some false) else (spec_GoodTable.l0 k (wrap64 (x3 + 1)) x11 x12 (wrap64 (x13 + 1)) x117000 x117001)))) else (none)) else (none)) else (spec_GoodTable.l1 k x3 x117001 (x117001.length : Int) 0 x117000 x117001)
def spec_GoodTable.l1 : Nat → Int → List Int → Int → Int → List (S75) → List Int → Option (Bool)
 | 0, _, _, _, _, _, _ => none
 | k + 1, x3, x41, x42, x43, x117000, x117001 => if x43 < x42 then (if 0 ≤ x43 then (if x43 < (x41.length : Int) then ((spec_l1In.f (rd x41 x43) 0 (wrap64 ((x117000.length : Int) - 1))).bind fun t122 => (if t122 = true then (if 0 ≤ (rd x41 x43) then (if (rd x41 x43) < (x117000.length : Int) then (spec_GoodTable.j2 k x3 x43 (rd x41 x43) x41 x42 x43 ((rd_T75 x117000 (rd x41 x43)).f0) x117000 x117001) else (none)) else (none)) else (spec_GoodTable.j2 k x3 x43 (rd x41 x43) x41 x42 x43 true x117000 x117001))) else (none)) else (none)) else (if (x117000.length : Int) ≤ 40 then (some ((x117001.length : Int) == x3)) else (some false))
def spec_GoodTable.j2 : Nat → Int → Int → Int → List Int → Int → Int → Bool → List (S75) → List Int → Option (Bool)
 | 0, _, _, _, _, _, _, _, _, _ => none
 | k + 1, x3, x6, x7, x41, x42, x43, x62, x117000, x117001 => if x62 = true then (some false) else (if 0 ≤ x6 then (if x6 ≤ (x117001.length : Int) then (spec_GoodTable.l2 k x3 x7 x41 x42 x43 (x117001.take (x6 : Int).toNat) ((x117001.take (x6 : Int).toNat).length : Int) 0 x117000 x117001) else (none)) else (none))
def spec_GoodTable.l2 : Nat → Int → Int → List Int → Int → Int → List Int → Int → Int → List (S75) → List Int → Option (Bool)
 | 0, _, _, _, _, _, _, _, _, _, _ => none
 | k + 1, x3, x7, x41, x42, x43, x66, x67, x68, x117000, x117001 => if x68 < x67 then (if 0 ≤ x68 then (if x68 < (x66.length : Int) then (if (rd x66 x68) = x7 then (some false) else (spec_GoodTable.l2 k x3 x7 x41 x42 x43 x66 x67 (wrap64 (x68 + 1)) x117000 x117001)) else (none)) else (none)) else (spec_GoodTable.l1 k x3 x41 x42 (wrap64 (x43 + 1)) x117000 x117001)
end
def spec_GoodTable.f (k : Nat) (l0_0 : List (S75)) (l0_1 : List Int) : Option (Bool) := spec_GoodTable.l0 k 0 l0_0 (l0_0.length : Int) 0 l0_0 l0_1
set_option maxHeartbeats 8000000 in
set_option maxRecDepth 100000 in
theorem spec_GoodTable.calls (k : Nat) (A0_0 : Option Addr) (c0_0 : Nat) (l0_0 : List (S75)) (A0_1 : Option Addr) (c0_1 : Nat) (l0_1 : List Int) (r : Bool) (w : World) (hr0_0 : Kd.C k75 w A0_0 l0_0.length l0_0) (hc0_0 : l0_0.length ≤ c0_0) (hr0_1 : Kd.C (Kd.int .i64) w A0_1 l0_1.length l0_1) (hc0_1 : l0_1.length ≤ c0_1) (h : spec_GoodTable.f k l0_0 l0_1 = some r) :
  Calls Try.prog 73 #[.agg #[.slice A0_0 l0_0.length c0_0, .slice A0_1 l0_1.length c0_1]] w fun e w' => e = .returned (.bool r) ∧ Below w.heap.size w w' := by
 have hu78 := Try.underlying78
 have hu75 := Try.underlying75
 have HR0_0 := Aside0.mk hr0_0
 have HC0_0 := Aside0.mk hc0_0
 clear hr0_0 hc0_0
 have HR0_1 := Aside0.mk hr0_1
 have HC0_1 := Aside0.mk hc0_1
 clear hr0_1 hc0_1
 have HB := Aside0.mk (Below.refl w.heap.size w)
 have H : (spec_GoodTable.l0 k 0 l0_0 (l0_0.length : Int) 0 l0_0 l0_1) = some r := h
 clear h
 have H' := Aside0.mk H
 clear H
 go_enter Try.func73, Try.ntmps73
 go_wp2_with (first | ((with_reducible refine gate_dst (N := 1) rfl ?_); (try (refine gate_guard (by rfl) ?_; dsimp only)); refine box_event ?hg (N := 1) ?hd (cs := #[.slice A0_0 l0_0.length c0_0, .slice A0_1 l0_1.length c0_1]) (t := 78) ?hr ?_; (case hd => rfl); (case hg => rfl); (case hr => first | (go_simp; done) | (go_simp; rfl)); intro gb116 hg w2 hbox hb; have n0_ := Aside0.mk (below_step (eb_ HB.out) hb); have n1_ := Aside0.mk (hbox); have n2_ := Aside0.mk (gs_ hg (eb_ HB.out) : w.heap.size ≤ gb116); have n3_ := n2_; clear HB; have HB := n0_; have BK116 := n1_; have GW116 := n2_; have GE116 := n3_; clear n0_ n1_ n2_ n3_; clear hb hbox hg; obtain ⟨_, _, _, _⟩ := zc2_ BK116.out))
 go_loopg [3, 13] k (fun kq v3 v13 w' => ∃ (x3_1 : Int) (x13_1 : Int), v3 = .int .i64 x3_1 ∧ v13 = .int .i64 x13_1 ∧ Aside0 (spec_GoodTable.l0 kq x3_1 l0_0 (l0_0.length : Int) x13_1 l0_0 l0_1 = some r) ∧ Aside0 (kq ≤ k) ∧ Aside0 (w'.heap[gb116]? = some (.cells #[(.slice A0_0 l0_0.length c0_0), (.slice A0_1 l0_1.length c0_1)] 78 (0, 0))) ∧ Aside0 (Below w.heap.size w w'))
 case atStart => exact ⟨(0), (0), (by first | rfl | (simp; done) | (simp [*]; done)), (by first | rfl | (simp; done) | (simp [*]; done)), H', ⟨Nat.le_refl _⟩, ⟨by (with_reducible repeat first | apply bN | apply bD | apply bA); exact BK116.out⟩, ⟨by repeat (first | (with_reducible first | exact HB.out | apply eA | apply eN | apply eD | refine below_set ?_ GE116.out) | exact HB.out)⟩⟩
 case round =>
  clear H'
  try clear p2
  obtain ⟨x3_1, x13_1, rfl, rfl, HA, HK1, BK116, HB⟩ := hrel
  cases gk with
  | zero => exact absurd HA.out (by simp [spec_GoodTable.l0])
  | succ k1 =>
   have H := HA.out
   clear HA
   simp only [spec_GoodTable.l0] at H
   by_cases c4 : x13_1 < (l0_0.length : Int)
   ·rw [if_pos c4] at H
    have c4b0 : decide (x13_1 < (l0_0.length : Int)) = true := decide_eq_true c4
    clear c4
    by_cases c5 : 0 ≤ x13_1
    ·rw [if_pos c5] at H
     have c5b0 : decide (0 ≤ x13_1) = true := decide_eq_true c5
     clear c5
     by_cases c6 : x13_1 < (l0_0.length : Int)
     ·rw [if_pos c6] at H
      have c6b0 : decide (x13_1 < (l0_0.length : Int)) = true := decide_eq_true c6
      clear c6
      obtain ⟨bq7, hbq7⟩ : ∃ b_ : Bool, b_ = ((rd_T75 l0_0 x13_1).f0) := ⟨_, rfl⟩
      replace H : (if (bq7 = true) then (if bq7 = true then ((spec_l15Handle.f (bq7) ((rd_T75 l0_0 x13_1).f1) ((rd_T75 l0_0 x13_1).f2) ((rd_T75 l0_0 x13_1).f3) ((rd_T75 l0_0 x13_1).f4) ((rd_T75 l0_0 x13_1).f5)).bind fun t119 => (if t119 = true then (spec_GoodTable.l0 k1 x3_1 l0_0 (l0_0.length : Int) (wrap64 (x13_1 + 1)) l0_0 l0_1) else (some false))) else (spec_GoodTable.l0 k1 x3_1 l0_0 (l0_0.length : Int) (wrap64 (x13_1 + 1)) l0_0 l0_1)) else (if bq7 = true then ((spec_l15Handle.f (bq7) ((rd_T75 l0_0 x13_1).f1) ((rd_T75 l0_0 x13_1).f2) ((rd_T75 l0_0 x13_1).f3) ((rd_T75 l0_0 x13_1).f4) ((rd_T75 l0_0 x13_1).f5)).bind fun t120 => (if t120 = true then (if ((bq7) || (!(((rd_T75 l0_0 x13_1).f1) == 0) || (!(((rd_T75 l0_0 x13_1).f2) == 0) || (((rd_T75 l0_0 x13_1).f3) || (!(((rd_T75 l0_0 x13_1).f4) == 0) || (!(((rd_T75 l0_0 x13_1).f5) == 0))))))) = true then (some false) else (spec_GoodTable.l0 k1 (wrap64 (x3_1 + 1)) l0_0 (l0_0.length : Int) (wrap64 (x13_1 + 1)) l0_0 l0_1)) else (some false))) else (if ((bq7) || (!(((rd_T75 l0_0 x13_1).f1) == 0) || (!(((rd_T75 l0_0 x13_1).f2) == 0) || (((rd_T75 l0_0 x13_1).f3) || (!(((rd_T75 l0_0 x13_1).f4) == 0) || (!(((rd_T75 l0_0 x13_1).f5) == 0))))))) = true then (some false) else (spec_GoodTable.l0 k1 (wrap64 (x3_1 + 1)) l0_0 (l0_0.length : Int) (wrap64 (x13_1 + 1)) l0_0 l0_1)))) = some r := by rw [← hbq7] at H; exact H
      have Nbq7 := Aside0.mk hbq7
      clear hbq7
      by_cases c8 : (bq7 = true)
      ·subst c8
       have H1 : (if true = true then ((spec_l15Handle.f (true) ((rd_T75 l0_0 x13_1).f1) ((rd_T75 l0_0 x13_1).f2) ((rd_T75 l0_0 x13_1).f3) ((rd_T75 l0_0 x13_1).f4) ((rd_T75 l0_0 x13_1).f5)).bind fun t119 => (if t119 = true then (spec_GoodTable.l0 k1 x3_1 l0_0 (l0_0.length : Int) (wrap64 (x13_1 + 1)) l0_0 l0_1) else (some false))) else (spec_GoodTable.l0 k1 x3_1 l0_0 (l0_0.length : Int) (wrap64 (x13_1 + 1)) l0_0 l0_1)) = some r := by rw [if_pos rfl] at H; first | done | exact H
       clear H
       have H := H1
       clear H1
       have H1 : ((spec_l15Handle.f (true) ((rd_T75 l0_0 x13_1).f1) ((rd_T75 l0_0 x13_1).f2) ((rd_T75 l0_0 x13_1).f3) ((rd_T75 l0_0 x13_1).f4) ((rd_T75 l0_0 x13_1).f5)).bind fun t119 => (if t119 = true then (spec_GoodTable.l0 k1 x3_1 l0_0 (l0_0.length : Int) (wrap64 (x13_1 + 1)) l0_0 l0_1) else (some false))) = some r := by rw [if_pos rfl] at H; first | done | exact H
       clear H
       have H := H1
       clear H1
       replace H := Option.bind_eq_some_iff.mp H
       obtain ⟨t119, A90, H⟩ := H
       replace H : (if t119 = true then (spec_GoodTable.l0 k1 x3_1 l0_0 (l0_0.length : Int) (wrap64 (x13_1 + 1)) l0_0 l0_1) else (some false)) = some r := H
       have A9 := Aside0.mk A90
       clear A90
       by_cases c10 : t119 = true
       ·subst c10
        have H1 : (spec_GoodTable.l0 k1 x3_1 l0_0 (l0_0.length : Int) (wrap64 (x13_1 + 1)) l0_0 l0_1) = some r := by rw [if_pos rfl] at H; first | done | exact H
        clear H
        have H := H1
        clear H1
        have H' := Aside0.mk H
        clear H
        have p117 : 0 ≤ (x13_1 : Int) := of_decide_eq_true (by first | (with_reducible assumption) | assumption)
        have q117 : x13_1 < (l0_0.length : Int) := of_decide_eq_true (by first | (with_reducible assumption) | assumption)
        obtain ⟨ad117, e117, hx117_0, hx117_1, hx117_2, hx117_3, hx117_4, hx117_5⟩ := at_T75 HR0_0.out x13_1 p117 q117
        (try rw [← Nbq7.out] at hx117_0)
        (try rw [← Nbq7.out] at hx117_3)
        cases e117
        replace hx117_0 := (HB.out.cell (World.block_lt_of_cell? w _ hx117_0)).trans hx117_0
        replace hx117_1 := (HB.out.cell (World.block_lt_of_cell? w _ hx117_1)).trans hx117_1
        replace hx117_2 := (HB.out.cell (World.block_lt_of_cell? w _ hx117_2)).trans hx117_2
        replace hx117_3 := (HB.out.cell (World.block_lt_of_cell? w _ hx117_3)).trans hx117_3
        replace hx117_4 := (HB.out.cell (World.block_lt_of_cell? w _ hx117_4)).trans hx117_4
        replace hx117_5 := (HB.out.cell (World.block_lt_of_cell? w _ hx117_5)).trans hx117_5
        replace p117 := eq_true p117
        replace q117 := eq_true q117
        go_wp2_with (first | ((with_reducible refine gate_dst (N := 5) rfl ?_); (try (refine gate_guard (by rfl) ?_; dsimp only)); refine box_event ?hg (N := 5) ?hd (cs := #[.bool false, .int .i64 0, .int .i64 0, .bool false, .int .i64 0, .int .i64 0]) (t := 75) ?hr ?_; (case hd => rfl); (case hg => rfl); (case hr => first | (go_simp; done) | (go_simp; rfl)); intro gb118 hg w11 hbox hb; have n0_ := Aside0.mk (blk_below (bk_ BK116.out) hb); have n1_ := Aside0.mk (below_step (by repeat (first | (with_reducible first | exact HB.out | apply eA | apply eN | apply eD | refine below_set ?_ GE116.out) | exact HB.out)) hb); have n2_ := Aside0.mk (hbox); have n3_ := Aside0.mk (gs_ hg (by repeat (first | (with_reducible first | exact HB.out | apply eA | apply eN | apply eD | refine below_set ?_ GE116.out) | exact HB.out)) : w.heap.size ≤ gb118); have n4_ := n3_; have n5_ := Aside0.mk ((by rw [hg]; exact Nat.ne_of_lt (blk_lt (g := gb116) (o := .cells #[.slice (some ad117) l0_0.length c0_0, .slice A0_1 l0_1.length c0_1] 78 (0, 0)) (bk_ BK116.out)) : gb116 ≠ gb118)); have n6_ := Aside0.mk ((by rw [hg]; exact Nat.ne_of_gt (blk_lt (g := gb116) (o := .cells #[.slice (some ad117) l0_0.length c0_0, .slice A0_1 l0_1.length c0_1] 78 (0, 0)) (bk_ BK116.out)) : gb118 ≠ gb116)); clear BK116 HB; have BK116 := n0_; have HB := n1_; have BK118 := n2_; have GW118 := n3_; have GE118 := n4_; have NB116_118 := n5_; have NB118_116 := n6_; clear n0_ n1_ n2_ n3_ n4_ n5_ n6_; clear hb hbox hg; have hnb12 := NB118_116.out; have hnc12 := NB116_118.out; obtain ⟨_, _, _, _, _, _, _, _, _, _, _, _⟩ := zc6_ BK118.out) | (go_at_call 124; (with_reducible refine (spec_l15Handle.calls true ((rd_T75 l0_0 x13_1).f1) ((rd_T75 l0_0 x13_1).f2) ((rd_T75 l0_0 x13_1).f3) ((rd_T75 l0_0 x13_1).f4) ((rd_T75 l0_0 x13_1).f5) true _ A9.out).mono ?_); rintro e w14 ⟨rfl, hb⟩; have n0_ := Aside0.mk (blk_below (g := gb116) (o := .cells #[.slice (some ad117) l0_0.length c0_0, .slice A0_1 l0_1.length c0_1] 78 (0, 0)) (by (with_reducible repeat first | apply bN | apply bD | apply bA); refine blk_far ?_ NB116_118.out _; (with_reducible repeat first | apply bN | apply bD | apply bA); refine blk_far ?_ NB116_118.out _; (with_reducible repeat first | apply bN | apply bD | apply bA); refine blk_far ?_ NB116_118.out _; (with_reducible repeat first | apply bN | apply bD | apply bA); refine blk_far ?_ NB116_118.out _; (with_reducible repeat first | apply bN | apply bD | apply bA); refine blk_far ?_ NB116_118.out _; (with_reducible repeat first | apply bN | apply bD | apply bA); refine blk_far ?_ NB116_118.out _; (with_reducible repeat first | apply bN | apply bD | apply bA); exact BK116.out) hb); have n1_ := Aside0.mk (blk_below (g := gb118) (o := .cells #[.bool true, .int .i64 ((rd_T75 l0_0 x13_1).f1), .int .i64 ((rd_T75 l0_0 x13_1).f2), .bool ((rd_T75 l0_0 x13_1).f3), .int .i64 ((rd_T75 l0_0 x13_1).f4), .int .i64 ((rd_T75 l0_0 x13_1).f5)] 75 (0, 0)) (by (with_reducible repeat first | apply bN | apply bD | apply bA); refine blk_put (cs := #[.bool true, .int .i64 ((rd_T75 l0_0 x13_1).f1), .int .i64 ((rd_T75 l0_0 x13_1).f2), .bool ((rd_T75 l0_0 x13_1).f3), .int .i64 ((rd_T75 l0_0 x13_1).f4), .int .i64 0]) ?_ 5 _ rfl; (with_reducible repeat first | apply bN | apply bD | apply bA); refine blk_put (cs := #[.bool true, .int .i64 ((rd_T75 l0_0 x13_1).f1), .int .i64 ((rd_T75 l0_0 x13_1).f2), .bool ((rd_T75 l0_0 x13_1).f3), .int .i64 0, .int .i64 0]) ?_ 4 _ rfl; (with_reducible repeat first | apply bN | apply bD | apply bA); refine blk_put (cs := #[.bool true, .int .i64 ((rd_T75 l0_0 x13_1).f1), .int .i64 ((rd_T75 l0_0 x13_1).f2), .bool false, .int .i64 0, .int .i64 0]) ?_ 3 _ rfl; (with_reducible repeat first | apply bN | apply bD | apply bA); refine blk_put (cs := #[.bool true, .int .i64 ((rd_T75 l0_0 x13_1).f1), .int .i64 0, .bool false, .int .i64 0, .int .i64 0]) ?_ 2 _ rfl; (with_reducible repeat first | apply bN | apply bD | apply bA); refine blk_put (cs := #[.bool true, .int .i64 0, .int .i64 0, .bool false, .int .i64 0, .int .i64 0]) ?_ 1 _ rfl; (with_reducible repeat first | apply bN | apply bD | apply bA); refine blk_put (cs := #[.bool false, .int .i64 0, .int .i64 0, .bool false, .int .i64 0, .int .i64 0]) ?_ 0 _ rfl; (with_reducible repeat first | apply bN | apply bD | apply bA); exact BK118.out) hb); have n2_ := Aside0.mk (below_step (by repeat (first | (with_reducible first | exact HB.out | apply eA | apply eN | apply eD | refine below_set ?_ GE116.out | refine below_set ?_ GE118.out) | exact HB.out)) hb); clear BK116 BK118 HB; have BK116 := n0_; have BK118 := n1_; have HB := n2_; clear n0_ n1_ n2_; (try clear hb); (try clear hb2); (try clear hk); (try clear hi); obtain ⟨_, _, _, _, _, _, _, _, _, _, _, _⟩ := zc6_ BK118.out))
        go_roundg k1
        case measure => have := HK1.out; omega
        case rel => exact ⟨(x3_1), (wrap64 (x13_1 + 1)), (by first | rfl | (simp; done) | (simp [*]; done)), (by first | rfl | (simp; done) | (simp [*]; done)), H', ⟨by have := HK1.out; omega⟩, ⟨by (with_reducible repeat first | apply bN | apply bD | apply bA); exact BK116.out⟩, ⟨by repeat (first | (with_reducible first | exact HB.out | apply eA | apply eN | apply eD | refine below_set ?_ GE116.out | refine below_set ?_ GE118.out) | exact HB.out)⟩⟩
       ·replace c10 := Bool.eq_false_iff.mpr c10
        subst c10
        have H1 : (some false) = some r := by rw [if_neg (show ¬ (false = true) by decide)] at H; first | done | exact H
        clear H
        have H := H1
        clear H1
        obtain rfl := Option.some.inj H
        have p117 : 0 ≤ (x13_1 : Int) := of_decide_eq_true (by first | (with_reducible assumption) | assumption)
        have q117 : x13_1 < (l0_0.length : Int) := of_decide_eq_true (by first | (with_reducible assumption) | assumption)
        obtain ⟨ad117, e117, hx117_0, hx117_1, hx117_2, hx117_3, hx117_4, hx117_5⟩ := at_T75 HR0_0.out x13_1 p117 q117
        (try rw [← Nbq7.out] at hx117_0)
        (try rw [← Nbq7.out] at hx117_3)
        cases e117
        replace hx117_0 := (HB.out.cell (World.block_lt_of_cell? w _ hx117_0)).trans hx117_0
        replace hx117_1 := (HB.out.cell (World.block_lt_of_cell? w _ hx117_1)).trans hx117_1
        replace hx117_2 := (HB.out.cell (World.block_lt_of_cell? w _ hx117_2)).trans hx117_2
        replace hx117_3 := (HB.out.cell (World.block_lt_of_cell? w _ hx117_3)).trans hx117_3
        replace hx117_4 := (HB.out.cell (World.block_lt_of_cell? w _ hx117_4)).trans hx117_4
        replace hx117_5 := (HB.out.cell (World.block_lt_of_cell? w _ hx117_5)).trans hx117_5
        replace p117 := eq_true p117
        replace q117 := eq_true q117
        go_wp2_with (first | ((with_reducible refine gate_dst (N := 5) rfl ?_); (try (refine gate_guard (by rfl) ?_; dsimp only)); refine box_event ?hg (N := 5) ?hd (cs := #[.bool false, .int .i64 0, .int .i64 0, .bool false, .int .i64 0, .int .i64 0]) (t := 75) ?hr ?_; (case hd => rfl); (case hg => rfl); (case hr => first | (go_simp; done) | (go_simp; rfl)); intro gb118 hg w16 hbox hb; have n0_ := Aside0.mk (blk_below (bk_ BK116.out) hb); have n1_ := Aside0.mk (below_step (by repeat (first | (with_reducible first | exact HB.out | apply eA | apply eN | apply eD | refine below_set ?_ GE116.out) | exact HB.out)) hb); have n2_ := Aside0.mk (hbox); have n3_ := Aside0.mk (gs_ hg (by repeat (first | (with_reducible first | exact HB.out | apply eA | apply eN | apply eD | refine below_set ?_ GE116.out) | exact HB.out)) : w.heap.size ≤ gb118); have n4_ := n3_; have n5_ := Aside0.mk ((by rw [hg]; exact Nat.ne_of_lt (blk_lt (g := gb116) (o := .cells #[.slice (some ad117) l0_0.length c0_0, .slice A0_1 l0_1.length c0_1] 78 (0, 0)) (bk_ BK116.out)) : gb116 ≠ gb118)); have n6_ := Aside0.mk ((by rw [hg]; exact Nat.ne_of_gt (blk_lt (g := gb116) (o := .cells #[.slice (some ad117) l0_0.length c0_0, .slice A0_1 l0_1.length c0_1] 78 (0, 0)) (bk_ BK116.out)) : gb118 ≠ gb116)); clear BK116 HB; have BK116 := n0_; have HB := n1_; have BK118 := n2_; have GW118 := n3_; have GE118 := n4_; have NB116_118 := n5_; have NB118_116 := n6_; clear n0_ n1_ n2_ n3_ n4_ n5_ n6_; clear hb hbox hg; have hnb17 := NB118_116.out; have hnc17 := NB116_118.out; obtain ⟨_, _, _, _, _, _, _, _, _, _, _, _⟩ := zc6_ BK118.out) | (go_at_call 124; (with_reducible refine (spec_l15Handle.calls true ((rd_T75 l0_0 x13_1).f1) ((rd_T75 l0_0 x13_1).f2) ((rd_T75 l0_0 x13_1).f3) ((rd_T75 l0_0 x13_1).f4) ((rd_T75 l0_0 x13_1).f5) false _ A9.out).mono ?_); rintro e w19 ⟨rfl, hb⟩; have n0_ := Aside0.mk (blk_below (g := gb116) (o := .cells #[.slice (some ad117) l0_0.length c0_0, .slice A0_1 l0_1.length c0_1] 78 (0, 0)) (by (with_reducible repeat first | apply bN | apply bD | apply bA); refine blk_far ?_ NB116_118.out _; (with_reducible repeat first | apply bN | apply bD | apply bA); refine blk_far ?_ NB116_118.out _; (with_reducible repeat first | apply bN | apply bD | apply bA); refine blk_far ?_ NB116_118.out _; (with_reducible repeat first | apply bN | apply bD | apply bA); refine blk_far ?_ NB116_118.out _; (with_reducible repeat first | apply bN | apply bD | apply bA); refine blk_far ?_ NB116_118.out _; (with_reducible repeat first | apply bN | apply bD | apply bA); refine blk_far ?_ NB116_118.out _; (with_reducible repeat first | apply bN | apply bD | apply bA); exact BK116.out) hb); have n1_ := Aside0.mk (blk_below (g := gb118) (o := .cells #[.bool true, .int .i64 ((rd_T75 l0_0 x13_1).f1), .int .i64 ((rd_T75 l0_0 x13_1).f2), .bool ((rd_T75 l0_0 x13_1).f3), .int .i64 ((rd_T75 l0_0 x13_1).f4), .int .i64 ((rd_T75 l0_0 x13_1).f5)] 75 (0, 0)) (by (with_reducible repeat first | apply bN | apply bD | apply bA); refine blk_put (cs := #[.bool true, .int .i64 ((rd_T75 l0_0 x13_1).f1), .int .i64 ((rd_T75 l0_0 x13_1).f2), .bool ((rd_T75 l0_0 x13_1).f3), .int .i64 ((rd_T75 l0_0 x13_1).f4), .int .i64 0]) ?_ 5 _ rfl; (with_reducible repeat first | apply bN | apply bD | apply bA); refine blk_put (cs := #[.bool true, .int .i64 ((rd_T75 l0_0 x13_1).f1), .int .i64 ((rd_T75 l0_0 x13_1).f2), .bool ((rd_T75 l0_0 x13_1).f3), .int .i64 0, .int .i64 0]) ?_ 4 _ rfl; (with_reducible repeat first | apply bN | apply bD | apply bA); refine blk_put (cs := #[.bool true, .int .i64 ((rd_T75 l0_0 x13_1).f1), .int .i64 ((rd_T75 l0_0 x13_1).f2), .bool false, .int .i64 0, .int .i64 0]) ?_ 3 _ rfl; (with_reducible repeat first | apply bN | apply bD | apply bA); refine blk_put (cs := #[.bool true, .int .i64 ((rd_T75 l0_0 x13_1).f1), .int .i64 0, .bool false, .int .i64 0, .int .i64 0]) ?_ 2 _ rfl; (with_reducible repeat first | apply bN | apply bD | apply bA); refine blk_put (cs := #[.bool true, .int .i64 0, .int .i64 0, .bool false, .int .i64 0, .int .i64 0]) ?_ 1 _ rfl; (with_reducible repeat first | apply bN | apply bD | apply bA); refine blk_put (cs := #[.bool false, .int .i64 0, .int .i64 0, .bool false, .int .i64 0, .int .i64 0]) ?_ 0 _ rfl; (with_reducible repeat first | apply bN | apply bD | apply bA); exact BK118.out) hb); have n2_ := Aside0.mk (below_step (by repeat (first | (with_reducible first | exact HB.out | apply eA | apply eN | apply eD | refine below_set ?_ GE116.out | refine below_set ?_ GE118.out) | exact HB.out)) hb); clear BK116 BK118 HB; have BK116 := n0_; have BK118 := n1_; have HB := n2_; clear n0_ n1_ n2_; (try clear hb); (try clear hb2); (try clear hk); (try clear hi)))
        go_ret
        exact ⟨by first | rfl | (simp [errW_none, errW_some] <;> rfl) | (simp [*, errW_none, errW_some] <;> rfl), by repeat (first | (with_reducible first | exact HB.out | apply eA | apply eN | apply eD | refine below_set ?_ GE116.out | refine below_set ?_ GE118.out) | exact HB.out)⟩
      ·replace c8 := Bool.eq_false_iff.mpr c8
       subst c8
       have H1 : (if false = true then ((spec_l15Handle.f (false) ((rd_T75 l0_0 x13_1).f1) ((rd_T75 l0_0 x13_1).f2) ((rd_T75 l0_0 x13_1).f3) ((rd_T75 l0_0 x13_1).f4) ((rd_T75 l0_0 x13_1).f5)).bind fun t120 => (if t120 = true then (if ((false) || (!(((rd_T75 l0_0 x13_1).f1) == 0) || (!(((rd_T75 l0_0 x13_1).f2) == 0) || (((rd_T75 l0_0 x13_1).f3) || (!(((rd_T75 l0_0 x13_1).f4) == 0) || (!(((rd_T75 l0_0 x13_1).f5) == 0))))))) = true then (some false) else (spec_GoodTable.l0 k1 (wrap64 (x3_1 + 1)) l0_0 (l0_0.length : Int) (wrap64 (x13_1 + 1)) l0_0 l0_1)) else (some false))) else (if ((false) || (!(((rd_T75 l0_0 x13_1).f1) == 0) || (!(((rd_T75 l0_0 x13_1).f2) == 0) || (((rd_T75 l0_0 x13_1).f3) || (!(((rd_T75 l0_0 x13_1).f4) == 0) || (!(((rd_T75 l0_0 x13_1).f5) == 0))))))) = true then (some false) else (spec_GoodTable.l0 k1 (wrap64 (x3_1 + 1)) l0_0 (l0_0.length : Int) (wrap64 (x13_1 + 1)) l0_0 l0_1))) = some r := by rw [if_neg (show ¬ (false = true) by decide)] at H; first | done | exact H
       clear H
       have H := H1
       clear H1
       have H1 : (if ((false) || (!(((rd_T75 l0_0 x13_1).f1) == 0) || (!(((rd_T75 l0_0 x13_1).f2) == 0) || (((rd_T75 l0_0 x13_1).f3) || (!(((rd_T75 l0_0 x13_1).f4) == 0) || (!(((rd_T75 l0_0 x13_1).f5) == 0))))))) = true then (some false) else (spec_GoodTable.l0 k1 (wrap64 (x3_1 + 1)) l0_0 (l0_0.length : Int) (wrap64 (x13_1 + 1)) l0_0 l0_1)) = some r := by rw [if_neg (show ¬ (false = true) by decide)] at H; first | done | exact H
       clear H
       have H := H1
       clear H1
       by_cases c20 : ((false) || (!(((rd_T75 l0_0 x13_1).f1) == 0) || (!(((rd_T75 l0_0 x13_1).f2) == 0) || (((rd_T75 l0_0 x13_1).f3) || (!(((rd_T75 l0_0 x13_1).f4) == 0) || (!(((rd_T75 l0_0 x13_1).f5) == 0))))))) = true
       ·rw [if_pos c20] at H
        have c20b0 : ((false) || (!(((rd_T75 l0_0 x13_1).f1) == 0) || (!(((rd_T75 l0_0 x13_1).f2) == 0) || (((rd_T75 l0_0 x13_1).f3) || (!(((rd_T75 l0_0 x13_1).f4) == 0) || (!(((rd_T75 l0_0 x13_1).f5) == 0))))))) = true := c20
        clear c20
        obtain rfl := Option.some.inj H
        have p117 : 0 ≤ (x13_1 : Int) := of_decide_eq_true (by first | (with_reducible assumption) | assumption)
        have q117 : x13_1 < (l0_0.length : Int) := of_decide_eq_true (by first | (with_reducible assumption) | assumption)
        obtain ⟨ad117, e117, hx117_0, hx117_1, hx117_2, hx117_3, hx117_4, hx117_5⟩ := at_T75 HR0_0.out x13_1 p117 q117
        (try rw [← Nbq7.out] at hx117_0)
        (try rw [← Nbq7.out] at hx117_3)
        cases e117
        replace hx117_0 := (HB.out.cell (World.block_lt_of_cell? w _ hx117_0)).trans hx117_0
        replace hx117_1 := (HB.out.cell (World.block_lt_of_cell? w _ hx117_1)).trans hx117_1
        replace hx117_2 := (HB.out.cell (World.block_lt_of_cell? w _ hx117_2)).trans hx117_2
        replace hx117_3 := (HB.out.cell (World.block_lt_of_cell? w _ hx117_3)).trans hx117_3
        replace hx117_4 := (HB.out.cell (World.block_lt_of_cell? w _ hx117_4)).trans hx117_4
        replace hx117_5 := (HB.out.cell (World.block_lt_of_cell? w _ hx117_5)).trans hx117_5
        replace p117 := eq_true p117
        replace q117 := eq_true q117
        go_wp2_with (first | ((with_reducible refine gate_dst (N := 5) rfl ?_); (try (refine gate_guard (by rfl) ?_; dsimp only)); refine box_event ?hg (N := 5) ?hd (cs := #[.bool false, .int .i64 0, .int .i64 0, .bool false, .int .i64 0, .int .i64 0]) (t := 75) ?hr ?_; (case hd => rfl); (case hg => rfl); (case hr => first | (go_simp; done) | (go_simp; rfl)); intro gb118 hg w21 hbox hb; have n0_ := Aside0.mk (blk_below (bk_ BK116.out) hb); have n1_ := Aside0.mk (below_step (by repeat (first | (with_reducible first | exact HB.out | apply eA | apply eN | apply eD | refine below_set ?_ GE116.out) | exact HB.out)) hb); have n2_ := Aside0.mk (hbox); have n3_ := Aside0.mk (gs_ hg (by repeat (first | (with_reducible first | exact HB.out | apply eA | apply eN | apply eD | refine below_set ?_ GE116.out) | exact HB.out)) : w.heap.size ≤ gb118); have n4_ := n3_; have n5_ := Aside0.mk ((by rw [hg]; exact Nat.ne_of_lt (blk_lt (g := gb116) (o := .cells #[.slice (some ad117) l0_0.length c0_0, .slice A0_1 l0_1.length c0_1] 78 (0, 0)) (bk_ BK116.out)) : gb116 ≠ gb118)); have n6_ := Aside0.mk ((by rw [hg]; exact Nat.ne_of_gt (blk_lt (g := gb116) (o := .cells #[.slice (some ad117) l0_0.length c0_0, .slice A0_1 l0_1.length c0_1] 78 (0, 0)) (bk_ BK116.out)) : gb118 ≠ gb116)); clear BK116 HB; have BK116 := n0_; have HB := n1_; have BK118 := n2_; have GW118 := n3_; have GE118 := n4_; have NB116_118 := n5_; have NB118_116 := n6_; clear n0_ n1_ n2_ n3_ n4_ n5_ n6_; clear hb hbox hg; have hnb22 := NB118_116.out; have hnc22 := NB116_118.out; obtain ⟨_, _, _, _, _, _, _, _, _, _, _, _⟩ := zc6_ BK118.out))
        go_ret
        exact ⟨by first | rfl | (simp [errW_none, errW_some] <;> rfl) | (simp [*, errW_none, errW_some] <;> rfl), by repeat (first | (with_reducible first | exact HB.out | apply eA | apply eN | apply eD | refine below_set ?_ GE116.out | refine below_set ?_ GE118.out) | exact HB.out)⟩
       ·rw [if_neg c20] at H
        have c20b0 : ((false) || (!(((rd_T75 l0_0 x13_1).f1) == 0) || (!(((rd_T75 l0_0 x13_1).f2) == 0) || (((rd_T75 l0_0 x13_1).f3) || (!(((rd_T75 l0_0 x13_1).f4) == 0) || (!(((rd_T75 l0_0 x13_1).f5) == 0))))))) = false := by simpa using c20
        clear c20
        have H' := Aside0.mk H
        clear H
        have p117 : 0 ≤ (x13_1 : Int) := of_decide_eq_true (by first | (with_reducible assumption) | assumption)
        have q117 : x13_1 < (l0_0.length : Int) := of_decide_eq_true (by first | (with_reducible assumption) | assumption)
        obtain ⟨ad117, e117, hx117_0, hx117_1, hx117_2, hx117_3, hx117_4, hx117_5⟩ := at_T75 HR0_0.out x13_1 p117 q117
        (try rw [← Nbq7.out] at hx117_0)
        (try rw [← Nbq7.out] at hx117_3)
        cases e117
        replace hx117_0 := (HB.out.cell (World.block_lt_of_cell? w _ hx117_0)).trans hx117_0
        replace hx117_1 := (HB.out.cell (World.block_lt_of_cell? w _ hx117_1)).trans hx117_1
        replace hx117_2 := (HB.out.cell (World.block_lt_of_cell? w _ hx117_2)).trans hx117_2
        replace hx117_3 := (HB.out.cell (World.block_lt_of_cell? w _ hx117_3)).trans hx117_3
        replace hx117_4 := (HB.out.cell (World.block_lt_of_cell? w _ hx117_4)).trans hx117_4
        replace hx117_5 := (HB.out.cell (World.block_lt_of_cell? w _ hx117_5)).trans hx117_5
        replace p117 := eq_true p117
        replace q117 := eq_true q117
        go_wp2_with (first | ((with_reducible refine gate_dst (N := 5) rfl ?_); (try (refine gate_guard (by rfl) ?_; dsimp only)); refine box_event ?hg (N := 5) ?hd (cs := #[.bool false, .int .i64 0, .int .i64 0, .bool false, .int .i64 0, .int .i64 0]) (t := 75) ?hr ?_; (case hd => rfl); (case hg => rfl); (case hr => first | (go_simp; done) | (go_simp; rfl)); intro gb118 hg w24 hbox hb; have n0_ := Aside0.mk (blk_below (bk_ BK116.out) hb); have n1_ := Aside0.mk (below_step (by repeat (first | (with_reducible first | exact HB.out | apply eA | apply eN | apply eD | refine below_set ?_ GE116.out) | exact HB.out)) hb); have n2_ := Aside0.mk (hbox); have n3_ := Aside0.mk (gs_ hg (by repeat (first | (with_reducible first | exact HB.out | apply eA | apply eN | apply eD | refine below_set ?_ GE116.out) | exact HB.out)) : w.heap.size ≤ gb118); have n4_ := n3_; have n5_ := Aside0.mk ((by rw [hg]; exact Nat.ne_of_lt (blk_lt (g := gb116) (o := .cells #[.slice (some ad117) l0_0.length c0_0, .slice A0_1 l0_1.length c0_1] 78 (0, 0)) (bk_ BK116.out)) : gb116 ≠ gb118)); have n6_ := Aside0.mk ((by rw [hg]; exact Nat.ne_of_gt (blk_lt (g := gb116) (o := .cells #[.slice (some ad117) l0_0.length c0_0, .slice A0_1 l0_1.length c0_1] 78 (0, 0)) (bk_ BK116.out)) : gb118 ≠ gb116)); clear BK116 HB; have BK116 := n0_; have HB := n1_; have BK118 := n2_; have GW118 := n3_; have GE118 := n4_; have NB116_118 := n5_; have NB118_116 := n6_; clear n0_ n1_ n2_ n3_ n4_ n5_ n6_; clear hb hbox hg; have hnb25 := NB118_116.out; have hnc25 := NB116_118.out; obtain ⟨_, _, _, _, _, _, _, _, _, _, _, _⟩ := zc6_ BK118.out))
        go_roundg k1
        case measure => have := HK1.out; omega
        case rel => exact ⟨(wrap64 (x3_1 + 1)), (wrap64 (x13_1 + 1)), (by first | rfl | (simp; done) | (simp [*]; done)), (by first | rfl | (simp; done) | (simp [*]; done)), H', ⟨by have := HK1.out; omega⟩, ⟨by (with_reducible repeat first | apply bN | apply bD | apply bA); refine blk_far ?_ NB116_118.out _; (with_reducible repeat first | apply bN | apply bD | apply bA); refine blk_far ?_ NB116_118.out _; (with_reducible repeat first | apply bN | apply bD | apply bA); refine blk_far ?_ NB116_118.out _; (with_reducible repeat first | apply bN | apply bD | apply bA); refine blk_far ?_ NB116_118.out _; (with_reducible repeat first | apply bN | apply bD | apply bA); refine blk_far ?_ NB116_118.out _; (with_reducible repeat first | apply bN | apply bD | apply bA); refine blk_far ?_ NB116_118.out _; (with_reducible repeat first | apply bN | apply bD | apply bA); exact BK116.out⟩, ⟨by repeat (first | (with_reducible first | exact HB.out | apply eA | apply eN | apply eD | refine below_set ?_ GE116.out | refine below_set ?_ GE118.out) | exact HB.out)⟩⟩
     ·rw [if_neg c6] at H
      exact absurd H (by simp)
    ·rw [if_neg c5] at H
     exact absurd H (by simp)
   ·rw [if_neg c4] at H
    have c4b0 : decide (x13_1 < (l0_0.length : Int)) = false := decide_eq_false c4
    clear c4
    have H' := Aside0.mk H
    clear H
    obtain ⟨_, _, _, _⟩ := zc2_ BK116.out
    go_wp2
    go_loopg [43] k1 (fun kq v43 w' => ∃ (x43_2 : Int), v43 = .int .i64 x43_2 ∧ Aside0 (spec_GoodTable.l1 kq x3_1 l0_1 (l0_1.length : Int) x43_2 l0_0 l0_1 = some r) ∧ Aside0 (kq ≤ k1) ∧ Aside0 (w'.heap[gb116]? = some (.cells #[(.slice A0_0 l0_0.length c0_0), (.slice A0_1 l0_1.length c0_1)] 78 (0, 0))) ∧ Aside0 (Below w.heap.size w w'))
    case atStart => exact ⟨(0), (by first | rfl | (simp; done) | (simp [*]; done)), H', ⟨Nat.le_refl _⟩, ⟨by (with_reducible repeat first | apply bN | apply bD | apply bA); exact BK116.out⟩, ⟨by repeat (first | (with_reducible first | exact HB.out | apply eA | apply eN | apply eD | refine below_set ?_ GE116.out) | exact HB.out)⟩⟩
    case round =>
     clear H'
     try clear c1
     try clear p1
     try clear q1
     try clear hx1
     try clear c2
     try clear p2
     try clear c4
     try clear c4b0
     try clear c5
     try clear c5b0
     try clear c6
     try clear c6b0
     try clear p6
     try clear c7
     try clear q7
     try clear c8
     try clear c10
     try clear p11
     try clear q11
     try clear hx11
     try clear c12
     try clear c17
     try clear c20
     try clear c20b0
     try clear c22
     try clear c25
     try clear hx117_0
     try clear hx117_1
     try clear hx117_2
     try clear hx117_3
     try clear hx117_4
     try clear hx117_5
     try clear p117
     try clear p2
     try clear q117
     obtain ⟨x43_2, rfl, HA, HK2, BK116, HB⟩ := hrel
     cases gk with
     | zero => exact absurd HA.out (by simp [spec_GoodTable.l1])
     | succ k2 =>
      have H := HA.out
      clear HA
      simp only [spec_GoodTable.l1] at H
      by_cases c28 : x43_2 < (l0_1.length : Int)
      ·rw [if_pos c28] at H
       have c28b0 : decide (x43_2 < (l0_1.length : Int)) = true := decide_eq_true c28
       clear c28
       by_cases c29 : 0 ≤ x43_2
       ·rw [if_pos c29] at H
        have c29b0 : decide (0 ≤ x43_2) = true := decide_eq_true c29
        clear c29
        by_cases c30 : x43_2 < (l0_1.length : Int)
        ·rw [if_pos c30] at H
         have c30b0 : decide (x43_2 < (l0_1.length : Int)) = true := decide_eq_true c30
         clear c30
         have HC31 := Aside0.mk H
         clear H
         have p121 : 0 ≤ (x43_2 : Int) := of_decide_eq_true (by first | (with_reducible assumption) | assumption)
         have q121 : x43_2 < (l0_1.length : Int) := of_decide_eq_true (by first | (with_reducible assumption) | assumption)
         obtain ⟨ad121, e121, hx121_0⟩ := Kd.at_int HR0_1.out x43_2 p121 q121
         cases e121
         replace hx121_0 := (HB.out.cell (World.block_lt_of_cell? w _ hx121_0)).trans hx121_0
         replace p121 := eq_true p121
         replace q121 := eq_true q121
         go_upto_region 13 with (fail)
         go_cut [62] (fun v62 wc => ∃ (kq : Nat) (x62_30 : Bool), v62 = .bool x62_30 ∧ Aside0 (spec_GoodTable.j2 kq x3_1 x43_2 (rd l0_1 x43_2) l0_1 (l0_1.length : Int) x43_2 x62_30 l0_0 l0_1 = some r) ∧ Aside0 (kq ≤ k2) ∧ Aside0 (wc.heap[gb116]? = some (.cells #[(.slice A0_0 l0_0.length c0_0), (.slice (some ad121) l0_1.length c0_1)] 78 (0, 0))) ∧ Aside0 (Below w.heap.size w wc))
         case first =>
          have H := HC31.out
          clear HC31
          replace H := Option.bind_eq_some_iff.mp H
          obtain ⟨t122, A320, H⟩ := H
          replace H : (if t122 = true then (if 0 ≤ (rd l0_1 x43_2) then (if (rd l0_1 x43_2) < (l0_0.length : Int) then (spec_GoodTable.j2 k2 x3_1 x43_2 (rd l0_1 x43_2) l0_1 (l0_1.length : Int) x43_2 ((rd_T75 l0_0 (rd l0_1 x43_2)).f0) l0_0 l0_1) else (none)) else (none)) else (spec_GoodTable.j2 k2 x3_1 x43_2 (rd l0_1 x43_2) l0_1 (l0_1.length : Int) x43_2 true l0_0 l0_1)) = some r := H
          have A32 := Aside0.mk A320
          clear A320
          by_cases c33 : t122 = true
          ·subst c33
           have H1 : (if 0 ≤ (rd l0_1 x43_2) then (if (rd l0_1 x43_2) < (l0_0.length : Int) then (spec_GoodTable.j2 k2 x3_1 x43_2 (rd l0_1 x43_2) l0_1 (l0_1.length : Int) x43_2 ((rd_T75 l0_0 (rd l0_1 x43_2)).f0) l0_0 l0_1) else (none)) else (none)) = some r := by rw [if_pos rfl] at H; first | done | exact H
           clear H
           have H := H1
           clear H1
           by_cases c34 : 0 ≤ (rd l0_1 x43_2)
           ·rw [if_pos c34] at H
            have c34b0 : decide (0 ≤ (rd l0_1 x43_2)) = true := decide_eq_true c34
            clear c34
            (first | rw [c34b0] | (simp only [i64_w, i32_w]; rw [c34b0]) | skip)
            by_cases c35 : (rd l0_1 x43_2) < (l0_0.length : Int)
            ·rw [if_pos c35] at H
             have c35b0 : decide ((rd l0_1 x43_2) < (l0_0.length : Int)) = true := decide_eq_true c35
             clear c35
             have H' := Aside0.mk H
             clear H
             obtain ⟨_, _, _, _⟩ := zc2_ BK116.out
             go_wp2_with (first | ((with_reducible refine gate_callee (f := 72) rfl ?_); refine goesL_ (some 53) rfl rfl Try.func72 (by kernel_rfl) rfl #[.int .i64 (rd l0_1 x43_2), .int .i64 0, .int .i64 (wrap64 ((l0_0.length : Int) - 1))] rfl (by (try simp only [List.map_toArray, List.map_cons, List.map_nil]); first | done | rfl | (simp only [List.length_drop, List.length_take]; rfl)) ?_; (with_reducible refine (spec_l1In.calls (rd l0_1 x43_2) 0 (wrap64 ((l0_0.length : Int) - 1)) true _ A32.out).mono ?_); rintro e w' ⟨rfl, ⟨nd, rfl⟩⟩; refine ⟨_, rfl, ?_⟩; have p123 : 0 ≤ ((rd l0_1 x43_2) : Int) := of_decide_eq_true (by first | (with_reducible assumption) | assumption); have q123 : (rd l0_1 x43_2) < (l0_0.length : Int) := of_decide_eq_true (by first | (with_reducible assumption) | assumption); obtain ⟨ad123, e123, hx123_0, hx123_1, hx123_2, hx123_3, hx123_4, hx123_5⟩ := at_T75 HR0_0.out (rd l0_1 x43_2) p123 q123; cases e123; replace hx123_0 := (HB.out.cell (World.block_lt_of_cell? w _ hx123_0)).trans hx123_0; replace hx123_1 := (HB.out.cell (World.block_lt_of_cell? w _ hx123_1)).trans hx123_1; replace hx123_2 := (HB.out.cell (World.block_lt_of_cell? w _ hx123_2)).trans hx123_2; replace hx123_3 := (HB.out.cell (World.block_lt_of_cell? w _ hx123_3)).trans hx123_3; replace hx123_4 := (HB.out.cell (World.block_lt_of_cell? w _ hx123_4)).trans hx123_4; replace hx123_5 := (HB.out.cell (World.block_lt_of_cell? w _ hx123_5)).trans hx123_5; replace p123 := eq_true p123; replace q123 := eq_true q123))
             go_meet
             case rel => exact ⟨_, ((rd_T75 l0_0 (rd l0_1 x43_2)).f0), (by first | rfl | (simp; done) | (simp [*]; done)), H', ⟨by have := HK1.out; have := HK2.out; first | omega | exact Nat.le_refl _⟩, ⟨by (with_reducible repeat first | apply bN | apply bD | apply bA); exact BK116.out⟩, ⟨by repeat (first | (with_reducible first | exact HB.out | apply eA | apply eN | apply eD | refine below_set ?_ GE116.out) | exact HB.out)⟩⟩
            ·rw [if_neg c35] at H
             exact absurd H (by simp)
           ·rw [if_neg c34] at H
            exact absurd H (by simp)
          ·replace c33 := Bool.eq_false_iff.mpr c33
           subst c33
           have H1 : (spec_GoodTable.j2 k2 x3_1 x43_2 (rd l0_1 x43_2) l0_1 (l0_1.length : Int) x43_2 true l0_0 l0_1) = some r := by rw [if_neg (show ¬ (false = true) by decide)] at H; first | done | exact H
           clear H
           have H := H1
           clear H1
           have H' := Aside0.mk H
           clear H
           obtain ⟨_, _, _, _⟩ := zc2_ BK116.out
           go_wp2_with (first | ((with_reducible refine gate_callee (f := 72) rfl ?_); refine goesL_ (some 53) rfl rfl Try.func72 (by kernel_rfl) rfl #[.int .i64 (rd l0_1 x43_2), .int .i64 0, .int .i64 (wrap64 ((l0_0.length : Int) - 1))] rfl (by (try simp only [List.map_toArray, List.map_cons, List.map_nil]); first | done | rfl | (simp only [List.length_drop, List.length_take]; rfl)) ?_; (with_reducible refine (spec_l1In.calls (rd l0_1 x43_2) 0 (wrap64 ((l0_0.length : Int) - 1)) false _ A32.out).mono ?_); rintro e w' ⟨rfl, ⟨nd, rfl⟩⟩; refine ⟨_, rfl, ?_⟩))
           go_meet
           case rel => exact ⟨_, (true), (by first | rfl | (simp; done) | (simp [*]; done)), H', ⟨by have := HK1.out; have := HK2.out; first | omega | exact Nat.le_refl _⟩, ⟨by (with_reducible repeat first | apply bN | apply bD | apply bA); exact BK116.out⟩, ⟨by repeat (first | (with_reducible first | exact HB.out | apply eA | apply eN | apply eD | refine below_set ?_ GE116.out) | exact HB.out)⟩⟩
         case rest =>
          clear HC31
          try clear c1
          try clear p1
          try clear q1
          try clear hx1
          try clear c2
          try clear p2
          try clear c3
          try clear c4
          try clear c4b0
          try clear c5
          try clear c5b0
          try clear c6
          try clear c6b0
          try clear p6
          try clear c7
          try clear q7
          try clear c8
          try clear c10
          try clear p11
          try clear q11
          try clear hx11
          try clear c12
          try clear p12
          try clear q12
          try clear hx12
          try clear c17
          try clear c20
          try clear c20b0
          try clear c22
          try clear c25
          try clear c28
          try clear c28b0
          try clear c29
          try clear c29b0
          try clear c30
          try clear c30b0
          try clear c33
          try clear c34
          try clear c34b0
          try clear c35
          try clear c35b0
          try clear hx117_0
          try clear hx117_1
          try clear hx117_2
          try clear hx117_3
          try clear hx117_4
          try clear hx117_5
          try clear hx121_0
          try clear hx123_0
          try clear hx123_1
          try clear hx123_2
          try clear hx123_3
          try clear hx123_4
          try clear hx123_5
          try clear p1
          try clear p11
          try clear p117
          try clear p121
          try clear p123
          try clear p2
          try clear p6
          try clear q1
          try clear q11
          try clear q117
          try clear q121
          try clear q123
          try clear q7
          obtain ⟨kq, x62_30, rfl, HA, HJ30, BK116, HB⟩ := hcut
          cases kq with
          | zero => exact absurd HA.out (by simp [spec_GoodTable.j2])
          | succ kj30 =>
           have H := HA.out
           clear HA
           simp only [spec_GoodTable.j2] at H
           by_cases c38 : x62_30 = true
           ·subst c38
            have H1 : (some false) = some r := by rw [if_pos rfl] at H; first | done | exact H
            clear H
            have H := H1
            clear H1
            obtain rfl := Option.some.inj H
            go_wp2
            go_ret
            exact ⟨by first | rfl | (simp [errW_none, errW_some] <;> rfl) | (simp [*, errW_none, errW_some] <;> rfl), by repeat (first | (with_reducible first | exact HB.out | apply eA | apply eN | apply eD | refine below_set ?_ GE116.out) | exact HB.out)⟩
           ·replace c38 := Bool.eq_false_iff.mpr c38
            subst c38
            have H1 : (if 0 ≤ x43_2 then (if x43_2 ≤ (l0_1.length : Int) then (spec_GoodTable.l2 kj30 x3_1 (rd l0_1 x43_2) l0_1 (l0_1.length : Int) x43_2 (l0_1.take (x43_2 : Int).toNat) ((l0_1.take (x43_2 : Int).toNat).length : Int) 0 l0_0 l0_1) else (none)) else (none)) = some r := by rw [if_neg (show ¬ (false = true) by decide)] at H; first | done | exact H
            clear H
            have H := H1
            clear H1
            by_cases c39 : 0 ≤ x43_2
            ·rw [if_pos c39] at H
             have c39b0 := eq_true c39
             have c39b1 : decide (0 ≤ x43_2) = true := decide_eq_true c39
             clear c39
             by_cases c40 : x43_2 ≤ (l0_1.length : Int)
             ·rw [if_pos c40] at H
              have c40b0 := eq_true c40
              have c40b1 : decide (x43_2 ≤ (l0_1.length : Int)) = true := decide_eq_true c40
              clear c40
              have H' := Aside0.mk H
              clear H
              obtain ⟨_, _, _, _⟩ := zc2_ BK116.out
              obtain ⟨i042, hi042, _, hsz42, _⟩ := info_parts info3
              obtain ⟨hcut42, hA42, hC42⟩ := print_take_of (P := Try.prog) (Value.int .i64) 0 36 3 .i64 Try.underlying36 hi042 hsz42 (some ad121) c0_1 l0_1 x43_2 (of_decide_eq_true (by first | (with_reducible assumption) | assumption)) (of_decide_eq_true (by first | (with_reducible assumption) | assumption)) HC0_1.out
              have hmx_ : max x43_2 0 = x43_2 := Int.max_eq_left (of_decide_eq_true (by assumption))
              have MXA_ := Aside0.mk (show 0 ≤ x43_2 ∧ x43_2 ≤ (l0_1.length : Int) from ⟨of_decide_eq_true (by assumption), of_decide_eq_true (by assumption)⟩)
              have HR124 := Aside0.mk (Kd.C_of_reads (h1 := fun _ => rfl) (hA42 _ (Kd.reads_of_C HR0_1.out)))
              have HC124 := Aside0.mk hC42
              clear hA42 hC42 hi042 hsz42
              go_wp2
              go_loopg [68] kj30 (fun kq v68 w' => ∃ (x68_4 : Int), v68 = .int .i64 x68_4 ∧ Aside0 (spec_GoodTable.l2 kq x3_1 (rd l0_1 x43_2) l0_1 (l0_1.length : Int) x43_2 (l0_1.take (x43_2 : Int).toNat) ((l0_1.take (x43_2 : Int).toNat).length : Int) x68_4 l0_0 l0_1 = some r) ∧ Aside0 (kq ≤ kj30) ∧ Aside0 (w'.heap[gb116]? = some (.cells #[(.slice A0_0 l0_0.length c0_0), (.slice (some ad121) l0_1.length c0_1)] 78 (0, 0))) ∧ Aside0 (Below w.heap.size w w'))
              case atStart => exact ⟨(0), (by first | rfl | (simp; done) | (simp [*]; done)), H', ⟨Nat.le_refl _⟩, ⟨by (with_reducible repeat first | apply bN | apply bD | apply bA); exact BK116.out⟩, ⟨by repeat (first | (with_reducible first | exact HB.out | apply eA | apply eN | apply eD | refine below_set ?_ GE116.out) | exact HB.out)⟩⟩
              case round =>
               clear H'
               try clear c1
               try clear p1
               try clear q1
               try clear hx1
               try clear c2
               try clear p2
               try clear c3
               try clear c4
               try clear c4b0
               try clear c5
               try clear c5b0
               try clear c6
               try clear c6b0
               try clear p6
               try clear c7
               try clear q7
               try clear c8
               try clear c10
               try clear p11
               try clear q11
               try clear hx11
               try clear c12
               try clear p12
               try clear q12
               try clear hx12
               try clear c17
               try clear c20
               try clear c20b0
               try clear c22
               try clear c25
               try clear c28
               try clear c28b0
               try clear c29
               try clear c29b0
               try clear c30
               try clear c30b0
               try clear c33
               try clear c34
               try clear c34b0
               try clear c35
               try clear c35b0
               try clear c38
               try clear c39
               try clear c39b0
               try clear c39b1
               try clear c40
               try clear c40b0
               try clear c40b1
               try clear hx117_0
               try clear hx117_1
               try clear hx117_2
               try clear hx117_3
               try clear hx117_4
               try clear hx117_5
               try clear hx121_0
               try clear hx123_0
               try clear hx123_1
               try clear hx123_2
               try clear hx123_3
               try clear hx123_4
               try clear hx123_5
               try clear p1
               try clear p11
               try clear p117
               try clear p12
               try clear p121
               try clear p123
               try clear p2
               try clear p6
               try clear q1
               try clear q11
               try clear q117
               try clear q12
               try clear q121
               try clear q123
               try clear q7
               obtain ⟨x68_4, rfl, HA, HK4, BK116, HB⟩ := hrel
               cases gk with
               | zero => exact absurd HA.out (by simp [spec_GoodTable.l2])
               | succ k4 =>
                have H := HA.out
                clear HA
                simp only [spec_GoodTable.l2] at H
                by_cases c43 : x68_4 < ((l0_1.take (x43_2 : Int).toNat).length : Int)
                ·rw [if_pos c43] at H
                 have c43b0 : decide (x68_4 < ((l0_1.take (x43_2 : Int).toNat).length : Int)) = true := decide_eq_true c43
                 have c43b9 : decide (x68_4 < x43_2) = true := decide_eq_true (by have h_ := of_decide_eq_true c43b0; rw [List.length_take] at h_; have g_ := MXA_.out; omega)
                 have c43b8 := eq_true (of_decide_eq_true c43b9)
                 clear c43
                 by_cases c44 : 0 ≤ x68_4
                 ·rw [if_pos c44] at H
                  have c44b0 : decide (0 ≤ x68_4) = true := decide_eq_true c44
                  clear c44
                  by_cases c45 : x68_4 < ((l0_1.take (x43_2 : Int).toNat).length : Int)
                  ·rw [if_pos c45] at H
                   have c45b0 : decide (x68_4 < ((l0_1.take (x43_2 : Int).toNat).length : Int)) = true := decide_eq_true c45
                   have c45b9 : decide (x68_4 < x43_2) = true := decide_eq_true (by have h_ := of_decide_eq_true c45b0; rw [List.length_take] at h_; have g_ := MXA_.out; omega)
                   have c45b8 := eq_true (of_decide_eq_true c45b9)
                   clear c45
                   by_cases c46 : (rd (l0_1.take (x43_2 : Int).toNat) x68_4) = (rd l0_1 x43_2)
                   ·rw [if_pos c46] at H
                    have c46b0 : ((rd (l0_1.take (x43_2 : Int).toNat) x68_4) == (rd l0_1 x43_2)) = true := beq_iff_eq.mpr c46
                    have c46b1 : ((rd (l0_1.take (x43_2 : Int).toNat) x68_4) != (rd l0_1 x43_2)) = false := bne_eq_false_iff_eq.mpr c46
                    clear c46
                    obtain rfl := Option.some.inj H
                    have p125 : 0 ≤ (x68_4 : Int) := of_decide_eq_true (by first | (with_reducible assumption) | assumption)
                    have q125 : x68_4 < ((l0_1.take (x43_2 : Int).toNat).length : Int) := of_decide_eq_true (by first | (with_reducible assumption) | assumption)
                    obtain ⟨ad125, e125, hx125_0⟩ := Kd.at_int HR124.out x68_4 p125 q125
                    obtain rfl : ad121 = ad125 := (by injection e125)
                    replace hx125_0 := (HB.out.cell (World.block_lt_of_cell? w _ hx125_0)).trans hx125_0
                    replace p125 := eq_true p125
                    replace q125 := eq_true q125
                    go_wp2
                    go_ret
                    exact ⟨by first | rfl | (simp [errW_none, errW_some] <;> rfl) | (simp [*, errW_none, errW_some] <;> rfl), by repeat (first | (with_reducible first | exact HB.out | apply eA | apply eN | apply eD | refine below_set ?_ GE116.out) | exact HB.out)⟩
                   ·rw [if_neg c46] at H
                    have c46b0 : ((rd (l0_1.take (x43_2 : Int).toNat) x68_4) == (rd l0_1 x43_2)) = false := beq_eq_false_iff_ne.mpr c46
                    have c46b1 : ((rd (l0_1.take (x43_2 : Int).toNat) x68_4) != (rd l0_1 x43_2)) = true := bne_iff_ne.mpr c46
                    have H' := Aside0.mk H
                    clear H
                    have p125 : 0 ≤ (x68_4 : Int) := of_decide_eq_true (by first | (with_reducible assumption) | assumption)
                    have q125 : x68_4 < ((l0_1.take (x43_2 : Int).toNat).length : Int) := of_decide_eq_true (by first | (with_reducible assumption) | assumption)
                    obtain ⟨ad125, e125, hx125_0⟩ := Kd.at_int HR124.out x68_4 p125 q125
                    obtain rfl : ad121 = ad125 := (by injection e125)
                    replace hx125_0 := (HB.out.cell (World.block_lt_of_cell? w _ hx125_0)).trans hx125_0
                    replace p125 := eq_true p125
                    replace q125 := eq_true q125
                    go_wp2
                    go_roundg k4
                    case measure => have := HK1.out; have := HK2.out; have := HJ30.out; have := HK4.out; omega
                    case rel => exact ⟨(wrap64 (x68_4 + 1)), (by first | rfl | (simp; done) | (simp [*]; done)), H', ⟨by have := HK1.out; have := HK2.out; have := HJ30.out; have := HK4.out; omega⟩, ⟨by (with_reducible repeat first | apply bN | apply bD | apply bA); exact BK116.out⟩, ⟨by repeat (first | (with_reducible first | exact HB.out | apply eA | apply eN | apply eD | refine below_set ?_ GE116.out) | exact HB.out)⟩⟩
                  ·rw [if_neg c45] at H
                   exact absurd H (by simp)
                 ·rw [if_neg c44] at H
                  exact absurd H (by simp)
                ·rw [if_neg c43] at H
                 have c43b0 : decide (x68_4 < ((l0_1.take (x43_2 : Int).toNat).length : Int)) = false := decide_eq_false c43
                 have c43b9 : decide (x68_4 < x43_2) = false := decide_eq_false (by have h_ := of_decide_eq_false c43b0; rw [List.length_take] at h_; have g_ := MXA_.out; omega)
                 have c43b8 := eq_false (of_decide_eq_false c43b9)
                 clear c43
                 have H' := Aside0.mk H
                 clear H
                 go_wp2
                 go_roundg k4
                 case measure => have := HK1.out; have := HK2.out; have := HJ30.out; have := HK4.out; omega
                 case rel => exact ⟨(wrap64 (x43_2 + 1)), (by first | rfl | (simp; done) | (simp [*]; done)), H', ⟨by have := HK1.out; have := HK2.out; have := HJ30.out; have := HK4.out; omega⟩, ⟨by (with_reducible repeat first | apply bN | apply bD | apply bA); exact BK116.out⟩, ⟨by repeat (first | (with_reducible first | exact HB.out | apply eA | apply eN | apply eD | refine below_set ?_ GE116.out) | exact HB.out)⟩⟩
             ·rw [if_neg c40] at H
              exact absurd H (by simp)
            ·rw [if_neg c39] at H
             exact absurd H (by simp)
        ·rw [if_neg c30] at H
         exact absurd H (by simp)
       ·rw [if_neg c29] at H
        exact absurd H (by simp)
      ·rw [if_neg c28] at H
       have c28b0 : decide (x43_2 < (l0_1.length : Int)) = false := decide_eq_false c28
       clear c28
       by_cases c47 : (l0_0.length : Int) ≤ 40
       ·rw [if_pos c47] at H
        have c47b0 : decide ((l0_0.length : Int) ≤ 40) = true := decide_eq_true c47
        have c47b1 : decide (l0_0.length ≤ 40) = true := decide_eq_true (by omega)
        clear c47
        obtain rfl := Option.some.inj H
        obtain ⟨_, _, _, _⟩ := zc2_ BK116.out
        go_wp2
        go_ret
        exact ⟨by first | rfl | (simp [errW_none, errW_some] <;> rfl) | (simp [*, errW_none, errW_some] <;> rfl), by repeat (first | (with_reducible first | exact HB.out | apply eA | apply eN | apply eD | refine below_set ?_ GE116.out) | exact HB.out)⟩
       ·rw [if_neg c47] at H
        have c47b0 : decide ((l0_0.length : Int) ≤ 40) = false := decide_eq_false c47
        have c47b1 : decide (l0_0.length ≤ 40) = false := decide_eq_false (by omega)
        clear c47
        obtain rfl := Option.some.inj H
        obtain ⟨_, _, _, _⟩ := zc2_ BK116.out
        go_wp2
        go_ret
        exact ⟨by first | rfl | (simp [errW_none, errW_some] <;> rfl) | (simp [*, errW_none, errW_some] <;> rfl), by repeat (first | (with_reducible first | exact HB.out | apply eA | apply eN | apply eD | refine below_set ?_ GE116.out) | exact HB.out)⟩

end Go.Proofs.Ytdoflfifnkpacaa.WO
