-- Printed by a program of this session (after the kit's print.sh, with contracts of its own beside): Lean checks it.
import Derived.Test.YtdoflfifnkpacaaC18FAx0
import Derived.Test.YtdoflfifnkpacaaC18FAx7
namespace Go.Proofs.Ytdoflfifnkpacaa.FA
open Go.RowKit Go.Proofs.YtdoflfifnkpacaaW.PrintWords Go.Proofs.YtdoflfifnkpacaaW.PrintLast Go.Proofs.YtdoflfifnkpacaaW.PrintMore
attribute [local go_sem] max2_int min2_int max_two min_two max_three min_three max_four min_four   -- for this text's walks alone
set_option linter.unusedVariables false
set_option linter.unusedSimpArgs false

mutual
def impl_format_sum.j0 : Nat → Int → Int → Bool → Bool → Bool → Int → Int → Bool → Bool → Bool → Int → Int → Option (Int)
 | 0, _, _, _, _, _, _, _, _, _, _, _, _ => none
 | k + 1, x218000, x218001, x219000, x219001, x219002, x219003, x219004, x220000, x220001, x220002, x220003, x220004 => if (wrap64 (x219004 - x220004)) ≤ 35 then (if 0 ≤ (wrap64 (x219004 - x220004)) then (if (x219000 == x220000) = true then ((impl_format_round.f k x218000 x218001 x219000 (IntKind.u64.wrap ((shl .u64 x219003 (wrap64 (x219004 - x220004))) + x220003)) x220004 false).bind fun t220 => (some t220)) else (if (shl .u64 x219003 (wrap64 (x219004 - x220004))) > x220003 then ((impl_format_round.f k x218000 x218001 x219000 (IntKind.u64.wrap ((shl .u64 x219003 (wrap64 (x219004 - x220004))) - x220003)) x220004 false).bind fun t221 => (some t221)) else (if (shl .u64 x219003 (wrap64 (x219004 - x220004))) < x220003 then ((impl_format_round.f k x218000 x218001 x220000 (IntKind.u64.wrap (x220003 - (shl .u64 x219003 (wrap64 (x219004 - x220004))))) x220004 false).bind fun t222 => (some t222)) else (some 0)))) else (none)) else (if (wrap64 ((wrap64 (x219004 - x220004)) - 35)) < 64 then (if 0 ≤ (wrap64 ((wrap64 (x219004 - x220004)) - 35)) then (impl_format_sum.j1 k (IntKind.u64.wrap (x219003 * 34359738368)) (shr .u64 x220003 (wrap64 ((wrap64 (x219004 - x220004)) - 35))) ((shl .u64 (shr .u64 x220003 (wrap64 ((wrap64 (x219004 - x220004)) - 35))) (wrap64 ((wrap64 (x219004 - x220004)) - 35))) != x220003) x218000 x218001 x219000 x219001 x219002 x219003 x219004 x220000 x220001 x220002 x220003 x220004) else (none)) else (impl_format_sum.j1 k (IntKind.u64.wrap (x219003 * 34359738368)) 0 (x220003 != 0) x218000 x218001 x219000 x219001 x219002 x219003 x219004 x220000 x220001 x220002 x220003 x220004))
def impl_format_sum.j1 : Nat → Int → Int → Bool → Int → Int → Bool → Bool → Bool → Int → Int → Bool → Bool → Bool → Int → Int → Option (Int)
 | 0, _, _, _, _, _, _, _, _, _, _, _, _, _, _, _ => none
 | k + 1, x8, x10, x11, x218000, x218001, x219000, x219001, x219002, x219003, x219004, x220000, x220001, x220002, x220003, x220004 => if (x219000 == x220000) = true then ((impl_format_round.f k x218000 x218001 x219000 (IntKind.u64.wrap (x8 + x10)) (wrap64 (x219004 - 35)) x11).bind fun t223 => (some t223)) else (if x11 = true then ((impl_format_round.f k x218000 x218001 x219000 (IntKind.u64.wrap ((IntKind.u64.wrap (x8 - x10)) - 1)) (wrap64 (x219004 - 35)) x11).bind fun t224 => (some t224)) else ((impl_format_round.f k x218000 x218001 x219000 (IntKind.u64.wrap (x8 - x10)) (wrap64 (x219004 - 35)) x11).bind fun t225 => (some t225)))
end
def impl_format_sum.f (k : Nat) (a0_0 : Int) (a0_1 : Int) (a1_0 : Bool) (a1_1 : Bool) (a1_2 : Bool) (a1_3 : Int) (a1_4 : Int) (a2_0 : Bool) (a2_1 : Bool) (a2_2 : Bool) (a2_3 : Int) (a2_4 : Int) : Option (Int) := if a1_4 < a2_4 then (impl_format_sum.j0 k a0_0 a0_1 a2_0 a2_1 a2_2 a2_3 a2_4 a1_0 a1_1 a1_2 a1_3 a1_4) else (impl_format_sum.j0 k a0_0 a0_1 a1_0 a1_1 a1_2 a1_3 a1_4 a2_0 a2_1 a2_2 a2_3 a2_4)
set_option maxHeartbeats 8000000 in
set_option maxRecDepth 100000 in
theorem impl_format_sum.calls (k : Nat) (a0_0 : Int) (a0_1 : Int) (a1_0 : Bool) (a1_1 : Bool) (a1_2 : Bool) (a1_3 : Int) (a1_4 : Int) (a2_0 : Bool) (a2_1 : Bool) (a2_2 : Bool) (a2_3 : Int) (a2_4 : Int) (r : Int) (w : World) (h : impl_format_sum.f k a0_0 a0_1 a1_0 a1_1 a1_2 a1_3 a1_4 a2_0 a2_1 a2_2 a2_3 a2_4 = some r) :
  Calls Try.prog 88 #[.agg #[.int .i64 a0_0, .int .i64 a0_1], .agg #[.bool a1_0, .bool a1_1, .bool a1_2, .int .u64 a1_3, .int .i64 a1_4], .agg #[.bool a2_0, .bool a2_1, .bool a2_2, .int .u64 a2_3, .int .i64 a2_4]] w fun e w' => e = .returned (.int .u32 r) ∧ Below w.heap.size w w' := by
 have hu96 := Try.underlying96
 have hu100 := Try.underlying100
 have HB := Aside0.mk (Below.refl w.heap.size w)
 have H : (if a1_4 < a2_4 then (impl_format_sum.j0 k a0_0 a0_1 a2_0 a2_1 a2_2 a2_3 a2_4 a1_0 a1_1 a1_2 a1_3 a1_4) else (impl_format_sum.j0 k a0_0 a0_1 a1_0 a1_1 a1_2 a1_3 a1_4 a2_0 a2_1 a2_2 a2_3 a2_4)) = some r := h
 clear h
 have HC4 := Aside0.mk H
 clear H
 go_enter Try.func88, Try.ntmps88
 go_upto_if 16 with (first | ((with_reducible refine gate_dst (N := 3) rfl ?_); refine box_event ?hg (N := 3) ?hd (cs := #[.int .i64 a0_0, .int .i64 a0_1]) (t := 96) ?hr ?_; (case hd => rfl); (case hg => rfl); (case hr => first | (go_simp; done) | (go_simp; rfl)); intro gb217 hg w5 hbox hb; have BK217 := Aside0.mk (hbox); have GW217 := Aside0.mk (gs_ hg (eb_ HB.out) : w.heap.size ≤ gb217); have GE217 := GW217; replace HB := eh_ hb; clear hb hbox hg) | ((with_reducible refine gate_dst (N := 4) rfl ?_); refine box_event ?hg (N := 4) ?hd (cs := #[.bool a1_0, .bool a1_1, .bool a1_2, .int .u64 a1_3, .int .i64 a1_4]) (t := 100) ?hr ?_; (case hd => rfl); (case hg => rfl); (case hr => first | (go_simp; done) | (go_simp; rfl)); intro gb218 hg w6 hbox hb; have BK218 := Aside0.mk (hbox); have GW218 := Aside0.mk (gs_ hg es_ : w.heap.size ≤ gb218); have GE218 := GW218; have NB217_218 := Aside0.mk ((by rw [hg]; exact Nat.ne_of_lt (blk_lt (g := gb217) (o := .cells #[.int .i64 a0_0, .int .i64 a0_1] 96 (0, 0)) (bk_ BK217.out)) : gb217 ≠ gb218)); have NB218_217 := Aside0.mk ((by rw [hg]; exact Nat.ne_of_gt (blk_lt (g := gb217) (o := .cells #[.int .i64 a0_0, .int .i64 a0_1] 96 (0, 0)) (bk_ BK217.out)) : gb218 ≠ gb217)); replace BK217 := bb_ BK217 hb; replace HB := eh_ hb; clear hb hbox hg) | ((with_reducible refine gate_dst (N := 5) rfl ?_); refine box_event ?hg (N := 5) ?hd (cs := #[.bool a2_0, .bool a2_1, .bool a2_2, .int .u64 a2_3, .int .i64 a2_4]) (t := 100) ?hr ?_; (case hd => rfl); (case hg => rfl); (case hr => first | (go_simp; done) | (go_simp; rfl)); intro gb219 hg w7 hbox hb; have BK219 := Aside0.mk (hbox); have GW219 := Aside0.mk (gs_ hg es_ : w.heap.size ≤ gb219); have GE219 := GW219; have NB217_219 := Aside0.mk ((by rw [hg]; exact Nat.ne_of_lt (blk_lt (g := gb217) (o := .cells #[.int .i64 a0_0, .int .i64 a0_1] 96 (0, 0)) (bk_ BK217.out)) : gb217 ≠ gb219)); have NB219_217 := Aside0.mk ((by rw [hg]; exact Nat.ne_of_gt (blk_lt (g := gb217) (o := .cells #[.int .i64 a0_0, .int .i64 a0_1] 96 (0, 0)) (bk_ BK217.out)) : gb219 ≠ gb217)); have NB218_219 := Aside0.mk ((by rw [hg]; exact Nat.ne_of_lt (blk_lt (g := gb218) (o := .cells #[.bool a1_0, .bool a1_1, .bool a1_2, .int .u64 a1_3, .int .i64 a1_4] 100 (0, 0)) (bk_ BK218.out)) : gb218 ≠ gb219)); have NB219_218 := Aside0.mk ((by rw [hg]; exact Nat.ne_of_gt (blk_lt (g := gb218) (o := .cells #[.bool a1_0, .bool a1_1, .bool a1_2, .int .u64 a1_3, .int .i64 a1_4] 100 (0, 0)) (bk_ BK218.out)) : gb219 ≠ gb218)); replace BK217 := bb_ BK217 hb; replace BK218 := bb_ BK218 hb; replace HB := eh_ hb; clear hb hbox hg; have hnb8 := NB218_217.out; have hnc8 := NB217_218.out; have hnb9 := NB218_219.out; have hnc9 := NB219_218.out; obtain ⟨_, _, _, _, _, _, _, _, _, _⟩ := zc5_ BK218.out; have hnb11 := NB219_217.out; have hnc11 := NB217_219.out; obtain ⟨_, _, _, _, _, _, _, _, _, _⟩ := zc5_ BK219.out))
 repeat (go_quiet (first | ((with_reducible refine gate_dst (N := 3) rfl ?_); refine box_event ?hg (N := 3) ?hd (cs := #[.int .i64 a0_0, .int .i64 a0_1]) (t := 96) ?hr ?_; (case hd => rfl); (case hg => rfl); (case hr => first | (go_simp; done) | (go_simp; rfl)); intro gb217 hg w5 hbox hb; have BK217 := Aside0.mk (hbox); have GW217 := Aside0.mk (gs_ hg (eb_ HB.out) : w.heap.size ≤ gb217); have GE217 := GW217; replace HB := eh_ hb; clear hb hbox hg)); go_upto_if 16 with (first | ((with_reducible refine gate_dst (N := 3) rfl ?_); refine box_event ?hg (N := 3) ?hd (cs := #[.int .i64 a0_0, .int .i64 a0_1]) (t := 96) ?hr ?_; (case hd => rfl); (case hg => rfl); (case hr => first | (go_simp; done) | (go_simp; rfl)); intro gb217 hg w5 hbox hb; have BK217 := Aside0.mk (hbox); have GW217 := Aside0.mk (gs_ hg (eb_ HB.out) : w.heap.size ≤ gb217); have GE217 := GW217; replace HB := eh_ hb; clear hb hbox hg)))
 (try simp only [Act.put, List.setIfInBounds_toArray, List.set_cons_zero, List.set_cons_succ])
 go_cut [] (fun wc => ∃ (kq : Nat) (x219000_3 : Bool) (x219001_3 : Bool) (x219002_3 : Bool) (x219003_3 : Int) (x219004_3 : Int) (x220000_3 : Bool) (x220001_3 : Bool) (x220002_3 : Bool) (x220003_3 : Int) (x220004_3 : Int), Aside0 (impl_format_sum.j0 kq a0_0 a0_1 x219000_3 x219001_3 x219002_3 x219003_3 x219004_3 x220000_3 x220001_3 x220002_3 x220003_3 x220004_3 = some r) ∧ Aside0 (kq ≤ k) ∧ Aside0 (wc.heap[gb217]? = some (.cells #[.int .i64 a0_0, .int .i64 a0_1] 96 (0, 0))) ∧ Aside0 (wc.heap[gb218]? = some (.cells #[.bool x219000_3, .bool x219001_3, .bool x219002_3, .int .u64 x219003_3, .int .i64 x219004_3] 100 (0, 0))) ∧ Aside0 (wc.heap[gb219]? = some (.cells #[.bool x220000_3, .bool x220001_3, .bool x220002_3, .int .u64 x220003_3, .int .i64 x220004_3] 100 (0, 0))) ∧ Aside0 (Below w.heap.size w wc))
 case first =>
  have H := HC4.out
  clear HC4
  by_cases c13 : a1_4 < a2_4
  ·rw [if_pos c13] at H
   have c13b0 : decide (a1_4 < a2_4) = true := decide_eq_true c13
   clear c13
   (first | rw [c13b0] | (simp only [i64_w, i32_w]; rw [c13b0]) | skip)
   have H' := Aside0.mk H
   clear H
   have hnb14 := NB219_217.out
   have hnc14 := NB217_219.out
   have hnb15 := NB219_218.out
   have hnc15 := NB218_219.out
   obtain ⟨_, _, _, _, _, _, _, _, _, _⟩ := zc5_ BK219.out
   have hnb17 := NB218_217.out
   have hnc17 := NB217_218.out
   obtain ⟨_, _, _, _, _, _, _, _, _, _⟩ := zc5_ BK218.out
   go_wp2
   repeat (go_quiet (fail); try go_wp2)
   go_meet
   case rel => exact ⟨_, (a2_0), (a2_1), (a2_2), (a2_3), (a2_4), (a1_0), (a1_1), (a1_2), (a1_3), (a1_4), H', ⟨by first | omega | exact Nat.le_refl _⟩, ⟨by (with_reducible repeat first | apply bN | apply bD | apply bA); refine blk_far ?_ NB217_219.out _; (with_reducible repeat first | apply bN | apply bD | apply bA); refine blk_far ?_ NB217_219.out _; (with_reducible repeat first | apply bN | apply bD | apply bA); refine blk_far ?_ NB217_219.out _; (with_reducible repeat first | apply bN | apply bD | apply bA); refine blk_far ?_ NB217_219.out _; (with_reducible repeat first | apply bN | apply bD | apply bA); refine blk_far ?_ NB217_219.out _; (with_reducible repeat first | apply bN | apply bD | apply bA); refine blk_far ?_ NB217_218.out _; (with_reducible repeat first | apply bN | apply bD | apply bA); refine blk_far ?_ NB217_218.out _; (with_reducible repeat first | apply bN | apply bD | apply bA); refine blk_far ?_ NB217_218.out _; (with_reducible repeat first | apply bN | apply bD | apply bA); refine blk_far ?_ NB217_218.out _; (with_reducible repeat first | apply bN | apply bD | apply bA); refine blk_far ?_ NB217_218.out _; (with_reducible repeat first | apply bN | apply bD | apply bA); exact BK217.out⟩, ⟨by (with_reducible repeat first | apply bN | apply bD | apply bA); refine blk_far ?_ NB218_219.out _; (with_reducible repeat first | apply bN | apply bD | apply bA); refine blk_far ?_ NB218_219.out _; (with_reducible repeat first | apply bN | apply bD | apply bA); refine blk_far ?_ NB218_219.out _; (with_reducible repeat first | apply bN | apply bD | apply bA); refine blk_far ?_ NB218_219.out _; (with_reducible repeat first | apply bN | apply bD | apply bA); refine blk_far ?_ NB218_219.out _; (with_reducible repeat first | apply bN | apply bD | apply bA); refine blk_put (cs := #[.bool a2_0, .bool a2_1, .bool a2_2, .int .u64 a2_3, .int .i64 a1_4]) ?_ 4 _ rfl; (with_reducible repeat first | apply bN | apply bD | apply bA); refine blk_put (cs := #[.bool a2_0, .bool a2_1, .bool a2_2, .int .u64 a1_3, .int .i64 a1_4]) ?_ 3 _ rfl; (with_reducible repeat first | apply bN | apply bD | apply bA); refine blk_put (cs := #[.bool a2_0, .bool a2_1, .bool a1_2, .int .u64 a1_3, .int .i64 a1_4]) ?_ 2 _ rfl; (with_reducible repeat first | apply bN | apply bD | apply bA); refine blk_put (cs := #[.bool a2_0, .bool a1_1, .bool a1_2, .int .u64 a1_3, .int .i64 a1_4]) ?_ 1 _ rfl; (with_reducible repeat first | apply bN | apply bD | apply bA); refine blk_put (cs := #[.bool a1_0, .bool a1_1, .bool a1_2, .int .u64 a1_3, .int .i64 a1_4]) ?_ 0 _ rfl; (with_reducible repeat first | apply bN | apply bD | apply bA); exact BK218.out⟩, ⟨by (with_reducible repeat first | apply bN | apply bD | apply bA); refine blk_put (cs := #[.bool a1_0, .bool a1_1, .bool a1_2, .int .u64 a1_3, .int .i64 a2_4]) ?_ 4 _ rfl; (with_reducible repeat first | apply bN | apply bD | apply bA); refine blk_put (cs := #[.bool a1_0, .bool a1_1, .bool a1_2, .int .u64 a2_3, .int .i64 a2_4]) ?_ 3 _ rfl; (with_reducible repeat first | apply bN | apply bD | apply bA); refine blk_put (cs := #[.bool a1_0, .bool a1_1, .bool a2_2, .int .u64 a2_3, .int .i64 a2_4]) ?_ 2 _ rfl; (with_reducible repeat first | apply bN | apply bD | apply bA); refine blk_put (cs := #[.bool a1_0, .bool a2_1, .bool a2_2, .int .u64 a2_3, .int .i64 a2_4]) ?_ 1 _ rfl; (with_reducible repeat first | apply bN | apply bD | apply bA); refine blk_put (cs := #[.bool a2_0, .bool a2_1, .bool a2_2, .int .u64 a2_3, .int .i64 a2_4]) ?_ 0 _ rfl; (with_reducible repeat first | apply bN | apply bD | apply bA); refine blk_far ?_ NB219_218.out _; (with_reducible repeat first | apply bN | apply bD | apply bA); refine blk_far ?_ NB219_218.out _; (with_reducible repeat first | apply bN | apply bD | apply bA); refine blk_far ?_ NB219_218.out _; (with_reducible repeat first | apply bN | apply bD | apply bA); refine blk_far ?_ NB219_218.out _; (with_reducible repeat first | apply bN | apply bD | apply bA); refine blk_far ?_ NB219_218.out _; (with_reducible repeat first | apply bN | apply bD | apply bA); exact BK219.out⟩, ⟨es_⟩⟩
  ·rw [if_neg c13] at H
   have c13b0 : decide (a1_4 < a2_4) = false := decide_eq_false c13
   clear c13
   (first | rw [c13b0] | (simp only [i64_w, i32_w]; rw [c13b0]) | skip)
   have H' := Aside0.mk H
   clear H
   go_wp2
   repeat (go_quiet (fail); try go_wp2)
   go_meet
   case rel => exact ⟨_, (a1_0), (a1_1), (a1_2), (a1_3), (a1_4), (a2_0), (a2_1), (a2_2), (a2_3), (a2_4), H', ⟨by first | omega | exact Nat.le_refl _⟩, ⟨bk_ BK217.out⟩, ⟨bk_ BK218.out⟩, ⟨bk_ BK219.out⟩, ⟨es_⟩⟩
 case rest =>
  clear HC4
  try clear p2
  obtain ⟨kq, x219000_3, x219001_3, x219002_3, x219003_3, x219004_3, x220000_3, x220001_3, x220002_3, x220003_3, x220004_3, HA, HJ3, BK217, BK218, BK219, HB⟩ := hcut
  cases kq with
  | zero => exact absurd HA.out (by simp [impl_format_sum.j0])
  | succ kj3 =>
   have H := HA.out
   clear HA
   simp only [impl_format_sum.j0] at H
   by_cases c19 : (wrap64 (x219004_3 - x220004_3)) ≤ 35
   ·rw [if_pos c19] at H
    have c19b0 : decide ((wrap64 (x219004_3 - x220004_3)) ≤ 35) = true := decide_eq_true c19
    clear c19
    obtain ⟨ji20, hji20⟩ : ∃ j_ : Int, (wrap64 (x219004_3 - x220004_3)) = j_ := ⟨_, rfl⟩
    first | rw [hji20] at H | simp only [hji20] at H
    (try rw [hji20] at c19b0)
    have hji20w : (IntKind.i64.wrap (x219004_3 - x220004_3)) = ji20 := (i64_w _).trans hji20
    by_cases c21 : 0 ≤ (ji20)
    ·rw [if_pos c21] at H
     have c21b0 := eq_true c21
     have c21b1 : decide (0 ≤ (ji20)) = true := decide_eq_true c21
     clear c21
     obtain ⟨ji22, hji22⟩ : ∃ j_ : Int, (shl .u64 x219003_3 (ji20)) = j_ := ⟨_, rfl⟩
     first | rw [hji22] at H | simp only [hji22] at H
     have hji22_ : (IntKind.u64.wrap (x219003_3 * 2 ^ min (ji20).toNat 64)) = ji22 := hji22
     have hji22z : (ji20) ≤ 64 → (IntKind.u64.wrap (x219003_3 * 2 ^ (ji20).toNat)) = ji22 := shl_small hji22
     by_cases c23 : (x219000_3 == x220000_3) = true
     ·rw [if_pos c23] at H
      have c23b0 : (x219000_3 == x220000_3) = true := c23
      (try (have c23b1 : decide (x219000_3 = x220000_3) = true := by simpa using c23))
      (try (have c23b2 : (x219000_3 == x220000_3) = true := by simpa using c23))
      clear c23
      replace H := Option.bind_eq_some_iff.mp H
      obtain ⟨t220, A240, H⟩ := H
      try dsimp only at H
      have A24 := Aside0.mk A240
      clear A240
      obtain rfl := Option.some.inj H
      have hnb25 := NB218_217.out
      have hnc25 := NB217_218.out
      have hnb26 := NB218_219.out
      have hnc26 := NB219_218.out
      obtain ⟨_, _, _, _, _, _, _, _, _, _⟩ := zc5_ BK218.out
      have hnb28 := NB219_217.out
      have hnc28 := NB217_219.out
      obtain ⟨_, _, _, _, _, _, _, _, _, _⟩ := zc5_ BK219.out
      obtain ⟨_, _, _, _⟩ := zc2_ BK217.out
      go_wp2_with (first | (go_at_call 62; (with_reducible refine (impl_format_round.calls kj3 a0_0 a0_1 x219000_3 (IntKind.u64.wrap ((ji22) + x220003_3)) x220004_3 false t220 _ A24.out).mono ?_); rintro e w31 ⟨rfl, hb⟩; have n0_ := Aside0.mk (blk_below (g := gb217) (o := .cells #[.int .i64 a0_0, .int .i64 a0_1] 96 (0, 0)) (by (with_reducible repeat first | apply bN | apply bD | apply bA); refine blk_far ?_ NB217_218.out _; (with_reducible repeat first | apply bN | apply bD | apply bA); exact BK217.out) hb); have n1_ := Aside0.mk (blk_below (g := gb218) (o := .cells #[.bool x219000_3, .bool x219001_3, .bool x219002_3, .int .u64 ji22, .int .i64 x219004_3] 100 (0, 0)) (by (with_reducible repeat first | apply bN | apply bD | apply bA); refine blk_put (cs := #[.bool x219000_3, .bool x219001_3, .bool x219002_3, .int .u64 x219003_3, .int .i64 x219004_3]) ?_ 3 _ rfl; (with_reducible repeat first | apply bN | apply bD | apply bA); exact BK218.out) hb); have n2_ := Aside0.mk (blk_below (g := gb219) (o := .cells #[.bool x220000_3, .bool x220001_3, .bool x220002_3, .int .u64 x220003_3, .int .i64 x220004_3] 100 (0, 0)) (by (with_reducible repeat first | apply bN | apply bD | apply bA); refine blk_far ?_ NB219_218.out _; (with_reducible repeat first | apply bN | apply bD | apply bA); exact BK219.out) hb); have n3_ := Aside0.mk (below_step es_ hb); clear BK217 BK218; clear BK219 HB; have BK217 := n0_; have BK218 := n1_; have BK219 := n2_; have HB := n3_; clear n0_ n1_ n2_ n3_; (try clear hb); (try clear hb2); (try clear hk); (try clear hi)))
      repeat (go_quiet (first | (go_at_call 62; (with_reducible refine (impl_format_round.calls kj3 a0_0 a0_1 x219000_3 (IntKind.u64.wrap ((ji22) + x220003_3)) x220004_3 false t220 _ A24.out).mono ?_); rintro e w31 ⟨rfl, hb⟩; have n0_ := Aside0.mk (blk_below (g := gb217) (o := .cells #[.int .i64 a0_0, .int .i64 a0_1] 96 (0, 0)) (by (with_reducible repeat first | apply bN | apply bD | apply bA); refine blk_far ?_ NB217_218.out _; (with_reducible repeat first | apply bN | apply bD | apply bA); exact BK217.out) hb); have n1_ := Aside0.mk (blk_below (g := gb218) (o := .cells #[.bool x219000_3, .bool x219001_3, .bool x219002_3, .int .u64 ji22, .int .i64 x219004_3] 100 (0, 0)) (by (with_reducible repeat first | apply bN | apply bD | apply bA); refine blk_put (cs := #[.bool x219000_3, .bool x219001_3, .bool x219002_3, .int .u64 x219003_3, .int .i64 x219004_3]) ?_ 3 _ rfl; (with_reducible repeat first | apply bN | apply bD | apply bA); exact BK218.out) hb); have n2_ := Aside0.mk (blk_below (g := gb219) (o := .cells #[.bool x220000_3, .bool x220001_3, .bool x220002_3, .int .u64 x220003_3, .int .i64 x220004_3] 100 (0, 0)) (by (with_reducible repeat first | apply bN | apply bD | apply bA); refine blk_far ?_ NB219_218.out _; (with_reducible repeat first | apply bN | apply bD | apply bA); exact BK219.out) hb); have n3_ := Aside0.mk (below_step es_ hb); clear BK217 BK218; clear BK219 HB; have BK217 := n0_; have BK218 := n1_; have BK219 := n2_; have HB := n3_; clear n0_ n1_ n2_ n3_; (try clear hb); (try clear hb2); (try clear hk); (try clear hi))); try go_wp2_with (first | (go_at_call 62; (with_reducible refine (impl_format_round.calls kj3 a0_0 a0_1 x219000_3 (IntKind.u64.wrap ((ji22) + x220003_3)) x220004_3 false t220 _ A24.out).mono ?_); rintro e w31 ⟨rfl, hb⟩; have n0_ := Aside0.mk (blk_below (g := gb217) (o := .cells #[.int .i64 a0_0, .int .i64 a0_1] 96 (0, 0)) (by (with_reducible repeat first | apply bN | apply bD | apply bA); refine blk_far ?_ NB217_218.out _; (with_reducible repeat first | apply bN | apply bD | apply bA); exact BK217.out) hb); have n1_ := Aside0.mk (blk_below (g := gb218) (o := .cells #[.bool x219000_3, .bool x219001_3, .bool x219002_3, .int .u64 ji22, .int .i64 x219004_3] 100 (0, 0)) (by (with_reducible repeat first | apply bN | apply bD | apply bA); refine blk_put (cs := #[.bool x219000_3, .bool x219001_3, .bool x219002_3, .int .u64 x219003_3, .int .i64 x219004_3]) ?_ 3 _ rfl; (with_reducible repeat first | apply bN | apply bD | apply bA); exact BK218.out) hb); have n2_ := Aside0.mk (blk_below (g := gb219) (o := .cells #[.bool x220000_3, .bool x220001_3, .bool x220002_3, .int .u64 x220003_3, .int .i64 x220004_3] 100 (0, 0)) (by (with_reducible repeat first | apply bN | apply bD | apply bA); refine blk_far ?_ NB219_218.out _; (with_reducible repeat first | apply bN | apply bD | apply bA); exact BK219.out) hb); have n3_ := Aside0.mk (below_step es_ hb); clear BK217 BK218; clear BK219 HB; have BK217 := n0_; have BK218 := n1_; have BK219 := n2_; have HB := n3_; clear n0_ n1_ n2_ n3_; (try clear hb); (try clear hb2); (try clear hk); (try clear hi))))
      go_ret
      exact ⟨by first | rfl | (simp [errW_none, errW_some] <;> rfl) | (simp only [← hji20, ← hji22]; first | rfl | (simp [errW_none, errW_some] <;> rfl)) | (simp [*, errW_none, errW_some] <;> rfl), es_⟩
     ·rw [if_neg c23] at H
      have c23b0 : (x219000_3 == x220000_3) = false := by simpa using c23
      (try (have c23b1 : decide (x219000_3 = x220000_3) = false := by simpa using c23))
      (try (have c23b2 : (x219000_3 == x220000_3) = false := by simpa using c23))
      (try (have c23b3 : ¬ (x219000_3 = x220000_3) := by simpa using c23))
      clear c23
      by_cases c32 : (ji22) > x220003_3
      ·rw [if_pos c32] at H
       have c32b0 : decide (x220003_3 < (ji22)) = true := decide_eq_true c32
       clear c32
       replace H := Option.bind_eq_some_iff.mp H
       obtain ⟨t221, A330, H⟩ := H
       try dsimp only at H
       have A33 := Aside0.mk A330
       clear A330
       obtain rfl := Option.some.inj H
       have hnb34 := NB218_217.out
       have hnc34 := NB217_218.out
       have hnb35 := NB218_219.out
       have hnc35 := NB219_218.out
       obtain ⟨_, _, _, _, _, _, _, _, _, _⟩ := zc5_ BK218.out
       have hnb37 := NB219_217.out
       have hnc37 := NB217_219.out
       obtain ⟨_, _, _, _, _, _, _, _, _, _⟩ := zc5_ BK219.out
       obtain ⟨_, _, _, _⟩ := zc2_ BK217.out
       go_wp2_with (first | (go_at_call 62; (with_reducible refine (impl_format_round.calls kj3 a0_0 a0_1 x219000_3 (IntKind.u64.wrap ((ji22) - x220003_3)) x220004_3 false t221 _ A33.out).mono ?_); rintro e w40 ⟨rfl, hb⟩; have n0_ := Aside0.mk (blk_below (g := gb217) (o := .cells #[.int .i64 a0_0, .int .i64 a0_1] 96 (0, 0)) (by (with_reducible repeat first | apply bN | apply bD | apply bA); refine blk_far ?_ NB217_218.out _; (with_reducible repeat first | apply bN | apply bD | apply bA); exact BK217.out) hb); have n1_ := Aside0.mk (blk_below (g := gb218) (o := .cells #[.bool x219000_3, .bool x219001_3, .bool x219002_3, .int .u64 ji22, .int .i64 x219004_3] 100 (0, 0)) (by (with_reducible repeat first | apply bN | apply bD | apply bA); refine blk_put (cs := #[.bool x219000_3, .bool x219001_3, .bool x219002_3, .int .u64 x219003_3, .int .i64 x219004_3]) ?_ 3 _ rfl; (with_reducible repeat first | apply bN | apply bD | apply bA); exact BK218.out) hb); have n2_ := Aside0.mk (blk_below (g := gb219) (o := .cells #[.bool x220000_3, .bool x220001_3, .bool x220002_3, .int .u64 x220003_3, .int .i64 x220004_3] 100 (0, 0)) (by (with_reducible repeat first | apply bN | apply bD | apply bA); refine blk_far ?_ NB219_218.out _; (with_reducible repeat first | apply bN | apply bD | apply bA); exact BK219.out) hb); have n3_ := Aside0.mk (below_step es_ hb); clear BK217 BK218; clear BK219 HB; have BK217 := n0_; have BK218 := n1_; have BK219 := n2_; have HB := n3_; clear n0_ n1_ n2_ n3_; (try clear hb); (try clear hb2); (try clear hk); (try clear hi)))
       repeat (go_quiet (first | (go_at_call 62; (with_reducible refine (impl_format_round.calls kj3 a0_0 a0_1 x219000_3 (IntKind.u64.wrap ((ji22) - x220003_3)) x220004_3 false t221 _ A33.out).mono ?_); rintro e w40 ⟨rfl, hb⟩; have n0_ := Aside0.mk (blk_below (g := gb217) (o := .cells #[.int .i64 a0_0, .int .i64 a0_1] 96 (0, 0)) (by (with_reducible repeat first | apply bN | apply bD | apply bA); refine blk_far ?_ NB217_218.out _; (with_reducible repeat first | apply bN | apply bD | apply bA); exact BK217.out) hb); have n1_ := Aside0.mk (blk_below (g := gb218) (o := .cells #[.bool x219000_3, .bool x219001_3, .bool x219002_3, .int .u64 ji22, .int .i64 x219004_3] 100 (0, 0)) (by (with_reducible repeat first | apply bN | apply bD | apply bA); refine blk_put (cs := #[.bool x219000_3, .bool x219001_3, .bool x219002_3, .int .u64 x219003_3, .int .i64 x219004_3]) ?_ 3 _ rfl; (with_reducible repeat first | apply bN | apply bD | apply bA); exact BK218.out) hb); have n2_ := Aside0.mk (blk_below (g := gb219) (o := .cells #[.bool x220000_3, .bool x220001_3, .bool x220002_3, .int .u64 x220003_3, .int .i64 x220004_3] 100 (0, 0)) (by (with_reducible repeat first | apply bN | apply bD | apply bA); refine blk_far ?_ NB219_218.out _; (with_reducible repeat first | apply bN | apply bD | apply bA); exact BK219.out) hb); have n3_ := Aside0.mk (below_step es_ hb); clear BK217 BK218; clear BK219 HB; have BK217 := n0_; have BK218 := n1_; have BK219 := n2_; have HB := n3_; clear n0_ n1_ n2_ n3_; (try clear hb); (try clear hb2); (try clear hk); (try clear hi))); try go_wp2_with (first | (go_at_call 62; (with_reducible refine (impl_format_round.calls kj3 a0_0 a0_1 x219000_3 (IntKind.u64.wrap ((ji22) - x220003_3)) x220004_3 false t221 _ A33.out).mono ?_); rintro e w40 ⟨rfl, hb⟩; have n0_ := Aside0.mk (blk_below (g := gb217) (o := .cells #[.int .i64 a0_0, .int .i64 a0_1] 96 (0, 0)) (by (with_reducible repeat first | apply bN | apply bD | apply bA); refine blk_far ?_ NB217_218.out _; (with_reducible repeat first | apply bN | apply bD | apply bA); exact BK217.out) hb); have n1_ := Aside0.mk (blk_below (g := gb218) (o := .cells #[.bool x219000_3, .bool x219001_3, .bool x219002_3, .int .u64 ji22, .int .i64 x219004_3] 100 (0, 0)) (by (with_reducible repeat first | apply bN | apply bD | apply bA); refine blk_put (cs := #[.bool x219000_3, .bool x219001_3, .bool x219002_3, .int .u64 x219003_3, .int .i64 x219004_3]) ?_ 3 _ rfl; (with_reducible repeat first | apply bN | apply bD | apply bA); exact BK218.out) hb); have n2_ := Aside0.mk (blk_below (g := gb219) (o := .cells #[.bool x220000_3, .bool x220001_3, .bool x220002_3, .int .u64 x220003_3, .int .i64 x220004_3] 100 (0, 0)) (by (with_reducible repeat first | apply bN | apply bD | apply bA); refine blk_far ?_ NB219_218.out _; (with_reducible repeat first | apply bN | apply bD | apply bA); exact BK219.out) hb); have n3_ := Aside0.mk (below_step es_ hb); clear BK217 BK218; clear BK219 HB; have BK217 := n0_; have BK218 := n1_; have BK219 := n2_; have HB := n3_; clear n0_ n1_ n2_ n3_; (try clear hb); (try clear hb2); (try clear hk); (try clear hi))))
       go_ret
       exact ⟨by first | rfl | (simp [errW_none, errW_some] <;> rfl) | (simp only [← hji20, ← hji22]; first | rfl | (simp [errW_none, errW_some] <;> rfl)) | (simp [*, errW_none, errW_some] <;> rfl), es_⟩
      ·rw [if_neg c32] at H
       have c32b0 : decide (x220003_3 < (ji22)) = false := decide_eq_false c32
       clear c32
       by_cases c41 : (ji22) < x220003_3
       ·rw [if_pos c41] at H
        have c41b0 : decide ((ji22) < x220003_3) = true := decide_eq_true c41
        clear c41
        replace H := Option.bind_eq_some_iff.mp H
        obtain ⟨t222, A420, H⟩ := H
        try dsimp only at H
        have A42 := Aside0.mk A420
        clear A420
        obtain rfl := Option.some.inj H
        have hnb43 := NB218_217.out
        have hnc43 := NB217_218.out
        have hnb44 := NB218_219.out
        have hnc44 := NB219_218.out
        obtain ⟨_, _, _, _, _, _, _, _, _, _⟩ := zc5_ BK218.out
        have hnb46 := NB219_217.out
        have hnc46 := NB217_219.out
        obtain ⟨_, _, _, _, _, _, _, _, _, _⟩ := zc5_ BK219.out
        obtain ⟨_, _, _, _⟩ := zc2_ BK217.out
        go_wp2_with (first | (go_at_call 62; (with_reducible refine (impl_format_round.calls kj3 a0_0 a0_1 x220000_3 (IntKind.u64.wrap (x220003_3 - (ji22))) x220004_3 false t222 _ A42.out).mono ?_); rintro e w49 ⟨rfl, hb⟩; have n0_ := Aside0.mk (blk_below (g := gb217) (o := .cells #[.int .i64 a0_0, .int .i64 a0_1] 96 (0, 0)) (by (with_reducible repeat first | apply bN | apply bD | apply bA); refine blk_far ?_ NB217_218.out _; (with_reducible repeat first | apply bN | apply bD | apply bA); exact BK217.out) hb); have n1_ := Aside0.mk (blk_below (g := gb218) (o := .cells #[.bool x219000_3, .bool x219001_3, .bool x219002_3, .int .u64 ji22, .int .i64 x219004_3] 100 (0, 0)) (by (with_reducible repeat first | apply bN | apply bD | apply bA); refine blk_put (cs := #[.bool x219000_3, .bool x219001_3, .bool x219002_3, .int .u64 x219003_3, .int .i64 x219004_3]) ?_ 3 _ rfl; (with_reducible repeat first | apply bN | apply bD | apply bA); exact BK218.out) hb); have n2_ := Aside0.mk (blk_below (g := gb219) (o := .cells #[.bool x220000_3, .bool x220001_3, .bool x220002_3, .int .u64 x220003_3, .int .i64 x220004_3] 100 (0, 0)) (by (with_reducible repeat first | apply bN | apply bD | apply bA); refine blk_far ?_ NB219_218.out _; (with_reducible repeat first | apply bN | apply bD | apply bA); exact BK219.out) hb); have n3_ := Aside0.mk (below_step es_ hb); clear BK217 BK218; clear BK219 HB; have BK217 := n0_; have BK218 := n1_; have BK219 := n2_; have HB := n3_; clear n0_ n1_ n2_ n3_; (try clear hb); (try clear hb2); (try clear hk); (try clear hi)))
        repeat (go_quiet (first | (go_at_call 62; (with_reducible refine (impl_format_round.calls kj3 a0_0 a0_1 x220000_3 (IntKind.u64.wrap (x220003_3 - (ji22))) x220004_3 false t222 _ A42.out).mono ?_); rintro e w49 ⟨rfl, hb⟩; have n0_ := Aside0.mk (blk_below (g := gb217) (o := .cells #[.int .i64 a0_0, .int .i64 a0_1] 96 (0, 0)) (by (with_reducible repeat first | apply bN | apply bD | apply bA); refine blk_far ?_ NB217_218.out _; (with_reducible repeat first | apply bN | apply bD | apply bA); exact BK217.out) hb); have n1_ := Aside0.mk (blk_below (g := gb218) (o := .cells #[.bool x219000_3, .bool x219001_3, .bool x219002_3, .int .u64 ji22, .int .i64 x219004_3] 100 (0, 0)) (by (with_reducible repeat first | apply bN | apply bD | apply bA); refine blk_put (cs := #[.bool x219000_3, .bool x219001_3, .bool x219002_3, .int .u64 x219003_3, .int .i64 x219004_3]) ?_ 3 _ rfl; (with_reducible repeat first | apply bN | apply bD | apply bA); exact BK218.out) hb); have n2_ := Aside0.mk (blk_below (g := gb219) (o := .cells #[.bool x220000_3, .bool x220001_3, .bool x220002_3, .int .u64 x220003_3, .int .i64 x220004_3] 100 (0, 0)) (by (with_reducible repeat first | apply bN | apply bD | apply bA); refine blk_far ?_ NB219_218.out _; (with_reducible repeat first | apply bN | apply bD | apply bA); exact BK219.out) hb); have n3_ := Aside0.mk (below_step es_ hb); clear BK217 BK218; clear BK219 HB; have BK217 := n0_; have BK218 := n1_; have BK219 := n2_; have HB := n3_; clear n0_ n1_ n2_ n3_; (try clear hb); (try clear hb2); (try clear hk); (try clear hi))); try go_wp2_with (first | (go_at_call 62; (with_reducible refine (impl_format_round.calls kj3 a0_0 a0_1 x220000_3 (IntKind.u64.wrap (x220003_3 - (ji22))) x220004_3 false t222 _ A42.out).mono ?_); rintro e w49 ⟨rfl, hb⟩; have n0_ := Aside0.mk (blk_below (g := gb217) (o := .cells #[.int .i64 a0_0, .int .i64 a0_1] 96 (0, 0)) (by (with_reducible repeat first | apply bN | apply bD | apply bA); refine blk_far ?_ NB217_218.out _; (with_reducible repeat first | apply bN | apply bD | apply bA); exact BK217.out) hb); have n1_ := Aside0.mk (blk_below (g := gb218) (o := .cells #[.bool x219000_3, .bool x219001_3, .bool x219002_3, .int .u64 ji22, .int .i64 x219004_3] 100 (0, 0)) (by (with_reducible repeat first | apply bN | apply bD | apply bA); refine blk_put (cs := #[.bool x219000_3, .bool x219001_3, .bool x219002_3, .int .u64 x219003_3, .int .i64 x219004_3]) ?_ 3 _ rfl; (with_reducible repeat first | apply bN | apply bD | apply bA); exact BK218.out) hb); have n2_ := Aside0.mk (blk_below (g := gb219) (o := .cells #[.bool x220000_3, .bool x220001_3, .bool x220002_3, .int .u64 x220003_3, .int .i64 x220004_3] 100 (0, 0)) (by (with_reducible repeat first | apply bN | apply bD | apply bA); refine blk_far ?_ NB219_218.out _; (with_reducible repeat first | apply bN | apply bD | apply bA); exact BK219.out) hb); have n3_ := Aside0.mk (below_step es_ hb); clear BK217 BK218; clear BK219 HB; have BK217 := n0_; have BK218 := n1_; have BK219 := n2_; have HB := n3_; clear n0_ n1_ n2_ n3_; (try clear hb); (try clear hb2); (try clear hk); (try clear hi))))
        go_ret
        exact ⟨by first | rfl | (simp [errW_none, errW_some] <;> rfl) | (simp only [← hji20, ← hji22]; first | rfl | (simp [errW_none, errW_some] <;> rfl)) | (simp [*, errW_none, errW_some] <;> rfl), es_⟩
       ·rw [if_neg c41] at H
        have c41b0 : decide ((ji22) < x220003_3) = false := decide_eq_false c41
        clear c41
        obtain rfl := Option.some.inj H
        have hnb50 := NB218_217.out
        have hnc50 := NB217_218.out
        have hnb51 := NB218_219.out
        have hnc51 := NB219_218.out
        obtain ⟨_, _, _, _, _, _, _, _, _, _⟩ := zc5_ BK218.out
        have hnb53 := NB219_217.out
        have hnc53 := NB217_219.out
        obtain ⟨_, _, _, _, _, _, _, _, _, _⟩ := zc5_ BK219.out
        go_wp2
        repeat (go_quiet (fail); try go_wp2)
        go_ret
        exact ⟨by first | rfl | (simp [errW_none, errW_some] <;> rfl) | (simp only [← hji20, ← hji22]; first | rfl | (simp [errW_none, errW_some] <;> rfl)) | (simp [*, errW_none, errW_some] <;> rfl), es_⟩
    ·rw [if_neg c21] at H
     exact absurd H (by simp)
   ·rw [if_neg c19] at H
    have c19b0 : decide ((wrap64 (x219004_3 - x220004_3)) ≤ 35) = false := decide_eq_false c19
    clear c19
    have HC55 := Aside0.mk H
    clear H
    have hnb56 := NB218_217.out
    have hnc56 := NB217_218.out
    have hnb57 := NB218_219.out
    have hnc57 := NB219_218.out
    obtain ⟨_, _, _, _, _, _, _, _, _, _⟩ := zc5_ BK218.out
    have hnb59 := NB219_217.out
    have hnc59 := NB217_219.out
    obtain ⟨_, _, _, _, _, _, _, _, _, _⟩ := zc5_ BK219.out
    go_upto_if 90 with (fail)
    repeat (go_quiet (fail); go_upto_if 90 with (fail))
    go_cut [10, 11] (fun v10 v11 wc => ∃ (kq : Nat) (x10_54 : Int) (x11_54 : Bool), v10 = .int .u64 x10_54 ∧ v11 = .bool x11_54 ∧ Aside0 (impl_format_sum.j1 kq (IntKind.u64.wrap (x219003_3 * 34359738368)) x10_54 x11_54 a0_0 a0_1 x219000_3 x219001_3 x219002_3 x219003_3 x219004_3 x220000_3 x220001_3 x220002_3 x220003_3 x220004_3 = some r) ∧ Aside0 (kq ≤ kj3) ∧ Aside0 (wc.heap[gb217]? = some (.cells #[.int .i64 a0_0, .int .i64 a0_1] 96 (0, 0))) ∧ Aside0 (wc.heap[gb218]? = some (.cells #[.bool x219000_3, .bool x219001_3, .bool x219002_3, .int .u64 x219003_3, .int .i64 x219004_3] 100 (0, 0))) ∧ Aside0 (wc.heap[gb219]? = some (.cells #[.bool x220000_3, .bool x220001_3, .bool x220002_3, .int .u64 x220003_3, .int .i64 x220004_3] 100 (0, 0))) ∧ Aside0 (Below w.heap.size w wc))
    case first =>
     have H := HC55.out
     clear HC55
     by_cases c61 : (wrap64 ((wrap64 (x219004_3 - x220004_3)) - 35)) < 64
     ·rw [if_pos c61] at H
      have c61b0 : decide ((wrap64 ((wrap64 (x219004_3 - x220004_3)) - 35)) < 64) = true := decide_eq_true c61
      clear c61
      (first | rw [c61b0] | (simp only [i64_w, i32_w]; rw [c61b0]) | skip)
      obtain ⟨ji62, hji62⟩ : ∃ j_ : Int, (wrap64 ((wrap64 (x219004_3 - x220004_3)) - 35)) = j_ := ⟨_, rfl⟩
      first | rw [hji62] at H | simp only [hji62] at H
      (try rw [hji62] at c61b0)
      have hji62w : (IntKind.i64.wrap ((wrap64 (x219004_3 - x220004_3)) - 35)) = ji62 := (i64_w _).trans hji62
      by_cases c63 : 0 ≤ (ji62)
      ·rw [if_pos c63] at H
       have c63b0 := eq_true c63
       have c63b1 : decide (0 ≤ (ji62)) = true := decide_eq_true c63
       clear c63
       obtain ⟨ji64, hji64⟩ : ∃ j_ : Int, (shr .u64 x220003_3 (ji62)) = j_ := ⟨_, rfl⟩
       first | rw [hji64] at H | simp only [hji64] at H
       have hji64_ : (x220003_3 / 2 ^ min (ji62).toNat 64) = ji64 := hji64
       have hji64z : (ji62) ≤ 64 → (x220003_3 / 2 ^ (ji62).toNat) = ji64 := shr_small hji64
       have c65b0 := eq_true (of_decide_eq_true (by first | (with_reducible assumption) | assumption) : 0 ≤ (ji62))
       obtain ⟨ji66, hji66⟩ : ∃ j_ : Int, (shl .u64 (ji64) (ji62)) = j_ := ⟨_, rfl⟩
       first | rw [hji66] at H | simp only [hji66] at H
       have hji66_ : (IntKind.u64.wrap ((ji64) * 2 ^ min (ji62).toNat 64)) = ji66 := hji66
       have hji66z : (ji62) ≤ 64 → (IntKind.u64.wrap ((ji64) * 2 ^ (ji62).toNat)) = ji66 := shl_small hji66
       have H' := Aside0.mk H
       clear H
       have hnb67 := NB219_217.out
       have hnc67 := NB217_219.out
       have hnb68 := NB219_218.out
       have hnc68 := NB218_219.out
       obtain ⟨_, _, _, _, _, _, _, _, _, _⟩ := zc5_ BK219.out
       go_wp2
       repeat (go_quiet (fail); try go_wp2)
       go_meet
       case rel => exact ⟨_, (ji64), (((ji66) != x220003_3)), (by first | rfl | (simp; done) | (simp only [← hji64] <;> (first | rfl | simp)) | (simp [*]; done)), (by first | rfl | (simp; done) | (simp only [← hji66] <;> (first | rfl | simp)) | (simp [*]; done)), H', ⟨by have := HJ3.out; first | omega | exact Nat.le_refl _⟩, ⟨bk_ BK217.out⟩, ⟨bk_ BK218.out⟩, ⟨bk_ BK219.out⟩, ⟨es_⟩⟩
      ·rw [if_neg c63] at H
       exact absurd H (by simp)
     ·rw [if_neg c61] at H
      have c61b0 : decide ((wrap64 ((wrap64 (x219004_3 - x220004_3)) - 35)) < 64) = false := decide_eq_false c61
      clear c61
      (first | rw [c61b0] | (simp only [i64_w, i32_w]; rw [c61b0]) | skip)
      have H' := Aside0.mk H
      clear H
      go_wp2
      repeat (go_quiet (fail); try go_wp2)
      go_meet
      case rel => exact ⟨_, (0), ((x220003_3 != 0)), (by first | rfl | (simp; done) | (simp [*]; done)), (by first | rfl | (simp; done) | (simp [*]; done)), H', ⟨by have := HJ3.out; first | omega | exact Nat.le_refl _⟩, ⟨bk_ BK217.out⟩, ⟨bk_ BK218.out⟩, ⟨bk_ BK219.out⟩, ⟨es_⟩⟩
    case rest =>
     clear HC55
     try clear p2
     try clear p6
     try clear p64
     try clear p2
     obtain ⟨kq, x10_54, x11_54, rfl, rfl, HA, HJ54, BK217, BK218, BK219, HB⟩ := hcut
     cases kq with
     | zero => exact absurd HA.out (by simp [impl_format_sum.j1])
     | succ kj54 =>
      have H := HA.out
      clear HA
      simp only [impl_format_sum.j1] at H
      by_cases c70 : (x219000_3 == x220000_3) = true
      ·rw [if_pos c70] at H
       have c70b0 : (x219000_3 == x220000_3) = true := c70
       (try (have c70b1 : decide (x219000_3 = x220000_3) = true := by simpa using c70))
       (try (have c70b2 : (x219000_3 == x220000_3) = true := by simpa using c70))
       clear c70
       replace H := Option.bind_eq_some_iff.mp H
       obtain ⟨t223, A710, H⟩ := H
       try dsimp only at H
       have A71 := Aside0.mk A710
       clear A710
       obtain rfl := Option.some.inj H
       have hnb72 := NB218_217.out
       have hnc72 := NB217_218.out
       have hnb73 := NB218_219.out
       have hnc73 := NB219_218.out
       obtain ⟨_, _, _, _, _, _, _, _, _, _⟩ := zc5_ BK218.out
       have hnb75 := NB219_217.out
       have hnc75 := NB217_219.out
       obtain ⟨_, _, _, _, _, _, _, _, _, _⟩ := zc5_ BK219.out
       obtain ⟨_, _, _, _⟩ := zc2_ BK217.out
       go_wp2_with (first | (go_at_call 62; (with_reducible refine (impl_format_round.calls kj54 a0_0 a0_1 x219000_3 (IntKind.u64.wrap ((IntKind.u64.wrap (x219003_3 * 34359738368)) + x10_54)) (wrap64 (x219004_3 - 35)) x11_54 t223 _ A71.out).mono ?_); rintro e w78 ⟨rfl, hb⟩; have n0_ := Aside0.mk (blk_below (bk_ BK217.out) hb); have n1_ := Aside0.mk (blk_below (bk_ BK218.out) hb); have n2_ := Aside0.mk (blk_below (bk_ BK219.out) hb); have n3_ := Aside0.mk (below_step es_ hb); clear BK217 BK218; clear BK219 HB; have BK217 := n0_; have BK218 := n1_; have BK219 := n2_; have HB := n3_; clear n0_ n1_ n2_ n3_; (try clear hb); (try clear hb2); (try clear hk); (try clear hi)))
       repeat (go_quiet (first | (go_at_call 62; (with_reducible refine (impl_format_round.calls kj54 a0_0 a0_1 x219000_3 (IntKind.u64.wrap ((IntKind.u64.wrap (x219003_3 * 34359738368)) + x10_54)) (wrap64 (x219004_3 - 35)) x11_54 t223 _ A71.out).mono ?_); rintro e w78 ⟨rfl, hb⟩; have n0_ := Aside0.mk (blk_below (bk_ BK217.out) hb); have n1_ := Aside0.mk (blk_below (bk_ BK218.out) hb); have n2_ := Aside0.mk (blk_below (bk_ BK219.out) hb); have n3_ := Aside0.mk (below_step es_ hb); clear BK217 BK218; clear BK219 HB; have BK217 := n0_; have BK218 := n1_; have BK219 := n2_; have HB := n3_; clear n0_ n1_ n2_ n3_; (try clear hb); (try clear hb2); (try clear hk); (try clear hi))); try go_wp2_with (first | (go_at_call 62; (with_reducible refine (impl_format_round.calls kj54 a0_0 a0_1 x219000_3 (IntKind.u64.wrap ((IntKind.u64.wrap (x219003_3 * 34359738368)) + x10_54)) (wrap64 (x219004_3 - 35)) x11_54 t223 _ A71.out).mono ?_); rintro e w78 ⟨rfl, hb⟩; have n0_ := Aside0.mk (blk_below (bk_ BK217.out) hb); have n1_ := Aside0.mk (blk_below (bk_ BK218.out) hb); have n2_ := Aside0.mk (blk_below (bk_ BK219.out) hb); have n3_ := Aside0.mk (below_step es_ hb); clear BK217 BK218; clear BK219 HB; have BK217 := n0_; have BK218 := n1_; have BK219 := n2_; have HB := n3_; clear n0_ n1_ n2_ n3_; (try clear hb); (try clear hb2); (try clear hk); (try clear hi))))
       go_ret
       exact ⟨by first | rfl | (simp [errW_none, errW_some] <;> rfl) | (simp [*, errW_none, errW_some] <;> rfl), es_⟩
      ·rw [if_neg c70] at H
       have c70b0 : (x219000_3 == x220000_3) = false := by simpa using c70
       (try (have c70b1 : decide (x219000_3 = x220000_3) = false := by simpa using c70))
       (try (have c70b2 : (x219000_3 == x220000_3) = false := by simpa using c70))
       (try (have c70b3 : ¬ (x219000_3 = x220000_3) := by simpa using c70))
       clear c70
       by_cases c79 : x11_54 = true
       ·subst c79
        have H1 : ((impl_format_round.f kj54 a0_0 a0_1 x219000_3 (IntKind.u64.wrap ((IntKind.u64.wrap ((IntKind.u64.wrap (x219003_3 * 34359738368)) - x10_54)) - 1)) (wrap64 (x219004_3 - 35)) true).bind fun t224 => (some t224)) = some r := by rw [if_pos rfl] at H; first | done | exact H
        clear H
        have H := H1
        clear H1
        replace H := Option.bind_eq_some_iff.mp H
        obtain ⟨t224, A800, H⟩ := H
        try dsimp only at H
        have A80 := Aside0.mk A800
        clear A800
        obtain rfl := Option.some.inj H
        have hnb81 := NB218_217.out
        have hnc81 := NB217_218.out
        have hnb82 := NB218_219.out
        have hnc82 := NB219_218.out
        obtain ⟨_, _, _, _, _, _, _, _, _, _⟩ := zc5_ BK218.out
        have hnb84 := NB219_217.out
        have hnc84 := NB217_219.out
        obtain ⟨_, _, _, _, _, _, _, _, _, _⟩ := zc5_ BK219.out
        obtain ⟨_, _, _, _⟩ := zc2_ BK217.out
        go_wp2_with (first | (go_at_call 62; (with_reducible refine (impl_format_round.calls kj54 a0_0 a0_1 x219000_3 (IntKind.u64.wrap ((IntKind.u64.wrap ((IntKind.u64.wrap (x219003_3 * 34359738368)) - x10_54)) - 1)) (wrap64 (x219004_3 - 35)) true t224 _ A80.out).mono ?_); rintro e w87 ⟨rfl, hb⟩; have n0_ := Aside0.mk (blk_below (bk_ BK217.out) hb); have n1_ := Aside0.mk (blk_below (bk_ BK218.out) hb); have n2_ := Aside0.mk (blk_below (bk_ BK219.out) hb); have n3_ := Aside0.mk (below_step es_ hb); clear BK217 BK218; clear BK219 HB; have BK217 := n0_; have BK218 := n1_; have BK219 := n2_; have HB := n3_; clear n0_ n1_ n2_ n3_; (try clear hb); (try clear hb2); (try clear hk); (try clear hi)))
        repeat (go_quiet (first | (go_at_call 62; (with_reducible refine (impl_format_round.calls kj54 a0_0 a0_1 x219000_3 (IntKind.u64.wrap ((IntKind.u64.wrap ((IntKind.u64.wrap (x219003_3 * 34359738368)) - x10_54)) - 1)) (wrap64 (x219004_3 - 35)) true t224 _ A80.out).mono ?_); rintro e w87 ⟨rfl, hb⟩; have n0_ := Aside0.mk (blk_below (bk_ BK217.out) hb); have n1_ := Aside0.mk (blk_below (bk_ BK218.out) hb); have n2_ := Aside0.mk (blk_below (bk_ BK219.out) hb); have n3_ := Aside0.mk (below_step es_ hb); clear BK217 BK218; clear BK219 HB; have BK217 := n0_; have BK218 := n1_; have BK219 := n2_; have HB := n3_; clear n0_ n1_ n2_ n3_; (try clear hb); (try clear hb2); (try clear hk); (try clear hi))); try go_wp2_with (first | (go_at_call 62; (with_reducible refine (impl_format_round.calls kj54 a0_0 a0_1 x219000_3 (IntKind.u64.wrap ((IntKind.u64.wrap ((IntKind.u64.wrap (x219003_3 * 34359738368)) - x10_54)) - 1)) (wrap64 (x219004_3 - 35)) true t224 _ A80.out).mono ?_); rintro e w87 ⟨rfl, hb⟩; have n0_ := Aside0.mk (blk_below (bk_ BK217.out) hb); have n1_ := Aside0.mk (blk_below (bk_ BK218.out) hb); have n2_ := Aside0.mk (blk_below (bk_ BK219.out) hb); have n3_ := Aside0.mk (below_step es_ hb); clear BK217 BK218; clear BK219 HB; have BK217 := n0_; have BK218 := n1_; have BK219 := n2_; have HB := n3_; clear n0_ n1_ n2_ n3_; (try clear hb); (try clear hb2); (try clear hk); (try clear hi))))
        go_ret
        exact ⟨by first | rfl | (simp [errW_none, errW_some] <;> rfl) | (simp [*, errW_none, errW_some] <;> rfl), es_⟩
       ·replace c79 := Bool.eq_false_iff.mpr c79
        subst c79
        have H1 : ((impl_format_round.f kj54 a0_0 a0_1 x219000_3 (IntKind.u64.wrap ((IntKind.u64.wrap (x219003_3 * 34359738368)) - x10_54)) (wrap64 (x219004_3 - 35)) false).bind fun t225 => (some t225)) = some r := by rw [if_neg (show ¬ (false = true) by decide)] at H; first | done | exact H
        clear H
        have H := H1
        clear H1
        replace H := Option.bind_eq_some_iff.mp H
        obtain ⟨t225, A880, H⟩ := H
        try dsimp only at H
        have A88 := Aside0.mk A880
        clear A880
        obtain rfl := Option.some.inj H
        have hnb89 := NB218_217.out
        have hnc89 := NB217_218.out
        have hnb90 := NB218_219.out
        have hnc90 := NB219_218.out
        obtain ⟨_, _, _, _, _, _, _, _, _, _⟩ := zc5_ BK218.out
        have hnb92 := NB219_217.out
        have hnc92 := NB217_219.out
        obtain ⟨_, _, _, _, _, _, _, _, _, _⟩ := zc5_ BK219.out
        obtain ⟨_, _, _, _⟩ := zc2_ BK217.out
        go_wp2_with (first | (go_at_call 62; (with_reducible refine (impl_format_round.calls kj54 a0_0 a0_1 x219000_3 (IntKind.u64.wrap ((IntKind.u64.wrap (x219003_3 * 34359738368)) - x10_54)) (wrap64 (x219004_3 - 35)) false t225 _ A88.out).mono ?_); rintro e w95 ⟨rfl, hb⟩; have n0_ := Aside0.mk (blk_below (bk_ BK217.out) hb); have n1_ := Aside0.mk (blk_below (bk_ BK218.out) hb); have n2_ := Aside0.mk (blk_below (bk_ BK219.out) hb); have n3_ := Aside0.mk (below_step es_ hb); clear BK217 BK218; clear BK219 HB; have BK217 := n0_; have BK218 := n1_; have BK219 := n2_; have HB := n3_; clear n0_ n1_ n2_ n3_; (try clear hb); (try clear hb2); (try clear hk); (try clear hi)))
        repeat (go_quiet (first | (go_at_call 62; (with_reducible refine (impl_format_round.calls kj54 a0_0 a0_1 x219000_3 (IntKind.u64.wrap ((IntKind.u64.wrap (x219003_3 * 34359738368)) - x10_54)) (wrap64 (x219004_3 - 35)) false t225 _ A88.out).mono ?_); rintro e w95 ⟨rfl, hb⟩; have n0_ := Aside0.mk (blk_below (bk_ BK217.out) hb); have n1_ := Aside0.mk (blk_below (bk_ BK218.out) hb); have n2_ := Aside0.mk (blk_below (bk_ BK219.out) hb); have n3_ := Aside0.mk (below_step es_ hb); clear BK217 BK218; clear BK219 HB; have BK217 := n0_; have BK218 := n1_; have BK219 := n2_; have HB := n3_; clear n0_ n1_ n2_ n3_; (try clear hb); (try clear hb2); (try clear hk); (try clear hi))); try go_wp2_with (first | (go_at_call 62; (with_reducible refine (impl_format_round.calls kj54 a0_0 a0_1 x219000_3 (IntKind.u64.wrap ((IntKind.u64.wrap (x219003_3 * 34359738368)) - x10_54)) (wrap64 (x219004_3 - 35)) false t225 _ A88.out).mono ?_); rintro e w95 ⟨rfl, hb⟩; have n0_ := Aside0.mk (blk_below (bk_ BK217.out) hb); have n1_ := Aside0.mk (blk_below (bk_ BK218.out) hb); have n2_ := Aside0.mk (blk_below (bk_ BK219.out) hb); have n3_ := Aside0.mk (below_step es_ hb); clear BK217 BK218; clear BK219 HB; have BK217 := n0_; have BK218 := n1_; have BK219 := n2_; have HB := n3_; clear n0_ n1_ n2_ n3_; (try clear hb); (try clear hb2); (try clear hk); (try clear hi))))
        go_ret
        exact ⟨by first | rfl | (simp [errW_none, errW_some] <;> rfl) | (simp [*, errW_none, errW_some] <;> rfl), es_⟩

end Go.Proofs.Ytdoflfifnkpacaa.FA
