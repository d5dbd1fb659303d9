-- Printed by a program of this session (after the kit's print.sh, with contracts of its own beside): Lean checks it.
import Derived.Test.YtdoflfifnkpacaaC18FAx0
import Derived.Test.YtdoflfifnkpacaaC18FAx1
import Derived.Test.YtdoflfifnkpacaaC18FAx2
import Derived.Test.YtdoflfifnkpacaaC18FAx3
import Derived.Test.YtdoflfifnkpacaaC18FAx13
namespace Go.Proofs.Ytdoflfifnkpacaa.FA
open Go.RowKit Go.Proofs.YtdoflfifnkpacaaW.PrintWords Go.Proofs.YtdoflfifnkpacaaW.PrintLast Go.Proofs.YtdoflfifnkpacaaW.PrintMore
attribute [local go_sem] max2_int min2_int max_two min_two max_three min_three max_four min_four   -- for this text's walks alone
set_option linter.unusedVariables false
set_option linter.unusedSimpArgs false

mutual
def spec_l4K_sum.j0 : Nat → Bool → Int → Int → Bool → Bool → Bool → Int → Int → Bool → Bool → Bool → Int → Int → Option (Int)
 | 0, _, _, _, _, _, _, _, _, _, _, _, _, _ => none
 | k + 1, x10, x294000, x294001, x295000, x295001, x295002, x295003, x295004, x296000, x296001, x296002, x296003, x296004 => if x10 = true then ((spec_l4K_nan.f x294000 x294001).bind fun t296 => (some t296)) else (if x295001 = true then ((spec_l4K_inf.f x294000 x294001 x295000).bind fun t297 => (some t297)) else (if x296001 = true then ((spec_l4K_inf.f x294000 x294001 x296000).bind fun t298 => (some t298)) else (if x295004 < x296004 then ((spec_l4K_sum.f k x294000 x294001 x296000 x296001 x296002 x296003 x296004 x295000 x295001 x295002 x295003 x295004).bind fun t299 => (some t299)) else (if (IntKind.u64.wrap (wrap64 (x295004 - x296004))) ≤ 30 then (if 0 ≤ (IntKind.u64.wrap (wrap64 (x295004 - x296004))) then (spec_l4K_sum.j1 k false x294000 x294001 x295000 x295001 x295002 (shl .u64 x295003 (IntKind.u64.wrap (wrap64 (x295004 - x296004)))) x295004 x296000 x296001 x296002 x296003 x296004) else (none)) else (if (IntKind.u64.wrap ((IntKind.u64.wrap (wrap64 (x295004 - x296004))) - 30)) > 60 then (spec_l4K_sum.j1 k (x296003 != 0) x294000 x294001 x295000 x295001 x295002 (IntKind.u64.wrap (x295003 * 1073741824)) x295004 x296000 x296001 x296002 0 (wrap64 (x295004 - 30))) else (if 0 ≤ (IntKind.u64.wrap ((IntKind.u64.wrap (wrap64 (x295004 - x296004))) - 30)) then (spec_l4K_sum.j1 k ((Go.bits .and .u64 x296003 (IntKind.u64.wrap ((shl .u64 1 (IntKind.u64.wrap ((IntKind.u64.wrap (wrap64 (x295004 - x296004))) - 30))) - 1))) != 0) x294000 x294001 x295000 x295001 x295002 (IntKind.u64.wrap (x295003 * 1073741824)) x295004 x296000 x296001 x296002 (shr .u64 x296003 (IntKind.u64.wrap ((IntKind.u64.wrap (wrap64 (x295004 - x296004))) - 30))) (wrap64 (x295004 - 30))) else (none)))))))
def spec_l4K_sum.j1 : Nat → Bool → Int → Int → Bool → Bool → Bool → Int → Int → Bool → Bool → Bool → Int → Int → Option (Int)
 | 0, _, _, _, _, _, _, _, _, _, _, _, _, _ => none
 | k + 1, x8, x294000, x294001, x295000, x295001, x295002, x295003, x295004, x296000, x296001, x296002, x296003, x296004 => if (x295000 == x296000) = true then ((spec_l4K_round.f k x294000 x294001 x295000 (IntKind.u64.wrap (x295003 + x296003)) x296004 x8).bind fun t300 => (some t300)) else (if x296003 > x295003 then ((spec_l4K_round.f k x294000 x294001 x296000 (IntKind.u64.wrap (x296003 - x295003)) x296004 x8).bind fun t301 => (some t301)) else (if x8 = true then (spec_l4K_sum.j2 k x8 (IntKind.u64.wrap ((IntKind.u64.wrap (x295003 - x296003)) - 1)) x294000 x294001 x295000 x295001 x295002 x295003 x295004 x296000 x296001 x296002 x296003 x296004) else (spec_l4K_sum.j2 k x8 (IntKind.u64.wrap (x295003 - x296003)) x294000 x294001 x295000 x295001 x295002 x295003 x295004 x296000 x296001 x296002 x296003 x296004)))
def spec_l4K_sum.j2 : Nat → Bool → Int → Int → Int → Bool → Bool → Bool → Int → Int → Bool → Bool → Bool → Int → Int → Option (Int)
 | 0, _, _, _, _, _, _, _, _, _, _, _, _, _, _ => none
 | k + 1, x8, x9, x294000, x294001, x295000, x295001, x295002, x295003, x295004, x296000, x296001, x296002, x296003, x296004 => if x9 = 0 then (spec_l4K_sum.j3 k x8 x9 (!x8) x294000 x294001 x295000 x295001 x295002 x295003 x295004 x296000 x296001 x296002 x296003 x296004) else (spec_l4K_sum.j3 k x8 x9 false x294000 x294001 x295000 x295001 x295002 x295003 x295004 x296000 x296001 x296002 x296003 x296004)
def spec_l4K_sum.j3 : Nat → Bool → Int → Bool → Int → Int → Bool → Bool → Bool → Int → Int → Bool → Bool → Bool → Int → Int → Option (Int)
 | 0, _, _, _, _, _, _, _, _, _, _, _, _, _, _, _ => none
 | k + 1, x8, x9, x148, x294000, x294001, x295000, x295001, x295002, x295003, x295004, x296000, x296001, x296002, x296003, x296004 => if x148 = true then ((spec_l4K_sign.f x294000 x294001 false).bind fun t302 => (some t302)) else ((spec_l4K_round.f k x294000 x294001 x295000 x9 x296004 x8).bind fun t303 => (some t303))
def spec_l4K_sum.f : Nat → Int → Int → Bool → Bool → Bool → Int → Int → Bool → Bool → Bool → Int → Int → Option (Int)
 | 0, _, _, _, _, _, _, _, _, _, _, _, _ => none
 | k + 1, a0_0, a0_1, a1_0, a1_1, a1_2, a1_3, a1_4, a2_0, a2_1, a2_2, a2_3, a2_4 => if a1_2 = true then (spec_l4K_sum.j0 k true a0_0 a0_1 a1_0 a1_1 a1_2 a1_3 a1_4 a2_0 a2_1 a2_2 a2_3 a2_4) else (if a2_2 = true then (spec_l4K_sum.j0 k true a0_0 a0_1 a1_0 a1_1 a1_2 a1_3 a1_4 a2_0 a2_1 a2_2 a2_3 a2_4) else (if a1_1 = true then (if a2_1 = true then (spec_l4K_sum.j0 k (a1_0 != a2_0) a0_0 a0_1 a1_0 a1_1 a1_2 a1_3 a1_4 a2_0 a2_1 a2_2 a2_3 a2_4) else (spec_l4K_sum.j0 k false a0_0 a0_1 a1_0 a1_1 a1_2 a1_3 a1_4 a2_0 a2_1 a2_2 a2_3 a2_4)) else (spec_l4K_sum.j0 k false a0_0 a0_1 a1_0 a1_1 a1_2 a1_3 a1_4 a2_0 a2_1 a2_2 a2_3 a2_4)))
end
set_option maxHeartbeats 8000000 in
set_option maxRecDepth 100000 in
theorem spec_l4K_sum.calls (k : Nat) : ∀ (a0_0 : Int) (a0_1 : Int) (a1_0 : Bool) (a1_1 : Bool) (a1_2 : Bool) (a1_3 : Int) (a1_4 : Int) (a2_0 : Bool) (a2_1 : Bool) (a2_2 : Bool) (a2_3 : Int) (a2_4 : Int) (r : Int) (w : World) (h : spec_l4K_sum.f k a0_0 a0_1 a1_0 a1_1 a1_2 a1_3 a1_4 a2_0 a2_1 a2_2 a2_3 a2_4 = some r),
  Calls Try.prog 90 #[.agg #[.int .u64 a0_0, .int .u64 a0_1], .agg #[.bool a1_0, .bool a1_1, .bool a1_2, .int .u64 a1_3, .int .i64 a1_4], .agg #[.bool a2_0, .bool a2_1, .bool a2_2, .int .u64 a2_3, .int .i64 a2_4]] w fun e w' => e = .returned (.int .u32 r) ∧ Below w.heap.size w w' := by
 induction k using Nat.strongRecOn with
 | _ k ih =>
 intro a0_0 a0_1 a1_0 a1_1 a1_2 a1_3 a1_4 a2_0 a2_1 a2_2 a2_3 a2_4 r w h
 cases k with
 | zero => exact absurd h (by simp [spec_l4K_sum.f])
 | succ k =>
 simp only [spec_l4K_sum.f] at h
 have hu109 := Try.underlying109
 have hu114 := Try.underlying114
 have HB := Aside0.mk (Below.refl w.heap.size w)
 have H : (if a1_2 = true then (spec_l4K_sum.j0 k true a0_0 a0_1 a1_0 a1_1 a1_2 a1_3 a1_4 a2_0 a2_1 a2_2 a2_3 a2_4) else (if a2_2 = true then (spec_l4K_sum.j0 k true a0_0 a0_1 a1_0 a1_1 a1_2 a1_3 a1_4 a2_0 a2_1 a2_2 a2_3 a2_4) else (if a1_1 = true then (if a2_1 = true then (spec_l4K_sum.j0 k (a1_0 != a2_0) a0_0 a0_1 a1_0 a1_1 a1_2 a1_3 a1_4 a2_0 a2_1 a2_2 a2_3 a2_4) else (spec_l4K_sum.j0 k false a0_0 a0_1 a1_0 a1_1 a1_2 a1_3 a1_4 a2_0 a2_1 a2_2 a2_3 a2_4)) else (spec_l4K_sum.j0 k false a0_0 a0_1 a1_0 a1_1 a1_2 a1_3 a1_4 a2_0 a2_1 a2_2 a2_3 a2_4)))) = some r := h
 clear h
 have HC4 := Aside0.mk H
 clear H
 go_enter Try.func90, Try.ntmps90
 go_upto_region 1 with (first | ((with_reducible refine gate_dst (N := 3) rfl ?_); refine box_event ?hg (N := 3) ?hd (cs := #[.int .u64 a0_0, .int .u64 a0_1]) (t := 109) ?hr ?_; (case hd => rfl); (case hg => rfl); (case hr => first | (go_simp; done) | (go_simp; rfl)); intro gb293 hg w5 hbox hb; have BK293 := Aside0.mk (hbox); have GW293 := Aside0.mk (gs_ hg (eb_ HB.out) : w.heap.size ≤ gb293); have GE293 := GW293; replace HB := eh_ hb; clear hb hbox hg) | ((with_reducible refine gate_dst (N := 4) rfl ?_); refine box_event ?hg (N := 4) ?hd (cs := #[.bool a1_0, .bool a1_1, .bool a1_2, .int .u64 a1_3, .int .i64 a1_4]) (t := 114) ?hr ?_; (case hd => rfl); (case hg => rfl); (case hr => first | (go_simp; done) | (go_simp; rfl)); intro gb294 hg w6 hbox hb; have BK294 := Aside0.mk (hbox); have GW294 := Aside0.mk (gs_ hg es_ : w.heap.size ≤ gb294); have GE294 := GW294; have NB293_294 := Aside0.mk ((by rw [hg]; exact Nat.ne_of_lt (blk_lt (g := gb293) (o := .cells #[.int .u64 a0_0, .int .u64 a0_1] 109 (0, 0)) (bk_ BK293.out)) : gb293 ≠ gb294)); have NB294_293 := Aside0.mk ((by rw [hg]; exact Nat.ne_of_gt (blk_lt (g := gb293) (o := .cells #[.int .u64 a0_0, .int .u64 a0_1] 109 (0, 0)) (bk_ BK293.out)) : gb294 ≠ gb293)); replace BK293 := bb_ BK293 hb; replace HB := eh_ hb; clear hb hbox hg) | ((with_reducible refine gate_dst (N := 5) rfl ?_); refine box_event ?hg (N := 5) ?hd (cs := #[.bool a2_0, .bool a2_1, .bool a2_2, .int .u64 a2_3, .int .i64 a2_4]) (t := 114) ?hr ?_; (case hd => rfl); (case hg => rfl); (case hr => first | (go_simp; done) | (go_simp; rfl)); intro gb295 hg w7 hbox hb; have BK295 := Aside0.mk (hbox); have GW295 := Aside0.mk (gs_ hg es_ : w.heap.size ≤ gb295); have GE295 := GW295; have NB293_295 := Aside0.mk ((by rw [hg]; exact Nat.ne_of_lt (blk_lt (g := gb293) (o := .cells #[.int .u64 a0_0, .int .u64 a0_1] 109 (0, 0)) (bk_ BK293.out)) : gb293 ≠ gb295)); have NB295_293 := Aside0.mk ((by rw [hg]; exact Nat.ne_of_gt (blk_lt (g := gb293) (o := .cells #[.int .u64 a0_0, .int .u64 a0_1] 109 (0, 0)) (bk_ BK293.out)) : gb295 ≠ gb293)); have NB294_295 := Aside0.mk ((by rw [hg]; exact Nat.ne_of_lt (blk_lt (g := gb294) (o := .cells #[.bool a1_0, .bool a1_1, .bool a1_2, .int .u64 a1_3, .int .i64 a1_4] 114 (0, 0)) (bk_ BK294.out)) : gb294 ≠ gb295)); have NB295_294 := Aside0.mk ((by rw [hg]; exact Nat.ne_of_gt (blk_lt (g := gb294) (o := .cells #[.bool a1_0, .bool a1_1, .bool a1_2, .int .u64 a1_3, .int .i64 a1_4] 114 (0, 0)) (bk_ BK294.out)) : gb295 ≠ gb294)); replace BK293 := bb_ BK293 hb; replace BK294 := bb_ BK294 hb; replace HB := eh_ hb; clear hb hbox hg))
 (try simp only [Act.put, List.setIfInBounds_toArray, List.set_cons_zero, List.set_cons_succ])
 go_cut [10] (fun v10 wc => ∃ (kq : Nat) (x10_3 : Bool), v10 = .bool x10_3 ∧ Aside0 (spec_l4K_sum.j0 kq x10_3 a0_0 a0_1 a1_0 a1_1 a1_2 a1_3 a1_4 a2_0 a2_1 a2_2 a2_3 a2_4 = some r) ∧ Aside0 (kq ≤ k) ∧ Aside0 (wc.heap[gb293]? = some (.cells #[.int .u64 a0_0, .int .u64 a0_1] 109 (0, 0))) ∧ Aside0 (wc.heap[gb294]? = some (.cells #[.bool a1_0, .bool a1_1, .bool a1_2, .int .u64 a1_3, .int .i64 a1_4] 114 (0, 0))) ∧ Aside0 (wc.heap[gb295]? = some (.cells #[.bool a2_0, .bool a2_1, .bool a2_2, .int .u64 a2_3, .int .i64 a2_4] 114 (0, 0))) ∧ Aside0 (Below w.heap.size w wc))
 case first =>
  have H := HC4.out
  clear HC4
  by_cases c8 : a1_2 = true
  ·subst c8
   have H1 : (spec_l4K_sum.j0 k true a0_0 a0_1 a1_0 a1_1 true a1_3 a1_4 a2_0 a2_1 a2_2 a2_3 a2_4) = some r := by rw [if_pos rfl] at H; first | done | exact H
   clear H
   have H := H1
   clear H1
   have H' := Aside0.mk H
   clear H
   have hnb9 := NB294_293.out
   have hnc9 := NB293_294.out
   have hnb10 := NB294_295.out
   have hnc10 := NB295_294.out
   obtain ⟨_, _, _, _, _, _, _, _, _, _⟩ := zc5_ BK294.out
   go_wp2
   go_meet
   case rel => exact ⟨_, (true), (by first | rfl | (simp; done) | (simp [*]; done)), H', ⟨by first | omega | exact Nat.le_refl _⟩, ⟨bk_ BK293.out⟩, ⟨bk_ BK294.out⟩, ⟨bk_ BK295.out⟩, ⟨es_⟩⟩
  ·replace c8 := Bool.eq_false_iff.mpr c8
   subst c8
   have H1 : (if a2_2 = true then (spec_l4K_sum.j0 k true a0_0 a0_1 a1_0 a1_1 false a1_3 a1_4 a2_0 a2_1 a2_2 a2_3 a2_4) else (if a1_1 = true then (if a2_1 = true then (spec_l4K_sum.j0 k (a1_0 != a2_0) a0_0 a0_1 a1_0 a1_1 false a1_3 a1_4 a2_0 a2_1 a2_2 a2_3 a2_4) else (spec_l4K_sum.j0 k false a0_0 a0_1 a1_0 a1_1 false a1_3 a1_4 a2_0 a2_1 a2_2 a2_3 a2_4)) else (spec_l4K_sum.j0 k false a0_0 a0_1 a1_0 a1_1 false a1_3 a1_4 a2_0 a2_1 a2_2 a2_3 a2_4))) = some r := by rw [if_neg (show ¬ (false = true) by decide)] at H; first | done | exact H
   clear H
   have H := H1
   clear H1
   by_cases c12 : a2_2 = true
   ·subst c12
    have H1 : (spec_l4K_sum.j0 k true a0_0 a0_1 a1_0 a1_1 false a1_3 a1_4 a2_0 a2_1 true a2_3 a2_4) = some r := by rw [if_pos rfl] at H; first | done | exact H
    clear H
    have H := H1
    clear H1
    have H' := Aside0.mk H
    clear H
    have hnb13 := NB294_293.out
    have hnc13 := NB293_294.out
    have hnb14 := NB294_295.out
    have hnc14 := NB295_294.out
    obtain ⟨_, _, _, _, _, _, _, _, _, _⟩ := zc5_ BK294.out
    have hnb16 := NB295_293.out
    have hnc16 := NB293_295.out
    obtain ⟨_, _, _, _, _, _, _, _, _, _⟩ := zc5_ BK295.out
    go_wp2
    go_meet
    case rel => exact ⟨_, (true), (by first | rfl | (simp; done) | (simp [*]; done)), H', ⟨by first | omega | exact Nat.le_refl _⟩, ⟨bk_ BK293.out⟩, ⟨bk_ BK294.out⟩, ⟨bk_ BK295.out⟩, ⟨es_⟩⟩
   ·replace c12 := Bool.eq_false_iff.mpr c12
    subst c12
    have H1 : (if a1_1 = true then (if a2_1 = true then (spec_l4K_sum.j0 k (a1_0 != a2_0) a0_0 a0_1 a1_0 a1_1 false a1_3 a1_4 a2_0 a2_1 false a2_3 a2_4) else (spec_l4K_sum.j0 k false a0_0 a0_1 a1_0 a1_1 false a1_3 a1_4 a2_0 a2_1 false a2_3 a2_4)) else (spec_l4K_sum.j0 k false a0_0 a0_1 a1_0 a1_1 false a1_3 a1_4 a2_0 a2_1 false a2_3 a2_4)) = some r := by rw [if_neg (show ¬ (false = true) by decide)] at H; first | done | exact H
    clear H
    have H := H1
    clear H1
    by_cases c18 : a1_1 = true
    ·subst c18
     have H1 : (if a2_1 = true then (spec_l4K_sum.j0 k (a1_0 != a2_0) a0_0 a0_1 a1_0 true false a1_3 a1_4 a2_0 a2_1 false a2_3 a2_4) else (spec_l4K_sum.j0 k false a0_0 a0_1 a1_0 true false a1_3 a1_4 a2_0 a2_1 false a2_3 a2_4)) = some r := by rw [if_pos rfl] at H; first | done | exact H
     clear H
     have H := H1
     clear H1
     by_cases c19 : a2_1 = true
     ·subst c19
      have H1 : (spec_l4K_sum.j0 k (a1_0 != a2_0) a0_0 a0_1 a1_0 true false a1_3 a1_4 a2_0 true false a2_3 a2_4) = some r := by rw [if_pos rfl] at H; first | done | exact H
      clear H
      have H := H1
      clear H1
      have H' := Aside0.mk H
      clear H
      have hnb20 := NB294_293.out
      have hnc20 := NB293_294.out
      have hnb21 := NB294_295.out
      have hnc21 := NB295_294.out
      obtain ⟨_, _, _, _, _, _, _, _, _, _⟩ := zc5_ BK294.out
      have hnb23 := NB295_293.out
      have hnc23 := NB293_295.out
      obtain ⟨_, _, _, _, _, _, _, _, _, _⟩ := zc5_ BK295.out
      go_wp2
      go_meet
      case rel => exact ⟨_, ((a1_0 != a2_0)), (by first | rfl | (simp; done) | (simp [*]; done)), H', ⟨by first | omega | exact Nat.le_refl _⟩, ⟨bk_ BK293.out⟩, ⟨bk_ BK294.out⟩, ⟨bk_ BK295.out⟩, ⟨es_⟩⟩
     ·replace c19 := Bool.eq_false_iff.mpr c19
      subst c19
      have H1 : (spec_l4K_sum.j0 k false a0_0 a0_1 a1_0 true false a1_3 a1_4 a2_0 false false a2_3 a2_4) = some r := by rw [if_neg (show ¬ (false = true) by decide)] at H; first | done | exact H
      clear H
      have H := H1
      clear H1
      have H' := Aside0.mk H
      clear H
      have hnb25 := NB294_293.out
      have hnc25 := NB293_294.out
      have hnb26 := NB294_295.out
      have hnc26 := NB295_294.out
      obtain ⟨_, _, _, _, _, _, _, _, _, _⟩ := zc5_ BK294.out
      have hnb28 := NB295_293.out
      have hnc28 := NB293_295.out
      obtain ⟨_, _, _, _, _, _, _, _, _, _⟩ := zc5_ BK295.out
      go_wp2
      go_meet
      case rel => exact ⟨_, (false), (by first | rfl | (simp; done) | (simp [*]; done)), H', ⟨by first | omega | exact Nat.le_refl _⟩, ⟨bk_ BK293.out⟩, ⟨bk_ BK294.out⟩, ⟨bk_ BK295.out⟩, ⟨es_⟩⟩
    ·replace c18 := Bool.eq_false_iff.mpr c18
     subst c18
     have H1 : (spec_l4K_sum.j0 k false a0_0 a0_1 a1_0 false false a1_3 a1_4 a2_0 a2_1 false a2_3 a2_4) = some r := by rw [if_neg (show ¬ (false = true) by decide)] at H; first | done | exact H
     clear H
     have H := H1
     clear H1
     have H' := Aside0.mk H
     clear H
     have hnb30 := NB294_293.out
     have hnc30 := NB293_294.out
     have hnb31 := NB294_295.out
     have hnc31 := NB295_294.out
     obtain ⟨_, _, _, _, _, _, _, _, _, _⟩ := zc5_ BK294.out
     have hnb33 := NB295_293.out
     have hnc33 := NB293_295.out
     obtain ⟨_, _, _, _, _, _, _, _, _, _⟩ := zc5_ BK295.out
     go_wp2
     go_meet
     case rel => exact ⟨_, (false), (by first | rfl | (simp; done) | (simp [*]; done)), H', ⟨by first | omega | exact Nat.le_refl _⟩, ⟨bk_ BK293.out⟩, ⟨bk_ BK294.out⟩, ⟨bk_ BK295.out⟩, ⟨es_⟩⟩
 case rest =>
  clear HC4
  try clear p2
  obtain ⟨kq, x10_3, rfl, HA, HJ3, BK293, BK294, BK295, HB⟩ := hcut
  cases kq with
  | zero => exact absurd HA.out (by simp [spec_l4K_sum.j0])
  | succ kj3 =>
   have H := HA.out
   clear HA
   simp only [spec_l4K_sum.j0] at H
   by_cases c35 : x10_3 = true
   ·subst c35
    have H1 : ((spec_l4K_nan.f a0_0 a0_1).bind fun t296 => (some t296)) = some r := by rw [if_pos rfl] at H; first | done | exact H
    clear H
    have H := H1
    clear H1
    replace H := Option.bind_eq_some_iff.mp H
    obtain ⟨t296, A360, H⟩ := H
    try dsimp only at H
    have A36 := Aside0.mk A360
    clear A360
    obtain rfl := Option.some.inj H
    have hnb37 := NB293_294.out
    have hnc37 := NB294_293.out
    have hnb38 := NB293_295.out
    have hnc38 := NB295_293.out
    obtain ⟨_, _, _, _⟩ := zc2_ BK293.out
    go_wp2_with (first | ((with_reducible refine gate_callee (f := 114) rfl ?_); refine gl_ (some 33) rfl rfl Try.func114 (by kernel_rfl) rfl #[.agg #[.int .u64 a0_0, .int .u64 a0_1]] rfl ?_; (with_reducible refine (spec_l4K_nan.calls a0_0 a0_1 t296 _ A36.out).mono ?_); rintro e w40 ⟨rfl, hb⟩; refine ⟨_, rfl, ?_⟩; replace BK293 := bb_ BK293 hb; replace BK294 := bb_ BK294 hb; replace BK295 := bb_ BK295 hb; replace HB := eh_ hb; (try clear hb)))
    go_ret
    exact ⟨by first | rfl | (simp [errW_none, errW_some] <;> rfl) | (simp [*, errW_none, errW_some] <;> rfl), es_⟩
   ·replace c35 := Bool.eq_false_iff.mpr c35
    subst c35
    have H1 : (if a1_1 = true then ((spec_l4K_inf.f a0_0 a0_1 a1_0).bind fun t297 => (some t297)) else (if a2_1 = true then ((spec_l4K_inf.f a0_0 a0_1 a2_0).bind fun t298 => (some t298)) else (if a1_4 < a2_4 then ((spec_l4K_sum.f kj3 a0_0 a0_1 a2_0 a2_1 a2_2 a2_3 a2_4 a1_0 a1_1 a1_2 a1_3 a1_4).bind fun t299 => (some t299)) else (if (IntKind.u64.wrap (wrap64 (a1_4 - a2_4))) ≤ 30 then (if 0 ≤ (IntKind.u64.wrap (wrap64 (a1_4 - a2_4))) then (spec_l4K_sum.j1 kj3 false a0_0 a0_1 a1_0 a1_1 a1_2 (shl .u64 a1_3 (IntKind.u64.wrap (wrap64 (a1_4 - a2_4)))) a1_4 a2_0 a2_1 a2_2 a2_3 a2_4) else (none)) else (if (IntKind.u64.wrap ((IntKind.u64.wrap (wrap64 (a1_4 - a2_4))) - 30)) > 60 then (spec_l4K_sum.j1 kj3 (a2_3 != 0) a0_0 a0_1 a1_0 a1_1 a1_2 (IntKind.u64.wrap (a1_3 * 1073741824)) a1_4 a2_0 a2_1 a2_2 0 (wrap64 (a1_4 - 30))) else (if 0 ≤ (IntKind.u64.wrap ((IntKind.u64.wrap (wrap64 (a1_4 - a2_4))) - 30)) then (spec_l4K_sum.j1 kj3 ((Go.bits .and .u64 a2_3 (IntKind.u64.wrap ((shl .u64 1 (IntKind.u64.wrap ((IntKind.u64.wrap (wrap64 (a1_4 - a2_4))) - 30))) - 1))) != 0) a0_0 a0_1 a1_0 a1_1 a1_2 (IntKind.u64.wrap (a1_3 * 1073741824)) a1_4 a2_0 a2_1 a2_2 (shr .u64 a2_3 (IntKind.u64.wrap ((IntKind.u64.wrap (wrap64 (a1_4 - a2_4))) - 30))) (wrap64 (a1_4 - 30))) else (none))))))) = some r := by rw [if_neg (show ¬ (false = true) by decide)] at H; first | done | exact H
    clear H
    have H := H1
    clear H1
    by_cases c41 : a1_1 = true
    ·subst c41
     have H1 : ((spec_l4K_inf.f a0_0 a0_1 a1_0).bind fun t297 => (some t297)) = some r := by rw [if_pos rfl] at H; first | done | exact H
     clear H
     have H := H1
     clear H1
     replace H := Option.bind_eq_some_iff.mp H
     obtain ⟨t297, A420, H⟩ := H
     try dsimp only at H
     have A42 := Aside0.mk A420
     clear A420
     obtain rfl := Option.some.inj H
     have hnb43 := NB294_293.out
     have hnc43 := NB293_294.out
     have hnb44 := NB294_295.out
     have hnc44 := NB295_294.out
     obtain ⟨_, _, _, _, _, _, _, _, _, _⟩ := zc5_ BK294.out
     have hnb46 := NB293_295.out
     have hnc46 := NB295_293.out
     obtain ⟨_, _, _, _⟩ := zc2_ BK293.out
     go_wp2_with (first | ((with_reducible refine gate_callee (f := 115) rfl ?_); refine gl_ (some 40) rfl rfl Try.func115 (by kernel_rfl) rfl #[.agg #[.int .u64 a0_0, .int .u64 a0_1], .bool a1_0] rfl ?_; (with_reducible refine (spec_l4K_inf.calls a0_0 a0_1 a1_0 t297 _ A42.out).mono ?_); rintro e w48 ⟨rfl, hb⟩; refine ⟨_, rfl, ?_⟩; replace BK293 := bb_ BK293 hb; replace BK294 := bb_ BK294 hb; replace BK295 := bb_ BK295 hb; replace HB := eh_ hb; (try clear hb)))
     go_ret
     exact ⟨by first | rfl | (simp [errW_none, errW_some] <;> rfl) | (simp [*, errW_none, errW_some] <;> rfl), es_⟩
    ·replace c41 := Bool.eq_false_iff.mpr c41
     subst c41
     have H1 : (if a2_1 = true then ((spec_l4K_inf.f a0_0 a0_1 a2_0).bind fun t298 => (some t298)) else (if a1_4 < a2_4 then ((spec_l4K_sum.f kj3 a0_0 a0_1 a2_0 a2_1 a2_2 a2_3 a2_4 a1_0 false a1_2 a1_3 a1_4).bind fun t299 => (some t299)) else (if (IntKind.u64.wrap (wrap64 (a1_4 - a2_4))) ≤ 30 then (if 0 ≤ (IntKind.u64.wrap (wrap64 (a1_4 - a2_4))) then (spec_l4K_sum.j1 kj3 false a0_0 a0_1 a1_0 false a1_2 (shl .u64 a1_3 (IntKind.u64.wrap (wrap64 (a1_4 - a2_4)))) a1_4 a2_0 a2_1 a2_2 a2_3 a2_4) else (none)) else (if (IntKind.u64.wrap ((IntKind.u64.wrap (wrap64 (a1_4 - a2_4))) - 30)) > 60 then (spec_l4K_sum.j1 kj3 (a2_3 != 0) a0_0 a0_1 a1_0 false a1_2 (IntKind.u64.wrap (a1_3 * 1073741824)) a1_4 a2_0 a2_1 a2_2 0 (wrap64 (a1_4 - 30))) else (if 0 ≤ (IntKind.u64.wrap ((IntKind.u64.wrap (wrap64 (a1_4 - a2_4))) - 30)) then (spec_l4K_sum.j1 kj3 ((Go.bits .and .u64 a2_3 (IntKind.u64.wrap ((shl .u64 1 (IntKind.u64.wrap ((IntKind.u64.wrap (wrap64 (a1_4 - a2_4))) - 30))) - 1))) != 0) a0_0 a0_1 a1_0 false a1_2 (IntKind.u64.wrap (a1_3 * 1073741824)) a1_4 a2_0 a2_1 a2_2 (shr .u64 a2_3 (IntKind.u64.wrap ((IntKind.u64.wrap (wrap64 (a1_4 - a2_4))) - 30))) (wrap64 (a1_4 - 30))) else (none)))))) = some r := by rw [if_neg (show ¬ (false = true) by decide)] at H; first | done | exact H
     clear H
     have H := H1
     clear H1
     by_cases c49 : a2_1 = true
     ·subst c49
      have H1 : ((spec_l4K_inf.f a0_0 a0_1 a2_0).bind fun t298 => (some t298)) = some r := by rw [if_pos rfl] at H; first | done | exact H
      clear H
      have H := H1
      clear H1
      replace H := Option.bind_eq_some_iff.mp H
      obtain ⟨t298, A500, H⟩ := H
      try dsimp only at H
      have A50 := Aside0.mk A500
      clear A500
      obtain rfl := Option.some.inj H
      have hnb51 := NB294_293.out
      have hnc51 := NB293_294.out
      have hnb52 := NB294_295.out
      have hnc52 := NB295_294.out
      obtain ⟨_, _, _, _, _, _, _, _, _, _⟩ := zc5_ BK294.out
      have hnb54 := NB295_293.out
      have hnc54 := NB293_295.out
      obtain ⟨_, _, _, _, _, _, _, _, _, _⟩ := zc5_ BK295.out
      obtain ⟨_, _, _, _⟩ := zc2_ BK293.out
      go_wp2_with (first | ((with_reducible refine gate_callee (f := 115) rfl ?_); refine gl_ (some 47) rfl rfl Try.func115 (by kernel_rfl) rfl #[.agg #[.int .u64 a0_0, .int .u64 a0_1], .bool a2_0] rfl ?_; (with_reducible refine (spec_l4K_inf.calls a0_0 a0_1 a2_0 t298 _ A50.out).mono ?_); rintro e w57 ⟨rfl, hb⟩; refine ⟨_, rfl, ?_⟩; replace BK293 := bb_ BK293 hb; replace BK294 := bb_ BK294 hb; replace BK295 := bb_ BK295 hb; replace HB := eh_ hb; (try clear hb)))
      go_ret
      exact ⟨by first | rfl | (simp [errW_none, errW_some] <;> rfl) | (simp [*, errW_none, errW_some] <;> rfl), es_⟩
     ·replace c49 := Bool.eq_false_iff.mpr c49
      subst c49
      have H1 : (if a1_4 < a2_4 then ((spec_l4K_sum.f kj3 a0_0 a0_1 a2_0 false a2_2 a2_3 a2_4 a1_0 false a1_2 a1_3 a1_4).bind fun t299 => (some t299)) else (if (IntKind.u64.wrap (wrap64 (a1_4 - a2_4))) ≤ 30 then (if 0 ≤ (IntKind.u64.wrap (wrap64 (a1_4 - a2_4))) then (spec_l4K_sum.j1 kj3 false a0_0 a0_1 a1_0 false a1_2 (shl .u64 a1_3 (IntKind.u64.wrap (wrap64 (a1_4 - a2_4)))) a1_4 a2_0 false a2_2 a2_3 a2_4) else (none)) else (if (IntKind.u64.wrap ((IntKind.u64.wrap (wrap64 (a1_4 - a2_4))) - 30)) > 60 then (spec_l4K_sum.j1 kj3 (a2_3 != 0) a0_0 a0_1 a1_0 false a1_2 (IntKind.u64.wrap (a1_3 * 1073741824)) a1_4 a2_0 false a2_2 0 (wrap64 (a1_4 - 30))) else (if 0 ≤ (IntKind.u64.wrap ((IntKind.u64.wrap (wrap64 (a1_4 - a2_4))) - 30)) then (spec_l4K_sum.j1 kj3 ((Go.bits .and .u64 a2_3 (IntKind.u64.wrap ((shl .u64 1 (IntKind.u64.wrap ((IntKind.u64.wrap (wrap64 (a1_4 - a2_4))) - 30))) - 1))) != 0) a0_0 a0_1 a1_0 false a1_2 (IntKind.u64.wrap (a1_3 * 1073741824)) a1_4 a2_0 false a2_2 (shr .u64 a2_3 (IntKind.u64.wrap ((IntKind.u64.wrap (wrap64 (a1_4 - a2_4))) - 30))) (wrap64 (a1_4 - 30))) else (none))))) = some r := by rw [if_neg (show ¬ (false = true) by decide)] at H; first | done | exact H
      clear H
      have H := H1
      clear H1
      by_cases c58 : a1_4 < a2_4
      ·rw [if_pos c58] at H
       have c58b0 : decide (a1_4 < a2_4) = true := decide_eq_true c58
       clear c58
       replace H := Option.bind_eq_some_iff.mp H
       obtain ⟨t299, A590, H⟩ := H
       try dsimp only at H
       have A59 := Aside0.mk A590
       clear A590
       obtain rfl := Option.some.inj H
       have hnb60 := NB294_293.out
       have hnc60 := NB293_294.out
       have hnb61 := NB294_295.out
       have hnc61 := NB295_294.out
       obtain ⟨_, _, _, _, _, _, _, _, _, _⟩ := zc5_ BK294.out
       have hnb63 := NB295_293.out
       have hnc63 := NB293_295.out
       obtain ⟨_, _, _, _, _, _, _, _, _, _⟩ := zc5_ BK295.out
       obtain ⟨_, _, _, _⟩ := zc2_ BK293.out
       go_wp2_with (first | ((with_reducible refine gate_callee (f := 90) rfl ?_); refine gl_ (some 56) rfl rfl Try.func90 (by kernel_rfl) rfl #[.agg #[.int .u64 a0_0, .int .u64 a0_1], .agg #[.bool a2_0, .bool false, .bool a2_2, .int .u64 a2_3, .int .i64 a2_4], .agg #[.bool a1_0, .bool false, .bool a1_2, .int .u64 a1_3, .int .i64 a1_4]] rfl ?_; (with_reducible refine (ih kj3 (by have := HJ3.out; omega) a0_0 a0_1 a2_0 false a2_2 a2_3 a2_4 a1_0 false a1_2 a1_3 a1_4 t299 _ A59.out).mono ?_); rintro e w66 ⟨rfl, hb⟩; refine ⟨_, rfl, ?_⟩; replace BK293 := bb_ BK293 hb; replace BK294 := bb_ BK294 hb; replace BK295 := bb_ BK295 hb; replace HB := eh_ hb; (try clear hb)))
       go_ret
       exact ⟨by first | rfl | (simp [errW_none, errW_some] <;> rfl) | (simp [*, errW_none, errW_some] <;> rfl), es_⟩
      ·rw [if_neg c58] at H
       have c58b0 : decide (a1_4 < a2_4) = false := decide_eq_false c58
       clear c58
       have HC67 := Aside0.mk H
       clear H
       have hnb68 := NB294_293.out
       have hnc68 := NB293_294.out
       have hnb69 := NB294_295.out
       have hnc69 := NB295_294.out
       obtain ⟨_, _, _, _, _, _, _, _, _, _⟩ := zc5_ BK294.out
       have hnb71 := NB295_293.out
       have hnc71 := NB293_295.out
       obtain ⟨_, _, _, _, _, _, _, _, _, _⟩ := zc5_ BK295.out
       go_upto_if 64 with (fail)
       go_cut [8] (fun v8 wc => ∃ (kq : Nat) (x8_66 : Bool) (x295003_66 : Int) (x296003_66 : Int) (x296004_66 : Int), v8 = .bool x8_66 ∧ Aside0 (spec_l4K_sum.j1 kq x8_66 a0_0 a0_1 a1_0 false a1_2 x295003_66 a1_4 a2_0 false a2_2 x296003_66 x296004_66 = some r) ∧ Aside0 (kq ≤ kj3) ∧ Aside0 (wc.heap[gb293]? = some (.cells #[.int .u64 a0_0, .int .u64 a0_1] 109 (0, 0))) ∧ Aside0 (wc.heap[gb294]? = some (.cells #[.bool a1_0, .bool false, .bool a1_2, .int .u64 x295003_66, .int .i64 a1_4] 114 (0, 0))) ∧ Aside0 (wc.heap[gb295]? = some (.cells #[.bool a2_0, .bool false, .bool a2_2, .int .u64 x296003_66, .int .i64 x296004_66] 114 (0, 0))) ∧ Aside0 (Below w.heap.size w wc))
       case first =>
        have H := HC67.out
        clear HC67
        by_cases c73 : (IntKind.u64.wrap (wrap64 (a1_4 - a2_4))) ≤ 30
        ·rw [if_pos c73] at H
         have c73b0 : decide ((IntKind.u64.wrap (wrap64 (a1_4 - a2_4))) ≤ 30) = true := decide_eq_true c73
         clear c73
         (first | rw [c73b0] | (simp only [i64_w, i32_w]; rw [c73b0]) | skip)
         obtain ⟨ji74, hji74⟩ : ∃ j_ : Int, (IntKind.u64.wrap (wrap64 (a1_4 - a2_4))) = j_ := ⟨_, rfl⟩
         first | rw [hji74] at H | simp only [hji74] at H
         (try rw [hji74] at c73b0)
         by_cases c75 : 0 ≤ (ji74)
         ·rw [if_pos c75] at H
          have c75b0 := eq_true c75
          have c75b1 : decide (0 ≤ (ji74)) = true := decide_eq_true c75
          clear c75
          obtain ⟨ji76, hji76⟩ : ∃ j_ : Int, (shl .u64 a1_3 (ji74)) = j_ := ⟨_, rfl⟩
          first | rw [hji76] at H | simp only [hji76] at H
          have hji76_ : (IntKind.u64.wrap (a1_3 * 2 ^ min (ji74).toNat 64)) = ji76 := hji76
          have hji76z : (ji74) ≤ 64 → (IntKind.u64.wrap (a1_3 * 2 ^ (ji74).toNat)) = ji76 := shl_small hji76
          have H' := Aside0.mk H
          clear H
          have hnb77 := NB294_293.out
          have hnc77 := NB293_294.out
          have hnb78 := NB294_295.out
          have hnc78 := NB295_294.out
          obtain ⟨_, _, _, _, _, _, _, _, _, _⟩ := zc5_ BK294.out
          go_wp2
          go_meet
          case rel => exact ⟨_, (false), (ji76), (a2_3), (a2_4), (by first | rfl | (simp; done) | (simp [*]; done)), H', ⟨by have := HJ3.out; first | omega | exact Nat.le_refl _⟩, ⟨by (with_reducible repeat first | apply bN | apply bD | apply bA); refine blk_far ?_ NB293_294.out _; (with_reducible repeat first | apply bN | apply bD | apply bA); exact BK293.out⟩, ⟨by (with_reducible repeat first | apply bN | apply bD | apply bA); refine blk_put (cs := #[.bool a1_0, .bool false, .bool a1_2, .int .u64 a1_3, .int .i64 a1_4]) ?_ 3 _ rfl; (with_reducible repeat first | apply bN | apply bD | apply bA); exact BK294.out⟩, ⟨by (with_reducible repeat first | apply bN | apply bD | apply bA); refine blk_far ?_ NB295_294.out _; (with_reducible repeat first | apply bN | apply bD | apply bA); exact BK295.out⟩, ⟨es_⟩⟩
         ·rw [if_neg c75] at H
          exact absurd H (by simp)
        ·rw [if_neg c73] at H
         have c73b0 : decide ((IntKind.u64.wrap (wrap64 (a1_4 - a2_4))) ≤ 30) = false := decide_eq_false c73
         clear c73
         (first | rw [c73b0] | (simp only [i64_w, i32_w]; rw [c73b0]) | skip)
         by_cases c80 : (IntKind.u64.wrap ((IntKind.u64.wrap (wrap64 (a1_4 - a2_4))) - 30)) > 60
         ·rw [if_pos c80] at H
          have c80b0 : decide (60 < (IntKind.u64.wrap ((IntKind.u64.wrap (wrap64 (a1_4 - a2_4))) - 30))) = true := decide_eq_true c80
          clear c80
          have H' := Aside0.mk H
          clear H
          have hnb81 := NB294_293.out
          have hnc81 := NB293_294.out
          have hnb82 := NB294_295.out
          have hnc82 := NB295_294.out
          obtain ⟨_, _, _, _, _, _, _, _, _, _⟩ := zc5_ BK294.out
          have hnb84 := NB295_293.out
          have hnc84 := NB293_295.out
          obtain ⟨_, _, _, _, _, _, _, _, _, _⟩ := zc5_ BK295.out
          go_wp2
          go_meet
          case rel => exact ⟨_, ((a2_3 != 0)), (IntKind.u64.wrap (a1_3 * 1073741824)), (0), (wrap64 (a1_4 - 30)), (by first | rfl | (simp; done) | (simp [*]; done)), H', ⟨by have := HJ3.out; first | omega | exact Nat.le_refl _⟩, ⟨by (with_reducible repeat first | apply bN | apply bD | apply bA); refine blk_far ?_ NB293_295.out _; (with_reducible repeat first | apply bN | apply bD | apply bA); refine blk_far ?_ NB293_295.out _; (with_reducible repeat first | apply bN | apply bD | apply bA); refine blk_far ?_ NB293_294.out _; (with_reducible repeat first | apply bN | apply bD | apply bA); exact BK293.out⟩, ⟨by (with_reducible repeat first | apply bN | apply bD | apply bA); refine blk_far ?_ NB294_295.out _; (with_reducible repeat first | apply bN | apply bD | apply bA); refine blk_far ?_ NB294_295.out _; (with_reducible repeat first | apply bN | apply bD | apply bA); refine blk_put (cs := #[.bool a1_0, .bool false, .bool a1_2, .int .u64 a1_3, .int .i64 a1_4]) ?_ 3 _ rfl; (with_reducible repeat first | apply bN | apply bD | apply bA); exact BK294.out⟩, ⟨by (with_reducible repeat first | apply bN | apply bD | apply bA); refine blk_put (cs := #[.bool a2_0, .bool false, .bool a2_2, .int .u64 0, .int .i64 a2_4]) ?_ 4 _ rfl; (with_reducible repeat first | apply bN | apply bD | apply bA); refine blk_put (cs := #[.bool a2_0, .bool false, .bool a2_2, .int .u64 a2_3, .int .i64 a2_4]) ?_ 3 _ rfl; (with_reducible repeat first | apply bN | apply bD | apply bA); refine blk_far ?_ NB295_294.out _; (with_reducible repeat first | apply bN | apply bD | apply bA); exact BK295.out⟩, ⟨es_⟩⟩
         ·rw [if_neg c80] at H
          have c80b0 : decide (60 < (IntKind.u64.wrap ((IntKind.u64.wrap (wrap64 (a1_4 - a2_4))) - 30))) = false := decide_eq_false c80
          clear c80
          obtain ⟨ji86, hji86⟩ : ∃ j_ : Int, (IntKind.u64.wrap ((IntKind.u64.wrap (wrap64 (a1_4 - a2_4))) - 30)) = j_ := ⟨_, rfl⟩
          first | rw [hji86] at H | simp only [hji86] at H
          (try rw [hji86] at c80b0)
          by_cases c87 : 0 ≤ (ji86)
          ·rw [if_pos c87] at H
           have c87b0 := eq_true c87
           have c87b1 : decide (0 ≤ (ji86)) = true := decide_eq_true c87
           clear c87
           obtain ⟨ji88, hji88⟩ : ∃ j_ : Int, (shl .u64 1 (ji86)) = j_ := ⟨_, rfl⟩
           first | rw [hji88] at H | simp only [hji88] at H
           have hji88_ : (IntKind.u64.wrap (1 * 2 ^ min (ji86).toNat 64)) = ji88 := hji88
           have hji88z : (ji86) ≤ 64 → (IntKind.u64.wrap (1 * 2 ^ (ji86).toNat)) = ji88 := shl_small hji88
           have hji88u : (IntKind.u64.wrap (2 ^ min (ji86).toNat 64)) = ji88 := by have h_ := hji88_; rw [Int.one_mul] at h_; exact h_
           have hji88v : (ji86) ≤ 64 → (IntKind.u64.wrap (2 ^ (ji86).toNat)) = ji88 := fun hle_ => by have h_ := hji88z hle_; rw [Int.one_mul] at h_; exact h_
           have c89b0 := eq_true (of_decide_eq_true (by first | (with_reducible assumption) | assumption) : 0 ≤ (ji86))
           obtain ⟨ji90, hji90⟩ : ∃ j_ : Int, (shr .u64 a2_3 (ji86)) = j_ := ⟨_, rfl⟩
           first | rw [hji90] at H | simp only [hji90] at H
           have hji90_ : (a2_3 / 2 ^ min (ji86).toNat 64) = ji90 := hji90
           have hji90z : (ji86) ≤ 64 → (a2_3 / 2 ^ (ji86).toNat) = ji90 := shr_small hji90
           have H' := Aside0.mk H
           clear H
           have hnb91 := NB294_293.out
           have hnc91 := NB293_294.out
           have hnb92 := NB294_295.out
           have hnc92 := NB295_294.out
           obtain ⟨_, _, _, _, _, _, _, _, _, _⟩ := zc5_ BK294.out
           have hnb94 := NB295_293.out
           have hnc94 := NB293_295.out
           obtain ⟨_, _, _, _, _, _, _, _, _, _⟩ := zc5_ BK295.out
           go_wp2
           go_meet
           case rel => exact ⟨_, (((Go.bits .and .u64 a2_3 (IntKind.u64.wrap ((ji88) - 1))) != 0)), (IntKind.u64.wrap (a1_3 * 1073741824)), (ji90), (wrap64 (a1_4 - 30)), (by first | rfl | (simp; done) | (simp only [← hji88] <;> (first | rfl | simp)) | (simp [*]; done)), H', ⟨by have := HJ3.out; first | omega | exact Nat.le_refl _⟩, ⟨by (with_reducible repeat first | apply bN | apply bD | apply bA); refine blk_far ?_ NB293_295.out _; (with_reducible repeat first | apply bN | apply bD | apply bA); refine blk_far ?_ NB293_295.out _; (with_reducible repeat first | apply bN | apply bD | apply bA); refine blk_far ?_ NB293_294.out _; (with_reducible repeat first | apply bN | apply bD | apply bA); exact BK293.out⟩, ⟨by (with_reducible repeat first | apply bN | apply bD | apply bA); refine blk_far ?_ NB294_295.out _; (with_reducible repeat first | apply bN | apply bD | apply bA); refine blk_far ?_ NB294_295.out _; (with_reducible repeat first | apply bN | apply bD | apply bA); refine blk_put (cs := #[.bool a1_0, .bool false, .bool a1_2, .int .u64 a1_3, .int .i64 a1_4]) ?_ 3 _ rfl; (with_reducible repeat first | apply bN | apply bD | apply bA); exact BK294.out⟩, ⟨by (with_reducible repeat first | apply bN | apply bD | apply bA); refine blk_put (cs := #[.bool a2_0, .bool false, .bool a2_2, .int .u64 ji90, .int .i64 a2_4]) ?_ 4 _ rfl; (with_reducible repeat first | apply bN | apply bD | apply bA); refine blk_put (cs := #[.bool a2_0, .bool false, .bool a2_2, .int .u64 a2_3, .int .i64 a2_4]) ?_ 3 _ rfl; (with_reducible repeat first | apply bN | apply bD | apply bA); refine blk_far ?_ NB295_294.out _; (with_reducible repeat first | apply bN | apply bD | apply bA); exact BK295.out⟩, ⟨es_⟩⟩
          ·rw [if_neg c87] at H
           exact absurd H (by simp)
       case rest =>
        clear HC67
        try clear p2
        try clear p6
        try clear p64
        try clear p2
        obtain ⟨kq, x8_66, x295003_66, x296003_66, x296004_66, rfl, HA, HJ66, BK293, BK294, BK295, HB⟩ := hcut
        cases kq with
        | zero => exact absurd HA.out (by simp [spec_l4K_sum.j1])
        | succ kj66 =>
         have H := HA.out
         clear HA
         simp only [spec_l4K_sum.j1] at H
         by_cases c96 : (a1_0 == a2_0) = true
         ·rw [if_pos c96] at H
          have c96b0 : (a1_0 == a2_0) = true := c96
          (try (have c96b1 : decide (a1_0 = a2_0) = true := by simpa using c96))
          (try (have c96b2 : (a1_0 == a2_0) = true := by simpa using c96))
          clear c96
          replace H := Option.bind_eq_some_iff.mp H
          obtain ⟨t300, A970, H⟩ := H
          try dsimp only at H
          have A97 := Aside0.mk A970
          clear A970
          obtain rfl := Option.some.inj H
          have hnb98 := NB294_293.out
          have hnc98 := NB293_294.out
          have hnb99 := NB294_295.out
          have hnc99 := NB295_294.out
          obtain ⟨_, _, _, _, _, _, _, _, _, _⟩ := zc5_ BK294.out
          have hnb101 := NB295_293.out
          have hnc101 := NB293_295.out
          obtain ⟨_, _, _, _, _, _, _, _, _, _⟩ := zc5_ BK295.out
          obtain ⟨_, _, _, _⟩ := zc2_ BK293.out
          go_wp2_with (first | ((with_reducible refine gate_callee (f := 120) rfl ?_); refine gl_ (some 116) rfl rfl Try.func120 (by kernel_rfl) rfl #[.agg #[.int .u64 a0_0, .int .u64 a0_1], .bool a1_0, .int .u64 (IntKind.u64.wrap (x295003_66 + x296003_66)), .int .i64 x296004_66, .bool x8_66] rfl ?_; (with_reducible refine (spec_l4K_round.calls kj66 a0_0 a0_1 a1_0 (IntKind.u64.wrap (x295003_66 + x296003_66)) x296004_66 x8_66 t300 _ A97.out).mono ?_); rintro e w104 ⟨rfl, hb⟩; refine ⟨_, rfl, ?_⟩; replace BK293 := bb_ BK293 hb; replace BK294 := bb_ BK294 hb; replace BK295 := bb_ BK295 hb; replace HB := eh_ hb; (try clear hb)))
          go_ret
          exact ⟨by first | rfl | (simp [errW_none, errW_some] <;> rfl) | (simp [*, errW_none, errW_some] <;> rfl), es_⟩
         ·rw [if_neg c96] at H
          have c96b0 : (a1_0 == a2_0) = false := by simpa using c96
          (try (have c96b1 : decide (a1_0 = a2_0) = false := by simpa using c96))
          (try (have c96b2 : (a1_0 == a2_0) = false := by simpa using c96))
          (try (have c96b3 : ¬ (a1_0 = a2_0) := by simpa using c96))
          clear c96
          by_cases c105 : x296003_66 > x295003_66
          ·rw [if_pos c105] at H
           have c105b0 : decide (x295003_66 < x296003_66) = true := decide_eq_true c105
           clear c105
           replace H := Option.bind_eq_some_iff.mp H
           obtain ⟨t301, A1060, H⟩ := H
           try dsimp only at H
           have A106 := Aside0.mk A1060
           clear A1060
           obtain rfl := Option.some.inj H
           have hnb107 := NB294_293.out
           have hnc107 := NB293_294.out
           have hnb108 := NB294_295.out
           have hnc108 := NB295_294.out
           obtain ⟨_, _, _, _, _, _, _, _, _, _⟩ := zc5_ BK294.out
           have hnb110 := NB295_293.out
           have hnc110 := NB293_295.out
           obtain ⟨_, _, _, _, _, _, _, _, _, _⟩ := zc5_ BK295.out
           obtain ⟨_, _, _, _⟩ := zc2_ BK293.out
           go_wp2_with (first | ((with_reducible refine gate_callee (f := 120) rfl ?_); refine gl_ (some 134) rfl rfl Try.func120 (by kernel_rfl) rfl #[.agg #[.int .u64 a0_0, .int .u64 a0_1], .bool a2_0, .int .u64 (IntKind.u64.wrap (x296003_66 - x295003_66)), .int .i64 x296004_66, .bool x8_66] rfl ?_; (with_reducible refine (spec_l4K_round.calls kj66 a0_0 a0_1 a2_0 (IntKind.u64.wrap (x296003_66 - x295003_66)) x296004_66 x8_66 t301 _ A106.out).mono ?_); rintro e w113 ⟨rfl, hb⟩; refine ⟨_, rfl, ?_⟩; replace BK293 := bb_ BK293 hb; replace BK294 := bb_ BK294 hb; replace BK295 := bb_ BK295 hb; replace HB := eh_ hb; (try clear hb)))
           go_ret
           exact ⟨by first | rfl | (simp [errW_none, errW_some] <;> rfl) | (simp [*, errW_none, errW_some] <;> rfl), es_⟩
          ·rw [if_neg c105] at H
           have c105b0 : decide (x295003_66 < x296003_66) = false := decide_eq_false c105
           clear c105
           have HC114 := Aside0.mk H
           clear H
           have hnb115 := NB294_293.out
           have hnc115 := NB293_294.out
           have hnb116 := NB294_295.out
           have hnc116 := NB295_294.out
           obtain ⟨_, _, _, _, _, _, _, _, _, _⟩ := zc5_ BK294.out
           have hnb118 := NB295_293.out
           have hnc118 := NB293_295.out
           obtain ⟨_, _, _, _, _, _, _, _, _, _⟩ := zc5_ BK295.out
           go_upto_if 140 with (fail)
           go_cut [9] (fun v9 wc => ∃ (kq : Nat) (x9_113 : Int), v9 = .int .u64 x9_113 ∧ Aside0 (spec_l4K_sum.j2 kq x8_66 x9_113 a0_0 a0_1 a1_0 false a1_2 x295003_66 a1_4 a2_0 false a2_2 x296003_66 x296004_66 = some r) ∧ Aside0 (kq ≤ kj66) ∧ Aside0 (wc.heap[gb293]? = some (.cells #[.int .u64 a0_0, .int .u64 a0_1] 109 (0, 0))) ∧ Aside0 (wc.heap[gb294]? = some (.cells #[.bool a1_0, .bool false, .bool a1_2, .int .u64 x295003_66, .int .i64 a1_4] 114 (0, 0))) ∧ Aside0 (wc.heap[gb295]? = some (.cells #[.bool a2_0, .bool false, .bool a2_2, .int .u64 x296003_66, .int .i64 x296004_66] 114 (0, 0))) ∧ Aside0 (Below w.heap.size w wc))
           case first =>
            have H := HC114.out
            clear HC114
            by_cases c120 : x8_66 = true
            ·subst c120
             have H1 : (spec_l4K_sum.j2 kj66 true (IntKind.u64.wrap ((IntKind.u64.wrap (x295003_66 - x296003_66)) - 1)) a0_0 a0_1 a1_0 false a1_2 x295003_66 a1_4 a2_0 false a2_2 x296003_66 x296004_66) = some r := by rw [if_pos rfl] at H; first | done | exact H
             clear H
             have H := H1
             clear H1
             have H' := Aside0.mk H
             clear H
             go_wp2
             go_meet
             case rel => exact ⟨_, (IntKind.u64.wrap ((IntKind.u64.wrap (x295003_66 - x296003_66)) - 1)), (by first | rfl | (simp; done) | (simp [*]; done)), H', ⟨by have := HJ3.out; have := HJ66.out; first | omega | exact Nat.le_refl _⟩, ⟨bk_ BK293.out⟩, ⟨bk_ BK294.out⟩, ⟨bk_ BK295.out⟩, ⟨es_⟩⟩
            ·replace c120 := Bool.eq_false_iff.mpr c120
             subst c120
             have H1 : (spec_l4K_sum.j2 kj66 false (IntKind.u64.wrap (x295003_66 - x296003_66)) a0_0 a0_1 a1_0 false a1_2 x295003_66 a1_4 a2_0 false a2_2 x296003_66 x296004_66) = some r := by rw [if_neg (show ¬ (false = true) by decide)] at H; first | done | exact H
             clear H
             have H := H1
             clear H1
             have H' := Aside0.mk H
             clear H
             go_wp2
             go_meet
             case rel => exact ⟨_, (IntKind.u64.wrap (x295003_66 - x296003_66)), (by first | rfl | (simp; done) | (simp [*]; done)), H', ⟨by have := HJ3.out; have := HJ66.out; first | omega | exact Nat.le_refl _⟩, ⟨bk_ BK293.out⟩, ⟨bk_ BK294.out⟩, ⟨bk_ BK295.out⟩, ⟨es_⟩⟩
           case rest =>
            clear HC114
            try clear p2
            try clear p6
            try clear p64
            try clear p2
            try clear p6
            try clear p64
            obtain ⟨kq, x9_113, rfl, HA, HJ113, BK293, BK294, BK295, HB⟩ := hcut
            cases kq with
            | zero => exact absurd HA.out (by simp [spec_l4K_sum.j2])
            | succ kj113 =>
             have H := HA.out
             clear HA
             simp only [spec_l4K_sum.j2] at H
             have HC121 := Aside0.mk H
             clear H
             go_upto_region 27 with (fail)
             go_cut [148] (fun v148 wc => ∃ (kq : Nat) (x148_120 : Bool), v148 = .bool x148_120 ∧ Aside0 (spec_l4K_sum.j3 kq x8_66 x9_113 x148_120 a0_0 a0_1 a1_0 false a1_2 x295003_66 a1_4 a2_0 false a2_2 x296003_66 x296004_66 = some r) ∧ Aside0 (kq ≤ kj113) ∧ Aside0 (wc.heap[gb293]? = some (.cells #[.int .u64 a0_0, .int .u64 a0_1] 109 (0, 0))) ∧ Aside0 (wc.heap[gb294]? = some (.cells #[.bool a1_0, .bool false, .bool a1_2, .int .u64 x295003_66, .int .i64 a1_4] 114 (0, 0))) ∧ Aside0 (wc.heap[gb295]? = some (.cells #[.bool a2_0, .bool false, .bool a2_2, .int .u64 x296003_66, .int .i64 x296004_66] 114 (0, 0))) ∧ Aside0 (Below w.heap.size w wc))
             case first =>
              have H := HC121.out
              clear HC121
              by_cases c122 : x9_113 = 0
              ·rw [if_pos c122] at H
               have c122b0 : (x9_113 == 0) = true := beq_iff_eq.mpr c122
               have c122b1 : (x9_113 != 0) = false := bne_eq_false_iff_eq.mpr c122
               clear c122
               (first | rw [c122b0] | (simp only [i64_w, i32_w]; rw [c122b0]) | skip)
               have H' := Aside0.mk H
               clear H
               go_wp2
               go_meet
               case rel => exact ⟨_, (!x8_66), (by first | rfl | (simp; done) | (simp [*]; done)), H', ⟨by have := HJ3.out; have := HJ66.out; have := HJ113.out; first | omega | exact Nat.le_refl _⟩, ⟨bk_ BK293.out⟩, ⟨bk_ BK294.out⟩, ⟨bk_ BK295.out⟩, ⟨es_⟩⟩
              ·rw [if_neg c122] at H
               have c122b0 : (x9_113 == 0) = false := beq_eq_false_iff_ne.mpr c122
               have c122b1 : (x9_113 != 0) = true := bne_iff_ne.mpr c122
               (first | rw [c122b0] | (simp only [i64_w, i32_w]; rw [c122b0]) | skip)
               have H' := Aside0.mk H
               clear H
               go_wp2
               go_meet
               case rel => exact ⟨_, (false), (by first | rfl | (simp; done) | (simp [*]; done)), H', ⟨by have := HJ3.out; have := HJ66.out; have := HJ113.out; first | omega | exact Nat.le_refl _⟩, ⟨bk_ BK293.out⟩, ⟨bk_ BK294.out⟩, ⟨bk_ BK295.out⟩, ⟨es_⟩⟩
             case rest =>
              clear HC121
              try clear p2
              try clear p6
              try clear p64
              try clear p2
              try clear p6
              try clear p64
              obtain ⟨kq, x148_120, rfl, HA, HJ120, BK293, BK294, BK295, HB⟩ := hcut
              cases kq with
              | zero => exact absurd HA.out (by simp [spec_l4K_sum.j3])
              | succ kj120 =>
               have H := HA.out
               clear HA
               simp only [spec_l4K_sum.j3] at H
               by_cases c123 : x148_120 = true
               ·subst c123
                have H1 : ((spec_l4K_sign.f a0_0 a0_1 false).bind fun t302 => (some t302)) = some r := by rw [if_pos rfl] at H; first | done | exact H
                clear H
                have H := H1
                clear H1
                replace H := Option.bind_eq_some_iff.mp H
                obtain ⟨t302, A1240, H⟩ := H
                try dsimp only at H
                have A124 := Aside0.mk A1240
                clear A1240
                obtain rfl := Option.some.inj H
                have hnb125 := NB293_294.out
                have hnc125 := NB294_293.out
                have hnb126 := NB293_295.out
                have hnc126 := NB295_293.out
                obtain ⟨_, _, _, _⟩ := zc2_ BK293.out
                go_wp2_with (first | ((with_reducible refine gate_callee (f := 116) rfl ?_); refine gl_ (some 150) rfl rfl Try.func116 (by kernel_rfl) rfl #[.agg #[.int .u64 a0_0, .int .u64 a0_1], .bool false] rfl ?_; (with_reducible refine (spec_l4K_sign.calls a0_0 a0_1 false t302 _ A124.out).mono ?_); rintro e w128 ⟨rfl, hb⟩; refine ⟨_, rfl, ?_⟩; replace BK293 := bb_ BK293 hb; replace BK294 := bb_ BK294 hb; replace BK295 := bb_ BK295 hb; replace HB := eh_ hb; (try clear hb)))
                go_ret
                exact ⟨by first | rfl | (simp [errW_none, errW_some] <;> rfl) | (simp [*, errW_none, errW_some] <;> rfl), es_⟩
               ·replace c123 := Bool.eq_false_iff.mpr c123
                subst c123
                have H1 : ((spec_l4K_round.f kj120 a0_0 a0_1 a1_0 x9_113 x296004_66 x8_66).bind fun t303 => (some t303)) = some r := by rw [if_neg (show ¬ (false = true) by decide)] at H; first | done | exact H
                clear H
                have H := H1
                clear H1
                replace H := Option.bind_eq_some_iff.mp H
                obtain ⟨t303, A1290, H⟩ := H
                try dsimp only at H
                have A129 := Aside0.mk A1290
                clear A1290
                obtain rfl := Option.some.inj H
                have hnb130 := NB293_294.out
                have hnc130 := NB294_293.out
                have hnb131 := NB293_295.out
                have hnc131 := NB295_293.out
                obtain ⟨_, _, _, _⟩ := zc2_ BK293.out
                have hnb133 := NB294_295.out
                have hnc133 := NB295_294.out
                obtain ⟨_, _, _, _, _, _, _, _, _, _⟩ := zc5_ BK294.out
                obtain ⟨_, _, _, _, _, _, _, _, _, _⟩ := zc5_ BK295.out
                go_wp2_with (first | ((with_reducible refine gate_callee (f := 120) rfl ?_); refine gl_ (some 158) rfl rfl Try.func120 (by kernel_rfl) rfl #[.agg #[.int .u64 a0_0, .int .u64 a0_1], .bool a1_0, .int .u64 x9_113, .int .i64 x296004_66, .bool x8_66] rfl ?_; (with_reducible refine (spec_l4K_round.calls kj120 a0_0 a0_1 a1_0 x9_113 x296004_66 x8_66 t303 _ A129.out).mono ?_); rintro e w136 ⟨rfl, hb⟩; refine ⟨_, rfl, ?_⟩; replace BK293 := bb_ BK293 hb; replace BK294 := bb_ BK294 hb; replace BK295 := bb_ BK295 hb; replace HB := eh_ hb; (try clear hb)))
                go_ret
                exact ⟨by first | rfl | (simp [errW_none, errW_some] <;> rfl) | (simp [*, errW_none, errW_some] <;> rfl), es_⟩

end Go.Proofs.Ytdoflfifnkpacaa.FA
