-- Printed by a program of this session (after the kit's print.sh, with contracts of its own beside): Lean checks it.
import Derived.Test.YtdoflfifnkpacaaC18FAx0
import Derived.Test.YtdoflfifnkpacaaC18FAx1
import Derived.Test.YtdoflfifnkpacaaC18FAx2
import Derived.Test.YtdoflfifnkpacaaC18FAx3
import Derived.Test.YtdoflfifnkpacaaC18FAx13
import Derived.Test.YtdoflfifnkpacaaC18FAx17
namespace Go.Proofs.Ytdoflfifnkpacaa.FA
open Go.RowKit Go.Proofs.YtdoflfifnkpacaaW.PrintWords Go.Proofs.YtdoflfifnkpacaaW.PrintLast Go.Proofs.YtdoflfifnkpacaaW.PrintMore
attribute [local go_sem] max2_int min2_int max_two min_two max_three min_three max_four min_four   -- for this text's walks alone
set_option linter.unusedVariables false
set_option linter.unusedSimpArgs false

mutual
def spec_l4K_quotient.j0 : Nat → Bool → Bool → Int → Int → Bool → Bool → Bool → Int → Int → Bool → Bool → Bool → Int → Int → Option (Int)
 | 0, _, _, _, _, _, _, _, _, _, _, _, _, _, _ => none
 | k + 1, x7, x14, x360000, x360001, x361000, x361001, x361002, x361003, x361004, x362000, x362001, x362002, x362003, x362004 => if x14 = true then ((spec_l4K_nan.f x360000 x360001).bind fun t362 => (some t362)) else (if x361001 = true then (spec_l4K_quotient.j1 k x7 true x360000 x360001 x361000 x361001 x361002 x361003 x361004 x362000 x362001 x362002 x362003 x362004) else (if x362001 = true then (spec_l4K_quotient.j1 k x7 false x360000 x360001 x361000 x361001 x361002 x361003 x361004 x362000 x362001 x362002 x362003 x362004) else (spec_l4K_quotient.j1 k x7 (x362003 == 0) x360000 x360001 x361000 x361001 x361002 x361003 x361004 x362000 x362001 x362002 x362003 x362004)))
def spec_l4K_quotient.j1 : Nat → Bool → Bool → Int → Int → Bool → Bool → Bool → Int → Int → Bool → Bool → Bool → Int → Int → Option (Int)
 | 0, _, _, _, _, _, _, _, _, _, _, _, _, _, _ => none
 | k + 1, x7, x51, x360000, x360001, x361000, x361001, x361002, x361003, x361004, x362000, x362001, x362002, x362003, x362004 => if x51 = true then ((spec_l4K_inf.f x360000 x360001 x7).bind fun t363 => (some t363)) else (if x362001 = true then (spec_l4K_quotient.j2 k x7 true x360000 x360001 x361000 x361001 x361002 x361003 x361004 x362000 x362001 x362002 x362003 x362004) else (spec_l4K_quotient.j2 k x7 (x361003 == 0) x360000 x360001 x361000 x361001 x361002 x361003 x361004 x362000 x362001 x362002 x362003 x362004))
def spec_l4K_quotient.j2 : Nat → Bool → Bool → Int → Int → Bool → Bool → Bool → Int → Int → Bool → Bool → Bool → Int → Int → Option (Int)
 | 0, _, _, _, _, _, _, _, _, _, _, _, _, _, _ => none
 | k + 1, x7, x67, x360000, x360001, x361000, x361001, x361002, x361003, x361004, x362000, x362001, x362002, x362003, x362004 => if x67 = true then ((spec_l4K_sign.f x360000 x360001 x7).bind fun t364 => (some t364)) else ((spec_l4K_full.f k x360000 x360001 x361000 x361001 x361002 x361003 x361004).bind fun bt365 => ((spec_l4K_full.f k x360000 x360001 x362000 x362001 x362002 x362003 x362004).bind fun bt370 => (if bt370.2.2.2.1 = 0 then (none) else ((spec_l4K_round.f k x360000 x360001 x7 (IntKind.u64.wrap (Int.tdiv (IntKind.u64.wrap (bt365.2.2.2.1 * 1073741824)) bt370.2.2.2.1)) (wrap64 ((wrap64 (bt365.2.2.2.2 - 30)) - bt370.2.2.2.2)) ((Int.tmod (IntKind.u64.wrap (bt365.2.2.2.1 * 1073741824)) bt370.2.2.2.1) != 0)).bind fun t375 => (some t375)))))
end
def spec_l4K_quotient.f (k : Nat) (a0_0 : Int) (a0_1 : Int) (a1_0 : Bool) (a1_1 : Bool) (a1_2 : Bool) (a1_3 : Int) (a1_4 : Int) (a2_0 : Bool) (a2_1 : Bool) (a2_2 : Bool) (a2_3 : Int) (a2_4 : Int) : Option (Int) := if a1_2 = true then (spec_l4K_quotient.j0 k (a1_0 != a2_0) true a0_0 a0_1 a1_0 a1_1 a1_2 a1_3 a1_4 a2_0 a2_1 a2_2 a2_3 a2_4) else (if a2_2 = true then (spec_l4K_quotient.j0 k (a1_0 != a2_0) true a0_0 a0_1 a1_0 a1_1 a1_2 a1_3 a1_4 a2_0 a2_1 a2_2 a2_3 a2_4) else (if a1_1 = true then (if a2_1 = true then (spec_l4K_quotient.j0 k (a1_0 != a2_0) true a0_0 a0_1 a1_0 a1_1 a1_2 a1_3 a1_4 a2_0 a2_1 a2_2 a2_3 a2_4) else (spec_l4K_quotient.j0 k (a1_0 != a2_0) false a0_0 a0_1 a1_0 a1_1 a1_2 a1_3 a1_4 a2_0 a2_1 a2_2 a2_3 a2_4)) else (if a2_1 = true then (spec_l4K_quotient.j0 k (a1_0 != a2_0) false a0_0 a0_1 a1_0 a1_1 a1_2 a1_3 a1_4 a2_0 a2_1 a2_2 a2_3 a2_4) else (if a1_3 = 0 then (spec_l4K_quotient.j0 k (a1_0 != a2_0) (a2_3 == 0) a0_0 a0_1 a1_0 a1_1 a1_2 a1_3 a1_4 a2_0 a2_1 a2_2 a2_3 a2_4) else (spec_l4K_quotient.j0 k (a1_0 != a2_0) false a0_0 a0_1 a1_0 a1_1 a1_2 a1_3 a1_4 a2_0 a2_1 a2_2 a2_3 a2_4)))))
def spec_l4K_quotient.T11 : Bool × List (List Nat × List Nat) := (true, [([], []), ([], []), ([], []), ([], []), ([3], [3]), ([4], [4]), ([], []), ([6], [6]), ([5, 7], [5, 7]), ([], []), ([9], [9]), ([10], [10]), ([], []), ([12], [12]), ([11, 13], [11, 13]), ([14], [14]), ([0, 1, 2, 8, 15], [0, 1, 2, 8, 15]), ([16, 16, 0, 1, 2, 3, 4, 5, 6, 7, 8, 9, 10, 11, 12, 13, 14, 15, 16], [16])])
def spec_l4K_quotient.B11 : List Nat := [0, 0, 0, 0, 8, 24, 0, 64, 248, 0, 512, 1536, 0, 4096, 15872, 32256, 65535, 131071]
theorem spec_l4K_quotient.tab11 : rtab .any (opsOf Try.f92 11) = spec_l4K_quotient.T11 := by kernel_rfl
theorem spec_l4K_quotient.bits11 : waitsOk spec_l4K_quotient.T11.2 spec_l4K_quotient.B11 = true := by kernel_rfl
set_option maxHeartbeats 8000000 in
set_option maxRecDepth 100000 in
theorem spec_l4K_quotient.calls (k : Nat) (a0_0 : Int) (a0_1 : Int) (a1_0 : Bool) (a1_1 : Bool) (a1_2 : Bool) (a1_3 : Int) (a1_4 : Int) (a2_0 : Bool) (a2_1 : Bool) (a2_2 : Bool) (a2_3 : Int) (a2_4 : Int) (r : Int) (w : World) (h : spec_l4K_quotient.f k a0_0 a0_1 a1_0 a1_1 a1_2 a1_3 a1_4 a2_0 a2_1 a2_2 a2_3 a2_4 = some r) :
  Calls Try.prog 92 #[.agg #[.int .u64 a0_0, .int .u64 a0_1], .agg #[.bool a1_0, .bool a1_1, .bool a1_2, .int .u64 a1_3, .int .i64 a1_4], .agg #[.bool a2_0, .bool a2_1, .bool a2_2, .int .u64 a2_3, .int .i64 a2_4]] w fun e w' => e = .returned (.int .u32 r) ∧ Below w.heap.size w w' := by
 have hu109 := Try.underlying109
 have hu114 := Try.underlying114
 have HB := Aside0.mk (Below.refl w.heap.size w)
 have H : (if a1_2 = true then (spec_l4K_quotient.j0 k (a1_0 != a2_0) true a0_0 a0_1 a1_0 a1_1 a1_2 a1_3 a1_4 a2_0 a2_1 a2_2 a2_3 a2_4) else (if a2_2 = true then (spec_l4K_quotient.j0 k (a1_0 != a2_0) true a0_0 a0_1 a1_0 a1_1 a1_2 a1_3 a1_4 a2_0 a2_1 a2_2 a2_3 a2_4) else (if a1_1 = true then (if a2_1 = true then (spec_l4K_quotient.j0 k (a1_0 != a2_0) true a0_0 a0_1 a1_0 a1_1 a1_2 a1_3 a1_4 a2_0 a2_1 a2_2 a2_3 a2_4) else (spec_l4K_quotient.j0 k (a1_0 != a2_0) false a0_0 a0_1 a1_0 a1_1 a1_2 a1_3 a1_4 a2_0 a2_1 a2_2 a2_3 a2_4)) else (if a2_1 = true then (spec_l4K_quotient.j0 k (a1_0 != a2_0) false a0_0 a0_1 a1_0 a1_1 a1_2 a1_3 a1_4 a2_0 a2_1 a2_2 a2_3 a2_4) else (if a1_3 = 0 then (spec_l4K_quotient.j0 k (a1_0 != a2_0) (a2_3 == 0) a0_0 a0_1 a1_0 a1_1 a1_2 a1_3 a1_4 a2_0 a2_1 a2_2 a2_3 a2_4) else (spec_l4K_quotient.j0 k (a1_0 != a2_0) false a0_0 a0_1 a1_0 a1_1 a1_2 a1_3 a1_4 a2_0 a2_1 a2_2 a2_3 a2_4)))))) = some r := h
 clear h
 have HC4 := Aside0.mk H
 clear H
 go_enter Try.func92, Try.ntmps92
 go_upto_region 2 with (first | ((with_reducible refine gate_dst (N := 3) rfl ?_); refine box_event ?hg (N := 3) ?hd (cs := #[.int .u64 a0_0, .int .u64 a0_1]) (t := 109) ?hr ?_; (case hd => rfl); (case hg => rfl); (case hr => first | (go_simp; done) | (go_simp; rfl)); intro gb359 hg w5 hbox hb; have BK359 := Aside0.mk (hbox); have GW359 := Aside0.mk (gs_ hg (eb_ HB.out) : w.heap.size ≤ gb359); have GE359 := GW359; replace HB := eh_ hb; clear hb hbox hg) | ((with_reducible refine gate_dst (N := 4) rfl ?_); refine box_event ?hg (N := 4) ?hd (cs := #[.bool a1_0, .bool a1_1, .bool a1_2, .int .u64 a1_3, .int .i64 a1_4]) (t := 114) ?hr ?_; (case hd => rfl); (case hg => rfl); (case hr => first | (go_simp; done) | (go_simp; rfl)); intro gb360 hg w6 hbox hb; have BK360 := Aside0.mk (hbox); have GW360 := Aside0.mk (gs_ hg es_ : w.heap.size ≤ gb360); have GE360 := GW360; have NB359_360 := Aside0.mk ((by rw [hg]; exact Nat.ne_of_lt (blk_lt (g := gb359) (o := .cells #[.int .u64 a0_0, .int .u64 a0_1] 109 (0, 0)) (bk_ BK359.out)) : gb359 ≠ gb360)); have NB360_359 := Aside0.mk ((by rw [hg]; exact Nat.ne_of_gt (blk_lt (g := gb359) (o := .cells #[.int .u64 a0_0, .int .u64 a0_1] 109 (0, 0)) (bk_ BK359.out)) : gb360 ≠ gb359)); replace BK359 := bb_ BK359 hb; replace HB := eh_ hb; clear hb hbox hg) | ((with_reducible refine gate_dst (N := 5) rfl ?_); refine box_event ?hg (N := 5) ?hd (cs := #[.bool a2_0, .bool a2_1, .bool a2_2, .int .u64 a2_3, .int .i64 a2_4]) (t := 114) ?hr ?_; (case hd => rfl); (case hg => rfl); (case hr => first | (go_simp; done) | (go_simp; rfl)); intro gb361 hg w7 hbox hb; have BK361 := Aside0.mk (hbox); have GW361 := Aside0.mk (gs_ hg es_ : w.heap.size ≤ gb361); have GE361 := GW361; have NB359_361 := Aside0.mk ((by rw [hg]; exact Nat.ne_of_lt (blk_lt (g := gb359) (o := .cells #[.int .u64 a0_0, .int .u64 a0_1] 109 (0, 0)) (bk_ BK359.out)) : gb359 ≠ gb361)); have NB361_359 := Aside0.mk ((by rw [hg]; exact Nat.ne_of_gt (blk_lt (g := gb359) (o := .cells #[.int .u64 a0_0, .int .u64 a0_1] 109 (0, 0)) (bk_ BK359.out)) : gb361 ≠ gb359)); have NB360_361 := Aside0.mk ((by rw [hg]; exact Nat.ne_of_lt (blk_lt (g := gb360) (o := .cells #[.bool a1_0, .bool a1_1, .bool a1_2, .int .u64 a1_3, .int .i64 a1_4] 114 (0, 0)) (bk_ BK360.out)) : gb360 ≠ gb361)); have NB361_360 := Aside0.mk ((by rw [hg]; exact Nat.ne_of_gt (blk_lt (g := gb360) (o := .cells #[.bool a1_0, .bool a1_1, .bool a1_2, .int .u64 a1_3, .int .i64 a1_4] 114 (0, 0)) (bk_ BK360.out)) : gb361 ≠ gb360)); replace BK359 := bb_ BK359 hb; replace BK360 := bb_ BK360 hb; replace HB := eh_ hb; clear hb hbox hg; have hnb8 := NB360_359.out; have hnc8 := NB359_360.out; have hnb9 := NB360_361.out; have hnc9 := NB361_360.out; obtain ⟨_, _, _, _, _, _, _, _, _, _⟩ := zc5_ BK360.out; have hnb11 := NB361_359.out; have hnc11 := NB359_361.out; obtain ⟨_, _, _, _, _, _, _, _, _, _⟩ := zc5_ BK361.out))
 (try simp only [Act.put, List.setIfInBounds_toArray, List.set_cons_zero, List.set_cons_succ])
 go_cut [14] (fun v14 wc => ∃ (kq : Nat) (x14_3 : Bool), v14 = .bool x14_3 ∧ Aside0 (spec_l4K_quotient.j0 kq (a1_0 != a2_0) x14_3 a0_0 a0_1 a1_0 a1_1 a1_2 a1_3 a1_4 a2_0 a2_1 a2_2 a2_3 a2_4 = some r) ∧ Aside0 (kq ≤ k) ∧ Aside0 (wc.heap[gb359]? = some (.cells #[.int .u64 a0_0, .int .u64 a0_1] 109 (0, 0))) ∧ Aside0 (wc.heap[gb360]? = some (.cells #[.bool a1_0, .bool a1_1, .bool a1_2, .int .u64 a1_3, .int .i64 a1_4] 114 (0, 0))) ∧ Aside0 (wc.heap[gb361]? = some (.cells #[.bool a2_0, .bool a2_1, .bool a2_2, .int .u64 a2_3, .int .i64 a2_4] 114 (0, 0))) ∧ Aside0 (Below w.heap.size w wc))
 case first =>
  have H := HC4.out
  clear HC4
  by_cases c13 : a1_2 = true
  ·subst c13
   have H1 : (spec_l4K_quotient.j0 k (a1_0 != a2_0) true a0_0 a0_1 a1_0 a1_1 true a1_3 a1_4 a2_0 a2_1 a2_2 a2_3 a2_4) = some r := by rw [if_pos rfl] at H; first | done | exact H
   clear H
   have H := H1
   clear H1
   have H' := Aside0.mk H
   clear H
   have hnb14 := NB360_359.out
   have hnc14 := NB359_360.out
   have hnb15 := NB360_361.out
   have hnc15 := NB361_360.out
   obtain ⟨_, _, _, _, _, _, _, _, _, _⟩ := zc5_ BK360.out
   go_wp2
   go_meet
   case rel => exact ⟨_, (true), (by first | rfl | (simp; done) | (simp [*]; done)), H', ⟨by first | omega | exact Nat.le_refl _⟩, ⟨bk_ BK359.out⟩, ⟨bk_ BK360.out⟩, ⟨bk_ BK361.out⟩, ⟨es_⟩⟩
  ·replace c13 := Bool.eq_false_iff.mpr c13
   subst c13
   have H1 : (if a2_2 = true then (spec_l4K_quotient.j0 k (a1_0 != a2_0) true a0_0 a0_1 a1_0 a1_1 false a1_3 a1_4 a2_0 a2_1 a2_2 a2_3 a2_4) else (if a1_1 = true then (if a2_1 = true then (spec_l4K_quotient.j0 k (a1_0 != a2_0) true a0_0 a0_1 a1_0 a1_1 false a1_3 a1_4 a2_0 a2_1 a2_2 a2_3 a2_4) else (spec_l4K_quotient.j0 k (a1_0 != a2_0) false a0_0 a0_1 a1_0 a1_1 false a1_3 a1_4 a2_0 a2_1 a2_2 a2_3 a2_4)) else (if a2_1 = true then (spec_l4K_quotient.j0 k (a1_0 != a2_0) false a0_0 a0_1 a1_0 a1_1 false a1_3 a1_4 a2_0 a2_1 a2_2 a2_3 a2_4) else (if a1_3 = 0 then (spec_l4K_quotient.j0 k (a1_0 != a2_0) (a2_3 == 0) a0_0 a0_1 a1_0 a1_1 false a1_3 a1_4 a2_0 a2_1 a2_2 a2_3 a2_4) else (spec_l4K_quotient.j0 k (a1_0 != a2_0) false a0_0 a0_1 a1_0 a1_1 false a1_3 a1_4 a2_0 a2_1 a2_2 a2_3 a2_4))))) = some r := by rw [if_neg (show ¬ (false = true) by decide)] at H; first | done | exact H
   clear H
   have H := H1
   clear H1
   by_cases c17 : a2_2 = true
   ·subst c17
    have H1 : (spec_l4K_quotient.j0 k (a1_0 != a2_0) true a0_0 a0_1 a1_0 a1_1 false a1_3 a1_4 a2_0 a2_1 true a2_3 a2_4) = some r := by rw [if_pos rfl] at H; first | done | exact H
    clear H
    have H := H1
    clear H1
    have H' := Aside0.mk H
    clear H
    have hnb18 := NB360_359.out
    have hnc18 := NB359_360.out
    have hnb19 := NB360_361.out
    have hnc19 := NB361_360.out
    obtain ⟨_, _, _, _, _, _, _, _, _, _⟩ := zc5_ BK360.out
    have hnb21 := NB361_359.out
    have hnc21 := NB359_361.out
    obtain ⟨_, _, _, _, _, _, _, _, _, _⟩ := zc5_ BK361.out
    go_wp2
    go_meet
    case rel => exact ⟨_, (true), (by first | rfl | (simp; done) | (simp [*]; done)), H', ⟨by first | omega | exact Nat.le_refl _⟩, ⟨bk_ BK359.out⟩, ⟨bk_ BK360.out⟩, ⟨bk_ BK361.out⟩, ⟨es_⟩⟩
   ·replace c17 := Bool.eq_false_iff.mpr c17
    subst c17
    have H1 : (if a1_1 = true then (if a2_1 = true then (spec_l4K_quotient.j0 k (a1_0 != a2_0) true a0_0 a0_1 a1_0 a1_1 false a1_3 a1_4 a2_0 a2_1 false a2_3 a2_4) else (spec_l4K_quotient.j0 k (a1_0 != a2_0) false a0_0 a0_1 a1_0 a1_1 false a1_3 a1_4 a2_0 a2_1 false a2_3 a2_4)) else (if a2_1 = true then (spec_l4K_quotient.j0 k (a1_0 != a2_0) false a0_0 a0_1 a1_0 a1_1 false a1_3 a1_4 a2_0 a2_1 false a2_3 a2_4) else (if a1_3 = 0 then (spec_l4K_quotient.j0 k (a1_0 != a2_0) (a2_3 == 0) a0_0 a0_1 a1_0 a1_1 false a1_3 a1_4 a2_0 a2_1 false a2_3 a2_4) else (spec_l4K_quotient.j0 k (a1_0 != a2_0) false a0_0 a0_1 a1_0 a1_1 false a1_3 a1_4 a2_0 a2_1 false a2_3 a2_4)))) = some r := by rw [if_neg (show ¬ (false = true) by decide)] at H; first | done | exact H
    clear H
    have H := H1
    clear H1
    by_cases c23 : a1_1 = true
    ·subst c23
     have H1 : (if a2_1 = true then (spec_l4K_quotient.j0 k (a1_0 != a2_0) true a0_0 a0_1 a1_0 true false a1_3 a1_4 a2_0 a2_1 false a2_3 a2_4) else (spec_l4K_quotient.j0 k (a1_0 != a2_0) false a0_0 a0_1 a1_0 true false a1_3 a1_4 a2_0 a2_1 false a2_3 a2_4)) = some r := by rw [if_pos rfl] at H; first | done | exact H
     clear H
     have H := H1
     clear H1
     by_cases c24 : a2_1 = true
     ·subst c24
      have H1 : (spec_l4K_quotient.j0 k (a1_0 != a2_0) true a0_0 a0_1 a1_0 true false a1_3 a1_4 a2_0 true false a2_3 a2_4) = some r := by rw [if_pos rfl] at H; first | done | exact H
      clear H
      have H := H1
      clear H1
      have H' := Aside0.mk H
      clear H
      have hnb25 := NB360_359.out
      have hnc25 := NB359_360.out
      have hnb26 := NB360_361.out
      have hnc26 := NB361_360.out
      obtain ⟨_, _, _, _, _, _, _, _, _, _⟩ := zc5_ BK360.out
      have hnb28 := NB361_359.out
      have hnc28 := NB359_361.out
      obtain ⟨_, _, _, _, _, _, _, _, _, _⟩ := zc5_ BK361.out
      go_wp2
      go_meet
      case rel => exact ⟨_, (true), (by first | rfl | (simp; done) | (simp [*]; done)), H', ⟨by first | omega | exact Nat.le_refl _⟩, ⟨bk_ BK359.out⟩, ⟨bk_ BK360.out⟩, ⟨bk_ BK361.out⟩, ⟨es_⟩⟩
     ·replace c24 := Bool.eq_false_iff.mpr c24
      subst c24
      have H1 : (spec_l4K_quotient.j0 k (a1_0 != a2_0) false a0_0 a0_1 a1_0 true false a1_3 a1_4 a2_0 false false a2_3 a2_4) = some r := by rw [if_neg (show ¬ (false = true) by decide)] at H; first | done | exact H
      clear H
      have H := H1
      clear H1
      have H' := Aside0.mk H
      clear H
      have hnb30 := NB360_359.out
      have hnc30 := NB359_360.out
      have hnb31 := NB360_361.out
      have hnc31 := NB361_360.out
      obtain ⟨_, _, _, _, _, _, _, _, _, _⟩ := zc5_ BK360.out
      have hnb33 := NB361_359.out
      have hnc33 := NB359_361.out
      obtain ⟨_, _, _, _, _, _, _, _, _, _⟩ := zc5_ BK361.out
      go_wp2
      go_meet
      case rel => exact ⟨_, (false), (by first | rfl | (simp; done) | (simp [*]; done)), H', ⟨by first | omega | exact Nat.le_refl _⟩, ⟨bk_ BK359.out⟩, ⟨bk_ BK360.out⟩, ⟨bk_ BK361.out⟩, ⟨es_⟩⟩
    ·replace c23 := Bool.eq_false_iff.mpr c23
     subst c23
     have H1 : (if a2_1 = true then (spec_l4K_quotient.j0 k (a1_0 != a2_0) false a0_0 a0_1 a1_0 false false a1_3 a1_4 a2_0 a2_1 false a2_3 a2_4) else (if a1_3 = 0 then (spec_l4K_quotient.j0 k (a1_0 != a2_0) (a2_3 == 0) a0_0 a0_1 a1_0 false false a1_3 a1_4 a2_0 a2_1 false a2_3 a2_4) else (spec_l4K_quotient.j0 k (a1_0 != a2_0) false a0_0 a0_1 a1_0 false false a1_3 a1_4 a2_0 a2_1 false a2_3 a2_4))) = some r := by rw [if_neg (show ¬ (false = true) by decide)] at H; first | done | exact H
     clear H
     have H := H1
     clear H1
     by_cases c35 : a2_1 = true
     ·subst c35
      have H1 : (spec_l4K_quotient.j0 k (a1_0 != a2_0) false a0_0 a0_1 a1_0 false false a1_3 a1_4 a2_0 true false a2_3 a2_4) = some r := by rw [if_pos rfl] at H; first | done | exact H
      clear H
      have H := H1
      clear H1
      have H' := Aside0.mk H
      clear H
      have hnb36 := NB360_359.out
      have hnc36 := NB359_360.out
      have hnb37 := NB360_361.out
      have hnc37 := NB361_360.out
      obtain ⟨_, _, _, _, _, _, _, _, _, _⟩ := zc5_ BK360.out
      have hnb39 := NB361_359.out
      have hnc39 := NB359_361.out
      obtain ⟨_, _, _, _, _, _, _, _, _, _⟩ := zc5_ BK361.out
      go_wp2
      go_meet
      case rel => exact ⟨_, (false), (by first | rfl | (simp; done) | (simp [*]; done)), H', ⟨by first | omega | exact Nat.le_refl _⟩, ⟨bk_ BK359.out⟩, ⟨bk_ BK360.out⟩, ⟨bk_ BK361.out⟩, ⟨es_⟩⟩
     ·replace c35 := Bool.eq_false_iff.mpr c35
      subst c35
      have H1 : (if a1_3 = 0 then (spec_l4K_quotient.j0 k (a1_0 != a2_0) (a2_3 == 0) a0_0 a0_1 a1_0 false false a1_3 a1_4 a2_0 false false a2_3 a2_4) else (spec_l4K_quotient.j0 k (a1_0 != a2_0) false a0_0 a0_1 a1_0 false false a1_3 a1_4 a2_0 false false a2_3 a2_4)) = some r := by rw [if_neg (show ¬ (false = true) by decide)] at H; first | done | exact H
      clear H
      have H := H1
      clear H1
      by_cases c41 : a1_3 = 0
      ·rw [if_pos c41] at H
       have c41b0 : (a1_3 == 0) = true := beq_iff_eq.mpr c41
       have c41b1 : (a1_3 != 0) = false := bne_eq_false_iff_eq.mpr c41
       clear c41
       (first | rw [c41b0] | (simp only [i64_w, i32_w]; rw [c41b0]) | skip)
       have H' := Aside0.mk H
       clear H
       have hnb42 := NB360_359.out
       have hnc42 := NB359_360.out
       have hnb43 := NB360_361.out
       have hnc43 := NB361_360.out
       obtain ⟨_, _, _, _, _, _, _, _, _, _⟩ := zc5_ BK360.out
       have hnb45 := NB361_359.out
       have hnc45 := NB359_361.out
       obtain ⟨_, _, _, _, _, _, _, _, _, _⟩ := zc5_ BK361.out
       go_wp2
       go_meet
       case rel => exact ⟨_, ((a2_3 == 0)), (by first | rfl | (simp; done) | (simp [*]; done)), H', ⟨by first | omega | exact Nat.le_refl _⟩, ⟨bk_ BK359.out⟩, ⟨bk_ BK360.out⟩, ⟨bk_ BK361.out⟩, ⟨es_⟩⟩
      ·rw [if_neg c41] at H
       have c41b0 : (a1_3 == 0) = false := beq_eq_false_iff_ne.mpr c41
       have c41b1 : (a1_3 != 0) = true := bne_iff_ne.mpr c41
       (first | rw [c41b0] | (simp only [i64_w, i32_w]; rw [c41b0]) | skip)
       have H' := Aside0.mk H
       clear H
       have hnb47 := NB360_359.out
       have hnc47 := NB359_360.out
       have hnb48 := NB360_361.out
       have hnc48 := NB361_360.out
       obtain ⟨_, _, _, _, _, _, _, _, _, _⟩ := zc5_ BK360.out
       have hnb50 := NB361_359.out
       have hnc50 := NB359_361.out
       obtain ⟨_, _, _, _, _, _, _, _, _, _⟩ := zc5_ BK361.out
       go_wp2
       go_meet
       case rel => exact ⟨_, (false), (by first | rfl | (simp; done) | (simp [*]; done)), H', ⟨by first | omega | exact Nat.le_refl _⟩, ⟨bk_ BK359.out⟩, ⟨bk_ BK360.out⟩, ⟨bk_ BK361.out⟩, ⟨es_⟩⟩
 case rest =>
  clear HC4
  try clear p2
  obtain ⟨kq, x14_3, rfl, HA, HJ3, BK359, BK360, BK361, HB⟩ := hcut
  cases kq with
  | zero => exact absurd HA.out (by simp [spec_l4K_quotient.j0])
  | succ kj3 =>
   have H := HA.out
   clear HA
   simp only [spec_l4K_quotient.j0] at H
   by_cases c52 : x14_3 = true
   ·subst c52
    have H1 : ((spec_l4K_nan.f a0_0 a0_1).bind fun t362 => (some t362)) = some r := by rw [if_pos rfl] at H; first | done | exact H
    clear H
    have H := H1
    clear H1
    replace H := Option.bind_eq_some_iff.mp H
    obtain ⟨t362, A530, H⟩ := H
    try dsimp only at H
    have A53 := Aside0.mk A530
    clear A530
    obtain rfl := Option.some.inj H
    have hnb54 := NB359_360.out
    have hnc54 := NB360_359.out
    have hnb55 := NB359_361.out
    have hnc55 := NB361_359.out
    obtain ⟨_, _, _, _⟩ := zc2_ BK359.out
    go_wp2_with (first | ((with_reducible refine gate_callee (f := 114) rfl ?_); refine gl_ (some 50) rfl rfl Try.func114 (by kernel_rfl) rfl #[.agg #[.int .u64 a0_0, .int .u64 a0_1]] rfl ?_; (with_reducible refine (spec_l4K_nan.calls a0_0 a0_1 t362 _ A53.out).mono ?_); rintro e w57 ⟨rfl, hb⟩; refine ⟨_, rfl, ?_⟩; replace BK359 := bb_ BK359 hb; replace BK360 := bb_ BK360 hb; replace BK361 := bb_ BK361 hb; replace HB := eh_ hb; (try clear hb)))
    go_ret
    exact ⟨by first | rfl | (simp [errW_none, errW_some] <;> rfl) | (simp [*, errW_none, errW_some] <;> rfl), es_⟩
   ·replace c52 := Bool.eq_false_iff.mpr c52
    subst c52
    have H1 : (if a1_1 = true then (spec_l4K_quotient.j1 kj3 (a1_0 != a2_0) true a0_0 a0_1 a1_0 a1_1 a1_2 a1_3 a1_4 a2_0 a2_1 a2_2 a2_3 a2_4) else (if a2_1 = true then (spec_l4K_quotient.j1 kj3 (a1_0 != a2_0) false a0_0 a0_1 a1_0 a1_1 a1_2 a1_3 a1_4 a2_0 a2_1 a2_2 a2_3 a2_4) else (spec_l4K_quotient.j1 kj3 (a1_0 != a2_0) (a2_3 == 0) a0_0 a0_1 a1_0 a1_1 a1_2 a1_3 a1_4 a2_0 a2_1 a2_2 a2_3 a2_4))) = some r := by rw [if_neg (show ¬ (false = true) by decide)] at H; first | done | exact H
    clear H
    have H := H1
    clear H1
    have HC58 := Aside0.mk H
    clear H
    go_upto_region 4 with (fail)
    go_cut [51] (fun v51 wc => ∃ (kq : Nat) (x51_57 : Bool), v51 = .bool x51_57 ∧ Aside0 (spec_l4K_quotient.j1 kq (a1_0 != a2_0) x51_57 a0_0 a0_1 a1_0 a1_1 a1_2 a1_3 a1_4 a2_0 a2_1 a2_2 a2_3 a2_4 = some r) ∧ Aside0 (kq ≤ kj3) ∧ Aside0 (wc.heap[gb359]? = some (.cells #[.int .u64 a0_0, .int .u64 a0_1] 109 (0, 0))) ∧ Aside0 (wc.heap[gb360]? = some (.cells #[.bool a1_0, .bool a1_1, .bool a1_2, .int .u64 a1_3, .int .i64 a1_4] 114 (0, 0))) ∧ Aside0 (wc.heap[gb361]? = some (.cells #[.bool a2_0, .bool a2_1, .bool a2_2, .int .u64 a2_3, .int .i64 a2_4] 114 (0, 0))) ∧ Aside0 (Below w.heap.size w wc))
    case first =>
     have H := HC58.out
     clear HC58
     by_cases c59 : a1_1 = true
     ·subst c59
      have H1 : (spec_l4K_quotient.j1 kj3 (a1_0 != a2_0) true a0_0 a0_1 a1_0 true a1_2 a1_3 a1_4 a2_0 a2_1 a2_2 a2_3 a2_4) = some r := by rw [if_pos rfl] at H; first | done | exact H
      clear H
      have H := H1
      clear H1
      have H' := Aside0.mk H
      clear H
      have hnb60 := NB360_359.out
      have hnc60 := NB359_360.out
      have hnb61 := NB360_361.out
      have hnc61 := NB361_360.out
      obtain ⟨_, _, _, _, _, _, _, _, _, _⟩ := zc5_ BK360.out
      go_wp2
      go_meet
      case rel => exact ⟨_, (true), (by first | rfl | (simp; done) | (simp [*]; done)), H', ⟨by have := HJ3.out; first | omega | exact Nat.le_refl _⟩, ⟨bk_ BK359.out⟩, ⟨bk_ BK360.out⟩, ⟨bk_ BK361.out⟩, ⟨es_⟩⟩
     ·replace c59 := Bool.eq_false_iff.mpr c59
      subst c59
      have H1 : (if a2_1 = true then (spec_l4K_quotient.j1 kj3 (a1_0 != a2_0) false a0_0 a0_1 a1_0 false a1_2 a1_3 a1_4 a2_0 a2_1 a2_2 a2_3 a2_4) else (spec_l4K_quotient.j1 kj3 (a1_0 != a2_0) (a2_3 == 0) a0_0 a0_1 a1_0 false a1_2 a1_3 a1_4 a2_0 a2_1 a2_2 a2_3 a2_4)) = some r := by rw [if_neg (show ¬ (false = true) by decide)] at H; first | done | exact H
      clear H
      have H := H1
      clear H1
      by_cases c63 : a2_1 = true
      ·subst c63
       have H1 : (spec_l4K_quotient.j1 kj3 (a1_0 != a2_0) false a0_0 a0_1 a1_0 false a1_2 a1_3 a1_4 a2_0 true a2_2 a2_3 a2_4) = some r := by rw [if_pos rfl] at H; first | done | exact H
       clear H
       have H := H1
       clear H1
       have H' := Aside0.mk H
       clear H
       have hnb64 := NB360_359.out
       have hnc64 := NB359_360.out
       have hnb65 := NB360_361.out
       have hnc65 := NB361_360.out
       obtain ⟨_, _, _, _, _, _, _, _, _, _⟩ := zc5_ BK360.out
       have hnb67 := NB361_359.out
       have hnc67 := NB359_361.out
       obtain ⟨_, _, _, _, _, _, _, _, _, _⟩ := zc5_ BK361.out
       go_wp2
       go_meet
       case rel => exact ⟨_, (false), (by first | rfl | (simp; done) | (simp [*]; done)), H', ⟨by have := HJ3.out; first | omega | exact Nat.le_refl _⟩, ⟨bk_ BK359.out⟩, ⟨bk_ BK360.out⟩, ⟨bk_ BK361.out⟩, ⟨es_⟩⟩
      ·replace c63 := Bool.eq_false_iff.mpr c63
       subst c63
       have H1 : (spec_l4K_quotient.j1 kj3 (a1_0 != a2_0) (a2_3 == 0) a0_0 a0_1 a1_0 false a1_2 a1_3 a1_4 a2_0 false a2_2 a2_3 a2_4) = some r := by rw [if_neg (show ¬ (false = true) by decide)] at H; first | done | exact H
       clear H
       have H := H1
       clear H1
       have H' := Aside0.mk H
       clear H
       have hnb69 := NB360_359.out
       have hnc69 := NB359_360.out
       have hnb70 := NB360_361.out
       have hnc70 := NB361_360.out
       obtain ⟨_, _, _, _, _, _, _, _, _, _⟩ := zc5_ BK360.out
       have hnb72 := NB361_359.out
       have hnc72 := NB359_361.out
       obtain ⟨_, _, _, _, _, _, _, _, _, _⟩ := zc5_ BK361.out
       go_wp2
       go_meet
       case rel => exact ⟨_, ((a2_3 == 0)), (by first | rfl | (simp; done) | (simp [*]; done)), H', ⟨by have := HJ3.out; first | omega | exact Nat.le_refl _⟩, ⟨bk_ BK359.out⟩, ⟨bk_ BK360.out⟩, ⟨bk_ BK361.out⟩, ⟨es_⟩⟩
    case rest =>
     clear HC58
     try clear p2
     try clear p2
     obtain ⟨kq, x51_57, rfl, HA, HJ57, BK359, BK360, BK361, HB⟩ := hcut
     cases kq with
     | zero => exact absurd HA.out (by simp [spec_l4K_quotient.j1])
     | succ kj57 =>
      have H := HA.out
      clear HA
      simp only [spec_l4K_quotient.j1] at H
      by_cases c74 : x51_57 = true
      ·subst c74
       have H1 : ((spec_l4K_inf.f a0_0 a0_1 (a1_0 != a2_0)).bind fun t363 => (some t363)) = some r := by rw [if_pos rfl] at H; first | done | exact H
       clear H
       have H := H1
       clear H1
       replace H := Option.bind_eq_some_iff.mp H
       obtain ⟨t363, A750, H⟩ := H
       try dsimp only at H
       have A75 := Aside0.mk A750
       clear A750
       obtain rfl := Option.some.inj H
       have hnb76 := NB359_360.out
       have hnc76 := NB360_359.out
       have hnb77 := NB359_361.out
       have hnc77 := NB361_359.out
       obtain ⟨_, _, _, _⟩ := zc2_ BK359.out
       go_wp2_with (first | ((with_reducible refine gate_callee (f := 115) rfl ?_); refine gl_ (some 66) rfl rfl Try.func115 (by kernel_rfl) rfl #[.agg #[.int .u64 a0_0, .int .u64 a0_1], .bool (a1_0 != a2_0)] rfl ?_; (with_reducible refine (spec_l4K_inf.calls a0_0 a0_1 (a1_0 != a2_0) t363 _ A75.out).mono ?_); rintro e w79 ⟨rfl, hb⟩; refine ⟨_, rfl, ?_⟩; replace BK359 := bb_ BK359 hb; replace BK360 := bb_ BK360 hb; replace BK361 := bb_ BK361 hb; replace HB := eh_ hb; (try clear hb)))
       go_ret
       exact ⟨by first | rfl | (simp [errW_none, errW_some] <;> rfl) | (simp [*, errW_none, errW_some] <;> rfl), es_⟩
      ·replace c74 := Bool.eq_false_iff.mpr c74
       subst c74
       have H1 : (if a2_1 = true then (spec_l4K_quotient.j2 kj57 (a1_0 != a2_0) true a0_0 a0_1 a1_0 a1_1 a1_2 a1_3 a1_4 a2_0 a2_1 a2_2 a2_3 a2_4) else (spec_l4K_quotient.j2 kj57 (a1_0 != a2_0) (a1_3 == 0) a0_0 a0_1 a1_0 a1_1 a1_2 a1_3 a1_4 a2_0 a2_1 a2_2 a2_3 a2_4)) = some r := by rw [if_neg (show ¬ (false = true) by decide)] at H; first | done | exact H
       clear H
       have H := H1
       clear H1
       have HC80 := Aside0.mk H
       clear H
       go_upto_region 6 with (fail)
       go_cut [67] (fun v67 wc => ∃ (kq : Nat) (x67_79 : Bool), v67 = .bool x67_79 ∧ Aside0 (spec_l4K_quotient.j2 kq (a1_0 != a2_0) x67_79 a0_0 a0_1 a1_0 a1_1 a1_2 a1_3 a1_4 a2_0 a2_1 a2_2 a2_3 a2_4 = some r) ∧ Aside0 (kq ≤ kj57) ∧ Aside0 (wc.heap[gb359]? = some (.cells #[.int .u64 a0_0, .int .u64 a0_1] 109 (0, 0))) ∧ Aside0 (wc.heap[gb360]? = some (.cells #[.bool a1_0, .bool a1_1, .bool a1_2, .int .u64 a1_3, .int .i64 a1_4] 114 (0, 0))) ∧ Aside0 (wc.heap[gb361]? = some (.cells #[.bool a2_0, .bool a2_1, .bool a2_2, .int .u64 a2_3, .int .i64 a2_4] 114 (0, 0))) ∧ Aside0 (Below w.heap.size w wc))
       case first =>
        have H := HC80.out
        clear HC80
        by_cases c81 : a2_1 = true
        ·subst c81
         have H1 : (spec_l4K_quotient.j2 kj57 (a1_0 != a2_0) true a0_0 a0_1 a1_0 a1_1 a1_2 a1_3 a1_4 a2_0 true a2_2 a2_3 a2_4) = some r := by rw [if_pos rfl] at H; first | done | exact H
         clear H
         have H := H1
         clear H1
         have H' := Aside0.mk H
         clear H
         have hnb82 := NB361_359.out
         have hnc82 := NB359_361.out
         have hnb83 := NB361_360.out
         have hnc83 := NB360_361.out
         obtain ⟨_, _, _, _, _, _, _, _, _, _⟩ := zc5_ BK361.out
         go_wp2
         go_meet
         case rel => exact ⟨_, (true), (by first | rfl | (simp; done) | (simp [*]; done)), H', ⟨by have := HJ3.out; have := HJ57.out; first | omega | exact Nat.le_refl _⟩, ⟨bk_ BK359.out⟩, ⟨bk_ BK360.out⟩, ⟨bk_ BK361.out⟩, ⟨es_⟩⟩
        ·replace c81 := Bool.eq_false_iff.mpr c81
         subst c81
         have H1 : (spec_l4K_quotient.j2 kj57 (a1_0 != a2_0) (a1_3 == 0) a0_0 a0_1 a1_0 a1_1 a1_2 a1_3 a1_4 a2_0 false a2_2 a2_3 a2_4) = some r := by rw [if_neg (show ¬ (false = true) by decide)] at H; first | done | exact H
         clear H
         have H := H1
         clear H1
         have H' := Aside0.mk H
         clear H
         have hnb85 := NB361_359.out
         have hnc85 := NB359_361.out
         have hnb86 := NB361_360.out
         have hnc86 := NB360_361.out
         obtain ⟨_, _, _, _, _, _, _, _, _, _⟩ := zc5_ BK361.out
         have hnb88 := NB360_359.out
         have hnc88 := NB359_360.out
         obtain ⟨_, _, _, _, _, _, _, _, _, _⟩ := zc5_ BK360.out
         go_wp2
         go_meet
         case rel => exact ⟨_, ((a1_3 == 0)), (by first | rfl | (simp; done) | (simp [*]; done)), H', ⟨by have := HJ3.out; have := HJ57.out; first | omega | exact Nat.le_refl _⟩, ⟨bk_ BK359.out⟩, ⟨bk_ BK360.out⟩, ⟨bk_ BK361.out⟩, ⟨es_⟩⟩
       case rest =>
        clear HC80
        try clear p2
        try clear p2
        obtain ⟨kq, x67_79, rfl, HA, HJ79, BK359, BK360, BK361, HB⟩ := hcut
        cases kq with
        | zero => exact absurd HA.out (by simp [spec_l4K_quotient.j2])
        | succ kj79 =>
         have H := HA.out
         clear HA
         simp only [spec_l4K_quotient.j2] at H
         by_cases c90 : x67_79 = true
         ·subst c90
          have H1 : ((spec_l4K_sign.f a0_0 a0_1 (a1_0 != a2_0)).bind fun t364 => (some t364)) = some r := by rw [if_pos rfl] at H; first | done | exact H
          clear H
          have H := H1
          clear H1
          replace H := Option.bind_eq_some_iff.mp H
          obtain ⟨t364, A910, H⟩ := H
          try dsimp only at H
          have A91 := Aside0.mk A910
          clear A910
          obtain rfl := Option.some.inj H
          have hnb92 := NB359_360.out
          have hnc92 := NB360_359.out
          have hnb93 := NB359_361.out
          have hnc93 := NB361_359.out
          obtain ⟨_, _, _, _⟩ := zc2_ BK359.out
          go_wp2_with (first | ((with_reducible refine gate_callee (f := 116) rfl ?_); refine gl_ (some 77) rfl rfl Try.func116 (by kernel_rfl) rfl #[.agg #[.int .u64 a0_0, .int .u64 a0_1], .bool (a1_0 != a2_0)] rfl ?_; (with_reducible refine (spec_l4K_sign.calls a0_0 a0_1 (a1_0 != a2_0) t364 _ A91.out).mono ?_); rintro e w95 ⟨rfl, hb⟩; refine ⟨_, rfl, ?_⟩; replace BK359 := bb_ BK359 hb; replace BK360 := bb_ BK360 hb; replace BK361 := bb_ BK361 hb; replace HB := eh_ hb; (try clear hb)))
          go_ret
          exact ⟨by first | rfl | (simp [errW_none, errW_some] <;> rfl) | (simp [*, errW_none, errW_some] <;> rfl), es_⟩
         ·replace c90 := Bool.eq_false_iff.mpr c90
          subst c90
          have H1 : ((spec_l4K_full.f kj79 a0_0 a0_1 a1_0 a1_1 a1_2 a1_3 a1_4).bind fun bt365 => ((spec_l4K_full.f kj79 a0_0 a0_1 a2_0 a2_1 a2_2 a2_3 a2_4).bind fun bt370 => (if bt370.2.2.2.1 = 0 then (none) else ((spec_l4K_round.f kj79 a0_0 a0_1 (a1_0 != a2_0) (IntKind.u64.wrap (Int.tdiv (IntKind.u64.wrap (bt365.2.2.2.1 * 1073741824)) bt370.2.2.2.1)) (wrap64 ((wrap64 (bt365.2.2.2.2 - 30)) - bt370.2.2.2.2)) ((Int.tmod (IntKind.u64.wrap (bt365.2.2.2.1 * 1073741824)) bt370.2.2.2.1) != 0)).bind fun t375 => (some t375))))) = some r := by rw [if_neg (show ¬ (false = true) by decide)] at H; first | done | exact H
          clear H
          have H := H1
          clear H1
          replace H := Option.bind_eq_some_iff.mp H
          obtain ⟨⟨t365, t366, t367, t368, t369⟩, A960, H⟩ := H
          try dsimp only at H
          have A96 := Aside0.mk A960
          clear A960
          replace H := Option.bind_eq_some_iff.mp H
          obtain ⟨⟨t370, t371, t372, t373, t374⟩, A970, H⟩ := H
          try dsimp only at H
          have A97 := Aside0.mk A970
          clear A970
          by_cases c98 : t373 = 0
          ·rw [if_pos c98] at H
           exact absurd H (by simp)
          ·rw [if_neg c98] at H
           have c98b0 : (t373 == 0) = false := beq_eq_false_iff_ne.mpr c98
           have c98b1 : (t373 != 0) = true := bne_iff_ne.mpr c98
           replace H := Option.bind_eq_some_iff.mp H
           obtain ⟨t375, A990, H⟩ := H
           try dsimp only at H
           have A99 := Aside0.mk A990
           clear A990
           obtain rfl := Option.some.inj H
           have hnb100 := NB359_360.out
           have hnc100 := NB360_359.out
           have hnb101 := NB359_361.out
           have hnc101 := NB361_359.out
           obtain ⟨_, _, _, _⟩ := zc2_ BK359.out
           have hnb103 := NB360_361.out
           have hnc103 := NB361_360.out
           obtain ⟨_, _, _, _, _, _, _, _, _, _⟩ := zc5_ BK360.out
           try go_wp2_with (first | ((with_reducible refine gate_callee (f := 117) rfl ?_); refine gl_ (some 80) rfl rfl Try.func117 (by kernel_rfl) rfl #[.agg #[.int .u64 a0_0, .int .u64 a0_1], .agg #[.bool a1_0, .bool a1_1, .bool a1_2, .int .u64 a1_3, .int .i64 a1_4]] rfl ?_; (with_reducible refine (spec_l4K_full.calls kj79 a0_0 a0_1 a1_0 a1_1 a1_2 a1_3 a1_4 t365 t366 t367 t368 t369 _ A96.out).mono ?_); rintro e w105 ⟨rfl, hb⟩; refine ⟨_, rfl, ?_⟩; replace BK359 := bb_ BK359 hb; replace BK360 := bb_ BK360 hb; replace BK361 := bb_ BK361 hb; replace HB := eh_ hb; (try clear hb); obtain ⟨_, _, _, _, _, _, _, _, _, _⟩ := zc5_ BK360.out; obtain ⟨_, _, _, _⟩ := zc2_ BK359.out; obtain ⟨_, _, _, _, _, _, _, _, _, _⟩ := zc5_ BK361.out) | ((with_reducible refine gate_callee (f := 117) rfl ?_); refine gl_ (some 83) rfl rfl Try.func117 (by kernel_rfl) rfl #[.agg #[.int .u64 a0_0, .int .u64 a0_1], .agg #[.bool a2_0, .bool a2_1, .bool a2_2, .int .u64 a2_3, .int .i64 a2_4]] rfl ?_; (with_reducible refine (spec_l4K_full.calls kj79 a0_0 a0_1 a2_0 a2_1 a2_2 a2_3 a2_4 t370 t371 t372 t373 t374 _ A97.out).mono ?_); rintro e w109 ⟨rfl, hb⟩; refine ⟨_, rfl, ?_⟩; replace BK359 := Aside0.mk (blk_below (g := gb359) (o := .cells #[.int .u64 a0_0, .int .u64 a0_1] 109 (0, 0)) (by (with_reducible repeat first | apply bN | apply bD | apply bA); refine blk_far ?_ NB359_360.out _; (with_reducible repeat first | apply bN | apply bD | apply bA); refine blk_far ?_ NB359_360.out _; (with_reducible repeat first | apply bN | apply bD | apply bA); refine blk_far ?_ NB359_360.out _; (with_reducible repeat first | apply bN | apply bD | apply bA); refine blk_far ?_ NB359_360.out _; (with_reducible repeat first | apply bN | apply bD | apply bA); refine blk_far ?_ NB359_360.out _; (with_reducible repeat first | apply bN | apply bD | apply bA); exact BK359.out) hb); replace BK360 := Aside0.mk (blk_below (g := gb360) (o := .cells #[.bool t365, .bool t366, .bool t367, .int .u64 t368, .int .i64 t369] 114 (0, 0)) (by (with_reducible repeat first | apply bN | apply bD | apply bA); refine blk_put (cs := #[.bool t365, .bool t366, .bool t367, .int .u64 t368, .int .i64 a1_4]) ?_ 4 _ rfl; (with_reducible repeat first | apply bN | apply bD | apply bA); refine blk_put (cs := #[.bool t365, .bool t366, .bool t367, .int .u64 a1_3, .int .i64 a1_4]) ?_ 3 _ rfl; (with_reducible repeat first | apply bN | apply bD | apply bA); refine blk_put (cs := #[.bool t365, .bool t366, .bool a1_2, .int .u64 a1_3, .int .i64 a1_4]) ?_ 2 _ rfl; (with_reducible repeat first | apply bN | apply bD | apply bA); refine blk_put (cs := #[.bool t365, .bool a1_1, .bool a1_2, .int .u64 a1_3, .int .i64 a1_4]) ?_ 1 _ rfl; (with_reducible repeat first | apply bN | apply bD | apply bA); refine blk_put (cs := #[.bool a1_0, .bool a1_1, .bool a1_2, .int .u64 a1_3, .int .i64 a1_4]) ?_ 0 _ rfl; (with_reducible repeat first | apply bN | apply bD | apply bA); exact BK360.out) hb); replace BK361 := Aside0.mk (blk_below (g := gb361) (o := .cells #[.bool a2_0, .bool a2_1, .bool a2_2, .int .u64 a2_3, .int .i64 a2_4] 114 (0, 0)) (by (with_reducible repeat first | apply bN | apply bD | apply bA); refine blk_far ?_ NB361_360.out _; (with_reducible repeat first | apply bN | apply bD | apply bA); refine blk_far ?_ NB361_360.out _; (with_reducible repeat first | apply bN | apply bD | apply bA); refine blk_far ?_ NB361_360.out _; (with_reducible repeat first | apply bN | apply bD | apply bA); refine blk_far ?_ NB361_360.out _; (with_reducible repeat first | apply bN | apply bD | apply bA); refine blk_far ?_ NB361_360.out _; (with_reducible repeat first | apply bN | apply bD | apply bA); exact BK361.out) hb); replace HB := eh_ hb; (try clear hb); obtain ⟨_, _, _, _, _, _, _, _, _, _⟩ := zc5_ BK361.out; obtain ⟨_, _, _, _, _, _, _, _, _, _⟩ := zc5_ BK360.out))
           have n0_ : Aside0 ((((((w109.setCell ⟨gb361, 0, none⟩ (.bool t370)).setCell ⟨gb361, 1, none⟩ (.bool t371)).setCell ⟨gb361, 2, none⟩ (.bool t372)).setCell ⟨gb361, 3, none⟩ (.int .u64 t373)).setCell ⟨gb361, 4, none⟩ (.int .i64 t374)).heap[gb359]? = some (.cells #[.int .u64 a0_0, .int .u64 a0_1] 109 (0, 0))) := ⟨by (with_reducible repeat first | apply bN | apply bD | apply bA); refine blk_far ?_ NB359_361.out _; (with_reducible repeat first | apply bN | apply bD | apply bA); refine blk_far ?_ NB359_361.out _; (with_reducible repeat first | apply bN | apply bD | apply bA); refine blk_far ?_ NB359_361.out _; (with_reducible repeat first | apply bN | apply bD | apply bA); refine blk_far ?_ NB359_361.out _; (with_reducible repeat first | apply bN | apply bD | apply bA); refine blk_far ?_ NB359_361.out _; (with_reducible repeat first | apply bN | apply bD | apply bA); exact BK359.out⟩
           have n1_ : Aside0 ((((((w109.setCell ⟨gb361, 0, none⟩ (.bool t370)).setCell ⟨gb361, 1, none⟩ (.bool t371)).setCell ⟨gb361, 2, none⟩ (.bool t372)).setCell ⟨gb361, 3, none⟩ (.int .u64 t373)).setCell ⟨gb361, 4, none⟩ (.int .i64 t374)).heap[gb360]? = some (.cells #[.bool t365, .bool t366, .bool t367, .int .u64 t368, .int .i64 t369] 114 (0, 0))) := ⟨by (with_reducible repeat first | apply bN | apply bD | apply bA); refine blk_far ?_ NB360_361.out _; (with_reducible repeat first | apply bN | apply bD | apply bA); refine blk_far ?_ NB360_361.out _; (with_reducible repeat first | apply bN | apply bD | apply bA); refine blk_far ?_ NB360_361.out _; (with_reducible repeat first | apply bN | apply bD | apply bA); refine blk_far ?_ NB360_361.out _; (with_reducible repeat first | apply bN | apply bD | apply bA); refine blk_far ?_ NB360_361.out _; (with_reducible repeat first | apply bN | apply bD | apply bA); exact BK360.out⟩
           have n2_ : Aside0 ((((((w109.setCell ⟨gb361, 0, none⟩ (.bool t370)).setCell ⟨gb361, 1, none⟩ (.bool t371)).setCell ⟨gb361, 2, none⟩ (.bool t372)).setCell ⟨gb361, 3, none⟩ (.int .u64 t373)).setCell ⟨gb361, 4, none⟩ (.int .i64 t374)).heap[gb361]? = some (.cells #[.bool t370, .bool t371, .bool t372, .int .u64 t373, .int .i64 t374] 114 (0, 0))) := ⟨by (with_reducible repeat first | apply bN | apply bD | apply bA); refine blk_put (cs := #[.bool t370, .bool t371, .bool t372, .int .u64 t373, .int .i64 a2_4]) ?_ 4 _ rfl; (with_reducible repeat first | apply bN | apply bD | apply bA); refine blk_put (cs := #[.bool t370, .bool t371, .bool t372, .int .u64 a2_3, .int .i64 a2_4]) ?_ 3 _ rfl; (with_reducible repeat first | apply bN | apply bD | apply bA); refine blk_put (cs := #[.bool t370, .bool t371, .bool a2_2, .int .u64 a2_3, .int .i64 a2_4]) ?_ 2 _ rfl; (with_reducible repeat first | apply bN | apply bD | apply bA); refine blk_put (cs := #[.bool t370, .bool a2_1, .bool a2_2, .int .u64 a2_3, .int .i64 a2_4]) ?_ 1 _ rfl; (with_reducible repeat first | apply bN | apply bD | apply bA); refine blk_put (cs := #[.bool a2_0, .bool a2_1, .bool a2_2, .int .u64 a2_3, .int .i64 a2_4]) ?_ 0 _ rfl; (with_reducible repeat first | apply bN | apply bD | apply bA); exact BK361.out⟩
           have n3_ : Aside0 (Below w.heap.size w (((((w109.setCell ⟨gb361, 0, none⟩ (.bool t370)).setCell ⟨gb361, 1, none⟩ (.bool t371)).setCell ⟨gb361, 2, none⟩ (.bool t372)).setCell ⟨gb361, 3, none⟩ (.int .u64 t373)).setCell ⟨gb361, 4, none⟩ (.int .i64 t374))) := ⟨es_⟩
           (try clear BK359)
           (try clear BK360)
           (try clear BK361)
           (try clear HB)
           generalize (((((w109.setCell ⟨gb361, 0, none⟩ (.bool t370)).setCell ⟨gb361, 1, none⟩ (.bool t371)).setCell ⟨gb361, 2, none⟩ (.bool t372)).setCell ⟨gb361, 3, none⟩ (.int .u64 t373)).setCell ⟨gb361, 4, none⟩ (.int .i64 t374)) = w112 at n0_ n1_ n2_ n3_ ⊢
           have BK359 := n0_
           have BK360 := n1_
           have BK361 := n2_
           have HB := n3_
           clear n0_ n1_ n2_ n3_
           replace BK359 := Aside0.mk (blk_drew BK359.out)
           replace BK360 := Aside0.mk (blk_drew BK360.out)
           replace BK361 := Aside0.mk (blk_drew BK361.out)
           replace HB := Aside0.mk (below_drew1 HB.out)
           refine start_ (n := 18) (S := fun w' => w'.cell? ⟨gb359, 0, none⟩ = some (.int .u64 a0_0) ∧ w'.cell? ⟨gb359, 1, none⟩ = some (.int .u64 a0_1) ∧ w'.cell? ⟨gb360, 0, none⟩ = some (.bool t365) ∧ w'.cell? ⟨gb360, 1, none⟩ = some (.bool t366) ∧ w'.cell? ⟨gb360, 2, none⟩ = some (.bool t367) ∧ w'.cell? ⟨gb360, 3, none⟩ = some (.int .u64 t368) ∧ w'.cell? ⟨gb360, 4, none⟩ = some (.int .i64 t369) ∧ w'.cell? ⟨gb361, 0, none⟩ = some (.bool t370) ∧ w'.cell? ⟨gb361, 1, none⟩ = some (.bool t371) ∧ w'.cell? ⟨gb361, 2, none⟩ = some (.bool t372) ∧ w'.cell? ⟨gb361, 3, none⟩ = some (.int .u64 t373) ∧ w'.cell? ⟨gb361, 4, none⟩ = some (.int .i64 t374)) (ds := []) #[false, false, false, false, false, false, false, false, false, false, false, false, false, false, false, false, false, false] (by kernel_rfl) rfl rfl ⟨(blk_cell BK359.out 0).trans rfl, (blk_cell BK359.out 1).trans rfl, (blk_cell BK360.out 0).trans rfl, (blk_cell BK360.out 1).trans rfl, (blk_cell BK360.out 2).trans rfl, (blk_cell BK360.out 3).trans rfl, (blk_cell BK360.out 4).trans rfl, (blk_cell BK361.out 0).trans rfl, (blk_cell BK361.out 1).trans rfl, (blk_cell BK361.out 2).trans rfl, (blk_cell BK361.out 3).trans rfl, (blk_cell BK361.out 4).trans rfl⟩ (fun hHeld => ?_); refine with_tabW spec_l4K_quotient.tab11 spec_l4K_quotient.bits11 (fun HT_ HW_ => ?_)
           generalize w112.drew = w113 at BK359 BK360 BK361 HB hHeld ⊢
           refine pure_ (i := 1) (N := some 91) (v := ?_) (a' := ?_) #[false, true, false, false, false, false, false, false, false, false, false, false, false, false, false, false, false, false] rfl rfl (any_of HT_.out (by kernel_rfl)) (fun _ _ _ h => h) (Or.inl ⟨by rfl, ?_⟩) ?_ ?_
           rotate_left
           ·intro w'
            go_simp
            with_reducible rfl
           rotate_left
           ·simp only [Act.put, List.setIfInBounds_toArray, List.set_cons_zero, List.set_cons_succ, i64_w, i32_w]
            rfl
           refine pure_ (i := 2) (N := some 92) (v := ?_) (a' := ?_) #[false, true, true, false, false, false, false, false, false, false, false, false, false, false, false, false, false, false] rfl rfl (any_of HT_.out (by kernel_rfl)) (fun _ _ _ h => h) (Or.inl ⟨by rfl, ?_⟩) ?_ ?_
           rotate_left
           ·intro w'
            go_simp
            with_reducible rfl
           rotate_left
           ·simp only [Act.put, List.setIfInBounds_toArray, List.set_cons_zero, List.set_cons_succ, i64_w, i32_w]
            rfl
           refine pure_ (i := 3) (N := some 93) (v := ?_) (a' := ?_) #[false, true, true, true, false, false, false, false, false, false, false, false, false, false, false, false, false, false] rfl rfl (any_of HT_.out (by kernel_rfl)) (fun _ _ _ h => h) (Or.inl ⟨by rfl, ?_⟩) ?_ ?_
           rotate_left
           ·intro w'
            go_simp
            with_reducible rfl
           rotate_left
           ·simp only [Act.put, List.setIfInBounds_toArray, List.set_cons_zero, List.set_cons_succ, i64_w, i32_w]
            rfl
           refine pure_ (i := 6) (N := some 96) (v := ?_) (a' := ?_) #[false, true, true, true, false, false, true, false, false, false, false, false, false, false, false, false, false, false] rfl rfl (any_of HT_.out (by kernel_rfl)) (fun _ _ _ h => h) (Or.inl ⟨by rfl, ?_⟩) ?_ ?_
           rotate_left
           ·intro w'
            go_simp
            with_reducible rfl
           rotate_left
           ·simp only [Act.put, List.setIfInBounds_toArray, List.set_cons_zero, List.set_cons_succ, i64_w, i32_w]
            rfl
           refine pure_ (i := 9) (N := some 99) (v := ?_) (a' := ?_) #[false, true, true, true, false, false, true, false, false, true, false, false, false, false, false, false, false, false] rfl rfl (any_of HT_.out (by kernel_rfl)) (fun _ _ _ h => h) (Or.inl ⟨by rfl, ?_⟩) ?_ ?_
           rotate_left
           ·intro w'
            go_simp
            with_reducible rfl
           rotate_left
           ·simp only [Act.put, List.setIfInBounds_toArray, List.set_cons_zero, List.set_cons_succ, i64_w, i32_w]
            rfl
           refine pure_ (i := 12) (N := some 102) (v := ?_) (a' := ?_) #[false, true, true, true, false, false, true, false, false, true, false, false, true, false, false, false, false, false] rfl rfl (any_of HT_.out (by kernel_rfl)) (fun _ _ _ h => h) (Or.inl ⟨by rfl, ?_⟩) ?_ ?_
           rotate_left
           ·intro w'
            go_simp
            with_reducible rfl
           rotate_left
           ·simp only [Act.put, List.setIfInBounds_toArray, List.set_cons_zero, List.set_cons_succ, i64_w, i32_w]
            rfl
           refine take_ (i := 0) (N := some 90) (v := ?_) (a' := ?_) #[true, true, true, true, false, false, true, false, false, true, false, false, true, false, false, false, false, false] rfl rfl (take_ofW HT_.out HW_.out (by kernel_rfl)) (fun _ _ _ h => h) (Or.inl ⟨by rfl, ?_⟩) hHeld ?_ ?_
           rotate_left
           ·rintro w' ⟨s0, s1, s2, s3, s4, s5, s6, s7, s8, s9, s10, s11⟩
            go_simp
            with_reducible rfl
           rotate_left
           ·simp only [Act.put, List.setIfInBounds_toArray, List.set_cons_zero, List.set_cons_succ, i64_w, i32_w]
            rfl
           refine take_ (i := 4) (N := some 94) (v := ?_) (a' := ?_) #[true, true, true, true, true, false, true, false, false, true, false, false, true, false, false, false, false, false] rfl rfl (take_ofW HT_.out HW_.out (by kernel_rfl)) (fun _ _ _ h => h) (Or.inl ⟨by rfl, ?_⟩) hHeld ?_ ?_
           rotate_left
           ·rintro w' ⟨s0, s1, s2, s3, s4, s5, s6, s7, s8, s9, s10, s11⟩
            go_simp
            with_reducible rfl
           rotate_left
           ·simp only [Act.put, List.setIfInBounds_toArray, List.set_cons_zero, List.set_cons_succ, i64_w, i32_w]
            rfl
           refine pure_ (i := 5) (N := some 95) (v := ?_) (a' := ?_) #[true, true, true, true, true, true, true, false, false, true, false, false, true, false, false, false, false, false] rfl rfl (any_of HT_.out (by kernel_rfl)) (fun _ _ _ h => h) (Or.inl ⟨by rfl, ?_⟩) ?_ ?_
           rotate_left
           ·intro w'
            go_simp
            with_reducible rfl
           rotate_left
           ·simp only [Act.put, List.setIfInBounds_toArray, List.set_cons_zero, List.set_cons_succ, i64_w, i32_w]
            rfl
           refine take_ (i := 7) (N := some 97) (v := ?_) (a' := ?_) #[true, true, true, true, true, true, true, true, false, true, false, false, true, false, false, false, false, false] rfl rfl (take_ofW HT_.out HW_.out (by kernel_rfl)) (fun _ _ _ h => h) (Or.inl ⟨by rfl, ?_⟩) hHeld ?_ ?_
           rotate_left
           ·rintro w' ⟨s0, s1, s2, s3, s4, s5, s6, s7, s8, s9, s10, s11⟩
            go_simp
            with_reducible rfl
           rotate_left
           ·simp only [Act.put, List.setIfInBounds_toArray, List.set_cons_zero, List.set_cons_succ, i64_w, i32_w]
            rfl
           refine pure_ (i := 8) (N := some 98) (v := ?_) (a' := ?_) #[true, true, true, true, true, true, true, true, true, true, false, false, true, false, false, false, false, false] rfl rfl (any_of HT_.out (by kernel_rfl)) (fun _ _ _ h => h) (Or.inl ⟨by rfl, ?_⟩) ?_ ?_
           rotate_left
           ·intro w'
            go_simp
            with_reducible rfl
           rotate_left
           ·simp only [Act.put, List.setIfInBounds_toArray, List.set_cons_zero, List.set_cons_succ, i64_w, i32_w]
            rfl
           refine take_ (i := 10) (N := some 100) (v := ?_) (a' := ?_) #[true, true, true, true, true, true, true, true, true, true, true, false, true, false, false, false, false, false] rfl rfl (take_ofW HT_.out HW_.out (by kernel_rfl)) (fun _ _ _ h => h) (Or.inl ⟨by rfl, ?_⟩) hHeld ?_ ?_
           rotate_left
           ·rintro w' ⟨s0, s1, s2, s3, s4, s5, s6, s7, s8, s9, s10, s11⟩
            go_simp
            with_reducible rfl
           rotate_left
           ·simp only [Act.put, List.setIfInBounds_toArray, List.set_cons_zero, List.set_cons_succ, i64_w, i32_w]
            rfl
           refine pure_ (i := 11) (N := some 101) (v := ?_) (a' := ?_) #[true, true, true, true, true, true, true, true, true, true, true, true, true, false, false, false, false, false] rfl rfl (any_of HT_.out (by kernel_rfl)) (fun _ _ _ h => h) (Or.inl ⟨by rfl, ?_⟩) ?_ ?_
           rotate_left
           ·intro w'
            go_simp
            with_reducible rfl
           rotate_left
           ·simp only [Act.put, List.setIfInBounds_toArray, List.set_cons_zero, List.set_cons_succ, i64_w, i32_w]
            rfl
           refine take_ (i := 13) (N := some 103) (v := ?_) (a' := ?_) #[true, true, true, true, true, true, true, true, true, true, true, true, true, true, false, false, false, false] rfl rfl (take_ofW HT_.out HW_.out (by kernel_rfl)) (fun _ _ _ h => h) (Or.inl ⟨by rfl, ?_⟩) hHeld ?_ ?_
           rotate_left
           ·rintro w' ⟨s0, s1, s2, s3, s4, s5, s6, s7, s8, s9, s10, s11⟩
            go_simp
            with_reducible rfl
           rotate_left
           ·simp only [Act.put, List.setIfInBounds_toArray, List.set_cons_zero, List.set_cons_succ, i64_w, i32_w]
            rfl
           refine pure_ (i := 14) (N := some 104) (v := ?_) (a' := ?_) #[true, true, true, true, true, true, true, true, true, true, true, true, true, true, true, false, false, false] rfl rfl (any_of HT_.out (by kernel_rfl)) (fun _ _ _ h => h) (Or.inl ⟨by rfl, ?_⟩) ?_ ?_
           rotate_left
           ·intro w'
            go_simp
            with_reducible rfl
           rotate_left
           ·simp only [Act.put, List.setIfInBounds_toArray, List.set_cons_zero, List.set_cons_succ, i64_w, i32_w]
            rfl
           refine pure_ (i := 15) (N := some 105) (v := ?_) (a' := ?_) #[true, true, true, true, true, true, true, true, true, true, true, true, true, true, true, true, false, false] rfl rfl (any_of HT_.out (by kernel_rfl)) (fun _ _ _ h => h) (Or.inl ⟨by rfl, ?_⟩) ?_ ?_
           rotate_left
           ·intro w'
            go_simp
            with_reducible rfl
           rotate_left
           ·simp only [Act.put, List.setIfInBounds_toArray, List.set_cons_zero, List.set_cons_succ, i64_w, i32_w]
            rfl
           refine one_ (i := 16) (N := some 106) #[true, true, true, true, true, true, true, true, true, true, true, true, true, true, true, true, true, false] rfl rfl (one_of HT_.out (by kernel_rfl)) (by decide) (fun K hK => ?_)
           refine goes_ Try.func120 (by kernel_rfl) rfl #[.agg #[.int .u64 a0_0, .int .u64 a0_1], .bool (a1_0 != a2_0), .int .u64 (IntKind.u64.wrap (Int.tdiv (IntKind.u64.wrap (t368 * 1073741824)) t373)), .int .i64 (wrap64 ((wrap64 (t369 - 30)) - t374)), .bool ((Int.tmod (IntKind.u64.wrap (t368 * 1073741824)) t373) != 0)] (by rfl) rfl rfl (by (try simp only [List.map_toArray, List.map_cons, List.map_nil]); first | done | rfl | (simp only [List.length_drop, List.length_take]; rfl)) ?_
           with_reducible refine (spec_l4K_round.calls kj79 a0_0 a0_1 (a1_0 != a2_0) (IntKind.u64.wrap (Int.tdiv (IntKind.u64.wrap (t368 * 1073741824)) t373)) (wrap64 ((wrap64 (t369 - 30)) - t374)) ((Int.tmod (IntKind.u64.wrap (t368 * 1073741824)) t373) != 0) t375 _ A99.out).mono ?_
           rintro e w114 ⟨rfl, hb⟩
           refine ⟨_, rfl, ?_⟩
           replace BK359 := bb_ BK359 hb
           replace BK360 := bb_ BK360 hb
           replace BK361 := bb_ BK361 hb
           replace HB := eh_ hb
           (try clear hb)
           (try clear hb2)
           (try clear hk)
           (try clear hi)
           refine hK.out _ _ ⟨(blk_cell BK359.out 0).trans rfl, (blk_cell BK359.out 1).trans rfl, (blk_cell BK360.out 0).trans rfl, (blk_cell BK360.out 1).trans rfl, (blk_cell BK360.out 2).trans rfl, (blk_cell BK360.out 3).trans rfl, (blk_cell BK360.out 4).trans rfl, (blk_cell BK361.out 0).trans rfl, (blk_cell BK361.out 1).trans rfl, (blk_cell BK361.out 2).trans rfl, (blk_cell BK361.out 3).trans rfl, (blk_cell BK361.out 4).trans rfl⟩ (fun hHeld => ?_)
           clear hK K
           refine norm_ (a' := ?_) ?_ ?_
           rotate_left
           ·show Act.put _ (some 106) _ = _
            simp only [Act.put, List.setIfInBounds_toArray, List.set_cons_zero, List.set_cons_succ, i64_w, i32_w]
            rfl
           refine pure_ (i := 17) (N := some 6) (v := ?_) (a' := ?_) #[true, true, true, true, true, true, true, true, true, true, true, true, true, true, true, true, true, true] rfl rfl (any_of HT_.out (by kernel_rfl)) (fun _ _ _ h => h) (Or.inl ⟨by rfl, ?_⟩) ?_ ?_
           rotate_left
           ·intro w'
            go_simp
            with_reducible rfl
           rotate_left
           ·simp only [Act.put, List.setIfInBounds_toArray, List.set_cons_zero, List.set_cons_succ, i64_w, i32_w]
            rfl
           refine done_ (done_of HT_.out (by kernel_rfl)) ?_
           try go_wp2
           go_ret
           exact ⟨by first | rfl | (simp [errW_none, errW_some] <;> rfl) | (simp [*, errW_none, errW_some] <;> rfl), es_⟩

end Go.Proofs.Ytdoflfifnkpacaa.FA
