-- Printed by a program of this session (after the kit's print.sh, with contracts of its own beside): Lean checks it.
import Derived.Test.YtdoflfifnkpacaaC18FAx0
import Derived.Test.YtdoflfifnkpacaaC18FAx2
import Derived.Test.YtdoflfifnkpacaaC18FAx3
import Derived.Test.YtdoflfifnkpacaaC18FAx13
namespace Go.Proofs.Ytdoflfifnkpacaa.FA
open Go.RowKit Go.Proofs.YtdoflfifnkpacaaW.PrintWords Go.Proofs.YtdoflfifnkpacaaW.PrintLast Go.Proofs.YtdoflfifnkpacaaW.PrintMore
attribute [local go_sem] max2_int min2_int max_two min_two max_three min_three max_four min_four   -- for this text's walks alone
set_option linter.unusedVariables false
set_option linter.unusedSimpArgs false

mutual
def spec_l4K_product.j0 : Nat → Bool → Bool → Int → Int → Bool → Bool → Bool → Int → Int → Bool → Bool → Bool → Int → Int → Option (Int)
 | 0, _, _, _, _, _, _, _, _, _, _, _, _, _, _ => none
 | k + 1, x7, x13, x336000, x336001, x337000, x337001, x337002, x337003, x337004, x338000, x338001, x338002, x338003, x338004 => if x13 = true then ((spec_l4K_nan.f x336000 x336001).bind fun t338 => (some t338)) else (if x337001 = true then (spec_l4K_product.j1 k x7 true x336000 x336001 x337000 x337001 x337002 x337003 x337004 x338000 x338001 x338002 x338003 x338004) else (spec_l4K_product.j1 k x7 x338001 x336000 x336001 x337000 x337001 x337002 x337003 x337004 x338000 x338001 x338002 x338003 x338004))
def spec_l4K_product.j1 : Nat → Bool → Bool → Int → Int → Bool → Bool → Bool → Int → Int → Bool → Bool → Bool → Int → Int → Option (Int)
 | 0, _, _, _, _, _, _, _, _, _, _, _, _, _, _ => none
 | k + 1, x7, x50, x336000, x336001, x337000, x337001, x337002, x337003, x337004, x338000, x338001, x338002, x338003, x338004 => if x50 = true then ((spec_l4K_inf.f x336000 x336001 x7).bind fun t339 => (some t339)) else ((spec_l4K_round.f k x336000 x336001 x7 (IntKind.u64.wrap (x337003 * x338003)) (wrap64 (x337004 + x338004)) false).bind fun t340 => (some t340))
end
def spec_l4K_product.f (k : Nat) (a0_0 : Int) (a0_1 : Int) (a1_0 : Bool) (a1_1 : Bool) (a1_2 : Bool) (a1_3 : Int) (a1_4 : Int) (a2_0 : Bool) (a2_1 : Bool) (a2_2 : Bool) (a2_3 : Int) (a2_4 : Int) : Option (Int) := if a1_2 = true then (spec_l4K_product.j0 k (a1_0 != a2_0) true a0_0 a0_1 a1_0 a1_1 a1_2 a1_3 a1_4 a2_0 a2_1 a2_2 a2_3 a2_4) else (if a2_2 = true then (spec_l4K_product.j0 k (a1_0 != a2_0) true a0_0 a0_1 a1_0 a1_1 a1_2 a1_3 a1_4 a2_0 a2_1 a2_2 a2_3 a2_4) else (if a1_1 = true then (if a2_1 = true then (spec_l4K_product.j0 k (a1_0 != a2_0) false a0_0 a0_1 a1_0 a1_1 a1_2 a1_3 a1_4 a2_0 a2_1 a2_2 a2_3 a2_4) else (if a2_3 = 0 then (spec_l4K_product.j0 k (a1_0 != a2_0) true a0_0 a0_1 a1_0 a1_1 a1_2 a1_3 a1_4 a2_0 a2_1 a2_2 a2_3 a2_4) else (spec_l4K_product.j0 k (a1_0 != a2_0) false a0_0 a0_1 a1_0 a1_1 a1_2 a1_3 a1_4 a2_0 a2_1 a2_2 a2_3 a2_4))) else (if a2_1 = true then (spec_l4K_product.j0 k (a1_0 != a2_0) (a1_3 == 0) a0_0 a0_1 a1_0 a1_1 a1_2 a1_3 a1_4 a2_0 a2_1 a2_2 a2_3 a2_4) else (spec_l4K_product.j0 k (a1_0 != a2_0) false a0_0 a0_1 a1_0 a1_1 a1_2 a1_3 a1_4 a2_0 a2_1 a2_2 a2_3 a2_4))))
set_option maxHeartbeats 8000000 in
set_option maxRecDepth 100000 in
theorem spec_l4K_product.calls (k : Nat) (a0_0 : Int) (a0_1 : Int) (a1_0 : Bool) (a1_1 : Bool) (a1_2 : Bool) (a1_3 : Int) (a1_4 : Int) (a2_0 : Bool) (a2_1 : Bool) (a2_2 : Bool) (a2_3 : Int) (a2_4 : Int) (r : Int) (w : World) (h : spec_l4K_product.f k a0_0 a0_1 a1_0 a1_1 a1_2 a1_3 a1_4 a2_0 a2_1 a2_2 a2_3 a2_4 = some r) :
  Calls Try.prog 91 #[.agg #[.int .u64 a0_0, .int .u64 a0_1], .agg #[.bool a1_0, .bool a1_1, .bool a1_2, .int .u64 a1_3, .int .i64 a1_4], .agg #[.bool a2_0, .bool a2_1, .bool a2_2, .int .u64 a2_3, .int .i64 a2_4]] w fun e w' => e = .returned (.int .u32 r) ∧ Below w.heap.size w w' := by
 have hu109 := Try.underlying109
 have hu114 := Try.underlying114
 have HB := Aside0.mk (Below.refl w.heap.size w)
 have H : (if a1_2 = true then (spec_l4K_product.j0 k (a1_0 != a2_0) true a0_0 a0_1 a1_0 a1_1 a1_2 a1_3 a1_4 a2_0 a2_1 a2_2 a2_3 a2_4) else (if a2_2 = true then (spec_l4K_product.j0 k (a1_0 != a2_0) true a0_0 a0_1 a1_0 a1_1 a1_2 a1_3 a1_4 a2_0 a2_1 a2_2 a2_3 a2_4) else (if a1_1 = true then (if a2_1 = true then (spec_l4K_product.j0 k (a1_0 != a2_0) false a0_0 a0_1 a1_0 a1_1 a1_2 a1_3 a1_4 a2_0 a2_1 a2_2 a2_3 a2_4) else (if a2_3 = 0 then (spec_l4K_product.j0 k (a1_0 != a2_0) true a0_0 a0_1 a1_0 a1_1 a1_2 a1_3 a1_4 a2_0 a2_1 a2_2 a2_3 a2_4) else (spec_l4K_product.j0 k (a1_0 != a2_0) false a0_0 a0_1 a1_0 a1_1 a1_2 a1_3 a1_4 a2_0 a2_1 a2_2 a2_3 a2_4))) else (if a2_1 = true then (spec_l4K_product.j0 k (a1_0 != a2_0) (a1_3 == 0) a0_0 a0_1 a1_0 a1_1 a1_2 a1_3 a1_4 a2_0 a2_1 a2_2 a2_3 a2_4) else (spec_l4K_product.j0 k (a1_0 != a2_0) false a0_0 a0_1 a1_0 a1_1 a1_2 a1_3 a1_4 a2_0 a2_1 a2_2 a2_3 a2_4))))) = some r := h
 clear h
 have HC4 := Aside0.mk H
 clear H
 go_enter Try.func91, Try.ntmps91
 go_upto_region 2 with (first | ((with_reducible refine gate_dst (N := 3) rfl ?_); refine box_event ?hg (N := 3) ?hd (cs := #[.int .u64 a0_0, .int .u64 a0_1]) (t := 109) ?hr ?_; (case hd => rfl); (case hg => rfl); (case hr => first | (go_simp; done) | (go_simp; rfl)); intro gb335 hg w5 hbox hb; have BK335 := Aside0.mk (hbox); have GW335 := Aside0.mk (gs_ hg (eb_ HB.out) : w.heap.size ≤ gb335); have GE335 := GW335; replace HB := eh_ hb; clear hb hbox hg) | ((with_reducible refine gate_dst (N := 4) rfl ?_); refine box_event ?hg (N := 4) ?hd (cs := #[.bool a1_0, .bool a1_1, .bool a1_2, .int .u64 a1_3, .int .i64 a1_4]) (t := 114) ?hr ?_; (case hd => rfl); (case hg => rfl); (case hr => first | (go_simp; done) | (go_simp; rfl)); intro gb336 hg w6 hbox hb; have BK336 := Aside0.mk (hbox); have GW336 := Aside0.mk (gs_ hg es_ : w.heap.size ≤ gb336); have GE336 := GW336; have NB335_336 := Aside0.mk ((by rw [hg]; exact Nat.ne_of_lt (blk_lt (g := gb335) (o := .cells #[.int .u64 a0_0, .int .u64 a0_1] 109 (0, 0)) (bk_ BK335.out)) : gb335 ≠ gb336)); have NB336_335 := Aside0.mk ((by rw [hg]; exact Nat.ne_of_gt (blk_lt (g := gb335) (o := .cells #[.int .u64 a0_0, .int .u64 a0_1] 109 (0, 0)) (bk_ BK335.out)) : gb336 ≠ gb335)); replace BK335 := bb_ BK335 hb; replace HB := eh_ hb; clear hb hbox hg) | ((with_reducible refine gate_dst (N := 5) rfl ?_); refine box_event ?hg (N := 5) ?hd (cs := #[.bool a2_0, .bool a2_1, .bool a2_2, .int .u64 a2_3, .int .i64 a2_4]) (t := 114) ?hr ?_; (case hd => rfl); (case hg => rfl); (case hr => first | (go_simp; done) | (go_simp; rfl)); intro gb337 hg w7 hbox hb; have BK337 := Aside0.mk (hbox); have GW337 := Aside0.mk (gs_ hg es_ : w.heap.size ≤ gb337); have GE337 := GW337; have NB335_337 := Aside0.mk ((by rw [hg]; exact Nat.ne_of_lt (blk_lt (g := gb335) (o := .cells #[.int .u64 a0_0, .int .u64 a0_1] 109 (0, 0)) (bk_ BK335.out)) : gb335 ≠ gb337)); have NB337_335 := Aside0.mk ((by rw [hg]; exact Nat.ne_of_gt (blk_lt (g := gb335) (o := .cells #[.int .u64 a0_0, .int .u64 a0_1] 109 (0, 0)) (bk_ BK335.out)) : gb337 ≠ gb335)); have NB336_337 := Aside0.mk ((by rw [hg]; exact Nat.ne_of_lt (blk_lt (g := gb336) (o := .cells #[.bool a1_0, .bool a1_1, .bool a1_2, .int .u64 a1_3, .int .i64 a1_4] 114 (0, 0)) (bk_ BK336.out)) : gb336 ≠ gb337)); have NB337_336 := Aside0.mk ((by rw [hg]; exact Nat.ne_of_gt (blk_lt (g := gb336) (o := .cells #[.bool a1_0, .bool a1_1, .bool a1_2, .int .u64 a1_3, .int .i64 a1_4] 114 (0, 0)) (bk_ BK336.out)) : gb337 ≠ gb336)); replace BK335 := bb_ BK335 hb; replace BK336 := bb_ BK336 hb; replace HB := eh_ hb; clear hb hbox hg; have hnb8 := NB336_335.out; have hnc8 := NB335_336.out; have hnb9 := NB336_337.out; have hnc9 := NB337_336.out; obtain ⟨_, _, _, _, _, _, _, _, _, _⟩ := zc5_ BK336.out; have hnb11 := NB337_335.out; have hnc11 := NB335_337.out; obtain ⟨_, _, _, _, _, _, _, _, _, _⟩ := zc5_ BK337.out))
 (try simp only [Act.put, List.setIfInBounds_toArray, List.set_cons_zero, List.set_cons_succ])
 go_cut [13] (fun v13 wc => ∃ (kq : Nat) (x13_3 : Bool), v13 = .bool x13_3 ∧ Aside0 (spec_l4K_product.j0 kq (a1_0 != a2_0) x13_3 a0_0 a0_1 a1_0 a1_1 a1_2 a1_3 a1_4 a2_0 a2_1 a2_2 a2_3 a2_4 = some r) ∧ Aside0 (kq ≤ k) ∧ Aside0 (wc.heap[gb335]? = some (.cells #[.int .u64 a0_0, .int .u64 a0_1] 109 (0, 0))) ∧ Aside0 (wc.heap[gb336]? = some (.cells #[.bool a1_0, .bool a1_1, .bool a1_2, .int .u64 a1_3, .int .i64 a1_4] 114 (0, 0))) ∧ Aside0 (wc.heap[gb337]? = some (.cells #[.bool a2_0, .bool a2_1, .bool a2_2, .int .u64 a2_3, .int .i64 a2_4] 114 (0, 0))) ∧ Aside0 (Below w.heap.size w wc))
 case first =>
  have H := HC4.out
  clear HC4
  by_cases c13 : a1_2 = true
  ·subst c13
   have H1 : (spec_l4K_product.j0 k (a1_0 != a2_0) true a0_0 a0_1 a1_0 a1_1 true a1_3 a1_4 a2_0 a2_1 a2_2 a2_3 a2_4) = some r := by rw [if_pos rfl] at H; first | done | exact H
   clear H
   have H := H1
   clear H1
   have H' := Aside0.mk H
   clear H
   have hnb14 := NB336_335.out
   have hnc14 := NB335_336.out
   have hnb15 := NB336_337.out
   have hnc15 := NB337_336.out
   obtain ⟨_, _, _, _, _, _, _, _, _, _⟩ := zc5_ BK336.out
   go_wp2
   go_meet
   case rel => exact ⟨_, (true), (by first | rfl | (simp; done) | (simp [*]; done)), H', ⟨by first | omega | exact Nat.le_refl _⟩, ⟨bk_ BK335.out⟩, ⟨bk_ BK336.out⟩, ⟨bk_ BK337.out⟩, ⟨es_⟩⟩
  ·replace c13 := Bool.eq_false_iff.mpr c13
   subst c13
   have H1 : (if a2_2 = true then (spec_l4K_product.j0 k (a1_0 != a2_0) true a0_0 a0_1 a1_0 a1_1 false a1_3 a1_4 a2_0 a2_1 a2_2 a2_3 a2_4) else (if a1_1 = true then (if a2_1 = true then (spec_l4K_product.j0 k (a1_0 != a2_0) false a0_0 a0_1 a1_0 a1_1 false a1_3 a1_4 a2_0 a2_1 a2_2 a2_3 a2_4) else (if a2_3 = 0 then (spec_l4K_product.j0 k (a1_0 != a2_0) true a0_0 a0_1 a1_0 a1_1 false a1_3 a1_4 a2_0 a2_1 a2_2 a2_3 a2_4) else (spec_l4K_product.j0 k (a1_0 != a2_0) false a0_0 a0_1 a1_0 a1_1 false a1_3 a1_4 a2_0 a2_1 a2_2 a2_3 a2_4))) else (if a2_1 = true then (spec_l4K_product.j0 k (a1_0 != a2_0) (a1_3 == 0) a0_0 a0_1 a1_0 a1_1 false a1_3 a1_4 a2_0 a2_1 a2_2 a2_3 a2_4) else (spec_l4K_product.j0 k (a1_0 != a2_0) false a0_0 a0_1 a1_0 a1_1 false a1_3 a1_4 a2_0 a2_1 a2_2 a2_3 a2_4)))) = some r := by rw [if_neg (show ¬ (false = true) by decide)] at H; first | done | exact H
   clear H
   have H := H1
   clear H1
   by_cases c17 : a2_2 = true
   ·subst c17
    have H1 : (spec_l4K_product.j0 k (a1_0 != a2_0) true a0_0 a0_1 a1_0 a1_1 false a1_3 a1_4 a2_0 a2_1 true a2_3 a2_4) = some r := by rw [if_pos rfl] at H; first | done | exact H
    clear H
    have H := H1
    clear H1
    have H' := Aside0.mk H
    clear H
    have hnb18 := NB336_335.out
    have hnc18 := NB335_336.out
    have hnb19 := NB336_337.out
    have hnc19 := NB337_336.out
    obtain ⟨_, _, _, _, _, _, _, _, _, _⟩ := zc5_ BK336.out
    have hnb21 := NB337_335.out
    have hnc21 := NB335_337.out
    obtain ⟨_, _, _, _, _, _, _, _, _, _⟩ := zc5_ BK337.out
    go_wp2
    go_meet
    case rel => exact ⟨_, (true), (by first | rfl | (simp; done) | (simp [*]; done)), H', ⟨by first | omega | exact Nat.le_refl _⟩, ⟨bk_ BK335.out⟩, ⟨bk_ BK336.out⟩, ⟨bk_ BK337.out⟩, ⟨es_⟩⟩
   ·replace c17 := Bool.eq_false_iff.mpr c17
    subst c17
    have H1 : (if a1_1 = true then (if a2_1 = true then (spec_l4K_product.j0 k (a1_0 != a2_0) false a0_0 a0_1 a1_0 a1_1 false a1_3 a1_4 a2_0 a2_1 false a2_3 a2_4) else (if a2_3 = 0 then (spec_l4K_product.j0 k (a1_0 != a2_0) true a0_0 a0_1 a1_0 a1_1 false a1_3 a1_4 a2_0 a2_1 false a2_3 a2_4) else (spec_l4K_product.j0 k (a1_0 != a2_0) false a0_0 a0_1 a1_0 a1_1 false a1_3 a1_4 a2_0 a2_1 false a2_3 a2_4))) else (if a2_1 = true then (spec_l4K_product.j0 k (a1_0 != a2_0) (a1_3 == 0) a0_0 a0_1 a1_0 a1_1 false a1_3 a1_4 a2_0 a2_1 false a2_3 a2_4) else (spec_l4K_product.j0 k (a1_0 != a2_0) false a0_0 a0_1 a1_0 a1_1 false a1_3 a1_4 a2_0 a2_1 false a2_3 a2_4))) = some r := by rw [if_neg (show ¬ (false = true) by decide)] at H; first | done | exact H
    clear H
    have H := H1
    clear H1
    by_cases c23 : a1_1 = true
    ·subst c23
     have H1 : (if a2_1 = true then (spec_l4K_product.j0 k (a1_0 != a2_0) false a0_0 a0_1 a1_0 true false a1_3 a1_4 a2_0 a2_1 false a2_3 a2_4) else (if a2_3 = 0 then (spec_l4K_product.j0 k (a1_0 != a2_0) true a0_0 a0_1 a1_0 true false a1_3 a1_4 a2_0 a2_1 false a2_3 a2_4) else (spec_l4K_product.j0 k (a1_0 != a2_0) false a0_0 a0_1 a1_0 true false a1_3 a1_4 a2_0 a2_1 false a2_3 a2_4))) = some r := by rw [if_pos rfl] at H; first | done | exact H
     clear H
     have H := H1
     clear H1
     by_cases c24 : a2_1 = true
     ·subst c24
      have H1 : (spec_l4K_product.j0 k (a1_0 != a2_0) false a0_0 a0_1 a1_0 true false a1_3 a1_4 a2_0 true false a2_3 a2_4) = some r := by rw [if_pos rfl] at H; first | done | exact H
      clear H
      have H := H1
      clear H1
      have H' := Aside0.mk H
      clear H
      have hnb25 := NB336_335.out
      have hnc25 := NB335_336.out
      have hnb26 := NB336_337.out
      have hnc26 := NB337_336.out
      obtain ⟨_, _, _, _, _, _, _, _, _, _⟩ := zc5_ BK336.out
      have hnb28 := NB337_335.out
      have hnc28 := NB335_337.out
      obtain ⟨_, _, _, _, _, _, _, _, _, _⟩ := zc5_ BK337.out
      go_wp2
      go_meet
      case rel => exact ⟨_, (false), (by first | rfl | (simp; done) | (simp [*]; done)), H', ⟨by first | omega | exact Nat.le_refl _⟩, ⟨bk_ BK335.out⟩, ⟨bk_ BK336.out⟩, ⟨bk_ BK337.out⟩, ⟨es_⟩⟩
     ·replace c24 := Bool.eq_false_iff.mpr c24
      subst c24
      have H1 : (if a2_3 = 0 then (spec_l4K_product.j0 k (a1_0 != a2_0) true a0_0 a0_1 a1_0 true false a1_3 a1_4 a2_0 false false a2_3 a2_4) else (spec_l4K_product.j0 k (a1_0 != a2_0) false a0_0 a0_1 a1_0 true false a1_3 a1_4 a2_0 false false a2_3 a2_4)) = some r := by rw [if_neg (show ¬ (false = true) by decide)] at H; first | done | exact H
      clear H
      have H := H1
      clear H1
      by_cases c30 : a2_3 = 0
      ·rw [if_pos c30] at H
       have c30b0 : (a2_3 == 0) = true := beq_iff_eq.mpr c30
       have c30b1 : (a2_3 != 0) = false := bne_eq_false_iff_eq.mpr c30
       clear c30
       (first | rw [c30b0] | (simp only [i64_w, i32_w]; rw [c30b0]) | skip)
       have H' := Aside0.mk H
       clear H
       have hnb31 := NB336_335.out
       have hnc31 := NB335_336.out
       have hnb32 := NB336_337.out
       have hnc32 := NB337_336.out
       obtain ⟨_, _, _, _, _, _, _, _, _, _⟩ := zc5_ BK336.out
       have hnb34 := NB337_335.out
       have hnc34 := NB335_337.out
       obtain ⟨_, _, _, _, _, _, _, _, _, _⟩ := zc5_ BK337.out
       go_wp2
       go_meet
       case rel => exact ⟨_, (true), (by first | rfl | (simp; done) | (simp [*]; done)), H', ⟨by first | omega | exact Nat.le_refl _⟩, ⟨bk_ BK335.out⟩, ⟨bk_ BK336.out⟩, ⟨bk_ BK337.out⟩, ⟨es_⟩⟩
      ·rw [if_neg c30] at H
       have c30b0 : (a2_3 == 0) = false := beq_eq_false_iff_ne.mpr c30
       have c30b1 : (a2_3 != 0) = true := bne_iff_ne.mpr c30
       (first | rw [c30b0] | (simp only [i64_w, i32_w]; rw [c30b0]) | skip)
       have H' := Aside0.mk H
       clear H
       have hnb36 := NB336_335.out
       have hnc36 := NB335_336.out
       have hnb37 := NB336_337.out
       have hnc37 := NB337_336.out
       obtain ⟨_, _, _, _, _, _, _, _, _, _⟩ := zc5_ BK336.out
       have hnb39 := NB337_335.out
       have hnc39 := NB335_337.out
       obtain ⟨_, _, _, _, _, _, _, _, _, _⟩ := zc5_ BK337.out
       go_wp2
       go_meet
       case rel => exact ⟨_, (false), (by first | rfl | (simp; done) | (simp [*]; done)), H', ⟨by first | omega | exact Nat.le_refl _⟩, ⟨bk_ BK335.out⟩, ⟨bk_ BK336.out⟩, ⟨bk_ BK337.out⟩, ⟨es_⟩⟩
    ·replace c23 := Bool.eq_false_iff.mpr c23
     subst c23
     have H1 : (if a2_1 = true then (spec_l4K_product.j0 k (a1_0 != a2_0) (a1_3 == 0) a0_0 a0_1 a1_0 false false a1_3 a1_4 a2_0 a2_1 false a2_3 a2_4) else (spec_l4K_product.j0 k (a1_0 != a2_0) false a0_0 a0_1 a1_0 false false a1_3 a1_4 a2_0 a2_1 false a2_3 a2_4)) = some r := by rw [if_neg (show ¬ (false = true) by decide)] at H; first | done | exact H
     clear H
     have H := H1
     clear H1
     by_cases c41 : a2_1 = true
     ·subst c41
      have H1 : (spec_l4K_product.j0 k (a1_0 != a2_0) (a1_3 == 0) a0_0 a0_1 a1_0 false false a1_3 a1_4 a2_0 true false a2_3 a2_4) = some r := by rw [if_pos rfl] at H; first | done | exact H
      clear H
      have H := H1
      clear H1
      have H' := Aside0.mk H
      clear H
      have hnb42 := NB336_335.out
      have hnc42 := NB335_336.out
      have hnb43 := NB336_337.out
      have hnc43 := NB337_336.out
      obtain ⟨_, _, _, _, _, _, _, _, _, _⟩ := zc5_ BK336.out
      have hnb45 := NB337_335.out
      have hnc45 := NB335_337.out
      obtain ⟨_, _, _, _, _, _, _, _, _, _⟩ := zc5_ BK337.out
      go_wp2
      go_meet
      case rel => exact ⟨_, ((a1_3 == 0)), (by first | rfl | (simp; done) | (simp [*]; done)), H', ⟨by first | omega | exact Nat.le_refl _⟩, ⟨bk_ BK335.out⟩, ⟨bk_ BK336.out⟩, ⟨bk_ BK337.out⟩, ⟨es_⟩⟩
     ·replace c41 := Bool.eq_false_iff.mpr c41
      subst c41
      have H1 : (spec_l4K_product.j0 k (a1_0 != a2_0) false a0_0 a0_1 a1_0 false false a1_3 a1_4 a2_0 false false a2_3 a2_4) = some r := by rw [if_neg (show ¬ (false = true) by decide)] at H; first | done | exact H
      clear H
      have H := H1
      clear H1
      have H' := Aside0.mk H
      clear H
      have hnb47 := NB336_335.out
      have hnc47 := NB335_336.out
      have hnb48 := NB336_337.out
      have hnc48 := NB337_336.out
      obtain ⟨_, _, _, _, _, _, _, _, _, _⟩ := zc5_ BK336.out
      have hnb50 := NB337_335.out
      have hnc50 := NB335_337.out
      obtain ⟨_, _, _, _, _, _, _, _, _, _⟩ := zc5_ BK337.out
      go_wp2
      go_meet
      case rel => exact ⟨_, (false), (by first | rfl | (simp; done) | (simp [*]; done)), H', ⟨by first | omega | exact Nat.le_refl _⟩, ⟨bk_ BK335.out⟩, ⟨bk_ BK336.out⟩, ⟨bk_ BK337.out⟩, ⟨es_⟩⟩
 case rest =>
  clear HC4
  try clear p2
  obtain ⟨kq, x13_3, rfl, HA, HJ3, BK335, BK336, BK337, HB⟩ := hcut
  cases kq with
  | zero => exact absurd HA.out (by simp [spec_l4K_product.j0])
  | succ kj3 =>
   have H := HA.out
   clear HA
   simp only [spec_l4K_product.j0] at H
   by_cases c52 : x13_3 = true
   ·subst c52
    have H1 : ((spec_l4K_nan.f a0_0 a0_1).bind fun t338 => (some t338)) = some r := by rw [if_pos rfl] at H; first | done | exact H
    clear H
    have H := H1
    clear H1
    replace H := Option.bind_eq_some_iff.mp H
    obtain ⟨t338, A530, H⟩ := H
    try dsimp only at H
    have A53 := Aside0.mk A530
    clear A530
    obtain rfl := Option.some.inj H
    have hnb54 := NB335_336.out
    have hnc54 := NB336_335.out
    have hnb55 := NB335_337.out
    have hnc55 := NB337_335.out
    obtain ⟨_, _, _, _⟩ := zc2_ BK335.out
    go_wp2_with (first | ((with_reducible refine gate_callee (f := 114) rfl ?_); refine gl_ (some 49) rfl rfl Try.func114 (by kernel_rfl) rfl #[.agg #[.int .u64 a0_0, .int .u64 a0_1]] rfl ?_; (with_reducible refine (spec_l4K_nan.calls a0_0 a0_1 t338 _ A53.out).mono ?_); rintro e w57 ⟨rfl, hb⟩; refine ⟨_, rfl, ?_⟩; replace BK335 := bb_ BK335 hb; replace BK336 := bb_ BK336 hb; replace BK337 := bb_ BK337 hb; replace HB := eh_ hb; (try clear hb)))
    go_ret
    exact ⟨by first | rfl | (simp [errW_none, errW_some] <;> rfl) | (simp [*, errW_none, errW_some] <;> rfl), es_⟩
   ·replace c52 := Bool.eq_false_iff.mpr c52
    subst c52
    have H1 : (if a1_1 = true then (spec_l4K_product.j1 kj3 (a1_0 != a2_0) true a0_0 a0_1 a1_0 a1_1 a1_2 a1_3 a1_4 a2_0 a2_1 a2_2 a2_3 a2_4) else (spec_l4K_product.j1 kj3 (a1_0 != a2_0) a2_1 a0_0 a0_1 a1_0 a1_1 a1_2 a1_3 a1_4 a2_0 a2_1 a2_2 a2_3 a2_4)) = some r := by rw [if_neg (show ¬ (false = true) by decide)] at H; first | done | exact H
    clear H
    have H := H1
    clear H1
    have HC58 := Aside0.mk H
    clear H
    go_upto_region 4 with (fail)
    go_cut [50] (fun v50 wc => ∃ (kq : Nat) (x50_57 : Bool), v50 = .bool x50_57 ∧ Aside0 (spec_l4K_product.j1 kq (a1_0 != a2_0) x50_57 a0_0 a0_1 a1_0 a1_1 a1_2 a1_3 a1_4 a2_0 a2_1 a2_2 a2_3 a2_4 = some r) ∧ Aside0 (kq ≤ kj3) ∧ Aside0 (wc.heap[gb335]? = some (.cells #[.int .u64 a0_0, .int .u64 a0_1] 109 (0, 0))) ∧ Aside0 (wc.heap[gb336]? = some (.cells #[.bool a1_0, .bool a1_1, .bool a1_2, .int .u64 a1_3, .int .i64 a1_4] 114 (0, 0))) ∧ Aside0 (wc.heap[gb337]? = some (.cells #[.bool a2_0, .bool a2_1, .bool a2_2, .int .u64 a2_3, .int .i64 a2_4] 114 (0, 0))) ∧ Aside0 (Below w.heap.size w wc))
    case first =>
     have H := HC58.out
     clear HC58
     by_cases c59 : a1_1 = true
     ·subst c59
      have H1 : (spec_l4K_product.j1 kj3 (a1_0 != a2_0) true a0_0 a0_1 a1_0 true a1_2 a1_3 a1_4 a2_0 a2_1 a2_2 a2_3 a2_4) = some r := by rw [if_pos rfl] at H; first | done | exact H
      clear H
      have H := H1
      clear H1
      have H' := Aside0.mk H
      clear H
      have hnb60 := NB336_335.out
      have hnc60 := NB335_336.out
      have hnb61 := NB336_337.out
      have hnc61 := NB337_336.out
      obtain ⟨_, _, _, _, _, _, _, _, _, _⟩ := zc5_ BK336.out
      go_wp2
      go_meet
      case rel => exact ⟨_, (true), (by first | rfl | (simp; done) | (simp [*]; done)), H', ⟨by have := HJ3.out; first | omega | exact Nat.le_refl _⟩, ⟨bk_ BK335.out⟩, ⟨bk_ BK336.out⟩, ⟨bk_ BK337.out⟩, ⟨es_⟩⟩
     ·replace c59 := Bool.eq_false_iff.mpr c59
      subst c59
      have H1 : (spec_l4K_product.j1 kj3 (a1_0 != a2_0) a2_1 a0_0 a0_1 a1_0 false a1_2 a1_3 a1_4 a2_0 a2_1 a2_2 a2_3 a2_4) = some r := by rw [if_neg (show ¬ (false = true) by decide)] at H; first | done | exact H
      clear H
      have H := H1
      clear H1
      have H' := Aside0.mk H
      clear H
      have hnb63 := NB336_335.out
      have hnc63 := NB335_336.out
      have hnb64 := NB336_337.out
      have hnc64 := NB337_336.out
      obtain ⟨_, _, _, _, _, _, _, _, _, _⟩ := zc5_ BK336.out
      have hnb66 := NB337_335.out
      have hnc66 := NB335_337.out
      obtain ⟨_, _, _, _, _, _, _, _, _, _⟩ := zc5_ BK337.out
      go_wp2
      go_meet
      case rel => exact ⟨_, (a2_1), (by first | rfl | (simp; done) | (simp [*]; done)), H', ⟨by have := HJ3.out; first | omega | exact Nat.le_refl _⟩, ⟨bk_ BK335.out⟩, ⟨bk_ BK336.out⟩, ⟨bk_ BK337.out⟩, ⟨es_⟩⟩
    case rest =>
     clear HC58
     try clear p2
     try clear p2
     obtain ⟨kq, x50_57, rfl, HA, HJ57, BK335, BK336, BK337, HB⟩ := hcut
     cases kq with
     | zero => exact absurd HA.out (by simp [spec_l4K_product.j1])
     | succ kj57 =>
      have H := HA.out
      clear HA
      simp only [spec_l4K_product.j1] at H
      by_cases c68 : x50_57 = true
      ·subst c68
       have H1 : ((spec_l4K_inf.f a0_0 a0_1 (a1_0 != a2_0)).bind fun t339 => (some t339)) = some r := by rw [if_pos rfl] at H; first | done | exact H
       clear H
       have H := H1
       clear H1
       replace H := Option.bind_eq_some_iff.mp H
       obtain ⟨t339, A690, H⟩ := H
       try dsimp only at H
       have A69 := Aside0.mk A690
       clear A690
       obtain rfl := Option.some.inj H
       have hnb70 := NB335_336.out
       have hnc70 := NB336_335.out
       have hnb71 := NB335_337.out
       have hnc71 := NB337_335.out
       obtain ⟨_, _, _, _⟩ := zc2_ BK335.out
       go_wp2_with (first | ((with_reducible refine gate_callee (f := 115) rfl ?_); refine gl_ (some 59) rfl rfl Try.func115 (by kernel_rfl) rfl #[.agg #[.int .u64 a0_0, .int .u64 a0_1], .bool (a1_0 != a2_0)] rfl ?_; (with_reducible refine (spec_l4K_inf.calls a0_0 a0_1 (a1_0 != a2_0) t339 _ A69.out).mono ?_); rintro e w73 ⟨rfl, hb⟩; refine ⟨_, rfl, ?_⟩; replace BK335 := bb_ BK335 hb; replace BK336 := bb_ BK336 hb; replace BK337 := bb_ BK337 hb; replace HB := eh_ hb; (try clear hb)))
       go_ret
       exact ⟨by first | rfl | (simp [errW_none, errW_some] <;> rfl) | (simp [*, errW_none, errW_some] <;> rfl), es_⟩
      ·replace c68 := Bool.eq_false_iff.mpr c68
       subst c68
       have H1 : ((spec_l4K_round.f kj57 a0_0 a0_1 (a1_0 != a2_0) (IntKind.u64.wrap (a1_3 * a2_3)) (wrap64 (a1_4 + a2_4)) false).bind fun t340 => (some t340)) = some r := by rw [if_neg (show ¬ (false = true) by decide)] at H; first | done | exact H
       clear H
       have H := H1
       clear H1
       replace H := Option.bind_eq_some_iff.mp H
       obtain ⟨t340, A740, H⟩ := H
       try dsimp only at H
       have A74 := Aside0.mk A740
       clear A740
       obtain rfl := Option.some.inj H
       have hnb75 := NB335_336.out
       have hnc75 := NB336_335.out
       have hnb76 := NB335_337.out
       have hnc76 := NB337_335.out
       obtain ⟨_, _, _, _⟩ := zc2_ BK335.out
       have hnb78 := NB336_337.out
       have hnc78 := NB337_336.out
       obtain ⟨_, _, _, _, _, _, _, _, _, _⟩ := zc5_ BK336.out
       obtain ⟨_, _, _, _, _, _, _, _, _, _⟩ := zc5_ BK337.out
       go_wp2_with (first | ((with_reducible refine gate_callee (f := 120) rfl ?_); refine gl_ (some 72) rfl rfl Try.func120 (by kernel_rfl) rfl #[.agg #[.int .u64 a0_0, .int .u64 a0_1], .bool (a1_0 != a2_0), .int .u64 (IntKind.u64.wrap (a1_3 * a2_3)), .int .i64 (wrap64 (a1_4 + a2_4)), .bool false] rfl ?_; (with_reducible refine (spec_l4K_round.calls kj57 a0_0 a0_1 (a1_0 != a2_0) (IntKind.u64.wrap (a1_3 * a2_3)) (wrap64 (a1_4 + a2_4)) false t340 _ A74.out).mono ?_); rintro e w81 ⟨rfl, hb⟩; refine ⟨_, rfl, ?_⟩; replace BK335 := bb_ BK335 hb; replace BK336 := bb_ BK336 hb; replace BK337 := bb_ BK337 hb; replace HB := eh_ hb; (try clear hb)))
       go_ret
       exact ⟨by first | rfl | (simp [errW_none, errW_some] <;> rfl) | (simp [*, errW_none, errW_some] <;> rfl), es_⟩

end Go.Proofs.Ytdoflfifnkpacaa.FA
