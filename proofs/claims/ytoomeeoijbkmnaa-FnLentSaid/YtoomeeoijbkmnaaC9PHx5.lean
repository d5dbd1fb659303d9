-- Printed by a program of this session (after the kit's print.sh, with contracts of its own beside): Lean checks it.
import Derived.Test.YtoomeeoijbkmnaaC9PHx0
import Derived.Test.YtoomeeoijbkmnaaC9PHx1
namespace Go.Proofs.Ytoomeeoijbkmnaa.PH
open Go.RowKit Go.Proofs.YtoomeeoijbkmnaaW.PrintWords Go.Proofs.YtoomeeoijbkmnaaW.PrintLast Go.Proofs.YtoomeeoijbkmnaaW.PrintMore
attribute [local go_sem] max2_int min2_int max_two min_two max_three min_three max_four min_four   -- for this text's walks alone
set_option linter.unusedVariables false
set_option linter.unusedSimpArgs false

def impl_Handle_sound.j0 : Nat → Bool → Bool → Int → Int → Bool → Int → Int → Option (Bool)
 | 0, _, _, _, _, _, _, _ => none
 | k + 1, x35, x164000, x164001, x164002, x164003, x164004, x164005 => if x35 = true then (some false) else (if x164003 = true then (some (x164005 == 0)) else (if x164005 ≥ 1 then (some (decide (x164005 ≤ 1000))) else (some false)))
def impl_Handle_sound.f (k : Nat) (a0_0 : Bool) (a0_1 : Int) (a0_2 : Int) (a0_3 : Bool) (a0_4 : Int) (a0_5 : Int) : Option (Bool) := if a0_0 = true then (if a0_1 < 0 then (impl_Handle_sound.j0 k true a0_0 a0_1 a0_2 a0_3 a0_4 a0_5) else (if a0_1 > 9 then (impl_Handle_sound.j0 k true a0_0 a0_1 a0_2 a0_3 a0_4 a0_5) else (if a0_2 < 0 then (impl_Handle_sound.j0 k true a0_0 a0_1 a0_2 a0_3 a0_4 a0_5) else (if a0_2 > 1000000 then (impl_Handle_sound.j0 k true a0_0 a0_1 a0_2 a0_3 a0_4 a0_5) else (if a0_4 < 0 then (impl_Handle_sound.j0 k true a0_0 a0_1 a0_2 a0_3 a0_4 a0_5) else (impl_Handle_sound.j0 k (decide (a0_4 > 1000)) a0_0 a0_1 a0_2 a0_3 a0_4 a0_5)))))) else (impl_Handle_sound.j0 k true a0_0 a0_1 a0_2 a0_3 a0_4 a0_5)
set_option maxHeartbeats 8000000 in
set_option maxRecDepth 100000 in
theorem impl_Handle_sound.calls (k : Nat) (a0_0 : Bool) (a0_1 : Int) (a0_2 : Int) (a0_3 : Bool) (a0_4 : Int) (a0_5 : Int) (r : Bool) (w : World) (h : impl_Handle_sound.f k a0_0 a0_1 a0_2 a0_3 a0_4 a0_5 = some r) :
  Calls Try.prog 79 #[.agg #[.bool a0_0, .int .i64 a0_1, .int .i64 a0_2, .bool a0_3, .int .i64 a0_4, .int .i64 a0_5]] w fun e w' => e = .returned (.bool r) ∧ Below w.heap.size w w' := by
 have hu46 := Try.underlying46
 have HB := Aside0.mk (Below.refl w.heap.size w)
 have H : (if a0_0 = true then (if a0_1 < 0 then (impl_Handle_sound.j0 k true a0_0 a0_1 a0_2 a0_3 a0_4 a0_5) else (if a0_1 > 9 then (impl_Handle_sound.j0 k true a0_0 a0_1 a0_2 a0_3 a0_4 a0_5) else (if a0_2 < 0 then (impl_Handle_sound.j0 k true a0_0 a0_1 a0_2 a0_3 a0_4 a0_5) else (if a0_2 > 1000000 then (impl_Handle_sound.j0 k true a0_0 a0_1 a0_2 a0_3 a0_4 a0_5) else (if a0_4 < 0 then (impl_Handle_sound.j0 k true a0_0 a0_1 a0_2 a0_3 a0_4 a0_5) else (impl_Handle_sound.j0 k (decide (a0_4 > 1000)) a0_0 a0_1 a0_2 a0_3 a0_4 a0_5)))))) else (impl_Handle_sound.j0 k true a0_0 a0_1 a0_2 a0_3 a0_4 a0_5)) = some r := h
 clear h
 have HC2 := Aside0.mk H
 clear H
 go_enter Try.func79, Try.ntmps79
 go_upto_region 1 with (first | ((with_reducible refine gate_dst (N := 1) rfl ?_); refine box_event ?hg (N := 1) ?hd (cs := #[.bool a0_0, .int .i64 a0_1, .int .i64 a0_2, .bool a0_3, .int .i64 a0_4, .int .i64 a0_5]) (t := 46) ?hr ?_; (case hd => rfl); (case hg => rfl); (case hr => first | (go_simp; done) | (go_simp; rfl)); intro gb163 hg w3 hbox hb; have n0_ := Aside0.mk (below_step (by repeat (first | (with_reducible first | exact HB.out | apply eA | apply eN | apply eD) | exact HB.out)) hb); have n1_ := Aside0.mk (hbox); have n2_ := Aside0.mk ((by rw [hg]; exact (below_size (by repeat (first | (with_reducible first | exact HB.out | apply eA | apply eN | apply eD) | exact HB.out))) : w.heap.size ≤ gb163)); have n3_ := Aside0.mk ((by rw [hg]; exact (below_size (by repeat (first | (with_reducible first | exact HB.out | apply eA | apply eN | apply eD) | exact HB.out))) : w.heap.size ≤ gb163)); clear HB; have HB := n0_; have BK163 := n1_; have GW163 := n2_; have GE163 := n3_; clear n0_ n1_ n2_ n3_; clear hb hbox hg))
 (try simp only [Act.put, List.setIfInBounds_toArray, List.set_cons_zero, List.set_cons_succ])
 go_cut [35] (fun v35 wc => ∃ (kq : Nat) (x35_1 : Bool), v35 = .bool x35_1 ∧ Aside0 (impl_Handle_sound.j0 kq x35_1 a0_0 a0_1 a0_2 a0_3 a0_4 a0_5 = some r) ∧ Aside0 (kq ≤ k) ∧ Aside0 (wc.heap[gb163]? = some (.cells #[.bool a0_0, .int .i64 a0_1, .int .i64 a0_2, .bool a0_3, .int .i64 a0_4, .int .i64 a0_5] 46 (0, 0))) ∧ Aside0 (Below w.heap.size w wc))
 case first =>
  have H := HC2.out
  clear HC2
  by_cases c4 : a0_0 = true
  ·subst c4
   have H1 : (if a0_1 < 0 then (impl_Handle_sound.j0 k true true a0_1 a0_2 a0_3 a0_4 a0_5) else (if a0_1 > 9 then (impl_Handle_sound.j0 k true true a0_1 a0_2 a0_3 a0_4 a0_5) else (if a0_2 < 0 then (impl_Handle_sound.j0 k true true a0_1 a0_2 a0_3 a0_4 a0_5) else (if a0_2 > 1000000 then (impl_Handle_sound.j0 k true true a0_1 a0_2 a0_3 a0_4 a0_5) else (if a0_4 < 0 then (impl_Handle_sound.j0 k true true a0_1 a0_2 a0_3 a0_4 a0_5) else (impl_Handle_sound.j0 k (decide (a0_4 > 1000)) true a0_1 a0_2 a0_3 a0_4 a0_5)))))) = some r := by rw [if_pos rfl] at H; first | done | exact H
   clear H
   have H := H1
   clear H1
   by_cases c5 : a0_1 < 0
   ·rw [if_pos c5] at H
    have c5b0 : decide (a0_1 < 0) = true := decide_eq_true c5
    clear c5
    (first | rw [c5b0] | (simp only [i64_w, i32_w]; rw [c5b0]) | skip)
    have H' := Aside0.mk H
    clear H
    have hcz6_0 : w3.cell? ⟨gb163, 0, none⟩ = some (.bool true) := (blk_cell BK163.out 0).trans rfl
    have hcz6_1 : w3.cell? ⟨gb163, 1, none⟩ = some (.int .i64 a0_1) := (blk_cell BK163.out 1).trans rfl
    have hcz6_2 : w3.cell? ⟨gb163, 2, none⟩ = some (.int .i64 a0_2) := (blk_cell BK163.out 2).trans rfl
    have hcz6_3 : w3.cell? ⟨gb163, 3, none⟩ = some (.bool a0_3) := (blk_cell BK163.out 3).trans rfl
    have hcz6_4 : w3.cell? ⟨gb163, 4, none⟩ = some (.int .i64 a0_4) := (blk_cell BK163.out 4).trans rfl
    have hcz6_5 : w3.cell? ⟨gb163, 5, none⟩ = some (.int .i64 a0_5) := (blk_cell BK163.out 5).trans rfl
    have hfz6_0 := blk_frozen BK163.out 0
    have hfz6_1 := blk_frozen BK163.out 1
    have hfz6_2 := blk_frozen BK163.out 2
    have hfz6_3 := blk_frozen BK163.out 3
    have hfz6_4 := blk_frozen BK163.out 4
    have hfz6_5 := blk_frozen BK163.out 5
    go_wp2
    go_meet
    case rel => exact ⟨_, (true), (by first | rfl | (simp; done) | (simp [*]; done)), H', ⟨by first | omega | exact Nat.le_refl _⟩, ⟨by (with_reducible repeat first | apply bN | apply bD | apply bA); exact BK163.out⟩, ⟨by repeat (first | (with_reducible first | exact HB.out | apply eA | apply eN | apply eD | refine below_set ?_ GE163.out) | exact HB.out)⟩⟩
   ·rw [if_neg c5] at H
    have c5b0 : decide (a0_1 < 0) = false := decide_eq_false c5
    clear c5
    (first | rw [c5b0] | (simp only [i64_w, i32_w]; rw [c5b0]) | skip)
    by_cases c7 : a0_1 > 9
    ·rw [if_pos c7] at H
     have c7b0 : decide (9 < a0_1) = true := decide_eq_true c7
     clear c7
     have H' := Aside0.mk H
     clear H
     have hcz8_0 : w3.cell? ⟨gb163, 0, none⟩ = some (.bool true) := (blk_cell BK163.out 0).trans rfl
     have hcz8_1 : w3.cell? ⟨gb163, 1, none⟩ = some (.int .i64 a0_1) := (blk_cell BK163.out 1).trans rfl
     have hcz8_2 : w3.cell? ⟨gb163, 2, none⟩ = some (.int .i64 a0_2) := (blk_cell BK163.out 2).trans rfl
     have hcz8_3 : w3.cell? ⟨gb163, 3, none⟩ = some (.bool a0_3) := (blk_cell BK163.out 3).trans rfl
     have hcz8_4 : w3.cell? ⟨gb163, 4, none⟩ = some (.int .i64 a0_4) := (blk_cell BK163.out 4).trans rfl
     have hcz8_5 : w3.cell? ⟨gb163, 5, none⟩ = some (.int .i64 a0_5) := (blk_cell BK163.out 5).trans rfl
     have hfz8_0 := blk_frozen BK163.out 0
     have hfz8_1 := blk_frozen BK163.out 1
     have hfz8_2 := blk_frozen BK163.out 2
     have hfz8_3 := blk_frozen BK163.out 3
     have hfz8_4 := blk_frozen BK163.out 4
     have hfz8_5 := blk_frozen BK163.out 5
     go_wp2
     go_meet
     case rel => exact ⟨_, (true), (by first | rfl | (simp; done) | (simp [*]; done)), H', ⟨by first | omega | exact Nat.le_refl _⟩, ⟨by (with_reducible repeat first | apply bN | apply bD | apply bA); exact BK163.out⟩, ⟨by repeat (first | (with_reducible first | exact HB.out | apply eA | apply eN | apply eD | refine below_set ?_ GE163.out) | exact HB.out)⟩⟩
    ·rw [if_neg c7] at H
     have c7b0 : decide (9 < a0_1) = false := decide_eq_false c7
     clear c7
     by_cases c9 : a0_2 < 0
     ·rw [if_pos c9] at H
      have c9b0 : decide (a0_2 < 0) = true := decide_eq_true c9
      clear c9
      have H' := Aside0.mk H
      clear H
      have hcz10_0 : w3.cell? ⟨gb163, 0, none⟩ = some (.bool true) := (blk_cell BK163.out 0).trans rfl
      have hcz10_1 : w3.cell? ⟨gb163, 1, none⟩ = some (.int .i64 a0_1) := (blk_cell BK163.out 1).trans rfl
      have hcz10_2 : w3.cell? ⟨gb163, 2, none⟩ = some (.int .i64 a0_2) := (blk_cell BK163.out 2).trans rfl
      have hcz10_3 : w3.cell? ⟨gb163, 3, none⟩ = some (.bool a0_3) := (blk_cell BK163.out 3).trans rfl
      have hcz10_4 : w3.cell? ⟨gb163, 4, none⟩ = some (.int .i64 a0_4) := (blk_cell BK163.out 4).trans rfl
      have hcz10_5 : w3.cell? ⟨gb163, 5, none⟩ = some (.int .i64 a0_5) := (blk_cell BK163.out 5).trans rfl
      have hfz10_0 := blk_frozen BK163.out 0
      have hfz10_1 := blk_frozen BK163.out 1
      have hfz10_2 := blk_frozen BK163.out 2
      have hfz10_3 := blk_frozen BK163.out 3
      have hfz10_4 := blk_frozen BK163.out 4
      have hfz10_5 := blk_frozen BK163.out 5
      go_wp2
      go_meet
      case rel => exact ⟨_, (true), (by first | rfl | (simp; done) | (simp [*]; done)), H', ⟨by first | omega | exact Nat.le_refl _⟩, ⟨by (with_reducible repeat first | apply bN | apply bD | apply bA); exact BK163.out⟩, ⟨by repeat (first | (with_reducible first | exact HB.out | apply eA | apply eN | apply eD | refine below_set ?_ GE163.out) | exact HB.out)⟩⟩
     ·rw [if_neg c9] at H
      have c9b0 : decide (a0_2 < 0) = false := decide_eq_false c9
      clear c9
      by_cases c11 : a0_2 > 1000000
      ·rw [if_pos c11] at H
       have c11b0 : decide (1000000 < a0_2) = true := decide_eq_true c11
       clear c11
       have H' := Aside0.mk H
       clear H
       have hcz12_0 : w3.cell? ⟨gb163, 0, none⟩ = some (.bool true) := (blk_cell BK163.out 0).trans rfl
       have hcz12_1 : w3.cell? ⟨gb163, 1, none⟩ = some (.int .i64 a0_1) := (blk_cell BK163.out 1).trans rfl
       have hcz12_2 : w3.cell? ⟨gb163, 2, none⟩ = some (.int .i64 a0_2) := (blk_cell BK163.out 2).trans rfl
       have hcz12_3 : w3.cell? ⟨gb163, 3, none⟩ = some (.bool a0_3) := (blk_cell BK163.out 3).trans rfl
       have hcz12_4 : w3.cell? ⟨gb163, 4, none⟩ = some (.int .i64 a0_4) := (blk_cell BK163.out 4).trans rfl
       have hcz12_5 : w3.cell? ⟨gb163, 5, none⟩ = some (.int .i64 a0_5) := (blk_cell BK163.out 5).trans rfl
       have hfz12_0 := blk_frozen BK163.out 0
       have hfz12_1 := blk_frozen BK163.out 1
       have hfz12_2 := blk_frozen BK163.out 2
       have hfz12_3 := blk_frozen BK163.out 3
       have hfz12_4 := blk_frozen BK163.out 4
       have hfz12_5 := blk_frozen BK163.out 5
       go_wp2
       go_meet
       case rel => exact ⟨_, (true), (by first | rfl | (simp; done) | (simp [*]; done)), H', ⟨by first | omega | exact Nat.le_refl _⟩, ⟨by (with_reducible repeat first | apply bN | apply bD | apply bA); exact BK163.out⟩, ⟨by repeat (first | (with_reducible first | exact HB.out | apply eA | apply eN | apply eD | refine below_set ?_ GE163.out) | exact HB.out)⟩⟩
      ·rw [if_neg c11] at H
       have c11b0 : decide (1000000 < a0_2) = false := decide_eq_false c11
       clear c11
       by_cases c13 : a0_4 < 0
       ·rw [if_pos c13] at H
        have c13b0 : decide (a0_4 < 0) = true := decide_eq_true c13
        clear c13
        have H' := Aside0.mk H
        clear H
        have hcz14_0 : w3.cell? ⟨gb163, 0, none⟩ = some (.bool true) := (blk_cell BK163.out 0).trans rfl
        have hcz14_1 : w3.cell? ⟨gb163, 1, none⟩ = some (.int .i64 a0_1) := (blk_cell BK163.out 1).trans rfl
        have hcz14_2 : w3.cell? ⟨gb163, 2, none⟩ = some (.int .i64 a0_2) := (blk_cell BK163.out 2).trans rfl
        have hcz14_3 : w3.cell? ⟨gb163, 3, none⟩ = some (.bool a0_3) := (blk_cell BK163.out 3).trans rfl
        have hcz14_4 : w3.cell? ⟨gb163, 4, none⟩ = some (.int .i64 a0_4) := (blk_cell BK163.out 4).trans rfl
        have hcz14_5 : w3.cell? ⟨gb163, 5, none⟩ = some (.int .i64 a0_5) := (blk_cell BK163.out 5).trans rfl
        have hfz14_0 := blk_frozen BK163.out 0
        have hfz14_1 := blk_frozen BK163.out 1
        have hfz14_2 := blk_frozen BK163.out 2
        have hfz14_3 := blk_frozen BK163.out 3
        have hfz14_4 := blk_frozen BK163.out 4
        have hfz14_5 := blk_frozen BK163.out 5
        go_wp2
        go_meet
        case rel => exact ⟨_, (true), (by first | rfl | (simp; done) | (simp [*]; done)), H', ⟨by first | omega | exact Nat.le_refl _⟩, ⟨by (with_reducible repeat first | apply bN | apply bD | apply bA); exact BK163.out⟩, ⟨by repeat (first | (with_reducible first | exact HB.out | apply eA | apply eN | apply eD | refine below_set ?_ GE163.out) | exact HB.out)⟩⟩
       ·rw [if_neg c13] at H
        have c13b0 : decide (a0_4 < 0) = false := decide_eq_false c13
        clear c13
        have H' := Aside0.mk H
        clear H
        have hcz15_0 : w3.cell? ⟨gb163, 0, none⟩ = some (.bool true) := (blk_cell BK163.out 0).trans rfl
        have hcz15_1 : w3.cell? ⟨gb163, 1, none⟩ = some (.int .i64 a0_1) := (blk_cell BK163.out 1).trans rfl
        have hcz15_2 : w3.cell? ⟨gb163, 2, none⟩ = some (.int .i64 a0_2) := (blk_cell BK163.out 2).trans rfl
        have hcz15_3 : w3.cell? ⟨gb163, 3, none⟩ = some (.bool a0_3) := (blk_cell BK163.out 3).trans rfl
        have hcz15_4 : w3.cell? ⟨gb163, 4, none⟩ = some (.int .i64 a0_4) := (blk_cell BK163.out 4).trans rfl
        have hcz15_5 : w3.cell? ⟨gb163, 5, none⟩ = some (.int .i64 a0_5) := (blk_cell BK163.out 5).trans rfl
        have hfz15_0 := blk_frozen BK163.out 0
        have hfz15_1 := blk_frozen BK163.out 1
        have hfz15_2 := blk_frozen BK163.out 2
        have hfz15_3 := blk_frozen BK163.out 3
        have hfz15_4 := blk_frozen BK163.out 4
        have hfz15_5 := blk_frozen BK163.out 5
        go_wp2
        go_meet
        case rel => exact ⟨_, (decide (a0_4 > 1000)), (by first | rfl | (simp; done) | (simp [*]; done)), H', ⟨by first | omega | exact Nat.le_refl _⟩, ⟨by (with_reducible repeat first | apply bN | apply bD | apply bA); exact BK163.out⟩, ⟨by repeat (first | (with_reducible first | exact HB.out | apply eA | apply eN | apply eD | refine below_set ?_ GE163.out) | exact HB.out)⟩⟩
  ·replace c4 := Bool.eq_false_iff.mpr c4
   subst c4
   have H1 : (impl_Handle_sound.j0 k true false a0_1 a0_2 a0_3 a0_4 a0_5) = some r := by rw [if_neg (show ¬ (false = true) by decide)] at H; first | done | exact H
   clear H
   have H := H1
   clear H1
   have H' := Aside0.mk H
   clear H
   have hcz16_0 : w3.cell? ⟨gb163, 0, none⟩ = some (.bool false) := (blk_cell BK163.out 0).trans rfl
   have hcz16_1 : w3.cell? ⟨gb163, 1, none⟩ = some (.int .i64 a0_1) := (blk_cell BK163.out 1).trans rfl
   have hcz16_2 : w3.cell? ⟨gb163, 2, none⟩ = some (.int .i64 a0_2) := (blk_cell BK163.out 2).trans rfl
   have hcz16_3 : w3.cell? ⟨gb163, 3, none⟩ = some (.bool a0_3) := (blk_cell BK163.out 3).trans rfl
   have hcz16_4 : w3.cell? ⟨gb163, 4, none⟩ = some (.int .i64 a0_4) := (blk_cell BK163.out 4).trans rfl
   have hcz16_5 : w3.cell? ⟨gb163, 5, none⟩ = some (.int .i64 a0_5) := (blk_cell BK163.out 5).trans rfl
   have hfz16_0 := blk_frozen BK163.out 0
   have hfz16_1 := blk_frozen BK163.out 1
   have hfz16_2 := blk_frozen BK163.out 2
   have hfz16_3 := blk_frozen BK163.out 3
   have hfz16_4 := blk_frozen BK163.out 4
   have hfz16_5 := blk_frozen BK163.out 5
   go_wp2
   go_meet
   case rel => exact ⟨_, (true), (by first | rfl | (simp; done) | (simp [*]; done)), H', ⟨by first | omega | exact Nat.le_refl _⟩, ⟨by (with_reducible repeat first | apply bN | apply bD | apply bA); exact BK163.out⟩, ⟨by repeat (first | (with_reducible first | exact HB.out | apply eA | apply eN | apply eD | refine below_set ?_ GE163.out) | exact HB.out)⟩⟩
 case rest =>
  clear HC2
  try clear c1
  try clear p2
  try clear c4
  try clear c5
  try clear c5b0
  try clear c7
  try clear c7b0
  try clear c9
  try clear c9b0
  try clear c11
  try clear c11b0
  try clear c13
  try clear c13b0
  try clear hcz10_0
  try clear hcz10_1
  try clear hcz10_2
  try clear hcz10_3
  try clear hcz10_4
  try clear hcz10_5
  try clear hcz12_0
  try clear hcz12_1
  try clear hcz12_2
  try clear hcz12_3
  try clear hcz12_4
  try clear hcz12_5
  try clear hcz14_0
  try clear hcz14_1
  try clear hcz14_2
  try clear hcz14_3
  try clear hcz14_4
  try clear hcz14_5
  try clear hcz15_0
  try clear hcz15_1
  try clear hcz15_2
  try clear hcz15_3
  try clear hcz15_4
  try clear hcz15_5
  try clear hcz16_0
  try clear hcz16_1
  try clear hcz16_2
  try clear hcz16_3
  try clear hcz16_4
  try clear hcz16_5
  try clear hcz6_0
  try clear hcz6_1
  try clear hcz6_2
  try clear hcz6_3
  try clear hcz6_4
  try clear hcz6_5
  try clear hcz8_0
  try clear hcz8_1
  try clear hcz8_2
  try clear hcz8_3
  try clear hcz8_4
  try clear hcz8_5
  try clear hfz10_0
  try clear hfz10_1
  try clear hfz10_2
  try clear hfz10_3
  try clear hfz10_4
  try clear hfz10_5
  try clear hfz12_0
  try clear hfz12_1
  try clear hfz12_2
  try clear hfz12_3
  try clear hfz12_4
  try clear hfz12_5
  try clear hfz14_0
  try clear hfz14_1
  try clear hfz14_2
  try clear hfz14_3
  try clear hfz14_4
  try clear hfz14_5
  try clear hfz15_0
  try clear hfz15_1
  try clear hfz15_2
  try clear hfz15_3
  try clear hfz15_4
  try clear hfz15_5
  try clear hfz16_0
  try clear hfz16_1
  try clear hfz16_2
  try clear hfz16_3
  try clear hfz16_4
  try clear hfz16_5
  try clear hfz6_0
  try clear hfz6_1
  try clear hfz6_2
  try clear hfz6_3
  try clear hfz6_4
  try clear hfz6_5
  try clear hfz8_0
  try clear hfz8_1
  try clear hfz8_2
  try clear hfz8_3
  try clear hfz8_4
  try clear hfz8_5
  obtain ⟨kq, x35_1, rfl, HA, HJ1, BK163, HB⟩ := hcut
  cases kq with
  | zero => exact absurd HA.out (by simp [impl_Handle_sound.j0])
  | succ kj1 =>
   have H := HA.out
   clear HA
   simp only [impl_Handle_sound.j0] at H
   by_cases c17 : x35_1 = true
   ·subst c17
    have H1 : (some false) = some r := by rw [if_pos rfl] at H; first | done | exact H
    clear H
    have H := H1
    clear H1
    obtain rfl := Option.some.inj H
    go_wp2
    go_ret
    exact ⟨by first | rfl | (simp [errW_none, errW_some] <;> rfl) | (simp [*, errW_none, errW_some] <;> rfl), by repeat (first | (with_reducible first | exact HB.out | apply eA | apply eN | apply eD | refine below_set ?_ GE163.out) | exact HB.out)⟩
   ·replace c17 := Bool.eq_false_iff.mpr c17
    subst c17
    have H1 : (if a0_3 = true then (some (a0_5 == 0)) else (if a0_5 ≥ 1 then (some (decide (a0_5 ≤ 1000))) else (some false))) = some r := by rw [if_neg (show ¬ (false = true) by decide)] at H; first | done | exact H
    clear H
    have H := H1
    clear H1
    by_cases c18 : a0_3 = true
    ·subst c18
     have H1 : (some (a0_5 == 0)) = some r := by rw [if_pos rfl] at H; first | done | exact H
     clear H
     have H := H1
     clear H1
     obtain rfl := Option.some.inj H
     have hcz19_0 : wc.cell? ⟨gb163, 0, none⟩ = some (.bool a0_0) := (blk_cell BK163.out 0).trans rfl
     have hcz19_1 : wc.cell? ⟨gb163, 1, none⟩ = some (.int .i64 a0_1) := (blk_cell BK163.out 1).trans rfl
     have hcz19_2 : wc.cell? ⟨gb163, 2, none⟩ = some (.int .i64 a0_2) := (blk_cell BK163.out 2).trans rfl
     have hcz19_3 : wc.cell? ⟨gb163, 3, none⟩ = some (.bool true) := (blk_cell BK163.out 3).trans rfl
     have hcz19_4 : wc.cell? ⟨gb163, 4, none⟩ = some (.int .i64 a0_4) := (blk_cell BK163.out 4).trans rfl
     have hcz19_5 : wc.cell? ⟨gb163, 5, none⟩ = some (.int .i64 a0_5) := (blk_cell BK163.out 5).trans rfl
     have hfz19_0 := blk_frozen BK163.out 0
     have hfz19_1 := blk_frozen BK163.out 1
     have hfz19_2 := blk_frozen BK163.out 2
     have hfz19_3 := blk_frozen BK163.out 3
     have hfz19_4 := blk_frozen BK163.out 4
     have hfz19_5 := blk_frozen BK163.out 5
     go_wp2
     go_ret
     exact ⟨by first | rfl | (simp [errW_none, errW_some] <;> rfl) | (simp [*, errW_none, errW_some] <;> rfl), by repeat (first | (with_reducible first | exact HB.out | apply eA | apply eN | apply eD | refine below_set ?_ GE163.out) | exact HB.out)⟩
    ·replace c18 := Bool.eq_false_iff.mpr c18
     subst c18
     have H1 : (if a0_5 ≥ 1 then (some (decide (a0_5 ≤ 1000))) else (some false)) = some r := by rw [if_neg (show ¬ (false = true) by decide)] at H; first | done | exact H
     clear H
     have H := H1
     clear H1
     by_cases c20 : a0_5 ≥ 1
     ·rw [if_pos c20] at H
      have c20b0 : decide (1 ≤ a0_5) = true := decide_eq_true c20
      clear c20
      obtain rfl := Option.some.inj H
      have hcz21_0 : wc.cell? ⟨gb163, 0, none⟩ = some (.bool a0_0) := (blk_cell BK163.out 0).trans rfl
      have hcz21_1 : wc.cell? ⟨gb163, 1, none⟩ = some (.int .i64 a0_1) := (blk_cell BK163.out 1).trans rfl
      have hcz21_2 : wc.cell? ⟨gb163, 2, none⟩ = some (.int .i64 a0_2) := (blk_cell BK163.out 2).trans rfl
      have hcz21_3 : wc.cell? ⟨gb163, 3, none⟩ = some (.bool false) := (blk_cell BK163.out 3).trans rfl
      have hcz21_4 : wc.cell? ⟨gb163, 4, none⟩ = some (.int .i64 a0_4) := (blk_cell BK163.out 4).trans rfl
      have hcz21_5 : wc.cell? ⟨gb163, 5, none⟩ = some (.int .i64 a0_5) := (blk_cell BK163.out 5).trans rfl
      have hfz21_0 := blk_frozen BK163.out 0
      have hfz21_1 := blk_frozen BK163.out 1
      have hfz21_2 := blk_frozen BK163.out 2
      have hfz21_3 := blk_frozen BK163.out 3
      have hfz21_4 := blk_frozen BK163.out 4
      have hfz21_5 := blk_frozen BK163.out 5
      go_wp2
      go_ret
      exact ⟨by first | rfl | (simp [errW_none, errW_some] <;> rfl) | (simp [*, errW_none, errW_some] <;> rfl), by repeat (first | (with_reducible first | exact HB.out | apply eA | apply eN | apply eD | refine below_set ?_ GE163.out) | exact HB.out)⟩
     ·rw [if_neg c20] at H
      have c20b0 : decide (1 ≤ a0_5) = false := decide_eq_false c20
      clear c20
      obtain rfl := Option.some.inj H
      have hcz22_0 : wc.cell? ⟨gb163, 0, none⟩ = some (.bool a0_0) := (blk_cell BK163.out 0).trans rfl
      have hcz22_1 : wc.cell? ⟨gb163, 1, none⟩ = some (.int .i64 a0_1) := (blk_cell BK163.out 1).trans rfl
      have hcz22_2 : wc.cell? ⟨gb163, 2, none⟩ = some (.int .i64 a0_2) := (blk_cell BK163.out 2).trans rfl
      have hcz22_3 : wc.cell? ⟨gb163, 3, none⟩ = some (.bool false) := (blk_cell BK163.out 3).trans rfl
      have hcz22_4 : wc.cell? ⟨gb163, 4, none⟩ = some (.int .i64 a0_4) := (blk_cell BK163.out 4).trans rfl
      have hcz22_5 : wc.cell? ⟨gb163, 5, none⟩ = some (.int .i64 a0_5) := (blk_cell BK163.out 5).trans rfl
      have hfz22_0 := blk_frozen BK163.out 0
      have hfz22_1 := blk_frozen BK163.out 1
      have hfz22_2 := blk_frozen BK163.out 2
      have hfz22_3 := blk_frozen BK163.out 3
      have hfz22_4 := blk_frozen BK163.out 4
      have hfz22_5 := blk_frozen BK163.out 5
      go_wp2
      go_ret
      exact ⟨by first | rfl | (simp [errW_none, errW_some] <;> rfl) | (simp [*, errW_none, errW_some] <;> rfl), by repeat (first | (with_reducible first | exact HB.out | apply eA | apply eN | apply eD | refine below_set ?_ GE163.out) | exact HB.out)⟩

theorem z_region_tail {P : Program} {id : Nat} {Q : Exit → Act → World → Prop} {a : Act} {w : World} {l : List Oper} (n : Nat) (hm : P.follows .mixedOrders = true) (hB : Region.lexTailB .any l.toArray n = true)
  (h : wpStill P l.toArray w.drew (fun a' => wpList P l.toArray Q (l.drop n) a' w.drew) (l.take n) a) : (Code.region id l.toArray true).wp P Q a w := wp_region_still_tail n hm hB h
theorem z_cell_new (w : World) (arr : Array Value) (t : Nat) (fr : Nat × Nat) (j : Nat) : (w.alloc (.cells arr t fr)).cell? ⟨w.heap.size, j, none⟩ = arr[j]? := by
 unfold World.cell? World.alloc
 simp
theorem z_cell_old {w : World} {o : Obj} {b j : Nat} {v : Value} (h : w.cell? ⟨b, j, none⟩ = some v) : (w.alloc o).cell? ⟨b, j, none⟩ = some v := by
 have hlt := World.block_lt_of_cell? w _ h
 unfold World.cell? World.alloc at *
 simp only [Array.getElem?_push]
 rw [if_neg (by simpa using (Nat.ne_of_lt hlt))]
 exact h
theorem z_cell_far {w : World} {g b : Nat} {j o : Nat} {u v : Value} (h : w.cell? ⟨b, o, none⟩ = some v) (hne : g ≠ b) : (w.setCell ⟨g, j, none⟩ u).cell? ⟨b, o, none⟩ = some v := by
 unfold World.cell? World.setCell at *
 simp only [Array.getElem?_modify, hne, if_false]
 exact h

/-- An array of bools in a block. -/
def gb (m : List Bool) (i : Int) : Bool := m.getD i.toNat false
def barr (w : World) (g t : Nat) (m : List Bool) : Prop := w.heap[g]? = some (.cells (m.map Value.bool).toArray t (0, 0))
theorem barr_at {w : World} {g t : Nat} {m : List Bool} (h : barr w g t m) (i : Int) (h0 : 0 ≤ i) (h1 : i < m.length) : w.cell? ⟨g, i.toNat, none⟩ = some (.bool (gb m i)) := by
 unfold barr at h
 unfold World.cell? gb
 simp only [h]
 have : i.toNat < m.length := by omega
 simp [List.getD, this]
theorem barr_free {w : World} {g t : Nat} {m : List Bool} (h : barr w g t m) (j : Nat) : w.frozen? ⟨g, j, none⟩ = false := by
 unfold barr at h
 unfold World.frozen?
 simp only [h]
 simp
theorem barr_set {w : World} {g t : Nat} {m : List Bool} (h : barr w g t m) (j : Nat) (b : Bool) : barr (w.setCell ⟨g, j, none⟩ (.bool b)) g t (m.set j b) := by
 unfold barr at h ⊢
 unfold World.setCell
 simp only [Array.getElem?_modify, if_true, h]
 simp [List.map_set]
theorem barr_below {w w' : World} {g t : Nat} {m : List Bool} (h : barr w g t m) (hb : Below w.heap.size w w') : barr w' g t m := by
 unfold barr at h ⊢
 have hlt : g < w.heap.size := (Array.getElem?_eq_some_iff.1 h).1
 exact (hb.block g hlt).trans h

theorem z_barr_push (h : Array Obj) (o o' : Obj) : ((h.push o).push o')[h.size + 1]? = some o' := by
 have e : (h.push o).size = h.size + 1 := by simp
 rw [← e, Array.getElem?_push_size]
theorem z_barr_alloc2 (w : World) (o : Obj) (t : Nat) : barr ((w.alloc o).alloc (.cells ((List.replicate 40 false).map Value.bool).toArray t (0, 0))) (w.heap.size + 1) t (List.replicate 40 false) := z_barr_push _ _ _
theorem z_size_alloc2 (w : World) (o o' : Obj) : w.heap.size + 1 < ((w.alloc o).alloc o').heap.size := by
 unfold World.alloc
 simp
theorem z_lt_new {w : World} {n : Nat} (o : Obj) (h : n < w.heap.size) : n < (w.alloc o).heap.size := by
 show n < (w.heap.push o).size
 simp
 omega
theorem barr_new {w : World} {g t : Nat} {m : List Bool} (h : barr w g t m) (o : Obj) : barr (w.alloc o) g t m := barr_below h (below_alloc (Below.refl _ _) o)

def isz (h : S46) : Bool := !h.f0 && (h.f1 == 0 && (h.f2 == 0 && (!h.f3 && (h.f4 == 0 && h.f5 == 0))))
def impl_GoodTable.l1 (q : Nat) : Nat → List S46 → List Bool → Int → Option Bool
 | 0, _, _, _ => none
 | k + 1, l0, m, y => if y < (l0.length : Int) then (if gb m y = true then (if isz (rd_T46 l0 y) = true then impl_GoodTable.l1 q k l0 m (y + 1) else some false) else (if isz (rd_T46 l0 y) = true then some false else ((impl_Handle_sound.f q (rd_T46 l0 y).f0 (rd_T46 l0 y).f1 (rd_T46 l0 y).f2 (rd_T46 l0 y).f3 (rd_T46 l0 y).f4 (rd_T46 l0 y).f5).bind fun t => if t = true then impl_GoodTable.l1 q k l0 m (y + 1) else some false))) else some true
def impl_GoodTable.l0 (q : Nat) : Nat → List S46 → List Int → List Bool → Int → Option Bool
 | 0, _, _, _, _ => none
 | k + 1, l0, l1, m, x => if x < (l1.length : Int) then (if rd l1 x < 0 then some false else (if rd l1 x ≥ (l0.length : Int) then some false else (if gb m (rd l1 x) = true then some false else impl_GoodTable.l0 q k l0 l1 (m.set (rd l1 x).toNat true) (x + 1)))) else impl_GoodTable.l1 q q l0 m 0
def impl_GoodTable.f (k : Nat) (l0_0 : List S46) (l0_1 : List Int) : Option Bool :=
 if (l0_0.length : Int) > 40 then some false else (if (l0_1.length : Int) > (l0_0.length : Int) then some false else impl_GoodTable.l0 k k l0_0 l0_1 (List.replicate 40 false) 0)

attribute [local go_sem high] eqA46
set_option maxHeartbeats 1000000 in
set_option maxRecDepth 100000 in
theorem impl_GoodTable.calls (k : Nat) (A0_0 : Option Addr) (c0_0 : Nat) (l0_0 : List (S46)) (A0_1 : Option Addr) (c0_1 : Nat) (l0_1 : List Int) (r : Bool) (w : World) (hr0_0 : Kd.C k46 w A0_0 l0_0.length l0_0) (hc0_0 : l0_0.length ≤ c0_0) (hr0_1 : Kd.C (Kd.int .i64) w A0_1 l0_1.length l0_1) (hc0_1 : l0_1.length ≤ c0_1) (hh : impl_GoodTable.f k l0_0 l0_1 = some r) :
  Calls Try.prog 40 #[.agg #[.slice A0_0 l0_0.length c0_0, .slice A0_1 l0_1.length c0_1]] w fun e w' => e = .returned (.bool r) ∧ Below w.heap.size w w' := by
 have H1 := Aside0.mk hr0_1
 have H0 := Aside0.mk hr0_0
 clear hr0_0 hr0_1
 unfold impl_GoodTable.f at hh
 by_cases h : (l0_0.length : Int) > 40
 ·rw [if_pos h] at hh
  obtain rfl := Option.some.inj hh
  have h' : decide (40 < l0_0.length) = true := by simp; omega
  go_enter Try.func40, Try.ntmps40
  go_wp2
  go_ret
  exact ⟨rfl, by repeat (first | exact Below.refl _ _ | apply eA)⟩
 rw [if_neg h] at hh
 have h' : decide (40 < l0_0.length) = false := by simp; omega
 by_cases h2 : (l0_1.length : Int) > (l0_0.length : Int)
 ·rw [if_pos h2] at hh
  obtain rfl := Option.some.inj hh
  have h2' : decide (l0_0.length < l0_1.length) = true := by simp; omega
  go_enter Try.func40, Try.ntmps40
  go_wp2
  go_ret
  exact ⟨rfl, by repeat (first | exact Below.refl _ _ | apply eA)⟩
 rw [if_neg h2] at hh
 have h2' : decide (l0_0.length < l0_1.length) = false := by simp; omega
 have HH := Aside0.mk hh
 clear hh
 go_enter Try.func40, Try.ntmps40
 go_wp2_with fail
 go_loopg [24] k (fun gk v24 wr => ∃ (x : Int) (m : List Bool), v24 = .int .i64 x ∧ Aside0 (0 ≤ x) ∧ Aside0 (impl_GoodTable.l0 k gk l0_0 l0_1 m x = some r) ∧ Aside0 (m.length = 40) ∧ Aside0 (barr wr (w.heap.size + 1) 109 m) ∧ wr.cell? ⟨w.heap.size, 0, none⟩ = some (.slice A0_0 l0_0.length c0_0) ∧ wr.cell? ⟨w.heap.size, 1, none⟩ = some (.slice A0_1 l0_1.length c0_1) ∧ Aside0 (Below w.heap.size w wr) ∧ Aside0 (w.heap.size + 1 < wr.heap.size))
 case atStart => exact ⟨0, List.replicate 40 false, rfl, ⟨Int.le_refl _⟩, HH, ⟨by simp⟩, ⟨z_barr_alloc2 _ _ _⟩, z_cell_old (z_cell_new _ _ _ _ 0), z_cell_old (z_cell_new _ _ _ _ 1), ⟨below_alloc (below_alloc (Below.refl _ _) _) _⟩, ⟨z_size_alloc2 _ _ _⟩⟩
 case round =>
  clear HH
  obtain ⟨x, m, rfl, X0, HX, M, B, T0, T1, HB, HS⟩ := hrel
  cases gk with
  | zero => exact absurd HX.out (by simp [impl_GoodTable.l0])
  | succ k1 =>
  have hx1 := HX.out
  clear HX
  simp only [impl_GoodTable.l0] at hx1
  by_cases hlt : x < (l0_1.length : Int)
  ·rw [if_pos hlt] at hx1
   have p0 : 0 ≤ x := X0.out
   have hr := Kd.C_below H1.out HB.out
   obtain ⟨ad, e, hx⟩ := Kd.at_int hr x p0 hlt
   cases e
   clear hr
   by_cases hk0 : rd l0_1 x < 0
   ·rw [if_pos hk0] at hx1
    obtain rfl := Option.some.inj hx1
    have d0 : decide (rd l0_1 x < 0) = true := decide_eq_true hk0
    go_wp2
    go_ret
    exact ⟨rfl, HB.out⟩
   ·rw [if_neg hk0] at hx1
    have d0 : decide (rd l0_1 x < 0) = false := decide_eq_false hk0
    by_cases hk1 : rd l0_1 x ≥ (l0_0.length : Int)
    ·rw [if_pos hk1] at hx1
     obtain rfl := Option.some.inj hx1
     have d1 : decide (rd l0_1 x ≥ (l0_0.length : Int)) = true := decide_eq_true hk1
     go_wp2
     go_ret
     exact ⟨rfl, HB.out⟩
    ·rw [if_neg hk1] at hx1
     have d1 : decide (rd l0_1 x ≥ (l0_0.length : Int)) = false := decide_eq_false hk1
     have q0 : 0 ≤ rd l0_1 x := by omega
     have q1 : rd l0_1 x < 40 := by omega
     have hb := barr_at B.out (rd l0_1 x) q0 (by rw [M.out]; omega)
     by_cases hm : gb m (rd l0_1 x) = true
     ·rw [if_pos hm] at hx1
      obtain rfl := Option.some.inj hx1
      rw [hm] at hb
      go_wp2
      go_ret
      exact ⟨rfl, HB.out⟩
     ·rw [if_neg hm] at hx1
      have HX := Aside0.mk hx1
      clear hx1
      have hm : gb m (rd l0_1 x) = false := by simpa using hm
      rw [hm] at hb
      have hf := barr_free B.out (rd l0_1 x).toNat
      go_wp2
      go_roundg k1
      case measure => omega
      case rel => exact ⟨x + 1, m.set (rd l0_1 x).toNat true, rfl, ⟨by omega⟩, HX, ⟨by rw [List.length_set]; exact M.out⟩, ⟨barr_set B.out _ _⟩, z_cell_far T0 (by omega), z_cell_far T1 (by omega), ⟨HB.out.setCell (by simp) _⟩, ⟨by simpa [World.setCell] using HS.out⟩⟩
  ·rw [if_neg hlt] at hx1
   have HX := Aside0.mk hx1
   clear hx1
   go_wp2_with fail
   go_loopg [48] k (fun gk v48 wr => ∃ (y : Int), v48 = .int .i64 y ∧ Aside0 (0 ≤ y) ∧ Aside0 (impl_GoodTable.l1 k gk l0_0 m y = some r) ∧ Aside0 (barr wr (w.heap.size + 1) 109 m) ∧ Aside0 (Below w.heap.size w wr) ∧ Aside0 (w.heap.size + 1 < wr.heap.size))
   case atStart => exact ⟨0, rfl, ⟨Int.le_refl _⟩, HX, B, HB, HS⟩
   case round =>
    clear HX T0 T1
    obtain ⟨y, rfl, Y0, HX, B2, HB2, HS2⟩ := hrel
    cases gk with
    | zero => exact absurd HX.out (by simp [impl_GoodTable.l1])
    | succ k2 =>
    have hx1 := HX.out
    clear HX
    simp only [impl_GoodTable.l1] at hx1
    by_cases hlt2 : y < (l0_0.length : Int)
    ·rw [if_pos hlt2] at hx1
     have p0 : 0 ≤ y := Y0.out
     have hr := Kd.C_below H0.out HB2.out
     obtain ⟨ad, e, g0, g1, g2, g3, g4, g5⟩ := at_T46 hr y p0 hlt2
     cases e
     clear hr
     have hb := barr_at B2.out y p0 (by rw [M.out]; omega)
     generalize hT : rd_T46 l0_0 y = T at *
     have HT := Aside0.mk hT
     clear hT
     have y40 : y < 40 := by omega
     have HBel := Aside0.mk (below_alloc HB2.out (.cells #[.bool T.f0, .int .i64 T.f1, .int .i64 T.f2, .bool T.f3, .int .i64 T.f4, .int .i64 T.f5] 46))
     have HBar := Aside0.mk (barr_new B2.out (.cells #[.bool T.f0, .int .i64 T.f1, .int .i64 T.f2, .bool T.f3, .int .i64 T.f4, .int .i64 T.f5] 46))
     have HSz := Aside0.mk (z_lt_new (.cells #[.bool T.f0, .int .i64 T.f1, .int .i64 T.f2, .bool T.f3, .int .i64 T.f4, .int .i64 T.f5] 46) HS2.out)
     by_cases hm : gb m y = true
     ·rw [if_pos hm] at hx1
      rw [hm] at hb
      by_cases hz : isz T = true
      ·rw [if_pos hz] at hx1
       have HX := Aside0.mk hx1
       clear hx1
       have hz' : (!T.f0 && (T.f1 == 0 && (T.f2 == 0 && (!T.f3 && (T.f4 == 0 && T.f5 == 0))))) = true := hz
       clear hz
       go_wp2_with fail
       obtain ⟨W1, hW⟩ : ∃ W1, W1 = wr.alloc (.cells #[.bool T.f0, .int .i64 T.f1, .int .i64 T.f2, .bool T.f3, .int .i64 T.f4, .int .i64 T.f5] 46) := ⟨_, rfl⟩
       have n0 : W1.cell? ⟨wr.heap.size, 0, none⟩ = some (Value.bool T.f0) := by rw [hW]; exact z_cell_new _ _ _ _ _
       have n1 : W1.cell? ⟨wr.heap.size, 1, none⟩ = some (Value.int .i64 T.f1) := by rw [hW]; exact z_cell_new _ _ _ _ _
       have n2 : W1.cell? ⟨wr.heap.size, 2, none⟩ = some (Value.int .i64 T.f2) := by rw [hW]; exact z_cell_new _ _ _ _ _
       have n3 : W1.cell? ⟨wr.heap.size, 3, none⟩ = some (Value.bool T.f3) := by rw [hW]; exact z_cell_new _ _ _ _ _
       have n4 : W1.cell? ⟨wr.heap.size, 4, none⟩ = some (Value.int .i64 T.f4) := by rw [hW]; exact z_cell_new _ _ _ _ _
       have n5 : W1.cell? ⟨wr.heap.size, 5, none⟩ = some (Value.int .i64 T.f5) := by rw [hW]; exact z_cell_new _ _ _ _ _
       replace hb : W1.cell? ⟨w.heap.size + 1, y.toNat, none⟩ = some (.bool true) := by rw [hW]; exact z_cell_old hb
       rw [← hW] at HBel HBar HSz
       rw [← hW]
       clear hW g0 g1 g2 g3 g4 g5
       go_quiet (fail)
       go_wp2
       go_roundg k2
       case measure => omega
       case rel => exact ⟨y + 1, rfl, ⟨by omega⟩, HX, ⟨HBar.out⟩, ⟨by first | exact pw_below_drewN HBel.out _ | exact below_drew1 HBel.out⟩, ⟨HSz.out⟩⟩
      ·rw [if_neg hz] at hx1
       obtain rfl := Option.some.inj hx1
       have hz' : (!T.f0 && (T.f1 == 0 && (T.f2 == 0 && (!T.f3 && (T.f4 == 0 && T.f5 == 0))))) = false := Bool.eq_false_iff.2 hz
       clear hz
       go_wp2_with fail
       obtain ⟨W1, hW⟩ : ∃ W1, W1 = wr.alloc (.cells #[.bool T.f0, .int .i64 T.f1, .int .i64 T.f2, .bool T.f3, .int .i64 T.f4, .int .i64 T.f5] 46) := ⟨_, rfl⟩
       have n0 : W1.cell? ⟨wr.heap.size, 0, none⟩ = some (Value.bool T.f0) := by rw [hW]; exact z_cell_new _ _ _ _ _
       have n1 : W1.cell? ⟨wr.heap.size, 1, none⟩ = some (Value.int .i64 T.f1) := by rw [hW]; exact z_cell_new _ _ _ _ _
       have n2 : W1.cell? ⟨wr.heap.size, 2, none⟩ = some (Value.int .i64 T.f2) := by rw [hW]; exact z_cell_new _ _ _ _ _
       have n3 : W1.cell? ⟨wr.heap.size, 3, none⟩ = some (Value.bool T.f3) := by rw [hW]; exact z_cell_new _ _ _ _ _
       have n4 : W1.cell? ⟨wr.heap.size, 4, none⟩ = some (Value.int .i64 T.f4) := by rw [hW]; exact z_cell_new _ _ _ _ _
       have n5 : W1.cell? ⟨wr.heap.size, 5, none⟩ = some (Value.int .i64 T.f5) := by rw [hW]; exact z_cell_new _ _ _ _ _
       replace hb : W1.cell? ⟨w.heap.size + 1, y.toNat, none⟩ = some (.bool true) := by rw [hW]; exact z_cell_old hb
       rw [← hW] at HBel HBar HSz
       rw [← hW]
       clear hW g0 g1 g2 g3 g4 g5
       go_quiet (fail)
       go_wp2
       go_ret
       exact ⟨rfl, by first | exact pw_below_drewN HBel.out _ | exact below_drew1 HBel.out⟩
     ·rw [if_neg hm] at hx1
      have hm : gb m y = false := by simpa using hm
      rw [hm] at hb
      by_cases hz : isz T = true
      ·rw [if_pos hz] at hx1
       obtain rfl := Option.some.inj hx1
       have hz' : (!T.f0 && (T.f1 == 0 && (T.f2 == 0 && (!T.f3 && (T.f4 == 0 && T.f5 == 0))))) = true := hz
       clear hz
       go_wp2_with fail
       obtain ⟨W1, hW⟩ : ∃ W1, W1 = wr.alloc (.cells #[.bool T.f0, .int .i64 T.f1, .int .i64 T.f2, .bool T.f3, .int .i64 T.f4, .int .i64 T.f5] 46) := ⟨_, rfl⟩
       have n0 : W1.cell? ⟨wr.heap.size, 0, none⟩ = some (Value.bool T.f0) := by rw [hW]; exact z_cell_new _ _ _ _ _
       have n1 : W1.cell? ⟨wr.heap.size, 1, none⟩ = some (Value.int .i64 T.f1) := by rw [hW]; exact z_cell_new _ _ _ _ _
       have n2 : W1.cell? ⟨wr.heap.size, 2, none⟩ = some (Value.int .i64 T.f2) := by rw [hW]; exact z_cell_new _ _ _ _ _
       have n3 : W1.cell? ⟨wr.heap.size, 3, none⟩ = some (Value.bool T.f3) := by rw [hW]; exact z_cell_new _ _ _ _ _
       have n4 : W1.cell? ⟨wr.heap.size, 4, none⟩ = some (Value.int .i64 T.f4) := by rw [hW]; exact z_cell_new _ _ _ _ _
       have n5 : W1.cell? ⟨wr.heap.size, 5, none⟩ = some (Value.int .i64 T.f5) := by rw [hW]; exact z_cell_new _ _ _ _ _
       replace hb : W1.cell? ⟨w.heap.size + 1, y.toNat, none⟩ = some (.bool false) := by rw [hW]; exact z_cell_old hb
       rw [← hW] at HBel HBar HSz
       rw [← hW]
       clear hW g0 g1 g2 g3 g4 g5
       go_quiet (fail)
       go_wp2
       go_ret
       exact ⟨rfl, by first | exact pw_below_drewN HBel.out _ | exact below_drew1 HBel.out⟩
      ·rw [if_neg hz] at hx1
       have hz' : (!T.f0 && (T.f1 == 0 && (T.f2 == 0 && (!T.f3 && (T.f4 == 0 && T.f5 == 0))))) = false := Bool.eq_false_iff.2 hz
       clear hz
       replace hx1 := Option.bind_eq_some_iff.mp hx1
       obtain ⟨t, ht, hx1⟩ := hx1
       have HT2 := Aside0.mk ht
       clear ht
       cases t with
       | true =>
        rw [if_pos rfl] at hx1
        have HX := Aside0.mk hx1
        clear hx1
        go_wp2_with fail
        obtain ⟨W1, hW⟩ : ∃ W1, W1 = wr.alloc (.cells #[.bool T.f0, .int .i64 T.f1, .int .i64 T.f2, .bool T.f3, .int .i64 T.f4, .int .i64 T.f5] 46) := ⟨_, rfl⟩
        have n0 : W1.cell? ⟨wr.heap.size, 0, none⟩ = some (Value.bool T.f0) := by rw [hW]; exact z_cell_new _ _ _ _ _
        have n1 : W1.cell? ⟨wr.heap.size, 1, none⟩ = some (Value.int .i64 T.f1) := by rw [hW]; exact z_cell_new _ _ _ _ _
        have n2 : W1.cell? ⟨wr.heap.size, 2, none⟩ = some (Value.int .i64 T.f2) := by rw [hW]; exact z_cell_new _ _ _ _ _
        have n3 : W1.cell? ⟨wr.heap.size, 3, none⟩ = some (Value.bool T.f3) := by rw [hW]; exact z_cell_new _ _ _ _ _
        have n4 : W1.cell? ⟨wr.heap.size, 4, none⟩ = some (Value.int .i64 T.f4) := by rw [hW]; exact z_cell_new _ _ _ _ _
        have n5 : W1.cell? ⟨wr.heap.size, 5, none⟩ = some (Value.int .i64 T.f5) := by rw [hW]; exact z_cell_new _ _ _ _ _
        replace hb : W1.cell? ⟨w.heap.size + 1, y.toNat, none⟩ = some (.bool false) := by rw [hW]; exact z_cell_old hb
        rw [← hW] at HBel HBar HSz
        rw [← hW]
        clear hW g0 g1 g2 g3 g4 g5
        refine z_region_tail 14 (by kernel_rfl) (by kernel_rfl) ?_
        simp only [List.take_succ_cons, List.take_zero, List.drop_succ_cons, List.drop_zero]
        repeat still_step
        refine wpStill_nil ?_
        go_wp2_with (go_at_call 79; refine (impl_Handle_sound.calls k _ _ _ _ _ _ _ _ HT2.out).mono ?_; rintro e w' ⟨rfl, hb'⟩; have HB3 := Aside0.mk hb'; clear hb')
        go_roundg k2
        case measure => omega
        case rel => exact ⟨y + 1, rfl, ⟨by omega⟩, HX, ⟨barr_below (w := W1.drew) HBar.out HB3.out⟩, ⟨below_step (below_drew1 HBel.out) HB3.out⟩, ⟨Nat.lt_of_lt_of_le HSz.out HB3.out.size⟩⟩
       | false =>
        rw [if_neg (by decide)] at hx1
        obtain rfl := Option.some.inj hx1
        go_wp2_with fail
        obtain ⟨W1, hW⟩ : ∃ W1, W1 = wr.alloc (.cells #[.bool T.f0, .int .i64 T.f1, .int .i64 T.f2, .bool T.f3, .int .i64 T.f4, .int .i64 T.f5] 46) := ⟨_, rfl⟩
        have n0 : W1.cell? ⟨wr.heap.size, 0, none⟩ = some (Value.bool T.f0) := by rw [hW]; exact z_cell_new _ _ _ _ _
        have n1 : W1.cell? ⟨wr.heap.size, 1, none⟩ = some (Value.int .i64 T.f1) := by rw [hW]; exact z_cell_new _ _ _ _ _
        have n2 : W1.cell? ⟨wr.heap.size, 2, none⟩ = some (Value.int .i64 T.f2) := by rw [hW]; exact z_cell_new _ _ _ _ _
        have n3 : W1.cell? ⟨wr.heap.size, 3, none⟩ = some (Value.bool T.f3) := by rw [hW]; exact z_cell_new _ _ _ _ _
        have n4 : W1.cell? ⟨wr.heap.size, 4, none⟩ = some (Value.int .i64 T.f4) := by rw [hW]; exact z_cell_new _ _ _ _ _
        have n5 : W1.cell? ⟨wr.heap.size, 5, none⟩ = some (Value.int .i64 T.f5) := by rw [hW]; exact z_cell_new _ _ _ _ _
        replace hb : W1.cell? ⟨w.heap.size + 1, y.toNat, none⟩ = some (.bool false) := by rw [hW]; exact z_cell_old hb
        rw [← hW] at HBel HBar HSz
        rw [← hW]
        clear hW g0 g1 g2 g3 g4 g5
        refine z_region_tail 14 (by kernel_rfl) (by kernel_rfl) ?_
        simp only [List.take_succ_cons, List.take_zero, List.drop_succ_cons, List.drop_zero]
        repeat still_step
        refine wpStill_nil ?_
        go_wp2_with (go_at_call 79; refine (impl_Handle_sound.calls k _ _ _ _ _ _ _ _ HT2.out).mono ?_; rintro e w' ⟨rfl, hb'⟩; have HB3 := Aside0.mk hb'; clear hb')
        go_ret
        exact ⟨rfl, below_step (below_drew1 HBel.out) HB3.out⟩
    ·rw [if_neg hlt2] at hx1
     obtain rfl := Option.some.inj hx1
     go_wp2
     go_ret
     exact ⟨rfl, HB2.out⟩

-- NOT PRINTED: function 68 (impl_Table_find)

def impl_Table_find.f (l0_0 : List (S46)) (a1 : Int) (a2 : Int) : Option (Bool × Int × Int × Bool × Int × Int × Int) :=
 if a1 < 0 then some (false, 0, 0, false, 0, 0, 2) else (if a1 < (l0_0.length : Int) then (if (rd_T46 l0_0 a1).f0 = true then (if (rd_T46 l0_0 a1).f1 = a2 then some ((rd_T46 l0_0 a1).f0, (rd_T46 l0_0 a1).f1, (rd_T46 l0_0 a1).f2, (rd_T46 l0_0 a1).f3, (rd_T46 l0_0 a1).f4, (rd_T46 l0_0 a1).f5, 0) else some (false, 0, 0, false, 0, 0, 3)) else some (false, 0, 0, false, 0, 0, 2)) else some (false, 0, 0, false, 0, 0, 2))
set_option maxHeartbeats 2000000 in
set_option maxRecDepth 100000 in
theorem impl_Table_find.calls (A0_0 : Option Addr) (c0_0 : Nat) (l0_0 : List (S46)) (g : Nat) (a1 : Int) (a2 : Int) (r1 : Bool) (r2 : Int) (r3 : Int) (r4 : Bool) (r5 : Int) (r6 : Int) (r7 : Int) (w : World) (hg : w.cell? ⟨g, 0, none⟩ = some (.slice A0_0 l0_0.length c0_0)) (hr0_0 : Kd.C k46 w A0_0 l0_0.length l0_0) (h : impl_Table_find.f l0_0 a1 a2 = some (r1, r2, r3, r4, r5, r6, r7)) :
  Calls Try.prog 68 #[.pointer (some ⟨g, 0, none⟩), .int .i64 a1, .int .i64 a2] w fun e w' => e = .returned (.tuple #[.agg #[.bool r1, .int .i64 r2, .int .i64 r3, .bool r4, .int .i64 r5, .int .i64 r6], .int .i64 r7]) ∧ Below w.heap.size w w' := by
 have H0 := Aside0.mk hr0_0
 have zg := World.block_lt_of_cell? w _ hg
 clear hr0_0
 unfold impl_Table_find.f at h
 by_cases ha : a1 < 0
 ·rw [if_pos ha] at h
  simp only [Option.some.injEq, Prod.mk.injEq] at h
  obtain ⟨rfl, rfl, rfl, rfl, rfl, rfl, rfl⟩ := h
  have ha' : decide (a1 < 0) = true := decide_eq_true ha
  go_enter Try.func68, Try.ntmps68
  go_wp2
  exact bodyPost_ret (results_ct rfl _ _ w.heap.size 46 #[.bool false, .int .i64 0, .int .i64 0, .bool false, .int .i64 0, .int .i64 0] (0, 0) _ rfl (blk_new _ _) Try.underlying46 rfl (by kernel_rfl)) rfl ⟨rfl, below_alloc (Below.refl _ _) _⟩
 ·rw [if_neg ha] at h
  have ha' : decide (a1 < 0) = false := decide_eq_false ha
  by_cases hl : a1 < (l0_0.length : Int)
  ·rw [if_pos hl] at h
   have hl' : decide (a1 ≥ (l0_0.length : Int)) = false := decide_eq_false (by omega)
   have p0 : 0 ≤ a1 := by omega
   obtain ⟨ad, e, g0, g1, g2, g3, g4, g5⟩ := at_T46 H0.out a1 p0 hl
   cases e
   have za := World.block_lt_of_cell? w _ g0
   generalize (rd_T46 l0_0 a1) = T at *
   cases hu : T.f0 with
   | false =>
    rw [hu] at h g0
    rw [if_neg (by decide)] at h
    simp only [Option.some.injEq, Prod.mk.injEq] at h
    obtain ⟨rfl, rfl, rfl, rfl, rfl, rfl, rfl⟩ := h
    clear hu
    go_enter Try.func68, Try.ntmps68
    go_wp2
    exact bodyPost_ret (results_ct rfl _ _ w.heap.size 46 #[.bool false, .int .i64 0, .int .i64 0, .bool false, .int .i64 0, .int .i64 0] (0, 0) _ rfl (blk_new _ _) Try.underlying46 rfl (by kernel_rfl)) rfl ⟨rfl, below_alloc (Below.refl _ _) _⟩
   | true =>
    rw [hu] at h g0
    rw [if_pos rfl] at h
    clear hu
    by_cases hr : T.f1 = a2
    ·rw [if_pos hr] at h
     have hr' : (T.f1 != a2) = false := bne_eq_false_iff_eq.mpr hr
     simp only [Option.some.injEq, Prod.mk.injEq] at h
     obtain ⟨rfl, rfl, rfl, rfl, rfl, rfl, rfl⟩ := h
     have Hr := Lib.hid hr
     clear hr
     go_enter Try.func68, Try.ntmps68
     go_wp2
     exact bodyPost_ret (results_ct rfl _ _ w.heap.size 46 #[.bool true, .int .i64 T.f1, .int .i64 T.f2, .bool T.f3, .int .i64 T.f4, .int .i64 T.f5] (0, 0) _ rfl (blk_new _ _) Try.underlying46 rfl (by kernel_rfl)) rfl ⟨rfl, below_alloc (Below.refl _ _) _⟩
    ·rw [if_neg hr] at h
     have hr' : (T.f1 != a2) = true := bne_iff_ne.mpr hr
     simp only [Option.some.injEq, Prod.mk.injEq] at h
     obtain ⟨rfl, rfl, rfl, rfl, rfl, rfl, rfl⟩ := h
     clear hr
     go_enter Try.func68, Try.ntmps68
     go_wp2
     exact bodyPost_ret (results_ct rfl _ _ w.heap.size 46 #[.bool false, .int .i64 0, .int .i64 0, .bool false, .int .i64 0, .int .i64 0] (0, 0) _ rfl (blk_new _ _) Try.underlying46 rfl (by kernel_rfl)) rfl ⟨rfl, below_alloc (Below.refl _ _) _⟩
  ·rw [if_neg hl] at h
   simp only [Option.some.injEq, Prod.mk.injEq] at h
   obtain ⟨rfl, rfl, rfl, rfl, rfl, rfl, rfl⟩ := h
   have hl' : decide (a1 ≥ (l0_0.length : Int)) = true := decide_eq_true (by omega)
   go_enter Try.func68, Try.ntmps68
   go_wp2
   exact bodyPost_ret (results_ct rfl _ _ w.heap.size 46 #[.bool false, .int .i64 0, .int .i64 0, .bool false, .int .i64 0, .int .i64 0] (0, 0) _ rfl (blk_new _ _) Try.underlying46 rfl (by kernel_rfl)) rfl ⟨rfl, below_alloc (Below.refl _ _) _⟩
/-- Behind a call: what two blocks of the call's own hold. -/
theorem z_two_behind {w w1 : World} {o o' : Obj} (hb : Below ((w.alloc o).alloc o').heap.size ((w.alloc o).alloc o') w1) : w1.heap[w.heap.size]? = some o ∧ w1.heap[w.heap.size + 1]? = some o' ∧ Below w.heap.size w w1 := by
 have e : (w.alloc o).heap.size = w.heap.size + 1 := Array.size_push _
 exact ⟨blk_below (blk_alloc (blk_new w o) o') hb, by rw [← e]; exact blk_below (blk_new (w.alloc o) o') hb, below_step (below_alloc (below_alloc (Below.refl _ _) _) _) hb⟩
/-- Six cells of a block are written. -/
theorem z_blk_six {w : World} {g t : Nat} {c0 c1 c2 c3 c4 c5 v0 v1 v2 v3 v4 v5 : Value} (h : w.heap[g]? = some (.cells #[c0, c1, c2, c3, c4, c5] t (0, 0))) :
  ((((((w.setCell ⟨g, 0, none⟩ v0).setCell ⟨g, 1, none⟩ v1).setCell ⟨g, 2, none⟩ v2).setCell ⟨g, 3, none⟩ v3).setCell ⟨g, 4, none⟩ v4).setCell ⟨g, 5, none⟩ v5).heap[g]? = some (.cells #[v0, v1, v2, v3, v4, v5] t (0, 0)) :=
 blk_put (blk_put (blk_put (blk_put (blk_put (blk_put h 0 v0 rfl) 1 v1 rfl) 2 v2 rfl) 3 v3 rfl) 4 v4 rfl) 5 v5 rfl
theorem z_below_six {w W : World} {g : Nat} {v0 v1 v2 v3 v4 v5 : Value} (h : Below w.heap.size w W) (hg : w.heap.size ≤ g) :
  Below w.heap.size w ((((((W.setCell ⟨g, 0, none⟩ v0).setCell ⟨g, 1, none⟩ v1).setCell ⟨g, 2, none⟩ v2).setCell ⟨g, 3, none⟩ v3).setCell ⟨g, 4, none⟩ v4).setCell ⟨g, 5, none⟩ v5) :=
 (((((h.setCell hg _).setCell hg _).setCell hg _).setCell hg _).setCell hg _).setCell hg _
def impl_FindHandle.f (k : Nat) (l0_0 : List (S46)) (l0_1 : List Int) (a1 : Int) (a2 : Int) : Option (Bool × Int × Int × Bool × Int × Int × Int) :=
 (impl_GoodTable.f k l0_0 l0_1).bind fun t => if t = true then impl_Table_find.f l0_0 a1 a2 else some (false, 0, 0, false, 0, 0, 1)
set_option maxHeartbeats 2000000 in
set_option maxRecDepth 100000 in
theorem impl_FindHandle.calls (k : Nat) (A0_0 : Option Addr) (c0_0 : Nat) (l0_0 : List (S46)) (A0_1 : Option Addr) (c0_1 : Nat) (l0_1 : List Int) (a1 : Int) (a2 : Int) (r1 : Bool) (r2 : Int) (r3 : Int) (r4 : Bool) (r5 : Int) (r6 : Int) (r7 : Int) (w : World) (hr0_0 : Kd.C k46 w A0_0 l0_0.length l0_0) (hc0_0 : l0_0.length ≤ c0_0) (hr0_1 : Kd.C (Kd.int .i64) w A0_1 l0_1.length l0_1) (hc0_1 : l0_1.length ≤ c0_1) (h : impl_FindHandle.f k l0_0 l0_1 a1 a2 = some (r1, r2, r3, r4, r5, r6, r7)) :
  Calls Try.prog 27 #[.agg #[.slice A0_0 l0_0.length c0_0, .slice A0_1 l0_1.length c0_1], .int .i64 a1, .int .i64 a2] w fun e w' => e = .returned (.tuple #[.agg #[.bool r1, .int .i64 r2, .int .i64 r3, .bool r4, .int .i64 r5, .int .i64 r6], .int .i64 r7]) ∧ Below w.heap.size w w' := by
 have H0 := Aside0.mk hr0_0
 have H1 := Aside0.mk hr0_1
 have C0 := Aside0.mk hc0_0
 have C1 := Aside0.mk hc0_1
 clear hr0_0 hr0_1 hc0_0 hc0_1
 unfold impl_FindHandle.f at h
 replace h := Option.bind_eq_some_iff.mp h
 obtain ⟨t, ht, h⟩ := h
 have HT := Aside0.mk ht
 clear ht
 cases t with
 | false =>
  rw [if_neg (by decide)] at h
  simp only [Option.some.injEq, Prod.mk.injEq] at h
  obtain ⟨rfl, rfl, rfl, rfl, rfl, rfl, rfl⟩ := h
  go_enter Try.func27, Try.ntmps27
  go_wp2_with (go_at_call 40; refine (impl_GoodTable.calls k _ c0_0 l0_0 _ c0_1 l0_1 _ _ (Kd.C_below H0.out (below_alloc (below_alloc (Below.refl _ _) _) _)) C0.out (Kd.C_below H1.out (below_alloc (below_alloc (Below.refl _ _) _) _)) C1.out HT.out).mono ?_; rintro e w1 ⟨rfl, hb⟩; obtain ⟨b0, b1, hb2⟩ := z_two_behind hb; clear hb; have HB := Aside0.mk hb2; have B1 := Aside0.mk b1; clear hb2 b0; have f0 := blk_frozen b1 0; have f1 := blk_frozen b1 1; have f2 := blk_frozen b1 2; have f3 := blk_frozen b1 3; have f4 := blk_frozen b1 4; have f5 := blk_frozen b1 5; have n0 : w1.cell? ⟨w.heap.size + 1, 0, none⟩ = some (.bool false) := (blk_cell b1 0).trans rfl; have n1 : w1.cell? ⟨w.heap.size + 1, 1, none⟩ = some (.int .i64 0) := (blk_cell b1 1).trans rfl; have n2 : w1.cell? ⟨w.heap.size + 1, 2, none⟩ = some (.int .i64 0) := (blk_cell b1 2).trans rfl; have n3 : w1.cell? ⟨w.heap.size + 1, 3, none⟩ = some (.bool false) := (blk_cell b1 3).trans rfl; have n4 : w1.cell? ⟨w.heap.size + 1, 4, none⟩ = some (.int .i64 0) := (blk_cell b1 4).trans rfl; have n5 : w1.cell? ⟨w.heap.size + 1, 5, none⟩ = some (.int .i64 0) := (blk_cell b1 5).trans rfl; clear b1)
  exact bodyPost_ret (results_ct rfl _ _ (w.heap.size + 1) 46 #[.bool false, .int .i64 0, .int .i64 0, .bool false, .int .i64 0, .int .i64 0] (0, 0) _ rfl (z_blk_six B1.out) Try.underlying46 rfl (by kernel_rfl)) rfl ⟨rfl, z_below_six HB.out (by omega)⟩
 | true =>
  rw [if_pos rfl] at h
  have HF := Aside0.mk h
  clear h
  go_enter Try.func27, Try.ntmps27
  go_wp2_with (go_at_call 40; refine (impl_GoodTable.calls k _ c0_0 l0_0 _ c0_1 l0_1 _ _ (Kd.C_below H0.out (below_alloc (below_alloc (Below.refl _ _) _) _)) C0.out (Kd.C_below H1.out (below_alloc (below_alloc (Below.refl _ _) _) _)) C1.out HT.out).mono ?_; rintro e w1 ⟨rfl, hb⟩; obtain ⟨b0, b1, hb2⟩ := z_two_behind hb; clear hb; have HB := Aside0.mk hb2; have B0 := Aside0.mk b0; have B1 := Aside0.mk b1; clear hb2 b0 b1)
  refine (impl_Table_find.calls _ c0_0 l0_0 w.heap.size a1 a2 r1 r2 r3 r4 r5 r6 r7 w1 ((blk_cell B0.out 0).trans rfl) (Kd.C_below H0.out HB.out) HF.out).mono ?_
  rintro e w2 ⟨rfl, hb⟩
  have HB2 := Aside0.mk (below_step HB.out hb)
  have b1 := blk_below B1.out hb
  clear hb
  have B2 := Aside0.mk b1
  have f0 := blk_frozen b1 0
  have f1 := blk_frozen b1 1
  have f2 := blk_frozen b1 2
  have f3 := blk_frozen b1 3
  have f4 := blk_frozen b1 4
  have f5 := blk_frozen b1 5
  have n0 : w2.cell? ⟨w.heap.size + 1, 0, none⟩ = some (.bool false) := (blk_cell b1 0).trans rfl
  have n1 : w2.cell? ⟨w.heap.size + 1, 1, none⟩ = some (.int .i64 0) := (blk_cell b1 1).trans rfl
  have n2 : w2.cell? ⟨w.heap.size + 1, 2, none⟩ = some (.int .i64 0) := (blk_cell b1 2).trans rfl
  have n3 : w2.cell? ⟨w.heap.size + 1, 3, none⟩ = some (.bool false) := (blk_cell b1 3).trans rfl
  have n4 : w2.cell? ⟨w.heap.size + 1, 4, none⟩ = some (.int .i64 0) := (blk_cell b1 4).trans rfl
  have n5 : w2.cell? ⟨w.heap.size + 1, 5, none⟩ = some (.int .i64 0) := (blk_cell b1 5).trans rfl
  clear b1
  go_wp2
  exact bodyPost_ret (results_ct rfl _ _ (w.heap.size + 1) 46 #[.bool r1, .int .i64 r2, .int .i64 r3, .bool r4, .int .i64 r5, .int .i64 r6] (0, 0) _ rfl (z_blk_six B2.out) Try.underlying46 rfl (by kernel_rfl)) rfl ⟨rfl, z_below_six HB2.out (by omega)⟩

end Go.Proofs.Ytoomeeoijbkmnaa.PH
