-- Printed by a program of this session (after the kit's print.sh, with contracts of its own beside): Lean checks it.
import Derived.Test.YtoomeeoijbkmnaaC9PHx0
import Derived.Test.YtoomeeoijbkmnaaC9PHx1
import Derived.Test.YtoomeeoijbkmnaaC9PHx5
import Derived.Test.YtoomeeoijbkmnaaC9PHx16
import Derived.Test.YtoomeeoijbkmnaaC9PHx17
import Derived.Test.YtoomeeoijbkmnaaC9PHx18
namespace Go.Proofs.Ytoomeeoijbkmnaa.PH
open Go.RowKit Go.Proofs.YtoomeeoijbkmnaaW.PrintWords Go.Proofs.YtoomeeoijbkmnaaW.PrintLast Go.Proofs.YtoomeeoijbkmnaaW.PrintMore
attribute [local go_sem] max2_int min2_int max_two min_two max_three min_three max_four min_four   -- for this text's walks alone
set_option linter.unusedVariables false
set_option linter.unusedSimpArgs false

attribute [local go_sem high] eqA46
theorem z_put2' {W : World} {p : Nat} {t : TypeId} {a b : Value} (x y : Value) (h : W.heap[p]? = some (.cells #[a, b] t (0, 0))) :
  ((W.setCell ⟨p, 0, none⟩ x).setCell ⟨p, 1, none⟩ y).heap[p]? = some (.cells #[x, y] t (0, 0)) ∧ ∀ k, k ≠ p → ((W.setCell ⟨p, 0, none⟩ x).setCell ⟨p, 1, none⟩ y).heap[k]? = W.heap[k]? :=
 ⟨blk_put (blk_put h 0 x rfl) 1 y rfl, fun k hk => (Below.heap_setCell _ ⟨p, 1, none⟩ y k hk).trans (Below.heap_setCell W ⟨p, 0, none⟩ x k hk)⟩
/-- A table's two rows, both among the blocks from lo up to hi. -/
def Td (W : World) (B lo hi : Nat) (v0 v1 : Value) (L0 : List S46) (L1 : List Int) : Prop :=
 Kd.R k46 46 W B (fun k => lo ≤ k ∧ k < hi) v0 L0 ∧ Kd.R (Kd.int .i64) 3 W B (fun k => lo ≤ k ∧ k < hi) v1 L1
theorem Td.new {w W : World} {B : Nat} {v0 v1 : Value} {L0 : List S46} {L1 : List Int} (hB : B ≤ w.heap.size) (h0 : Kd.R k46 46 W w.heap.size (fun _ => True) v0 L0) (h1 : Kd.R (Kd.int .i64) 3 W w.heap.size (fun _ => True) v1 L1) : Td W B w.heap.size W.heap.size v0 v1 L0 L1 :=
 ⟨Kd.R_lower (Kd.R_mono (Kd.R_bound h0) (fun _ hk => ⟨hk.2.1, hk.2.2.1⟩)) hB, Kd.R_lower (Kd.R_mono (Kd.R_bound h1) (fun _ hk => ⟨hk.2.1, hk.2.2.1⟩)) hB⟩
theorem Td.keep {W W' : World} {B lo hi : Nat} {v0 v1 : Value} {L0 : List S46} {L1 : List Int} (h : Td W B lo hi v0 v1 L0 L1) (hm : ∀ k, lo ≤ k → k < hi → k < W.heap.size → W'.heap[k]? = W.heap[k]?) : Td W' B lo hi v0 v1 L0 L1 :=
 ⟨Kd.R_step h.1 (fun k hk hl => hm k hk.1 hk.2 hl), Kd.R_step h.2 (fun k hk hl => hm k hk.1 hk.2 hl)⟩
def spec_DrawNewHandle.f (k : Nat) (l0 : List Int) : Option (List (S46) × List Int × Bool × Int × Int × Bool × Int × Int) :=
 (spec_l1Cur_tableOf.f k l0 0 0).bind fun t => (spec_l1Cur_handle.f k l0 t.2.2.1 t.2.2.2).bind fun h => some (t.1, t.2.1, h.1, h.2.1, h.2.2.1, h.2.2.2.1, h.2.2.2.2.1, h.2.2.2.2.2.1)

def laws_sameInts.l0 : Nat → List Int → List Int → Int → Int → Option (Bool)
 | 0, _, _, _, _ => none
 | k + 1, x0, x1, x12, x13 => if x13 < x12 then (if 0 ≤ x13 then (if x13 < (x0.length : Int) then (if x13 < (x1.length : Int) then (if (rd x0 x13) = (rd x1 x13) then (laws_sameInts.l0 k x0 x1 x12 (wrap64 (x13 + 1))) else (some false)) else (none)) else (none)) else (none)) else (some true)
def laws_sameInts.f (k : Nat) (l0 : List Int) (l1 : List Int) : Option (Bool) := if (l0.length : Int) = (l1.length : Int) then (laws_sameInts.l0 k l0 l1 (l0.length : Int) 0) else (some false)
set_option maxHeartbeats 8000000 in
set_option maxRecDepth 100000 in
theorem laws_sameInts.calls (k : Nat) (A0 : Option Addr) (c0 : Nat) (l0 : List Int) (A1 : Option Addr) (c1 : Nat) (l1 : List Int) (r : Bool) (w : World) (hr0 : Kd.C (Kd.int .i64) w A0 l0.length l0) (hc0 : l0.length ≤ c0) (hr1 : Kd.C (Kd.int .i64) w A1 l1.length l1) (hc1 : l1.length ≤ c1) (h : laws_sameInts.f k l0 l1 = some r) :
  Calls Try.prog 84 #[.slice A0 l0.length c0, .slice A1 l1.length c1] w fun e w' => e = .returned (.bool r) ∧ Drawn0 w w' := by
 have HR0 := Aside0.mk hr0
 have HC0 := Aside0.mk hc0
 clear hr0 hc0
 have HR1 := Aside0.mk hr1
 have HC1 := Aside0.mk hc1
 clear hr1 hc1
 have H : (if (l0.length : Int) = (l1.length : Int) then (laws_sameInts.l0 k l0 l1 (l0.length : Int) 0) else (some false)) = some r := h
 clear h
 by_cases c3 : (l0.length : Int) = (l1.length : Int)
 ·rw [if_pos c3] at H
  have c3b0 : ((l0.length : Int) == (l1.length : Int)) = true := beq_iff_eq.mpr c3
  have c3b1 : ((l0.length : Int) != (l1.length : Int)) = false := bne_eq_false_iff_eq.mpr c3
  have c3b2 : (l0.length == l1.length) = true := by first | simpa using c3 | (simp at c3 ⊢; omega)
  clear c3
  have H' := Aside0.mk H
  clear H
  go_enter Try.func84, Try.ntmps84
  go_wp2
  repeat (go_quiet (fail); try go_wp2)
  go_loopg [13] k (fun kq v13 w' => ∃ (x13_1 : Int), v13 = .int .i64 x13_1 ∧ Aside0 (laws_sameInts.l0 kq l0 l1 (l0.length : Int) x13_1 = some r) ∧ Aside0 (kq ≤ k) ∧ Drawn0 w w')
  case atStart => exact ⟨(0), (by first | rfl | (simp; done) | (simp [*]; done)), H', ⟨Nat.le_refl _⟩, by repeat (first | exact Drawn0.refl _ | apply Drawn0.step)⟩
  case round =>
   clear H'
   try clear c1
   try clear p2
   try clear c3
   try clear c3b0
   try clear c3b1
   try clear c3b2
   obtain ⟨x13_1, rfl, HA, HK1, ⟨m1, rfl⟩⟩ := hrel
   cases gk with
   | zero => exact absurd HA.out (by simp [laws_sameInts.l0])
   | succ k1 =>
    have H := HA.out
    clear HA
    simp only [laws_sameInts.l0] at H
    by_cases c4 : x13_1 < (l0.length : Int)
    ·rw [if_pos c4] at H
     have c4b0 : decide (x13_1 < (l0.length : Int)) = true := decide_eq_true c4
     clear c4
     by_cases c5 : 0 ≤ x13_1
     ·rw [if_pos c5] at H
      have c5b0 : decide (0 ≤ x13_1) = true := decide_eq_true c5
      clear c5
      by_cases c6 : x13_1 < (l0.length : Int)
      ·rw [if_pos c6] at H
       have c6b0 : decide (x13_1 < (l0.length : Int)) = true := decide_eq_true c6
       clear c6
       by_cases c7 : x13_1 < (l1.length : Int)
       ·rw [if_pos c7] at H
        have c7b0 : decide (x13_1 < (l1.length : Int)) = true := decide_eq_true c7
        clear c7
        by_cases c8 : (rd l0 x13_1) = (rd l1 x13_1)
        ·rw [if_pos c8] at H
         have c8b0 : ((rd l0 x13_1) == (rd l1 x13_1)) = true := beq_iff_eq.mpr c8
         have c8b1 : ((rd l0 x13_1) != (rd l1 x13_1)) = false := bne_eq_false_iff_eq.mpr c8
         clear c8
         have H' := Aside0.mk H
         clear H
         have p969 : 0 ≤ (x13_1 : Int) := of_decide_eq_true (by first | (with_reducible assumption) | assumption)
         have q969 : x13_1 < (l0.length : Int) := of_decide_eq_true (by first | (with_reducible assumption) | assumption)
         obtain ⟨ad969, e969, hx969_0⟩ := Kd.at_int HR0.out x13_1 p969 q969
         cases e969
         replace p969 := eq_true p969
         replace q969 := eq_true q969
         have p970 : 0 ≤ (x13_1 : Int) := of_decide_eq_true (by first | (with_reducible assumption) | assumption)
         have q970 : x13_1 < (l1.length : Int) := of_decide_eq_true (by first | (with_reducible assumption) | assumption)
         obtain ⟨ad970, e970, hx970_0⟩ := Kd.at_int HR1.out x13_1 p970 q970
         cases e970
         replace p970 := eq_true p970
         replace q970 := eq_true q970
         go_wp2
         repeat (go_quiet (fail); try go_wp2)
         go_roundg k1
         case measure => have := HK1.out; omega
         case rel => exact ⟨(wrap64 (x13_1 + 1)), (by first | rfl | (simp; done) | (simp [*]; done)), H', ⟨by have := HK1.out; omega⟩, by repeat (first | exact Drawn0.refl _ | apply Drawn0.step)⟩
        ·rw [if_neg c8] at H
         have c8b0 : ((rd l0 x13_1) == (rd l1 x13_1)) = false := beq_eq_false_iff_ne.mpr c8
         have c8b1 : ((rd l0 x13_1) != (rd l1 x13_1)) = true := bne_iff_ne.mpr c8
         obtain rfl := Option.some.inj H
         have p969 : 0 ≤ (x13_1 : Int) := of_decide_eq_true (by first | (with_reducible assumption) | assumption)
         have q969 : x13_1 < (l0.length : Int) := of_decide_eq_true (by first | (with_reducible assumption) | assumption)
         obtain ⟨ad969, e969, hx969_0⟩ := Kd.at_int HR0.out x13_1 p969 q969
         cases e969
         replace p969 := eq_true p969
         replace q969 := eq_true q969
         have p970 : 0 ≤ (x13_1 : Int) := of_decide_eq_true (by first | (with_reducible assumption) | assumption)
         have q970 : x13_1 < (l1.length : Int) := of_decide_eq_true (by first | (with_reducible assumption) | assumption)
         obtain ⟨ad970, e970, hx970_0⟩ := Kd.at_int HR1.out x13_1 p970 q970
         cases e970
         replace p970 := eq_true p970
         replace q970 := eq_true q970
         go_wp2
         repeat (go_quiet (fail); try go_wp2)
         go_ret
         exact ⟨by first | rfl | (simp; done) | (simp [*]; done), by repeat (first | exact Drawn0.refl _ | apply Drawn0.step)⟩
       ·rw [if_neg c7] at H
        exact absurd H (by simp)
      ·rw [if_neg c6] at H
       exact absurd H (by simp)
     ·rw [if_neg c5] at H
      exact absurd H (by simp)
    ·rw [if_neg c4] at H
     have c4b0 : decide (x13_1 < (l0.length : Int)) = false := decide_eq_false c4
     clear c4
     obtain rfl := Option.some.inj H
     go_wp2
     repeat (go_quiet (fail); try go_wp2)
     go_ret
     exact ⟨by first | rfl | (simp; done) | (simp [*]; done), by repeat (first | exact Drawn0.refl _ | apply Drawn0.step)⟩
 ·rw [if_neg c3] at H
  have c3b0 : ((l0.length : Int) == (l1.length : Int)) = false := beq_eq_false_iff_ne.mpr c3
  have c3b1 : ((l0.length : Int) != (l1.length : Int)) = true := bne_iff_ne.mpr c3
  have c3b2 : (l0.length == l1.length) = false := by first | simpa using c3 | (simp at c3 ⊢; omega)
  obtain rfl := Option.some.inj H
  go_enter Try.func84, Try.ntmps84
  go_wp2
  repeat (go_quiet (fail); try go_wp2)
  go_ret
  exact ⟨by first | rfl | (simp; done) | (simp [*]; done), by repeat (first | exact Drawn0.refl _ | apply Drawn0.step)⟩

mutual
def laws_sameTables.j0 : Nat → Bool → List (S46) → List Int → List (S46) → List Int → Option (Bool)
 | 0, _, _, _, _, _ => none
 | k + 1, x20, x972000, x972001, x973000, x973001 => if x20 = true then (some false) else (laws_sameTables.l0 k (x972000.length : Int) 0 x972000 x972001 x973000 x973001)
def laws_sameTables.l0 : Nat → Int → Int → List (S46) → List Int → List (S46) → List Int → Option (Bool)
 | 0, _, _, _, _, _, _ => none
 | k + 1, x23, x24, x972000, x972001, x973000, x973001 => if x24 < x23 then (if 0 ≤ x24 then (if x24 < (x972000.length : Int) then (if x24 < (x973000.length : Int) then (if (!(((rd_T46 x972000 x24).f0) == ((rd_T46 x973000 x24).f0)) || (!(((rd_T46 x972000 x24).f1) == ((rd_T46 x973000 x24).f1)) || (!(((rd_T46 x972000 x24).f2) == ((rd_T46 x973000 x24).f2)) || (!(((rd_T46 x972000 x24).f3) == ((rd_T46 x973000 x24).f3)) || (!(((rd_T46 x972000 x24).f4) == ((rd_T46 x973000 x24).f4)) || (!(((rd_T46 x972000 x24).f5) == ((rd_T46 x973000 x24).f5)))))))) = true then (some false) else (laws_sameTables.l0 k x23 (wrap64 (x24 + 1)) x972000 x972001 x973000 x973001)) else (none)) else (none)) else (none)) else (some true)
end
def laws_sameTables.f (k : Nat) (l0_0 : List (S46)) (l0_1 : List Int) (l1_0 : List (S46)) (l1_1 : List Int) : Option (Bool) := if (l0_0.length : Int) = (l1_0.length : Int) then ((laws_sameInts.f k l0_1 l1_1).bind fun t973 => (laws_sameTables.j0 k (!t973) l0_0 l0_1 l1_0 l1_1)) else (laws_sameTables.j0 k true l0_0 l0_1 l1_0 l1_1)
set_option maxHeartbeats 8000000 in
set_option maxRecDepth 100000 in
theorem laws_sameTables.calls (k : Nat) (A0_0 : Option Addr) (c0_0 : Nat) (l0_0 : List (S46)) (A0_1 : Option Addr) (c0_1 : Nat) (l0_1 : List Int) (A1_0 : Option Addr) (c1_0 : Nat) (l1_0 : List (S46)) (A1_1 : Option Addr) (c1_1 : Nat) (l1_1 : List Int) (r : Bool) (w : World) (hr0_0 : Kd.C k46 w A0_0 l0_0.length l0_0) (hc0_0 : l0_0.length ≤ c0_0) (hr0_1 : Kd.C (Kd.int .i64) w A0_1 l0_1.length l0_1) (hc0_1 : l0_1.length ≤ c0_1) (hr1_0 : Kd.C k46 w A1_0 l1_0.length l1_0) (hc1_0 : l1_0.length ≤ c1_0) (hr1_1 : Kd.C (Kd.int .i64) w A1_1 l1_1.length l1_1) (hc1_1 : l1_1.length ≤ c1_1) (h : laws_sameTables.f k l0_0 l0_1 l1_0 l1_1 = some r) :
  Calls Try.prog 38 #[.agg #[.slice A0_0 l0_0.length c0_0, .slice A0_1 l0_1.length c0_1], .agg #[.slice A1_0 l1_0.length c1_0, .slice A1_1 l1_1.length c1_1]] w fun e w' => e = .returned (.bool r) ∧ Below w.heap.size w w' := by
 have hu51 := Try.underlying51
 have hu46 := Try.underlying46
 have HR0_0 := Aside0.mk hr0_0
 have HC0_0 := Aside0.mk hc0_0
 clear hr0_0 hc0_0
 have HR0_1 := Aside0.mk hr0_1
 have HC0_1 := Aside0.mk hc0_1
 clear hr0_1 hc0_1
 have HR1_0 := Aside0.mk hr1_0
 have HC1_0 := Aside0.mk hc1_0
 clear hr1_0 hc1_0
 have HR1_1 := Aside0.mk hr1_1
 have HC1_1 := Aside0.mk hc1_1
 clear hr1_1 hc1_1
 have HB := Aside0.mk (Below.refl w.heap.size w)
 have H : (if (l0_0.length : Int) = (l1_0.length : Int) then ((laws_sameInts.f k l0_1 l1_1).bind fun t973 => (laws_sameTables.j0 k (!t973) l0_0 l0_1 l1_0 l1_1)) else (laws_sameTables.j0 k true l0_0 l0_1 l1_0 l1_1)) = some r := h
 clear h
 have HC3 := Aside0.mk H
 clear H
 go_enter Try.func38, Try.ntmps38
 go_upto_region 1 with (first | ((with_reducible refine gate_dst (N := 2) rfl ?_); refine box_event ?hg (N := 2) ?hd (cs := #[.slice A0_0 l0_0.length c0_0, .slice A0_1 l0_1.length c0_1]) (t := 51) ?hr ?_; (case hd => rfl); (case hg => rfl); (case hr => first | (go_simp; done) | (go_simp; rfl)); intro gb971 hg w4 hbox hb; have n0_ := Aside0.mk (below_step (by repeat (first | (with_reducible first | exact HB.out | apply eA | apply eN | apply eD) | exact HB.out)) hb); have n1_ := Aside0.mk (hbox); have n2_ := Aside0.mk ((by rw [hg]; exact (below_size (by repeat (first | (with_reducible first | exact HB.out | apply eA | apply eN | apply eD) | exact HB.out))) : w.heap.size ≤ gb971)); have n3_ := Aside0.mk ((by rw [hg]; exact (below_size (by repeat (first | (with_reducible first | exact HB.out | apply eA | apply eN | apply eD) | exact HB.out))) : w.heap.size ≤ gb971)); clear HB; have HB := n0_; have BK971 := n1_; have GW971 := n2_; have GE971 := n3_; clear n0_ n1_ n2_ n3_; clear hb hbox hg) | ((with_reducible refine gate_dst (N := 3) rfl ?_); refine box_event ?hg (N := 3) ?hd (cs := #[.slice A1_0 l1_0.length c1_0, .slice A1_1 l1_1.length c1_1]) (t := 51) ?hr ?_; (case hd => rfl); (case hg => rfl); (case hr => first | (go_simp; done) | (go_simp; rfl)); intro gb972 hg w5 hbox hb; have n0_ := Aside0.mk (blk_below (g := gb971) (o := .cells #[.slice A0_0 l0_0.length c0_0, .slice A0_1 l0_1.length c0_1] 51 (0, 0)) (by (with_reducible repeat first | apply bN | apply bD | apply bA); exact BK971.out) hb); have n1_ := Aside0.mk (below_step (by repeat (first | (with_reducible first | exact HB.out | apply eA | apply eN | apply eD | refine below_set ?_ GE971.out) | exact HB.out)) hb); have n2_ := Aside0.mk (hbox); have n3_ := Aside0.mk ((by rw [hg]; exact (below_size (by repeat (first | (with_reducible first | exact HB.out | apply eA | apply eN | apply eD | refine below_set ?_ GE971.out) | exact HB.out))) : w.heap.size ≤ gb972)); have n4_ := Aside0.mk ((by rw [hg]; exact (below_size (by repeat (first | (with_reducible first | exact HB.out | apply eA | apply eN | apply eD | refine below_set ?_ GE971.out) | exact HB.out))) : w.heap.size ≤ gb972)); have n5_ := Aside0.mk ((by rw [hg]; exact Nat.ne_of_lt (blk_lt (g := gb971) (o := .cells #[.slice A0_0 l0_0.length c0_0, .slice A0_1 l0_1.length c0_1] 51 (0, 0)) (by (with_reducible repeat first | apply bN | apply bD | apply bA); exact BK971.out)) : gb971 ≠ gb972)); have n6_ := Aside0.mk ((by rw [hg]; exact Nat.ne_of_gt (blk_lt (g := gb971) (o := .cells #[.slice A0_0 l0_0.length c0_0, .slice A0_1 l0_1.length c0_1] 51 (0, 0)) (by (with_reducible repeat first | apply bN | apply bD | apply bA); exact BK971.out)) : gb972 ≠ gb971)); clear BK971 HB; have BK971 := n0_; have HB := n1_; have BK972 := n2_; have GW972 := n3_; have GE972 := n4_; have NB971_972 := n5_; have NB972_971 := n6_; clear n0_ n1_ n2_ n3_ n4_ n5_ n6_; clear hb hbox hg))
 repeat (go_quiet (first | ((with_reducible refine gate_dst (N := 2) rfl ?_); refine box_event ?hg (N := 2) ?hd (cs := #[.slice A0_0 l0_0.length c0_0, .slice A0_1 l0_1.length c0_1]) (t := 51) ?hr ?_; (case hd => rfl); (case hg => rfl); (case hr => first | (go_simp; done) | (go_simp; rfl)); intro gb971 hg w4 hbox hb; have n0_ := Aside0.mk (below_step (by repeat (first | (with_reducible first | exact HB.out | apply eA | apply eN | apply eD) | exact HB.out)) hb); have n1_ := Aside0.mk (hbox); have n2_ := Aside0.mk ((by rw [hg]; exact (below_size (by repeat (first | (with_reducible first | exact HB.out | apply eA | apply eN | apply eD) | exact HB.out))) : w.heap.size ≤ gb971)); have n3_ := Aside0.mk ((by rw [hg]; exact (below_size (by repeat (first | (with_reducible first | exact HB.out | apply eA | apply eN | apply eD) | exact HB.out))) : w.heap.size ≤ gb971)); clear HB; have HB := n0_; have BK971 := n1_; have GW971 := n2_; have GE971 := n3_; clear n0_ n1_ n2_ n3_; clear hb hbox hg) | ((with_reducible refine gate_dst (N := 3) rfl ?_); refine box_event ?hg (N := 3) ?hd (cs := #[.slice A1_0 l1_0.length c1_0, .slice A1_1 l1_1.length c1_1]) (t := 51) ?hr ?_; (case hd => rfl); (case hg => rfl); (case hr => first | (go_simp; done) | (go_simp; rfl)); intro gb972 hg w5 hbox hb; have n0_ := Aside0.mk (blk_below (g := gb971) (o := .cells #[.slice A0_0 l0_0.length c0_0, .slice A0_1 l0_1.length c0_1] 51 (0, 0)) (by (with_reducible repeat first | apply bN | apply bD | apply bA); exact BK971.out) hb); have n1_ := Aside0.mk (below_step (by repeat (first | (with_reducible first | exact HB.out | apply eA | apply eN | apply eD | refine below_set ?_ GE971.out) | exact HB.out)) hb); have n2_ := Aside0.mk (hbox); have n3_ := Aside0.mk ((by rw [hg]; exact (below_size (by repeat (first | (with_reducible first | exact HB.out | apply eA | apply eN | apply eD | refine below_set ?_ GE971.out) | exact HB.out))) : w.heap.size ≤ gb972)); have n4_ := Aside0.mk ((by rw [hg]; exact (below_size (by repeat (first | (with_reducible first | exact HB.out | apply eA | apply eN | apply eD | refine below_set ?_ GE971.out) | exact HB.out))) : w.heap.size ≤ gb972)); have n5_ := Aside0.mk ((by rw [hg]; exact Nat.ne_of_lt (blk_lt (g := gb971) (o := .cells #[.slice A0_0 l0_0.length c0_0, .slice A0_1 l0_1.length c0_1] 51 (0, 0)) (by (with_reducible repeat first | apply bN | apply bD | apply bA); exact BK971.out)) : gb971 ≠ gb972)); have n6_ := Aside0.mk ((by rw [hg]; exact Nat.ne_of_gt (blk_lt (g := gb971) (o := .cells #[.slice A0_0 l0_0.length c0_0, .slice A0_1 l0_1.length c0_1] 51 (0, 0)) (by (with_reducible repeat first | apply bN | apply bD | apply bA); exact BK971.out)) : gb972 ≠ gb971)); clear BK971 HB; have BK971 := n0_; have HB := n1_; have BK972 := n2_; have GW972 := n3_; have GE972 := n4_; have NB971_972 := n5_; have NB972_971 := n6_; clear n0_ n1_ n2_ n3_ n4_ n5_ n6_; clear hb hbox hg)); go_upto_region 1 with (first | ((with_reducible refine gate_dst (N := 2) rfl ?_); refine box_event ?hg (N := 2) ?hd (cs := #[.slice A0_0 l0_0.length c0_0, .slice A0_1 l0_1.length c0_1]) (t := 51) ?hr ?_; (case hd => rfl); (case hg => rfl); (case hr => first | (go_simp; done) | (go_simp; rfl)); intro gb971 hg w4 hbox hb; have n0_ := Aside0.mk (below_step (by repeat (first | (with_reducible first | exact HB.out | apply eA | apply eN | apply eD) | exact HB.out)) hb); have n1_ := Aside0.mk (hbox); have n2_ := Aside0.mk ((by rw [hg]; exact (below_size (by repeat (first | (with_reducible first | exact HB.out | apply eA | apply eN | apply eD) | exact HB.out))) : w.heap.size ≤ gb971)); have n3_ := Aside0.mk ((by rw [hg]; exact (below_size (by repeat (first | (with_reducible first | exact HB.out | apply eA | apply eN | apply eD) | exact HB.out))) : w.heap.size ≤ gb971)); clear HB; have HB := n0_; have BK971 := n1_; have GW971 := n2_; have GE971 := n3_; clear n0_ n1_ n2_ n3_; clear hb hbox hg) | ((with_reducible refine gate_dst (N := 3) rfl ?_); refine box_event ?hg (N := 3) ?hd (cs := #[.slice A1_0 l1_0.length c1_0, .slice A1_1 l1_1.length c1_1]) (t := 51) ?hr ?_; (case hd => rfl); (case hg => rfl); (case hr => first | (go_simp; done) | (go_simp; rfl)); intro gb972 hg w5 hbox hb; have n0_ := Aside0.mk (blk_below (g := gb971) (o := .cells #[.slice A0_0 l0_0.length c0_0, .slice A0_1 l0_1.length c0_1] 51 (0, 0)) (by (with_reducible repeat first | apply bN | apply bD | apply bA); exact BK971.out) hb); have n1_ := Aside0.mk (below_step (by repeat (first | (with_reducible first | exact HB.out | apply eA | apply eN | apply eD | refine below_set ?_ GE971.out) | exact HB.out)) hb); have n2_ := Aside0.mk (hbox); have n3_ := Aside0.mk ((by rw [hg]; exact (below_size (by repeat (first | (with_reducible first | exact HB.out | apply eA | apply eN | apply eD | refine below_set ?_ GE971.out) | exact HB.out))) : w.heap.size ≤ gb972)); have n4_ := Aside0.mk ((by rw [hg]; exact (below_size (by repeat (first | (with_reducible first | exact HB.out | apply eA | apply eN | apply eD | refine below_set ?_ GE971.out) | exact HB.out))) : w.heap.size ≤ gb972)); have n5_ := Aside0.mk ((by rw [hg]; exact Nat.ne_of_lt (blk_lt (g := gb971) (o := .cells #[.slice A0_0 l0_0.length c0_0, .slice A0_1 l0_1.length c0_1] 51 (0, 0)) (by (with_reducible repeat first | apply bN | apply bD | apply bA); exact BK971.out)) : gb971 ≠ gb972)); have n6_ := Aside0.mk ((by rw [hg]; exact Nat.ne_of_gt (blk_lt (g := gb971) (o := .cells #[.slice A0_0 l0_0.length c0_0, .slice A0_1 l0_1.length c0_1] 51 (0, 0)) (by (with_reducible repeat first | apply bN | apply bD | apply bA); exact BK971.out)) : gb972 ≠ gb971)); clear BK971 HB; have BK971 := n0_; have HB := n1_; have BK972 := n2_; have GW972 := n3_; have GE972 := n4_; have NB971_972 := n5_; have NB972_971 := n6_; clear n0_ n1_ n2_ n3_ n4_ n5_ n6_; clear hb hbox hg)))
 (try simp only [Act.put, List.setIfInBounds_toArray, List.set_cons_zero, List.set_cons_succ])
 go_cut [20] (fun v20 wc => ∃ (kq : Nat) (x20_2 : Bool), v20 = .bool x20_2 ∧ Aside0 (laws_sameTables.j0 kq x20_2 l0_0 l0_1 l1_0 l1_1 = some r) ∧ Aside0 (kq ≤ k) ∧ Aside0 (wc.heap[gb971]? = some (.cells #[(.slice A0_0 l0_0.length c0_0), (.slice A0_1 l0_1.length c0_1)] 51 (0, 0))) ∧ Aside0 (wc.heap[gb972]? = some (.cells #[(.slice A1_0 l1_0.length c1_0), (.slice A1_1 l1_1.length c1_1)] 51 (0, 0))) ∧ Aside0 (Below w.heap.size w wc))
 case first =>
  have H := HC3.out
  clear HC3
  by_cases c6 : (l0_0.length : Int) = (l1_0.length : Int)
  ·rw [if_pos c6] at H
   have c6b0 : ((l0_0.length : Int) == (l1_0.length : Int)) = true := beq_iff_eq.mpr c6
   have c6b1 : ((l0_0.length : Int) != (l1_0.length : Int)) = false := bne_eq_false_iff_eq.mpr c6
   have c6b2 : (l0_0.length == l1_0.length) = true := by first | simpa using c6 | (simp at c6 ⊢; omega)
   clear c6
   (first | rw [c6b0] | (simp only [i64_w, i32_w]; rw [c6b0]) | skip)
   replace H := Option.bind_eq_some_iff.mp H
   obtain ⟨t973, A70, H⟩ := H
   replace H : (laws_sameTables.j0 k (!t973) l0_0 l0_1 l1_0 l1_1) = some r := H
   have A7 := Aside0.mk A70
   clear A70
   have H' := Aside0.mk H
   clear H
   have hnb8 := NB971_972.out
   have hnc8 := NB972_971.out
   have hcz9_0 : w5.cell? ⟨gb971, 0, none⟩ = some (.slice A0_0 l0_0.length c0_0) := (blk_cell BK971.out 0).trans rfl
   have hcz9_1 : w5.cell? ⟨gb971, 1, none⟩ = some (.slice A0_1 l0_1.length c0_1) := (blk_cell BK971.out 1).trans rfl
   have hfz9_0 := blk_frozen BK971.out 0
   have hfz9_1 := blk_frozen BK971.out 1
   have hcz10_0 : w5.cell? ⟨gb972, 0, none⟩ = some (.slice A1_0 l1_0.length c1_0) := (blk_cell BK972.out 0).trans rfl
   have hcz10_1 : w5.cell? ⟨gb972, 1, none⟩ = some (.slice A1_1 l1_1.length c1_1) := (blk_cell BK972.out 1).trans rfl
   have hfz10_0 := blk_frozen BK972.out 0
   have hfz10_1 := blk_frozen BK972.out 1
   go_wp2_with (first | (go_at_call 84; (with_reducible refine (laws_sameInts.calls k _ _ l0_1 _ _ l1_1 t973 _ ?side1 ?side2 ?side3 ?side4 A7.out).mono ?_); (case side1 => repeat (first | exact (Kd.C_below HR0_1.out HB.out) | (with_reducible refine Kd.C_alloc ?_ _) | (with_reducible refine Kd.C_drewN ?_ _) | (with_reducible refine Kd.C_drew ?_))); (case side2 => exact HC0_1.out); (case side3 => repeat (first | exact (Kd.C_below HR1_1.out HB.out) | (with_reducible refine Kd.C_alloc ?_ _) | (with_reducible refine Kd.C_drewN ?_ _) | (with_reducible refine Kd.C_drew ?_))); (case side4 => exact HC1_1.out); rintro e w' ⟨rfl, ⟨nd, rfl⟩⟩; (try first | exact ⟨rfl, _, World.drewN_drewN _ _ _⟩ | exact ⟨rfl, _, Eq.trans (World.drewN_drewN _ _ _) (congrArg (World.drewN _) (Nat.add_assoc _ _ _))⟩)))
   repeat (go_quiet (first | (go_at_call 84; (with_reducible refine (laws_sameInts.calls k _ _ l0_1 _ _ l1_1 t973 _ ?side1 ?side2 ?side3 ?side4 A7.out).mono ?_); (case side1 => repeat (first | exact (Kd.C_below HR0_1.out HB.out) | (with_reducible refine Kd.C_alloc ?_ _) | (with_reducible refine Kd.C_drewN ?_ _) | (with_reducible refine Kd.C_drew ?_))); (case side2 => exact HC0_1.out); (case side3 => repeat (first | exact (Kd.C_below HR1_1.out HB.out) | (with_reducible refine Kd.C_alloc ?_ _) | (with_reducible refine Kd.C_drewN ?_ _) | (with_reducible refine Kd.C_drew ?_))); (case side4 => exact HC1_1.out); rintro e w' ⟨rfl, ⟨nd, rfl⟩⟩; (try first | exact ⟨rfl, _, World.drewN_drewN _ _ _⟩ | exact ⟨rfl, _, Eq.trans (World.drewN_drewN _ _ _) (congrArg (World.drewN _) (Nat.add_assoc _ _ _))⟩))); try go_wp2_with (first | (go_at_call 84; (with_reducible refine (laws_sameInts.calls k _ _ l0_1 _ _ l1_1 t973 _ ?side1 ?side2 ?side3 ?side4 A7.out).mono ?_); (case side1 => repeat (first | exact (Kd.C_below HR0_1.out HB.out) | (with_reducible refine Kd.C_alloc ?_ _) | (with_reducible refine Kd.C_drewN ?_ _) | (with_reducible refine Kd.C_drew ?_))); (case side2 => exact HC0_1.out); (case side3 => repeat (first | exact (Kd.C_below HR1_1.out HB.out) | (with_reducible refine Kd.C_alloc ?_ _) | (with_reducible refine Kd.C_drewN ?_ _) | (with_reducible refine Kd.C_drew ?_))); (case side4 => exact HC1_1.out); rintro e w' ⟨rfl, ⟨nd, rfl⟩⟩; (try first | exact ⟨rfl, _, World.drewN_drewN _ _ _⟩ | exact ⟨rfl, _, Eq.trans (World.drewN_drewN _ _ _) (congrArg (World.drewN _) (Nat.add_assoc _ _ _))⟩))))
   go_meet
   case rel => exact ⟨_, (!t973), (by first | rfl | (simp; done) | (simp [*]; done)), H', ⟨by first | omega | exact Nat.le_refl _⟩, ⟨by (with_reducible repeat first | apply bN | apply bD | apply bA); exact BK971.out⟩, ⟨by (with_reducible repeat first | apply bN | apply bD | apply bA); exact BK972.out⟩, ⟨by repeat (first | (with_reducible first | exact HB.out | apply eA | apply eN | apply eD | refine below_set ?_ GE971.out | refine below_set ?_ GE972.out) | exact HB.out)⟩⟩
  ·rw [if_neg c6] at H
   have c6b0 : ((l0_0.length : Int) == (l1_0.length : Int)) = false := beq_eq_false_iff_ne.mpr c6
   have c6b1 : ((l0_0.length : Int) != (l1_0.length : Int)) = true := bne_iff_ne.mpr c6
   have c6b2 : (l0_0.length == l1_0.length) = false := by first | simpa using c6 | (simp at c6 ⊢; omega)
   (first | rw [c6b0] | (simp only [i64_w, i32_w]; rw [c6b0]) | skip)
   have H' := Aside0.mk H
   clear H
   have hnb11 := NB971_972.out
   have hnc11 := NB972_971.out
   have hcz12_0 : w5.cell? ⟨gb971, 0, none⟩ = some (.slice A0_0 l0_0.length c0_0) := (blk_cell BK971.out 0).trans rfl
   have hcz12_1 : w5.cell? ⟨gb971, 1, none⟩ = some (.slice A0_1 l0_1.length c0_1) := (blk_cell BK971.out 1).trans rfl
   have hfz12_0 := blk_frozen BK971.out 0
   have hfz12_1 := blk_frozen BK971.out 1
   have hcz13_0 : w5.cell? ⟨gb972, 0, none⟩ = some (.slice A1_0 l1_0.length c1_0) := (blk_cell BK972.out 0).trans rfl
   have hcz13_1 : w5.cell? ⟨gb972, 1, none⟩ = some (.slice A1_1 l1_1.length c1_1) := (blk_cell BK972.out 1).trans rfl
   have hfz13_0 := blk_frozen BK972.out 0
   have hfz13_1 := blk_frozen BK972.out 1
   go_wp2
   repeat (go_quiet (fail); try go_wp2)
   go_meet
   case rel => exact ⟨_, (true), (by first | rfl | (simp; done) | (simp [*]; done)), H', ⟨by first | omega | exact Nat.le_refl _⟩, ⟨by (with_reducible repeat first | apply bN | apply bD | apply bA); exact BK971.out⟩, ⟨by (with_reducible repeat first | apply bN | apply bD | apply bA); exact BK972.out⟩, ⟨by repeat (first | (with_reducible first | exact HB.out | apply eA | apply eN | apply eD | refine below_set ?_ GE971.out | refine below_set ?_ GE972.out) | exact HB.out)⟩⟩
 case rest =>
  clear HC3
  try clear c1
  try clear p2
  try clear c3
  try clear c6
  try clear c6b0
  try clear c6b1
  try clear c6b2
  try clear c8
  try clear c11
  try clear hcz10_0
  try clear hcz10_1
  try clear hcz12_0
  try clear hcz12_1
  try clear hcz13_0
  try clear hcz13_1
  try clear hcz9_0
  try clear hcz9_1
  try clear hfz10_0
  try clear hfz10_1
  try clear hfz12_0
  try clear hfz12_1
  try clear hfz13_0
  try clear hfz13_1
  try clear hfz9_0
  try clear hfz9_1
  obtain ⟨kq, x20_2, rfl, HA, HJ2, BK971, BK972, HB⟩ := hcut
  cases kq with
  | zero => exact absurd HA.out (by simp [laws_sameTables.j0])
  | succ kj2 =>
   have H := HA.out
   clear HA
   simp only [laws_sameTables.j0] at H
   by_cases c14 : x20_2 = true
   ·subst c14
    have H1 : (some false) = some r := by rw [if_pos rfl] at H; first | done | exact H
    clear H
    have H := H1
    clear H1
    obtain rfl := Option.some.inj H
    go_wp2
    repeat (go_quiet (fail); try go_wp2)
    go_ret
    exact ⟨by first | rfl | (simp [errW_none, errW_some] <;> rfl) | (simp [*, errW_none, errW_some] <;> rfl), by repeat (first | (with_reducible first | exact HB.out | apply eA | apply eN | apply eD | refine below_set ?_ GE971.out | refine below_set ?_ GE972.out) | exact HB.out)⟩
   ·replace c14 := Bool.eq_false_iff.mpr c14
    subst c14
    have H1 : (laws_sameTables.l0 kj2 (l0_0.length : Int) 0 l0_0 l0_1 l1_0 l1_1) = some r := by rw [if_neg (show ¬ (false = true) by decide)] at H; first | done | exact H
    clear H
    have H := H1
    clear H1
    have H' := Aside0.mk H
    clear H
    have hnb15 := NB971_972.out
    have hnc15 := NB972_971.out
    have hcz16_0 : wc.cell? ⟨gb971, 0, none⟩ = some (.slice A0_0 l0_0.length c0_0) := (blk_cell BK971.out 0).trans rfl
    have hcz16_1 : wc.cell? ⟨gb971, 1, none⟩ = some (.slice A0_1 l0_1.length c0_1) := (blk_cell BK971.out 1).trans rfl
    have hfz16_0 := blk_frozen BK971.out 0
    have hfz16_1 := blk_frozen BK971.out 1
    go_wp2
    repeat (go_quiet (fail); try go_wp2)
    go_loopg [24] kj2 (fun kq v24 w' => ∃ (x24_2 : Int), v24 = .int .i64 x24_2 ∧ Aside0 (laws_sameTables.l0 kq (l0_0.length : Int) x24_2 l0_0 l0_1 l1_0 l1_1 = some r) ∧ Aside0 (kq ≤ kj2) ∧ Aside0 (w'.heap[gb971]? = some (.cells #[(.slice A0_0 l0_0.length c0_0), (.slice A0_1 l0_1.length c0_1)] 51 (0, 0))) ∧ Aside0 (w'.heap[gb972]? = some (.cells #[(.slice A1_0 l1_0.length c1_0), (.slice A1_1 l1_1.length c1_1)] 51 (0, 0))) ∧ Aside0 (Below w.heap.size w w'))
    case atStart => exact ⟨(0), (by first | rfl | (simp; done) | (simp [*]; done)), H', ⟨Nat.le_refl _⟩, ⟨by (with_reducible repeat first | apply bN | apply bD | apply bA); exact BK971.out⟩, ⟨by (with_reducible repeat first | apply bN | apply bD | apply bA); exact BK972.out⟩, ⟨by repeat (first | (with_reducible first | exact HB.out | apply eA | apply eN | apply eD | refine below_set ?_ GE971.out | refine below_set ?_ GE972.out) | exact HB.out)⟩⟩
    case round =>
     clear H'
     try clear c1
     try clear p2
     try clear c3
     try clear c6
     try clear c6b0
     try clear c6b1
     try clear c6b2
     try clear c8
     try clear c11
     try clear c14
     try clear c15
     try clear hcz10_0
     try clear hcz10_1
     try clear hcz12_0
     try clear hcz12_1
     try clear hcz13_0
     try clear hcz13_1
     try clear hcz16_0
     try clear hcz16_1
     try clear hcz9_0
     try clear hcz9_1
     try clear hfz10_0
     try clear hfz10_1
     try clear hfz12_0
     try clear hfz12_1
     try clear hfz13_0
     try clear hfz13_1
     try clear hfz16_0
     try clear hfz16_1
     try clear hfz9_0
     try clear hfz9_1
     try clear p2
     obtain ⟨x24_2, rfl, HA, HK2, BK971, BK972, HB⟩ := hrel
     cases gk with
     | zero => exact absurd HA.out (by simp [laws_sameTables.l0])
     | succ k2 =>
      have H := HA.out
      clear HA
      simp only [laws_sameTables.l0] at H
      by_cases c17 : x24_2 < (l0_0.length : Int)
      ·rw [if_pos c17] at H
       have c17b0 : decide (x24_2 < (l0_0.length : Int)) = true := decide_eq_true c17
       clear c17
       by_cases c18 : 0 ≤ x24_2
       ·rw [if_pos c18] at H
        have c18b0 : decide (0 ≤ x24_2) = true := decide_eq_true c18
        clear c18
        by_cases c19 : x24_2 < (l0_0.length : Int)
        ·rw [if_pos c19] at H
         have c19b0 : decide (x24_2 < (l0_0.length : Int)) = true := decide_eq_true c19
         clear c19
         by_cases c20 : x24_2 < (l1_0.length : Int)
         ·rw [if_pos c20] at H
          have c20b0 : decide (x24_2 < (l1_0.length : Int)) = true := decide_eq_true c20
          clear c20
          by_cases c21 : (!(((rd_T46 l0_0 x24_2).f0) == ((rd_T46 l1_0 x24_2).f0)) || (!(((rd_T46 l0_0 x24_2).f1) == ((rd_T46 l1_0 x24_2).f1)) || (!(((rd_T46 l0_0 x24_2).f2) == ((rd_T46 l1_0 x24_2).f2)) || (!(((rd_T46 l0_0 x24_2).f3) == ((rd_T46 l1_0 x24_2).f3)) || (!(((rd_T46 l0_0 x24_2).f4) == ((rd_T46 l1_0 x24_2).f4)) || (!(((rd_T46 l0_0 x24_2).f5) == ((rd_T46 l1_0 x24_2).f5)))))))) = true
          ·rw [if_pos c21] at H
           have c21b0 : (!(((rd_T46 l0_0 x24_2).f0) == ((rd_T46 l1_0 x24_2).f0)) || (!(((rd_T46 l0_0 x24_2).f1) == ((rd_T46 l1_0 x24_2).f1)) || (!(((rd_T46 l0_0 x24_2).f2) == ((rd_T46 l1_0 x24_2).f2)) || (!(((rd_T46 l0_0 x24_2).f3) == ((rd_T46 l1_0 x24_2).f3)) || (!(((rd_T46 l0_0 x24_2).f4) == ((rd_T46 l1_0 x24_2).f4)) || (!(((rd_T46 l0_0 x24_2).f5) == ((rd_T46 l1_0 x24_2).f5)))))))) = true := c21
           clear c21
           obtain rfl := Option.some.inj H
           have hnb22 := NB971_972.out
           have hnc22 := NB972_971.out
           have hcz23_0 : wr.cell? ⟨gb971, 0, none⟩ = some (.slice A0_0 l0_0.length c0_0) := (blk_cell BK971.out 0).trans rfl
           have hcz23_1 : wr.cell? ⟨gb971, 1, none⟩ = some (.slice A0_1 l0_1.length c0_1) := (blk_cell BK971.out 1).trans rfl
           have hfz23_0 := blk_frozen BK971.out 0
           have hfz23_1 := blk_frozen BK971.out 1
           have p974 : 0 ≤ (x24_2 : Int) := of_decide_eq_true (by first | (with_reducible assumption) | assumption)
           have q974 : x24_2 < (l0_0.length : Int) := of_decide_eq_true (by first | (with_reducible assumption) | assumption)
           obtain ⟨ad974, e974, hx974_0, hx974_1, hx974_2, hx974_3, hx974_4, hx974_5⟩ := at_T46 HR0_0.out x24_2 p974 q974
           cases e974
           replace hx974_0 := (HB.out.cell (World.block_lt_of_cell? w _ hx974_0)).trans hx974_0
           replace hx974_1 := (HB.out.cell (World.block_lt_of_cell? w _ hx974_1)).trans hx974_1
           replace hx974_2 := (HB.out.cell (World.block_lt_of_cell? w _ hx974_2)).trans hx974_2
           replace hx974_3 := (HB.out.cell (World.block_lt_of_cell? w _ hx974_3)).trans hx974_3
           replace hx974_4 := (HB.out.cell (World.block_lt_of_cell? w _ hx974_4)).trans hx974_4
           replace hx974_5 := (HB.out.cell (World.block_lt_of_cell? w _ hx974_5)).trans hx974_5
           replace p974 := eq_true p974
           replace q974 := eq_true q974
           have hcz24_0 : wr.cell? ⟨gb972, 0, none⟩ = some (.slice A1_0 l1_0.length c1_0) := (blk_cell BK972.out 0).trans rfl
           have hcz24_1 : wr.cell? ⟨gb972, 1, none⟩ = some (.slice A1_1 l1_1.length c1_1) := (blk_cell BK972.out 1).trans rfl
           have hfz24_0 := blk_frozen BK972.out 0
           have hfz24_1 := blk_frozen BK972.out 1
           have p975 : 0 ≤ (x24_2 : Int) := of_decide_eq_true (by first | (with_reducible assumption) | assumption)
           have q975 : x24_2 < (l1_0.length : Int) := of_decide_eq_true (by first | (with_reducible assumption) | assumption)
           obtain ⟨ad975, e975, hx975_0, hx975_1, hx975_2, hx975_3, hx975_4, hx975_5⟩ := at_T46 HR1_0.out x24_2 p975 q975
           cases e975
           replace hx975_0 := (HB.out.cell (World.block_lt_of_cell? w _ hx975_0)).trans hx975_0
           replace hx975_1 := (HB.out.cell (World.block_lt_of_cell? w _ hx975_1)).trans hx975_1
           replace hx975_2 := (HB.out.cell (World.block_lt_of_cell? w _ hx975_2)).trans hx975_2
           replace hx975_3 := (HB.out.cell (World.block_lt_of_cell? w _ hx975_3)).trans hx975_3
           replace hx975_4 := (HB.out.cell (World.block_lt_of_cell? w _ hx975_4)).trans hx975_4
           replace hx975_5 := (HB.out.cell (World.block_lt_of_cell? w _ hx975_5)).trans hx975_5
           replace p975 := eq_true p975
           replace q975 := eq_true q975
           go_wp2
           repeat (go_quiet (fail); try go_wp2)
           go_ret
           exact ⟨by first | rfl | (simp [errW_none, errW_some] <;> rfl) | (simp [*, errW_none, errW_some] <;> rfl), by repeat (first | (with_reducible first | exact HB.out | apply eA | apply eN | apply eD | refine below_set ?_ GE971.out | refine below_set ?_ GE972.out) | exact HB.out)⟩
          ·rw [if_neg c21] at H
           have c21b0 : (!(((rd_T46 l0_0 x24_2).f0) == ((rd_T46 l1_0 x24_2).f0)) || (!(((rd_T46 l0_0 x24_2).f1) == ((rd_T46 l1_0 x24_2).f1)) || (!(((rd_T46 l0_0 x24_2).f2) == ((rd_T46 l1_0 x24_2).f2)) || (!(((rd_T46 l0_0 x24_2).f3) == ((rd_T46 l1_0 x24_2).f3)) || (!(((rd_T46 l0_0 x24_2).f4) == ((rd_T46 l1_0 x24_2).f4)) || (!(((rd_T46 l0_0 x24_2).f5) == ((rd_T46 l1_0 x24_2).f5)))))))) = false := by simpa using c21
           clear c21
           have H' := Aside0.mk H
           clear H
           have hnb25 := NB971_972.out
           have hnc25 := NB972_971.out
           have hcz26_0 : wr.cell? ⟨gb971, 0, none⟩ = some (.slice A0_0 l0_0.length c0_0) := (blk_cell BK971.out 0).trans rfl
           have hcz26_1 : wr.cell? ⟨gb971, 1, none⟩ = some (.slice A0_1 l0_1.length c0_1) := (blk_cell BK971.out 1).trans rfl
           have hfz26_0 := blk_frozen BK971.out 0
           have hfz26_1 := blk_frozen BK971.out 1
           have p974 : 0 ≤ (x24_2 : Int) := of_decide_eq_true (by first | (with_reducible assumption) | assumption)
           have q974 : x24_2 < (l0_0.length : Int) := of_decide_eq_true (by first | (with_reducible assumption) | assumption)
           obtain ⟨ad974, e974, hx974_0, hx974_1, hx974_2, hx974_3, hx974_4, hx974_5⟩ := at_T46 HR0_0.out x24_2 p974 q974
           cases e974
           replace hx974_0 := (HB.out.cell (World.block_lt_of_cell? w _ hx974_0)).trans hx974_0
           replace hx974_1 := (HB.out.cell (World.block_lt_of_cell? w _ hx974_1)).trans hx974_1
           replace hx974_2 := (HB.out.cell (World.block_lt_of_cell? w _ hx974_2)).trans hx974_2
           replace hx974_3 := (HB.out.cell (World.block_lt_of_cell? w _ hx974_3)).trans hx974_3
           replace hx974_4 := (HB.out.cell (World.block_lt_of_cell? w _ hx974_4)).trans hx974_4
           replace hx974_5 := (HB.out.cell (World.block_lt_of_cell? w _ hx974_5)).trans hx974_5
           replace p974 := eq_true p974
           replace q974 := eq_true q974
           have hcz27_0 : wr.cell? ⟨gb972, 0, none⟩ = some (.slice A1_0 l1_0.length c1_0) := (blk_cell BK972.out 0).trans rfl
           have hcz27_1 : wr.cell? ⟨gb972, 1, none⟩ = some (.slice A1_1 l1_1.length c1_1) := (blk_cell BK972.out 1).trans rfl
           have hfz27_0 := blk_frozen BK972.out 0
           have hfz27_1 := blk_frozen BK972.out 1
           have p975 : 0 ≤ (x24_2 : Int) := of_decide_eq_true (by first | (with_reducible assumption) | assumption)
           have q975 : x24_2 < (l1_0.length : Int) := of_decide_eq_true (by first | (with_reducible assumption) | assumption)
           obtain ⟨ad975, e975, hx975_0, hx975_1, hx975_2, hx975_3, hx975_4, hx975_5⟩ := at_T46 HR1_0.out x24_2 p975 q975
           cases e975
           replace hx975_0 := (HB.out.cell (World.block_lt_of_cell? w _ hx975_0)).trans hx975_0
           replace hx975_1 := (HB.out.cell (World.block_lt_of_cell? w _ hx975_1)).trans hx975_1
           replace hx975_2 := (HB.out.cell (World.block_lt_of_cell? w _ hx975_2)).trans hx975_2
           replace hx975_3 := (HB.out.cell (World.block_lt_of_cell? w _ hx975_3)).trans hx975_3
           replace hx975_4 := (HB.out.cell (World.block_lt_of_cell? w _ hx975_4)).trans hx975_4
           replace hx975_5 := (HB.out.cell (World.block_lt_of_cell? w _ hx975_5)).trans hx975_5
           replace p975 := eq_true p975
           replace q975 := eq_true q975
           go_wp2
           repeat (go_quiet (fail); try go_wp2)
           go_roundg k2
           case measure => have := HJ2.out; have := HK2.out; omega
           case rel => exact ⟨(wrap64 (x24_2 + 1)), (by first | rfl | (simp; done) | (simp [*]; done)), H', ⟨by have := HJ2.out; have := HK2.out; omega⟩, ⟨by (with_reducible repeat first | apply bN | apply bD | apply bA); exact BK971.out⟩, ⟨by (with_reducible repeat first | apply bN | apply bD | apply bA); exact BK972.out⟩, ⟨by repeat (first | (with_reducible first | exact HB.out | apply eA | apply eN | apply eD | refine below_set ?_ GE971.out | refine below_set ?_ GE972.out) | exact HB.out)⟩⟩
         ·rw [if_neg c20] at H
          exact absurd H (by simp)
        ·rw [if_neg c19] at H
         exact absurd H (by simp)
       ·rw [if_neg c18] at H
        exact absurd H (by simp)
      ·rw [if_neg c17] at H
       have c17b0 : decide (x24_2 < (l0_0.length : Int)) = false := decide_eq_false c17
       clear c17
       obtain rfl := Option.some.inj H
       go_wp2
       repeat (go_quiet (fail); try go_wp2)
       go_ret
       exact ⟨by first | rfl | (simp [errW_none, errW_some] <;> rfl) | (simp [*, errW_none, errW_some] <;> rfl), by repeat (first | (with_reducible first | exact HB.out | apply eA | apply eN | apply eD | refine below_set ?_ GE971.out | refine below_set ?_ GE972.out) | exact HB.out)⟩

def impl_CountUsed.l0 : Nat → Int → Int → List (S46) → Int → Int → Option (Int × Bool)
 | 0, _, _, _, _, _ => none
 | k + 1, x1, x6, x13, x14, x15 => if x15 < x14 then (if 0 ≤ x15 then (if x15 < (x13.length : Int) then (if (rd_T46 x13 x15).f0 = true then (if x1 = (-1) then (impl_CountUsed.l0 k x1 (wrap64 (x6 + 1)) x13 x14 (wrap64 (x15 + 1))) else (if ((rd_T46 x13 x15).f1) = x1 then (impl_CountUsed.l0 k x1 (wrap64 (x6 + 1)) x13 x14 (wrap64 (x15 + 1))) else (impl_CountUsed.l0 k x1 x6 x13 x14 (wrap64 (x15 + 1))))) else (impl_CountUsed.l0 k x1 x6 x13 x14 (wrap64 (x15 + 1)))) else (none)) else (none)) else (some (x6, true))
def impl_CountUsed.f (k : Nat) (l0_0 : List (S46)) (l0_1 : List Int) (a1 : Int) : Option (Int × Bool) := (impl_GoodTable.f k l0_0 l0_1).bind fun t977 => (if t977 = true then (impl_CountUsed.l0 k a1 0 l0_0 (l0_0.length : Int) 0) else (some (0, false)))

-- NOT PRINTED: function 9 (laws_FnHandles)

end Go.Proofs.Ytoomeeoijbkmnaa.PH
