-- Printed by a program of this session (after the kit's print.sh, with contracts of its own beside): Lean checks it.
import Derived.Test.YtdoflfifnkpacaaC19WOx0
import Derived.Test.YtdoflfifnkpacaaC19WOx2
import Derived.Test.YtdoflfifnkpacaaC19WOx4
namespace Go.Proofs.Ytdoflfifnkpacaa.WO
open Go.RowKit Go.Proofs.YtdoflfifnkpacaaW.PrintWords Go.Proofs.YtdoflfifnkpacaaW.PrintLast Go.Proofs.YtdoflfifnkpacaaW.PrintMore
attribute [local go_sem] max2_int min2_int max_two min_two max_three min_three max_four min_four   -- for this text's walks alone
set_option linter.unusedVariables false
set_option linter.unusedSimpArgs false

mutual
def spec_l16Loans.l0 : Nat → List (S155) → Int → Int → List (S67) → List (S78) → List (S155) → List Int → Option (Bool)
 | 0, _, _, _, _, _, _, _ => none
 | k + 1, x18, x19, x20, x133000, x133001, x133002, x133003 => if x20 < x19 then (if 0 ≤ x20 then (if x20 < (x18.length : Int) then ((spec_l1In.f ((rd_T155 x18 x20).f0) 0 (wrap64 ((x133001.length : Int) - 1))).bind fun t135 => (if t135 = true then ((spec_l1In.f ((rd_T155 x18 x20).f2) 0 (wrap64 ((x133001.length : Int) - 1))).bind fun t136 => (spec_l16Loans.j1 k x20 x18 x19 x20 (!t136) x133000 x133001 x133002 x133003 ((rd_T155 x18 x20).f0) ((rd_T155 x18 x20).f1) ((rd_T155 x18 x20).f2) ((rd_T155 x18 x20).f3))) else (spec_l16Loans.j1 k x20 x18 x19 x20 true x133000 x133001 x133002 x133003 ((rd_T155 x18 x20).f0) ((rd_T155 x18 x20).f1) ((rd_T155 x18 x20).f2) ((rd_T155 x18 x20).f3)))) else (none)) else (none)) else (spec_l16Loans.l1 k 0 x133001 (x133001.length : Int) 0 x133000 x133001 x133002 x133003)
def spec_l16Loans.j1 : Nat → Int → List (S155) → Int → Int → Bool → List (S67) → List (S78) → List (S155) → List Int → Int → Int → Int → Int → Option (Bool)
 | 0, _, _, _, _, _, _, _, _, _, _, _, _, _ => none
 | k + 1, x3, x18, x19, x20, x42, x133000, x133001, x133002, x133003, x135000, x135001, x135002, x135003 => if x42 = true then (some false) else (if 0 ≤ x135000 then (if x135000 < (x133001.length : Int) then ((spec_l16Used.f ((rd_T78 x133001 x135000).f0) ((rd_T78 x133001 x135000).f1) x135001).bind fun bt138 => (if 0 ≤ x135002 then (if x135002 < (x133001.length : Int) then ((spec_l16Used.f ((rd_T78 x133001 x135002).f0) ((rd_T78 x133001 x135002).f1) x135003).bind fun bt147 => (if bt138.2.2.2.2.2.2 = true then (if bt147.2.2.2.2.2.2 = true then (if bt138.2.2.2.1 = true then (if bt147.2.2.2.1 = true then (some false) else (if bt138.2.1 = bt147.2.1 then (if bt138.2.2.1 = bt147.2.2.1 then (if bt147.2.2.2.2.2.1 = (wrap64 (x3 + 1)) then (spec_l16Loans.l0 k x18 x19 (wrap64 (x20 + 1)) x133000 x133001 x133002 x133003) else (some false)) else (some false)) else (some false))) else (some false)) else (some false)) else (some false))) else (none)) else (none))) else (none)) else (none))
def spec_l16Loans.l1 : Nat → Int → List (S78) → Int → Int → List (S67) → List (S78) → List (S155) → List Int → Option (Bool)
 | 0, _, _, _, _, _, _, _, _ => none
 | k + 1, x9, x105, x106, x107, x133000, x133001, x133002, x133003 => if x107 < x106 then (if 0 ≤ x107 then (if x107 < (x105.length : Int) then (spec_l16Loans.l2 k x9 x107 x105 x106 x107 ((rd_T78 x105 x107).f0) (((rd_T78 x105 x107).f0).length : Int) 0 x133000 x133001 x133002 x133003) else (none)) else (none)) else (some (x9 == (x133002.length : Int)))
def spec_l16Loans.l2 : Nat → Int → Int → List (S78) → Int → Int → List (S75) → Int → Int → List (S67) → List (S78) → List (S155) → List Int → Option (Bool)
 | 0, _, _, _, _, _, _, _, _, _, _, _, _ => none
 | k + 1, x9, x10, x105, x106, x107, x113, x114, x115, x133000, x133001, x133002, x133003 => if x115 < x114 then (if 0 ≤ x115 then (if x115 < (x113.length : Int) then (if ((rd_T75 x113 x115).f0 = true) then (spec_l16Loans.l3 k x9 x10 x115 0 x105 x106 x107 x113 x114 x115 x133002 (x133002.length : Int) 0 x133000 x133001 x133002 x133003 ((rd_T75 x113 x115).f0) ((rd_T75 x113 x115).f1) ((rd_T75 x113 x115).f2) ((rd_T75 x113 x115).f3) ((rd_T75 x113 x115).f4) ((rd_T75 x113 x115).f5)) else (spec_l16Loans.l2 k x9 x10 x105 x106 x107 x113 x114 (wrap64 (x115 + 1)) x133000 x133001 x133002 x133003)) else (none)) else (none)) else (spec_l16Loans.l1 k x9 x105 x106 (wrap64 (x107 + 1)) x133000 x133001 x133002 x133003)
def spec_l16Loans.l3 : Nat → Int → Int → Int → Int → List (S78) → Int → Int → List (S75) → Int → Int → List (S155) → Int → Int → List (S67) → List (S78) → List (S155) → List Int → Bool → Int → Int → Bool → Int → Int → Option (Bool)
 | 0, _, _, _, _, _, _, _, _, _, _, _, _, _, _, _, _, _, _, _, _, _, _, _ => none
 | k + 1, x9, x10, x12, x14, x105, x106, x107, x113, x114, x115, x124, x125, x126, x133000, x133001, x133002, x133003, x159000, x159001, x159002, x159003, x159004, x159005 => if x126 < x125 then (if 0 ≤ x126 then (if x126 < (x124.length : Int) then (if x159003 = true then (if ((rd_T155 x124 x126).f0) = x10 then (if ((rd_T155 x124 x126).f1) = x12 then (spec_l16Loans.l3 k x9 x10 x12 (wrap64 (x14 + 1)) x105 x106 x107 x113 x114 x115 x124 x125 (wrap64 (x126 + 1)) x133000 x133001 x133002 x133003 x159000 x159001 x159002 x159003 x159004 x159005) else (spec_l16Loans.l3 k x9 x10 x12 x14 x105 x106 x107 x113 x114 x115 x124 x125 (wrap64 (x126 + 1)) x133000 x133001 x133002 x133003 x159000 x159001 x159002 x159003 x159004 x159005)) else (spec_l16Loans.l3 k x9 x10 x12 x14 x105 x106 x107 x113 x114 x115 x124 x125 (wrap64 (x126 + 1)) x133000 x133001 x133002 x133003 x159000 x159001 x159002 x159003 x159004 x159005)) else (spec_l16Loans.l3 k x9 x10 x12 x14 x105 x106 x107 x113 x114 x115 x124 x125 (wrap64 (x126 + 1)) x133000 x133001 x133002 x133003 x159000 x159001 x159002 x159003 x159004 x159005)) else (none)) else (none)) else (if x159003 = true then (if x159004 = x14 then (spec_l16Loans.l2 k x9 x10 x105 x106 x107 x113 x114 (wrap64 (x115 + 1)) x133000 x133001 x133002 x133003) else (some false)) else (if x159004 = x14 then (spec_l16Loans.l2 k (wrap64 (x9 + 1)) x10 x105 x106 x107 x113 x114 (wrap64 (x115 + 1)) x133000 x133001 x133002 x133003) else (some false)))
end
def spec_l16Loans.f (k : Nat) (l0_0 : List (S67)) (l0_1 : List (S78)) (l0_2 : List (S155)) (l0_3 : List Int) : Option (Bool) := spec_l16Loans.l0 k l0_2 (l0_2.length : Int) 0 l0_0 l0_1 l0_2 l0_3
def spec_l16Loans.T6 : Bool × List (List Nat × List Nat) := (true, [([], []), ([0], [0]), ([], []), ([2], [2]), ([1, 3], [1, 3]), ([4], [4]), ([], []), ([6], [6]), ([5, 7], [5, 7]), ([8], [8]), ([9], [9]), ([9], [9]), ([], []), ([12, 10, 8, 0, 1, 2, 3, 4, 5, 6, 7, 8, 9, 10, 12], [10, 12]), ([11, 13, 0, 1, 2, 3, 4, 5, 6, 7, 8, 9, 10, 11, 12, 13], [11])])
def spec_l16Loans.B6 : List Nat := [0, 1, 0, 4, 15, 31, 0, 64, 255, 511, 1023, 1023, 0, 6143, 16383]
theorem spec_l16Loans.tab6 : rtab .any (opsOf Try.f75 6) = spec_l16Loans.T6 := by kernel_rfl
theorem spec_l16Loans.bits6 : waitsOk spec_l16Loans.T6.2 spec_l16Loans.B6 = true := by kernel_rfl
def spec_l16Loans.T7 : Bool × List (List Nat × List Nat) := (true, [([], []), ([0], [0]), ([], []), ([2], [2]), ([1, 3], [1, 3]), ([4], [4]), ([], []), ([6], [6]), ([5, 7], [5, 7]), ([8], [8]), ([9], [9]), ([9], [9]), ([], []), ([12, 10, 8, 0, 1, 2, 3, 4, 5, 6, 7, 8, 9, 10, 12], [10, 12]), ([11, 13, 0, 1, 2, 3, 4, 5, 6, 7, 8, 9, 10, 11, 12, 13], [11])])
def spec_l16Loans.B7 : List Nat := [0, 1, 0, 4, 15, 31, 0, 64, 255, 511, 1023, 1023, 0, 6143, 16383]
theorem spec_l16Loans.tab7 : rtab .any (opsOf Try.f75 7) = spec_l16Loans.T7 := by kernel_rfl
theorem spec_l16Loans.bits7 : waitsOk spec_l16Loans.T7.2 spec_l16Loans.B7 = true := by kernel_rfl
set_option maxHeartbeats 8000000 in
set_option maxRecDepth 100000 in
theorem spec_l16Loans.calls (k : Nat) (A0_0 : Option Addr) (c0_0 : Nat) (l0_0 : List (S67)) (A0_1 : Option Addr) (c0_1 : Nat) (l0_1 : List (S78)) (A0_2 : Option Addr) (c0_2 : Nat) (l0_2 : List (S155)) (A0_3 : Option Addr) (c0_3 : Nat) (l0_3 : List Int) (r : Bool) (w : World) (hr0_0 : Kd.C k67 w A0_0 l0_0.length l0_0) (hc0_0 : l0_0.length ≤ c0_0) (hr0_1 : Kd.C k78 w A0_1 l0_1.length l0_1) (hc0_1 : l0_1.length ≤ c0_1) (hr0_2 : Kd.C k155 w A0_2 l0_2.length l0_2) (hc0_2 : l0_2.length ≤ c0_2) (hr0_3 : Kd.C (Kd.int .i64) w A0_3 l0_3.length l0_3) (hc0_3 : l0_3.length ≤ c0_3) (h : spec_l16Loans.f k l0_0 l0_1 l0_2 l0_3 = some r) :
  Calls Try.prog 75 #[.agg #[.slice A0_0 l0_0.length c0_0, .slice A0_1 l0_1.length c0_1, .slice A0_2 l0_2.length c0_2, .slice A0_3 l0_3.length c0_3]] w fun e w' => e = .returned (.bool r) ∧ Below w.heap.size w w' := by
 have hu45 := Try.underlying45
 have hu155 := Try.underlying155
 have hu78 := Try.underlying78
 have hu75 := Try.underlying75
 have HR0_0 := Aside0.mk hr0_0
 have HC0_0 := Aside0.mk hc0_0
 clear hr0_0 hc0_0
 have HR0_1 := Aside0.mk hr0_1
 have HC0_1 := Aside0.mk hc0_1
 clear hr0_1 hc0_1
 have HR0_2 := Aside0.mk hr0_2
 have HC0_2 := Aside0.mk hc0_2
 clear hr0_2 hc0_2
 have HR0_3 := Aside0.mk hr0_3
 have HC0_3 := Aside0.mk hc0_3
 clear hr0_3 hc0_3
 have HB := Aside0.mk (Below.refl w.heap.size w)
 have H : (spec_l16Loans.l0 k l0_2 (l0_2.length : Int) 0 l0_0 l0_1 l0_2 l0_3) = some r := h
 clear h
 have H' := Aside0.mk H
 clear H
 go_enter Try.func75, Try.ntmps75
 go_wp2_with (first | ((with_reducible refine gate_dst (N := 1) rfl ?_); (try (refine gate_guard (by rfl) ?_; dsimp only)); refine box_event ?hg (N := 1) ?hd (cs := #[.slice A0_0 l0_0.length c0_0, .slice A0_1 l0_1.length c0_1, .slice A0_2 l0_2.length c0_2, .slice A0_3 l0_3.length c0_3]) (t := 45) ?hr ?_; (case hd => rfl); (case hg => rfl); (case hr => first | (go_simp; done) | (go_simp; rfl)); intro gb132 hg w2 hbox hb; have n0_ := Aside0.mk (below_step (eb_ HB.out) hb); have n1_ := Aside0.mk (hbox); have n2_ := Aside0.mk (gs_ hg (eb_ HB.out) : w.heap.size ≤ gb132); have n3_ := n2_; clear HB; have HB := n0_; have BK132 := n1_; have GW132 := n2_; have GE132 := n3_; clear n0_ n1_ n2_ n3_; clear hb hbox hg; obtain ⟨_, _, _, _, _, _, _, _⟩ := zc4_ BK132.out))
 go_loopg [20] k (fun kq v20 w' => ∃ (x20_1 : Int), v20 = .int .i64 x20_1 ∧ Aside0 (spec_l16Loans.l0 kq l0_2 (l0_2.length : Int) x20_1 l0_0 l0_1 l0_2 l0_3 = some r) ∧ Aside0 (kq ≤ k) ∧ Aside0 (w'.heap[gb132]? = some (.cells #[(.slice A0_0 l0_0.length c0_0), (.slice A0_1 l0_1.length c0_1), (.slice A0_2 l0_2.length c0_2), (.slice A0_3 l0_3.length c0_3)] 45 (0, 0))) ∧ Aside0 (Below w.heap.size w w'))
 case atStart => exact ⟨(0), (by first | rfl | (simp; done) | (simp [*]; done)), H', ⟨Nat.le_refl _⟩, ⟨by (with_reducible repeat first | apply bN | apply bD | apply bA); exact BK132.out⟩, ⟨by repeat (first | (with_reducible first | exact HB.out | apply eA | apply eN | apply eD | refine below_set ?_ GE132.out) | exact HB.out)⟩⟩
 case round =>
  clear H'
  try clear p2
  obtain ⟨x20_1, rfl, HA, HK1, BK132, HB⟩ := hrel
  cases gk with
  | zero => exact absurd HA.out (by simp [spec_l16Loans.l0])
  | succ k1 =>
   have H := HA.out
   clear HA
   simp only [spec_l16Loans.l0] at H
   by_cases c4 : x20_1 < (l0_2.length : Int)
   ·rw [if_pos c4] at H
    have c4b0 : decide (x20_1 < (l0_2.length : Int)) = true := decide_eq_true c4
    clear c4
    by_cases c5 : 0 ≤ x20_1
    ·rw [if_pos c5] at H
     have c5b0 : decide (0 ≤ x20_1) = true := decide_eq_true c5
     clear c5
     by_cases c6 : x20_1 < (l0_2.length : Int)
     ·rw [if_pos c6] at H
      have c6b0 : decide (x20_1 < (l0_2.length : Int)) = true := decide_eq_true c6
      clear c6
      have HC7 := Aside0.mk H
      clear H
      have p133 : 0 ≤ (x20_1 : Int) := of_decide_eq_true (by first | (with_reducible assumption) | assumption)
      have q133 : x20_1 < (l0_2.length : Int) := of_decide_eq_true (by first | (with_reducible assumption) | assumption)
      obtain ⟨ad133, e133, hx133_0, hx133_1, hx133_2, hx133_3⟩ := at_T155 HR0_2.out x20_1 p133 q133
      cases e133
      replace hx133_0 := (HB.out.cell (World.block_lt_of_cell? w _ hx133_0)).trans hx133_0
      replace hx133_1 := (HB.out.cell (World.block_lt_of_cell? w _ hx133_1)).trans hx133_1
      replace hx133_2 := (HB.out.cell (World.block_lt_of_cell? w _ hx133_2)).trans hx133_2
      replace hx133_3 := (HB.out.cell (World.block_lt_of_cell? w _ hx133_3)).trans hx133_3
      replace p133 := eq_true p133
      replace q133 := eq_true q133
      go_upto_region 4 with (first | ((with_reducible refine gate_dst (N := 4) rfl ?_); (try (refine gate_guard (by rfl) ?_; dsimp only)); refine box_event ?hg (N := 4) ?hd (cs := #[.int .i64 0, .int .i64 0, .int .i64 0, .int .i64 0]) (t := 155) ?hr ?_; (case hd => rfl); (case hg => rfl); (case hr => first | (go_simp; done) | (go_simp; rfl)); intro gb134 hg w8 hbox hb; have n0_ := Aside0.mk (blk_below (bk_ BK132.out) hb); have n1_ := Aside0.mk (below_step (by repeat (first | (with_reducible first | exact HB.out | apply eA | apply eN | apply eD | refine below_set ?_ GE132.out) | exact HB.out)) hb); have n2_ := Aside0.mk (hbox); have n3_ := Aside0.mk (gs_ hg (by repeat (first | (with_reducible first | exact HB.out | apply eA | apply eN | apply eD | refine below_set ?_ GE132.out) | exact HB.out)) : w.heap.size ≤ gb134); have n4_ := n3_; have n5_ := Aside0.mk ((by rw [hg]; exact Nat.ne_of_lt (blk_lt (g := gb132) (o := .cells #[.slice A0_0 l0_0.length c0_0, .slice A0_1 l0_1.length c0_1, .slice (some ad133) l0_2.length c0_2, .slice A0_3 l0_3.length c0_3] 45 (0, 0)) (bk_ BK132.out)) : gb132 ≠ gb134)); have n6_ := Aside0.mk ((by rw [hg]; exact Nat.ne_of_gt (blk_lt (g := gb132) (o := .cells #[.slice A0_0 l0_0.length c0_0, .slice A0_1 l0_1.length c0_1, .slice (some ad133) l0_2.length c0_2, .slice A0_3 l0_3.length c0_3] 45 (0, 0)) (bk_ BK132.out)) : gb134 ≠ gb132)); clear BK132 HB; have BK132 := n0_; have HB := n1_; have BK134 := n2_; have GW134 := n3_; have GE134 := n4_; have NB132_134 := n5_; have NB134_132 := n6_; clear n0_ n1_ n2_ n3_ n4_ n5_ n6_; clear hb hbox hg; have hnb9 := NB134_132.out; have hnc9 := NB132_134.out; obtain ⟨_, _, _, _, _, _, _, _⟩ := zc4_ BK134.out))
      (try simp only [Act.put, List.setIfInBounds_toArray, List.set_cons_zero, List.set_cons_succ])
      go_cut [42] (fun v42 wc => ∃ (kq : Nat) (x42_6 : Bool), v42 = .bool x42_6 ∧ Aside0 (spec_l16Loans.j1 kq x20_1 l0_2 (l0_2.length : Int) x20_1 x42_6 l0_0 l0_1 l0_2 l0_3 ((rd_T155 l0_2 x20_1).f0) ((rd_T155 l0_2 x20_1).f1) ((rd_T155 l0_2 x20_1).f2) ((rd_T155 l0_2 x20_1).f3) = some r) ∧ Aside0 (kq ≤ k1) ∧ Aside0 (wc.heap[gb132]? = some (.cells #[(.slice A0_0 l0_0.length c0_0), (.slice A0_1 l0_1.length c0_1), (.slice (some ad133) l0_2.length c0_2), (.slice A0_3 l0_3.length c0_3)] 45 (0, 0))) ∧ Aside0 (wc.heap[gb134]? = some (.cells #[.int .i64 ((rd_T155 l0_2 x20_1).f0), .int .i64 ((rd_T155 l0_2 x20_1).f1), .int .i64 ((rd_T155 l0_2 x20_1).f2), .int .i64 ((rd_T155 l0_2 x20_1).f3)] 155 (0, 0))) ∧ Aside0 (Below w.heap.size w wc))
      case first =>
       have H := HC7.out
       clear HC7
       replace H := Option.bind_eq_some_iff.mp H
       obtain ⟨t135, A110, H⟩ := H
       replace H : (if t135 = true then ((spec_l1In.f ((rd_T155 l0_2 x20_1).f2) 0 (wrap64 ((l0_1.length : Int) - 1))).bind fun t136 => (spec_l16Loans.j1 k1 x20_1 l0_2 (l0_2.length : Int) x20_1 (!t136) l0_0 l0_1 l0_2 l0_3 ((rd_T155 l0_2 x20_1).f0) ((rd_T155 l0_2 x20_1).f1) ((rd_T155 l0_2 x20_1).f2) ((rd_T155 l0_2 x20_1).f3))) else (spec_l16Loans.j1 k1 x20_1 l0_2 (l0_2.length : Int) x20_1 true l0_0 l0_1 l0_2 l0_3 ((rd_T155 l0_2 x20_1).f0) ((rd_T155 l0_2 x20_1).f1) ((rd_T155 l0_2 x20_1).f2) ((rd_T155 l0_2 x20_1).f3))) = some r := H
       have A11 := Aside0.mk A110
       clear A110
       by_cases c12 : t135 = true
       ·subst c12
        have H1 : ((spec_l1In.f ((rd_T155 l0_2 x20_1).f2) 0 (wrap64 ((l0_1.length : Int) - 1))).bind fun t136 => (spec_l16Loans.j1 k1 x20_1 l0_2 (l0_2.length : Int) x20_1 (!t136) l0_0 l0_1 l0_2 l0_3 ((rd_T155 l0_2 x20_1).f0) ((rd_T155 l0_2 x20_1).f1) ((rd_T155 l0_2 x20_1).f2) ((rd_T155 l0_2 x20_1).f3))) = some r := by rw [if_pos rfl] at H; first | done | exact H
        clear H
        have H := H1
        clear H1
        replace H := Option.bind_eq_some_iff.mp H
        obtain ⟨t136, A130, H⟩ := H
        replace H : (spec_l16Loans.j1 k1 x20_1 l0_2 (l0_2.length : Int) x20_1 (!t136) l0_0 l0_1 l0_2 l0_3 ((rd_T155 l0_2 x20_1).f0) ((rd_T155 l0_2 x20_1).f1) ((rd_T155 l0_2 x20_1).f2) ((rd_T155 l0_2 x20_1).f3)) = some r := H
        have A13 := Aside0.mk A130
        clear A130
        have H' := Aside0.mk H
        clear H
        have hnb14 := NB134_132.out
        have hnc14 := NB132_134.out
        obtain ⟨_, _, _, _, _, _, _, _⟩ := zc4_ BK134.out
        obtain ⟨_, _, _, _, _, _, _, _⟩ := zc4_ BK132.out
        go_wp2_with (first | ((with_reducible refine gate_callee (f := 72) rfl ?_); refine goesL_ (some 31) rfl rfl Try.func72 (by kernel_rfl) rfl #[.int .i64 ((rd_T155 l0_2 x20_1).f0), .int .i64 0, .int .i64 (wrap64 ((l0_1.length : Int) - 1))] rfl (by (try simp only [List.map_toArray, List.map_cons, List.map_nil]); first | done | rfl | (simp only [List.length_drop, List.length_take]; rfl)) ?_; (with_reducible refine (spec_l1In.calls ((rd_T155 l0_2 x20_1).f0) 0 (wrap64 ((l0_1.length : Int) - 1)) true _ A11.out).mono ?_); rintro e w' ⟨rfl, ⟨nd, rfl⟩⟩; refine ⟨_, rfl, ?_⟩) | (go_at_call 72; (with_reducible refine (spec_l1In.calls ((rd_T155 l0_2 x20_1).f2) 0 (wrap64 ((l0_1.length : Int) - 1)) t136 _ A13.out).mono ?_); rintro e w' ⟨rfl, ⟨nd, rfl⟩⟩))
        go_meet
        case rel => exact ⟨_, (!t136), (by first | rfl | (simp; done) | (simp [*]; done)), H', ⟨by have := HK1.out; first | omega | exact Nat.le_refl _⟩, ⟨by (with_reducible repeat first | apply bN | apply bD | apply bA); refine blk_far ?_ NB132_134.out _; (with_reducible repeat first | apply bN | apply bD | apply bA); refine blk_far ?_ NB132_134.out _; (with_reducible repeat first | apply bN | apply bD | apply bA); refine blk_far ?_ NB132_134.out _; (with_reducible repeat first | apply bN | apply bD | apply bA); refine blk_far ?_ NB132_134.out _; (with_reducible repeat first | apply bN | apply bD | apply bA); exact BK132.out⟩, ⟨by (with_reducible repeat first | apply bN | apply bD | apply bA); refine blk_put (cs := #[.int .i64 ((rd_T155 l0_2 x20_1).f0), .int .i64 ((rd_T155 l0_2 x20_1).f1), .int .i64 ((rd_T155 l0_2 x20_1).f2), .int .i64 0]) ?_ 3 _ rfl; (with_reducible repeat first | apply bN | apply bD | apply bA); refine blk_put (cs := #[.int .i64 ((rd_T155 l0_2 x20_1).f0), .int .i64 ((rd_T155 l0_2 x20_1).f1), .int .i64 0, .int .i64 0]) ?_ 2 _ rfl; (with_reducible repeat first | apply bN | apply bD | apply bA); refine blk_put (cs := #[.int .i64 ((rd_T155 l0_2 x20_1).f0), .int .i64 0, .int .i64 0, .int .i64 0]) ?_ 1 _ rfl; (with_reducible repeat first | apply bN | apply bD | apply bA); refine blk_put (cs := #[.int .i64 0, .int .i64 0, .int .i64 0, .int .i64 0]) ?_ 0 _ rfl; (with_reducible repeat first | apply bN | apply bD | apply bA); exact BK134.out⟩, ⟨by repeat (first | (with_reducible first | exact HB.out | apply eA | apply eN | apply eD | refine below_set ?_ GE132.out | refine below_set ?_ GE134.out) | exact HB.out)⟩⟩
       ·replace c12 := Bool.eq_false_iff.mpr c12
        subst c12
        have H1 : (spec_l16Loans.j1 k1 x20_1 l0_2 (l0_2.length : Int) x20_1 true l0_0 l0_1 l0_2 l0_3 ((rd_T155 l0_2 x20_1).f0) ((rd_T155 l0_2 x20_1).f1) ((rd_T155 l0_2 x20_1).f2) ((rd_T155 l0_2 x20_1).f3)) = some r := by rw [if_neg (show ¬ (false = true) by decide)] at H; first | done | exact H
        clear H
        have H := H1
        clear H1
        have H' := Aside0.mk H
        clear H
        have hnb17 := NB134_132.out
        have hnc17 := NB132_134.out
        obtain ⟨_, _, _, _, _, _, _, _⟩ := zc4_ BK134.out
        obtain ⟨_, _, _, _, _, _, _, _⟩ := zc4_ BK132.out
        go_wp2_with (first | ((with_reducible refine gate_callee (f := 72) rfl ?_); refine goesL_ (some 31) rfl rfl Try.func72 (by kernel_rfl) rfl #[.int .i64 ((rd_T155 l0_2 x20_1).f0), .int .i64 0, .int .i64 (wrap64 ((l0_1.length : Int) - 1))] rfl (by (try simp only [List.map_toArray, List.map_cons, List.map_nil]); first | done | rfl | (simp only [List.length_drop, List.length_take]; rfl)) ?_; (with_reducible refine (spec_l1In.calls ((rd_T155 l0_2 x20_1).f0) 0 (wrap64 ((l0_1.length : Int) - 1)) false _ A11.out).mono ?_); rintro e w' ⟨rfl, ⟨nd, rfl⟩⟩; refine ⟨_, rfl, ?_⟩))
        go_meet
        case rel => exact ⟨_, (true), (by first | rfl | (simp; done) | (simp [*]; done)), H', ⟨by have := HK1.out; first | omega | exact Nat.le_refl _⟩, ⟨by (with_reducible repeat first | apply bN | apply bD | apply bA); refine blk_far ?_ NB132_134.out _; (with_reducible repeat first | apply bN | apply bD | apply bA); refine blk_far ?_ NB132_134.out _; (with_reducible repeat first | apply bN | apply bD | apply bA); refine blk_far ?_ NB132_134.out _; (with_reducible repeat first | apply bN | apply bD | apply bA); refine blk_far ?_ NB132_134.out _; (with_reducible repeat first | apply bN | apply bD | apply bA); exact BK132.out⟩, ⟨by (with_reducible repeat first | apply bN | apply bD | apply bA); refine blk_put (cs := #[.int .i64 ((rd_T155 l0_2 x20_1).f0), .int .i64 ((rd_T155 l0_2 x20_1).f1), .int .i64 ((rd_T155 l0_2 x20_1).f2), .int .i64 0]) ?_ 3 _ rfl; (with_reducible repeat first | apply bN | apply bD | apply bA); refine blk_put (cs := #[.int .i64 ((rd_T155 l0_2 x20_1).f0), .int .i64 ((rd_T155 l0_2 x20_1).f1), .int .i64 0, .int .i64 0]) ?_ 2 _ rfl; (with_reducible repeat first | apply bN | apply bD | apply bA); refine blk_put (cs := #[.int .i64 ((rd_T155 l0_2 x20_1).f0), .int .i64 0, .int .i64 0, .int .i64 0]) ?_ 1 _ rfl; (with_reducible repeat first | apply bN | apply bD | apply bA); refine blk_put (cs := #[.int .i64 0, .int .i64 0, .int .i64 0, .int .i64 0]) ?_ 0 _ rfl; (with_reducible repeat first | apply bN | apply bD | apply bA); exact BK134.out⟩, ⟨by repeat (first | (with_reducible first | exact HB.out | apply eA | apply eN | apply eD | refine below_set ?_ GE132.out | refine below_set ?_ GE134.out) | exact HB.out)⟩⟩
      case rest =>
       clear HC7
       try clear c1
       try clear p1
       try clear q1
       try clear hx1
       try clear p2
       try clear c4
       try clear c4b0
       try clear c5
       try clear c5b0
       try clear c6
       try clear c6b0
       try clear p6
       try clear c7
       try clear c9
       try clear c12
       try clear p13
       try clear q13
       try clear hx13
       try clear c14
       try clear c17
       try clear hx133_0
       try clear hx133_1
       try clear hx133_2
       try clear hx133_3
       try clear p133
       try clear p2
       try clear q133
       obtain ⟨kq, x42_6, rfl, HA, HJ6, BK132, BK134, HB⟩ := hcut
       cases kq with
       | zero => exact absurd HA.out (by simp [spec_l16Loans.j1])
       | succ kj6 =>
        have H := HA.out
        clear HA
        simp only [spec_l16Loans.j1] at H
        by_cases c20 : x42_6 = true
        ·subst c20
         have H1 : (some false) = some r := by rw [if_pos rfl] at H; first | done | exact H
         clear H
         have H := H1
         clear H1
         obtain rfl := Option.some.inj H
         go_wp2
         go_ret
         exact ⟨by first | rfl | (simp [errW_none, errW_some] <;> rfl) | (simp [*, errW_none, errW_some] <;> rfl), by repeat (first | (with_reducible first | exact HB.out | apply eA | apply eN | apply eD | refine below_set ?_ GE132.out | refine below_set ?_ GE134.out) | exact HB.out)⟩
        ·replace c20 := Bool.eq_false_iff.mpr c20
         subst c20
         have H1 : (if 0 ≤ ((rd_T155 l0_2 x20_1).f0) then (if ((rd_T155 l0_2 x20_1).f0) < (l0_1.length : Int) then ((spec_l16Used.f ((rd_T78 l0_1 ((rd_T155 l0_2 x20_1).f0)).f0) ((rd_T78 l0_1 ((rd_T155 l0_2 x20_1).f0)).f1) ((rd_T155 l0_2 x20_1).f1)).bind fun bt138 => (if 0 ≤ ((rd_T155 l0_2 x20_1).f2) then (if ((rd_T155 l0_2 x20_1).f2) < (l0_1.length : Int) then ((spec_l16Used.f ((rd_T78 l0_1 ((rd_T155 l0_2 x20_1).f2)).f0) ((rd_T78 l0_1 ((rd_T155 l0_2 x20_1).f2)).f1) ((rd_T155 l0_2 x20_1).f3)).bind fun bt147 => (if bt138.2.2.2.2.2.2 = true then (if bt147.2.2.2.2.2.2 = true then (if bt138.2.2.2.1 = true then (if bt147.2.2.2.1 = true then (some false) else (if bt138.2.1 = bt147.2.1 then (if bt138.2.2.1 = bt147.2.2.1 then (if bt147.2.2.2.2.2.1 = (wrap64 (x20_1 + 1)) then (spec_l16Loans.l0 kj6 l0_2 (l0_2.length : Int) (wrap64 (x20_1 + 1)) l0_0 l0_1 l0_2 l0_3) else (some false)) else (some false)) else (some false))) else (some false)) else (some false)) else (some false))) else (none)) else (none))) else (none)) else (none)) = some r := by rw [if_neg (show ¬ (false = true) by decide)] at H; first | done | exact H
         clear H
         have H := H1
         clear H1
         by_cases c21 : 0 ≤ ((rd_T155 l0_2 x20_1).f0)
         ·rw [if_pos c21] at H
          have c21b0 : decide (0 ≤ ((rd_T155 l0_2 x20_1).f0)) = true := decide_eq_true c21
          clear c21
          by_cases c22 : ((rd_T155 l0_2 x20_1).f0) < (l0_1.length : Int)
          ·rw [if_pos c22] at H
           have c22b0 : decide (((rd_T155 l0_2 x20_1).f0) < (l0_1.length : Int)) = true := decide_eq_true c22
           clear c22
           replace H := Option.bind_eq_some_iff.mp H
           obtain ⟨⟨t138, t139, t140, t141, t142, t143, t144⟩, A230, H⟩ := H
           replace H : (if 0 ≤ ((rd_T155 l0_2 x20_1).f2) then (if ((rd_T155 l0_2 x20_1).f2) < (l0_1.length : Int) then ((spec_l16Used.f ((rd_T78 l0_1 ((rd_T155 l0_2 x20_1).f2)).f0) ((rd_T78 l0_1 ((rd_T155 l0_2 x20_1).f2)).f1) ((rd_T155 l0_2 x20_1).f3)).bind fun bt147 => (if t144 = true then (if bt147.2.2.2.2.2.2 = true then (if t141 = true then (if bt147.2.2.2.1 = true then (some false) else (if t139 = bt147.2.1 then (if t140 = bt147.2.2.1 then (if bt147.2.2.2.2.2.1 = (wrap64 (x20_1 + 1)) then (spec_l16Loans.l0 kj6 l0_2 (l0_2.length : Int) (wrap64 (x20_1 + 1)) l0_0 l0_1 l0_2 l0_3) else (some false)) else (some false)) else (some false))) else (some false)) else (some false)) else (some false))) else (none)) else (none)) = some r := H
           have A23 := Aside0.mk A230
           clear A230
           by_cases c24 : 0 ≤ ((rd_T155 l0_2 x20_1).f2)
           ·rw [if_pos c24] at H
            have c24b0 : decide (0 ≤ ((rd_T155 l0_2 x20_1).f2)) = true := decide_eq_true c24
            clear c24
            by_cases c25 : ((rd_T155 l0_2 x20_1).f2) < (l0_1.length : Int)
            ·rw [if_pos c25] at H
             have c25b0 : decide (((rd_T155 l0_2 x20_1).f2) < (l0_1.length : Int)) = true := decide_eq_true c25
             clear c25
             replace H := Option.bind_eq_some_iff.mp H
             obtain ⟨⟨t147, t148, t149, t150, t151, t152, t153⟩, A260, H⟩ := H
             replace H : (if t144 = true then (if t153 = true then (if t141 = true then (if t150 = true then (some false) else (if t139 = t148 then (if t140 = t149 then (if t152 = (wrap64 (x20_1 + 1)) then (spec_l16Loans.l0 kj6 l0_2 (l0_2.length : Int) (wrap64 (x20_1 + 1)) l0_0 l0_1 l0_2 l0_3) else (some false)) else (some false)) else (some false))) else (some false)) else (some false)) else (some false)) = some r := H
             have A26 := Aside0.mk A260
             clear A260
             have HCx := Aside0.mk H
             clear H
             try go_wp2
             have n0_ := Aside0.mk (blk_drew BK132.out)
             have n1_ := Aside0.mk (blk_drew BK134.out)
             have n2_ := Aside0.mk (below_drew1 HB.out)
             clear BK132 BK134 HB
             have BK132 := n0_
             have BK134 := n1_
             have HB := n2_
             clear n0_ n1_ n2_
             have p137 : 0 ≤ (((rd_T155 l0_2 x20_1).f0) : Int) := of_decide_eq_true (by first | (with_reducible assumption) | assumption)
             have q137 : ((rd_T155 l0_2 x20_1).f0) < (l0_1.length : Int) := of_decide_eq_true (by first | (with_reducible assumption) | assumption)
             obtain ⟨ad137, A137_0, c137_0, A137_1, c137_1, e137, hx137_0, hx137_1, hl137_0, hi137_0, hl137_1, hi137_1⟩ := at_T78 HR0_1.out ((rd_T155 l0_2 x20_1).f0) p137 q137
             have hw137_1 := hx137_1
             have hw137_0 := hx137_0
             cases e137
             replace hx137_0 := (HB.out.cell (World.block_lt_of_cell? w _ hx137_0)).trans hx137_0
             replace hx137_1 := (HB.out.cell (World.block_lt_of_cell? w _ hx137_1)).trans hx137_1
             have HR137_0 := Aside0.mk hi137_0
             have HC137_0 := Aside0.mk hl137_0
             clear hi137_0 hl137_0
             have HR137_1 := Aside0.mk hi137_1
             have HC137_1 := Aside0.mk hl137_1
             clear hi137_1 hl137_1
             replace p137 := eq_true p137
             replace q137 := eq_true q137
             refine start_ (n := 15) (S := fun w' => w'.cell? ⟨gb132, 0, none⟩ = some (.slice A0_0 l0_0.length c0_0) ∧ w'.cell? ⟨gb132, 1, none⟩ = some (.slice (some ad137) l0_1.length c0_1) ∧ w'.cell? ⟨gb132, 2, none⟩ = some (.slice (some ad133) l0_2.length c0_2) ∧ w'.cell? ⟨gb132, 3, none⟩ = some (.slice A0_3 l0_3.length c0_3) ∧ w'.cell? ⟨gb134, 0, none⟩ = some (.int .i64 ((rd_T155 l0_2 x20_1).f0)) ∧ w'.cell? ⟨gb134, 1, none⟩ = some (.int .i64 ((rd_T155 l0_2 x20_1).f1)) ∧ w'.cell? ⟨gb134, 2, none⟩ = some (.int .i64 ((rd_T155 l0_2 x20_1).f2)) ∧ w'.cell? ⟨gb134, 3, none⟩ = some (.int .i64 ((rd_T155 l0_2 x20_1).f3)) ∧ w'.cell? (ad137.add ((((rd_T155 l0_2 x20_1).f0)).toNat * 2)) = some (.slice A137_0 ((rd_T78 l0_1 ((rd_T155 l0_2 x20_1).f0)).f0).length c137_0) ∧ w'.cell? ⟨(ad137.add ((((rd_T155 l0_2 x20_1).f0)).toNat * 2)).block, (ad137.add ((((rd_T155 l0_2 x20_1).f0)).toNat * 2)).off + 1, none⟩ = some (.slice A137_1 ((rd_T78 l0_1 ((rd_T155 l0_2 x20_1).f0)).f1).length c137_1)) (ds := []) #[false, false, false, false, false, false, false, false, false, false, false, false, false, false, false] (by kernel_rfl) rfl rfl ⟨(blk_cell BK132.out 0).trans rfl, (blk_cell BK132.out 1).trans rfl, (blk_cell BK132.out 2).trans rfl, (blk_cell BK132.out 3).trans rfl, (blk_cell BK134.out 0).trans rfl, (blk_cell BK134.out 1).trans rfl, (blk_cell BK134.out 2).trans rfl, (blk_cell BK134.out 3).trans rfl, ((HB.out.cell (World.block_lt_of_cell? w _ hw137_0)).trans hw137_0), ((HB.out.cell (World.block_lt_of_cell? w _ hw137_1)).trans hw137_1)⟩ (fun hHeld => ?_); refine with_tabW spec_l16Loans.tab6 spec_l16Loans.bits6 (fun HT_ HW_ => ?_)
             generalize wc.drew = w220 at BK132 BK134 HB HR137_0 HR137_1 hx137_0 hx137_1 hHeld ⊢
             refine pure_ (i := 0) (N := some 44) (v := ?_) (a' := ?_) #[true, false, false, false, false, false, false, false, false, false, false, false, false, false, false] rfl rfl (any_of HT_.out (by kernel_rfl)) (fun _ _ _ h => h) (Or.inl ⟨by rfl, ?_⟩) ?_ ?_
             rotate_left
             ·intro w'
              go_simp
              with_reducible rfl
             rotate_left
             ·simp only [Act.put, List.setIfInBounds_toArray, List.set_cons_zero, List.set_cons_succ, i64_w, i32_w]
              rfl
             refine pure_ (i := 2) (N := some 46) (v := ?_) (a' := ?_) #[true, false, true, false, false, false, false, false, false, false, false, false, false, false, false] rfl rfl (any_of HT_.out (by kernel_rfl)) (fun _ _ _ h => h) (Or.inl ⟨by rfl, ?_⟩) ?_ ?_
             rotate_left
             ·intro w'
              go_simp
              with_reducible rfl
             rotate_left
             ·simp only [Act.put, List.setIfInBounds_toArray, List.set_cons_zero, List.set_cons_succ, i64_w, i32_w]
              rfl
             refine pure_ (i := 6) (N := some 50) (v := ?_) (a' := ?_) #[true, false, true, false, false, false, true, false, false, false, false, false, false, false, false] rfl rfl (any_of HT_.out (by kernel_rfl)) (fun _ _ _ h => h) (Or.inl ⟨by rfl, ?_⟩) ?_ ?_
             rotate_left
             ·intro w'
              go_simp
              with_reducible rfl
             rotate_left
             ·simp only [Act.put, List.setIfInBounds_toArray, List.set_cons_zero, List.set_cons_succ, i64_w, i32_w]
              rfl
             refine take_ (i := 1) (N := some 45) (v := ?_) (a' := ?_) #[true, true, true, false, false, false, true, false, false, false, false, false, false, false, false] rfl rfl (take_ofW HT_.out HW_.out (by kernel_rfl)) (fun _ _ _ h => h) (Or.inl ⟨by rfl, ?_⟩) hHeld ?_ ?_
             rotate_left
             ·rintro w' ⟨s0, s1, s2, s3, s4, s5, s6, s7, s8, s9⟩
              go_simp
              with_reducible rfl
             rotate_left
             ·simp only [Act.put, List.setIfInBounds_toArray, List.set_cons_zero, List.set_cons_succ, i64_w, i32_w]
              rfl
             refine take_ (i := 3) (N := some 47) (v := ?_) (a' := ?_) #[true, true, true, true, false, false, true, false, false, false, false, false, false, false, false] rfl rfl (take_ofW HT_.out HW_.out (by kernel_rfl)) (fun _ _ _ h => h) (Or.inl ⟨by rfl, ?_⟩) hHeld ?_ ?_
             rotate_left
             ·rintro w' ⟨s0, s1, s2, s3, s4, s5, s6, s7, s8, s9⟩
              go_simp
              with_reducible rfl
             rotate_left
             ·simp only [Act.put, List.setIfInBounds_toArray, List.set_cons_zero, List.set_cons_succ, i64_w, i32_w]
              rfl
             refine pure_ (i := 4) (N := some 48) (v := ?_) (a' := ?_) #[true, true, true, true, true, false, true, false, false, false, false, false, false, false, false] rfl rfl (any_of HT_.out (by kernel_rfl)) (fun _ _ _ h => h) (Or.inl ⟨by rfl, ?_⟩) ?_ ?_
             rotate_left
             ·intro w'
              go_simp
              with_reducible rfl
             rotate_left
             ·simp only [Act.put, List.setIfInBounds_toArray, List.set_cons_zero, List.set_cons_succ, i64_w, i32_w]
              rfl
             refine take_ (i := 5) (N := some 49) (v := ?_) (a' := ?_) #[true, true, true, true, true, true, true, false, false, false, false, false, false, false, false] rfl rfl (take_ofW HT_.out HW_.out (by kernel_rfl)) (fun _ _ _ h => h) (Or.inl ⟨by rfl, ?_⟩) hHeld ?_ ?_
             rotate_left
             ·rintro w' ⟨s0, s1, s2, s3, s4, s5, s6, s7, s8, s9⟩
              go_simp
              with_reducible rfl
             rotate_left
             ·simp only [Act.put, List.setIfInBounds_toArray, List.set_cons_zero, List.set_cons_succ, i64_w, i32_w]
              rfl
             refine take_ (i := 7) (N := some 51) (v := ?_) (a' := ?_) #[true, true, true, true, true, true, true, true, false, false, false, false, false, false, false] rfl rfl (take_ofW HT_.out HW_.out (by kernel_rfl)) (fun _ _ _ h => h) (Or.inl ⟨by rfl, ?_⟩) hHeld ?_ ?_
             rotate_left
             ·rintro w' ⟨s0, s1, s2, s3, s4, s5, s6, s7, s8, s9⟩
              go_simp
              with_reducible rfl
             rotate_left
             ·simp only [Act.put, List.setIfInBounds_toArray, List.set_cons_zero, List.set_cons_succ, i64_w, i32_w]
              rfl
             refine join_ (σ := Nat) 2 #[true, true, true, true, true, true, true, true, true, true, true, true, true, false, false] (fun s_ => [(52, .tuple #[.agg #[.bool t138, .int .i64 t139, .int .i64 t140, .bool t141, .int .i64 t142, .int .i64 t143], .bool t144]), (5, .pointer (some ⟨s_, 0, none⟩)), (43, .tuple #[.agg #[.bool t138, .int .i64 t139, .int .i64 t140, .bool t141, .int .i64 t142, .int .i64 t143], .bool t144]), (53, .agg #[.bool t138, .int .i64 t139, .int .i64 t140, .bool t141, .int .i64 t142, .int .i64 t143]), (54, .bool t144)]) (fun s_ w' => (w'.cell? ⟨gb132, 0, none⟩ = some (.slice A0_0 l0_0.length c0_0) ∧ w'.cell? ⟨gb132, 1, none⟩ = some (.slice (some ad137) l0_1.length c0_1) ∧ w'.cell? ⟨gb132, 2, none⟩ = some (.slice (some ad133) l0_2.length c0_2) ∧ w'.cell? ⟨gb132, 3, none⟩ = some (.slice A0_3 l0_3.length c0_3) ∧ w'.cell? ⟨gb134, 0, none⟩ = some (.int .i64 ((rd_T155 l0_2 x20_1).f0)) ∧ w'.cell? ⟨gb134, 1, none⟩ = some (.int .i64 ((rd_T155 l0_2 x20_1).f1)) ∧ w'.cell? ⟨gb134, 2, none⟩ = some (.int .i64 ((rd_T155 l0_2 x20_1).f2)) ∧ w'.cell? ⟨gb134, 3, none⟩ = some (.int .i64 ((rd_T155 l0_2 x20_1).f3)) ∧ w'.cell? (ad137.add ((((rd_T155 l0_2 x20_1).f0)).toNat * 2)) = some (.slice A137_0 ((rd_T78 l0_1 ((rd_T155 l0_2 x20_1).f0)).f0).length c137_0) ∧ w'.cell? ⟨(ad137.add ((((rd_T155 l0_2 x20_1).f0)).toNat * 2)).block, (ad137.add ((((rd_T155 l0_2 x20_1).f0)).toNat * 2)).off + 1, none⟩ = some (.slice A137_1 ((rd_T78 l0_1 ((rd_T155 l0_2 x20_1).f0)).f1).length c137_1)) ∧ (w'.heap[gb132]? = some (.cells #[.slice A0_0 l0_0.length c0_0, .slice (some ad137) l0_1.length c0_1, .slice (some ad133) l0_2.length c0_2, .slice A0_3 l0_3.length c0_3] 45 (0, 0))) ∧ (w'.heap[gb134]? = some (.cells #[.int .i64 ((rd_T155 l0_2 x20_1).f0), .int .i64 ((rd_T155 l0_2 x20_1).f1), .int .i64 ((rd_T155 l0_2 x20_1).f2), .int .i64 ((rd_T155 l0_2 x20_1).f3)] 155 (0, 0))) ∧ (w'.heap[s_]? = some (.cells #[.bool false, .int .i64 0, .int .i64 0, .bool false, .int .i64 0, .int .i64 0] 75 (0, 0))) ∧ (w.heap.size ≤ s_) ∧ (w.heap.size ≤ s_) ∧ (gb132 ≠ s_) ∧ (s_ ≠ gb132) ∧ (gb134 ≠ s_) ∧ (s_ ≠ gb134) ∧ (Below w.heap.size w w')) ?_ ?_
             rotate_left
             ·intro hCont
              refine two_ (i := 8) (j := 12) (Ni := some 52) (Nj := some 5) #[true, true, true, true, true, true, true, true, true, false, false, false, false, false, false] #[true, true, true, true, true, true, true, true, false, false, false, false, true, false, false] rfl rfl rfl rfl (two_of HT_.out (by kernel_rfl)) (by decide) (by decide) (fun K hK => ?_) (fun K hK => ?_)
              ·skip
               refine goes_ Try.func125 (by kernel_rfl) rfl #[.agg #[.slice A137_0 ((rd_T78 l0_1 ((rd_T155 l0_2 x20_1).f0)).f0).length c137_0, .slice A137_1 ((rd_T78 l0_1 ((rd_T155 l0_2 x20_1).f0)).f1).length c137_1], .int .i64 ((rd_T155 l0_2 x20_1).f1)] (by rfl) rfl rfl (by (try simp only [List.map_toArray, List.map_cons, List.map_nil]); first | done | rfl | (simp only [List.length_drop, List.length_take]; rfl)) ?_
               with_reducible refine (spec_l16Used.calls _ _ ((rd_T78 l0_1 ((rd_T155 l0_2 x20_1).f0)).f0) _ _ ((rd_T78 l0_1 ((rd_T155 l0_2 x20_1).f0)).f1) ((rd_T155 l0_2 x20_1).f1) t138 t139 t140 t141 t142 t143 t144 _ ?side1 ?side2 ?side3 ?side4 A23.out).mono ?_
               (case side1 => repeat (first | exact (Kd.C_below HR137_0.out HB.out) | (with_reducible refine Kd.C_alloc ?_ _) | (with_reducible refine Kd.C_drewN ?_ _) | (with_reducible refine Kd.C_drew ?_)))
               (case side2 => exact HC137_0.out)
               (case side3 => repeat (first | exact (Kd.C_below HR137_1.out HB.out) | (with_reducible refine Kd.C_alloc ?_ _) | (with_reducible refine Kd.C_drewN ?_ _) | (with_reducible refine Kd.C_drew ?_)))
               (case side4 => exact HC137_1.out)
               rintro e w221 ⟨rfl, hb⟩
               refine ⟨_, rfl, ?_⟩
               have n0_ := Aside0.mk (blk_below (bk_ BK132.out) hb)
               have n1_ := Aside0.mk (blk_below (bk_ BK134.out) hb)
               have n2_ := Aside0.mk (below_step (by repeat (first | (with_reducible first | exact HB.out | apply eA | apply eN | apply eD | refine below_set ?_ GE132.out | refine below_set ?_ GE134.out) | exact HB.out)) hb)
               clear BK132 BK134 HB
               have BK132 := n0_
               have BK134 := n1_
               have HB := n2_
               clear n0_ n1_ n2_
               (try clear hb)
               (try clear hb2)
               (try clear hk)
               (try clear hi)
               refine hK.out _ _ ⟨(blk_cell BK132.out 0).trans rfl, (blk_cell BK132.out 1).trans rfl, (blk_cell BK132.out 2).trans rfl, (blk_cell BK132.out 3).trans rfl, (blk_cell BK134.out 0).trans rfl, (blk_cell BK134.out 1).trans rfl, (blk_cell BK134.out 2).trans rfl, (blk_cell BK134.out 3).trans rfl, ((HB.out.cell (World.block_lt_of_cell? w _ hw137_0)).trans hw137_0), ((HB.out.cell (World.block_lt_of_cell? w _ hw137_1)).trans hw137_1)⟩ (fun hHeld => ?_)
               clear hK K
               refine norm_ (a' := ?_) ?_ ?_
               rotate_left
               ·show Act.put _ (some 52) _ = _
                simp only [Act.put, List.setIfInBounds_toArray, List.set_cons_zero, List.set_cons_succ, i64_w, i32_w]
                rfl
               refine pure_ (i := 9) (N := some 43) (v := ?_) (a' := ?_) #[true, true, true, true, true, true, true, true, true, true, false, false, false, false, false] rfl rfl (any_of HT_.out (by kernel_rfl)) (fun _ _ _ h => h) (Or.inl ⟨by rfl, ?_⟩) ?_ ?_
               rotate_left
               ·intro w'
                go_simp
                with_reducible rfl
               rotate_left
               ·simp only [Act.put, List.setIfInBounds_toArray, List.set_cons_zero, List.set_cons_succ, i64_w, i32_w]
                rfl
               refine pure_ (i := 10) (N := some 53) (v := ?_) (a' := ?_) #[true, true, true, true, true, true, true, true, true, true, true, false, false, false, false] rfl rfl (any_of HT_.out (by kernel_rfl)) (fun _ _ _ h => h) (Or.inl ⟨by rfl, ?_⟩) ?_ ?_
               rotate_left
               ·intro w'
                go_simp
                with_reducible rfl
               rotate_left
               ·simp only [Act.put, List.setIfInBounds_toArray, List.set_cons_zero, List.set_cons_succ, i64_w, i32_w]
                rfl
               refine pure_ (i := 11) (N := some 54) (v := ?_) (a' := ?_) #[true, true, true, true, true, true, true, true, true, true, true, true, false, false, false] rfl rfl (any_of HT_.out (by kernel_rfl)) (fun _ _ _ h => h) (Or.inl ⟨by rfl, ?_⟩) ?_ ?_
               rotate_left
               ·intro w'
                go_simp
                with_reducible rfl
               rotate_left
               ·simp only [Act.put, List.setIfInBounds_toArray, List.set_cons_zero, List.set_cons_succ, i64_w, i32_w]
                rfl
               refine one_ (i := 12) (N := some 5) #[true, true, true, true, true, true, true, true, true, true, true, true, true, false, false] rfl rfl (one_of HT_.out (by kernel_rfl)) (by decide) (fun K hK => ?_)
               refine box_step ?hg (N := 5) ?hd (cs := #[.bool false, .int .i64 0, .int .i64 0, .bool false, .int .i64 0, .int .i64 0]) (t := 75) ?hr ?_; (case hd => rfl); (case hg => rfl); (case hr => first | (go_simp; done) | (go_simp; rfl))
               intro gb145 hg w222 hbox hb
               have n0_ := Aside0.mk (blk_below (bk_ BK132.out) hb)
               have n1_ := Aside0.mk (blk_below (bk_ BK134.out) hb)
               have n2_ := Aside0.mk (below_step (by repeat (first | (with_reducible first | exact HB.out | apply eA | apply eN | apply eD | refine below_set ?_ GE132.out | refine below_set ?_ GE134.out) | exact HB.out)) hb)
               have n3_ := Aside0.mk (hbox)
               have n4_ := Aside0.mk (gs_ hg (by repeat (first | (with_reducible first | exact HB.out | apply eA | apply eN | apply eD | refine below_set ?_ GE132.out | refine below_set ?_ GE134.out) | exact HB.out)) : w.heap.size ≤ gb145)
               have n5_ := Aside0.mk (gs_ hg (by repeat (first | (with_reducible first | exact HB.out | apply eA | apply eN | apply eD | refine below_set ?_ GE132.out | refine below_set ?_ GE134.out) | exact HB.out)) : w.heap.size ≤ gb145)
               have n6_ := Aside0.mk ((by rw [hg]; exact Nat.ne_of_lt (blk_lt (g := gb132) (o := .cells #[.slice A0_0 l0_0.length c0_0, .slice (some ad137) l0_1.length c0_1, .slice (some ad133) l0_2.length c0_2, .slice A0_3 l0_3.length c0_3] 45 (0, 0)) (bk_ BK132.out)) : gb132 ≠ gb145))
               have n7_ := Aside0.mk ((by rw [hg]; exact Nat.ne_of_gt (blk_lt (g := gb132) (o := .cells #[.slice A0_0 l0_0.length c0_0, .slice (some ad137) l0_1.length c0_1, .slice (some ad133) l0_2.length c0_2, .slice A0_3 l0_3.length c0_3] 45 (0, 0)) (bk_ BK132.out)) : gb145 ≠ gb132))
               have n8_ := Aside0.mk ((by rw [hg]; exact Nat.ne_of_lt (blk_lt (g := gb134) (o := .cells #[.int .i64 ((rd_T155 l0_2 x20_1).f0), .int .i64 ((rd_T155 l0_2 x20_1).f1), .int .i64 ((rd_T155 l0_2 x20_1).f2), .int .i64 ((rd_T155 l0_2 x20_1).f3)] 155 (0, 0)) (bk_ BK134.out)) : gb134 ≠ gb145))
               have n9_ := Aside0.mk ((by rw [hg]; exact Nat.ne_of_gt (blk_lt (g := gb134) (o := .cells #[.int .i64 ((rd_T155 l0_2 x20_1).f0), .int .i64 ((rd_T155 l0_2 x20_1).f1), .int .i64 ((rd_T155 l0_2 x20_1).f2), .int .i64 ((rd_T155 l0_2 x20_1).f3)] 155 (0, 0)) (bk_ BK134.out)) : gb145 ≠ gb134))
               clear BK132 BK134 HB
               have BK132 := n0_
               have BK134 := n1_
               have HB := n2_
               have BK145 := n3_
               have GW145 := n4_
               have GE145 := n5_
               have NB132_145 := n6_
               have NB145_132 := n7_
               have NB134_145 := n8_
               have NB145_134 := n9_
               clear n0_ n1_ n2_ n3_ n4_ n5_ n6_ n7_ n8_ n9_ hb hbox hg
               refine hK.out _ _ ⟨(blk_cell BK132.out 0).trans rfl, (blk_cell BK132.out 1).trans rfl, (blk_cell BK132.out 2).trans rfl, (blk_cell BK132.out 3).trans rfl, (blk_cell BK134.out 0).trans rfl, (blk_cell BK134.out 1).trans rfl, (blk_cell BK134.out 2).trans rfl, (blk_cell BK134.out 3).trans rfl, ((HB.out.cell (World.block_lt_of_cell? w _ hw137_0)).trans hw137_0), ((HB.out.cell (World.block_lt_of_cell? w _ hw137_1)).trans hw137_1)⟩ (fun hHeld => ?_)
               clear hK K
               refine norm_ (a' := ?_) ?_ ?_
               rotate_left
               ·show Act.put _ (some 5) _ = _
                simp only [Act.put, List.setIfInBounds_toArray, List.set_cons_zero, List.set_cons_succ, i64_w, i32_w]
                rfl
               exact norm_ (by simp only [putAll, Act.put, List.setIfInBounds_toArray, List.set_cons_zero, List.set_cons_succ]) (hCont (gb145) _ ⟨hHeld, (bk_ BK132.out), (bk_ BK134.out), (bk_ BK145.out), GW145.out, GE145.out, NB132_145.out, NB145_132.out, NB134_145.out, NB145_134.out, (by repeat (first | (with_reducible first | exact HB.out | apply eA | apply eN | apply eD | refine below_set ?_ GE132.out | refine below_set ?_ GE134.out | refine below_set ?_ GE145.out) | exact HB.out))⟩)
              ·skip
               refine box_step ?hg (N := 5) ?hd (cs := #[.bool false, .int .i64 0, .int .i64 0, .bool false, .int .i64 0, .int .i64 0]) (t := 75) ?hr ?_; (case hd => rfl); (case hg => rfl); (case hr => first | (go_simp; done) | (go_simp; rfl))
               intro gb145 hg w221 hbox hb
               have n0_ := Aside0.mk (blk_below (bk_ BK132.out) hb)
               have n1_ := Aside0.mk (blk_below (bk_ BK134.out) hb)
               have n2_ := Aside0.mk (below_step (by repeat (first | (with_reducible first | exact HB.out | apply eA | apply eN | apply eD | refine below_set ?_ GE132.out | refine below_set ?_ GE134.out) | exact HB.out)) hb)
               have n3_ := Aside0.mk (hbox)
               have n4_ := Aside0.mk (gs_ hg (by repeat (first | (with_reducible first | exact HB.out | apply eA | apply eN | apply eD | refine below_set ?_ GE132.out | refine below_set ?_ GE134.out) | exact HB.out)) : w.heap.size ≤ gb145)
               have n5_ := Aside0.mk (gs_ hg (by repeat (first | (with_reducible first | exact HB.out | apply eA | apply eN | apply eD | refine below_set ?_ GE132.out | refine below_set ?_ GE134.out) | exact HB.out)) : w.heap.size ≤ gb145)
               have n6_ := Aside0.mk ((by rw [hg]; exact Nat.ne_of_lt (blk_lt (g := gb132) (o := .cells #[.slice A0_0 l0_0.length c0_0, .slice (some ad137) l0_1.length c0_1, .slice (some ad133) l0_2.length c0_2, .slice A0_3 l0_3.length c0_3] 45 (0, 0)) (bk_ BK132.out)) : gb132 ≠ gb145))
               have n7_ := Aside0.mk ((by rw [hg]; exact Nat.ne_of_gt (blk_lt (g := gb132) (o := .cells #[.slice A0_0 l0_0.length c0_0, .slice (some ad137) l0_1.length c0_1, .slice (some ad133) l0_2.length c0_2, .slice A0_3 l0_3.length c0_3] 45 (0, 0)) (bk_ BK132.out)) : gb145 ≠ gb132))
               have n8_ := Aside0.mk ((by rw [hg]; exact Nat.ne_of_lt (blk_lt (g := gb134) (o := .cells #[.int .i64 ((rd_T155 l0_2 x20_1).f0), .int .i64 ((rd_T155 l0_2 x20_1).f1), .int .i64 ((rd_T155 l0_2 x20_1).f2), .int .i64 ((rd_T155 l0_2 x20_1).f3)] 155 (0, 0)) (bk_ BK134.out)) : gb134 ≠ gb145))
               have n9_ := Aside0.mk ((by rw [hg]; exact Nat.ne_of_gt (blk_lt (g := gb134) (o := .cells #[.int .i64 ((rd_T155 l0_2 x20_1).f0), .int .i64 ((rd_T155 l0_2 x20_1).f1), .int .i64 ((rd_T155 l0_2 x20_1).f2), .int .i64 ((rd_T155 l0_2 x20_1).f3)] 155 (0, 0)) (bk_ BK134.out)) : gb145 ≠ gb134))
               clear BK132 BK134 HB
               have BK132 := n0_
               have BK134 := n1_
               have HB := n2_
               have BK145 := n3_
               have GW145 := n4_
               have GE145 := n5_
               have NB132_145 := n6_
               have NB145_132 := n7_
               have NB134_145 := n8_
               have NB145_134 := n9_
               clear n0_ n1_ n2_ n3_ n4_ n5_ n6_ n7_ n8_ n9_ hb hbox hg
               refine hK.out _ _ ⟨(blk_cell BK132.out 0).trans rfl, (blk_cell BK132.out 1).trans rfl, (blk_cell BK132.out 2).trans rfl, (blk_cell BK132.out 3).trans rfl, (blk_cell BK134.out 0).trans rfl, (blk_cell BK134.out 1).trans rfl, (blk_cell BK134.out 2).trans rfl, (blk_cell BK134.out 3).trans rfl, ((HB.out.cell (World.block_lt_of_cell? w _ hw137_0)).trans hw137_0), ((HB.out.cell (World.block_lt_of_cell? w _ hw137_1)).trans hw137_1)⟩ (fun hHeld => ?_)
               clear hK K
               refine norm_ (a' := ?_) ?_ ?_
               rotate_left
               ·show Act.put _ (some 5) _ = _
                simp only [Act.put, List.setIfInBounds_toArray, List.set_cons_zero, List.set_cons_succ, i64_w, i32_w]
                rfl
               refine one_ (i := 8) (N := some 52) #[true, true, true, true, true, true, true, true, true, false, false, false, true, false, false] rfl rfl (one_of HT_.out (by kernel_rfl)) (by decide) (fun K hK => ?_)
               refine goes_ Try.func125 (by kernel_rfl) rfl #[.agg #[.slice A137_0 ((rd_T78 l0_1 ((rd_T155 l0_2 x20_1).f0)).f0).length c137_0, .slice A137_1 ((rd_T78 l0_1 ((rd_T155 l0_2 x20_1).f0)).f1).length c137_1], .int .i64 ((rd_T155 l0_2 x20_1).f1)] (by rfl) rfl rfl (by (try simp only [List.map_toArray, List.map_cons, List.map_nil]); first | done | rfl | (simp only [List.length_drop, List.length_take]; rfl)) ?_
               with_reducible refine (spec_l16Used.calls _ _ ((rd_T78 l0_1 ((rd_T155 l0_2 x20_1).f0)).f0) _ _ ((rd_T78 l0_1 ((rd_T155 l0_2 x20_1).f0)).f1) ((rd_T155 l0_2 x20_1).f1) t138 t139 t140 t141 t142 t143 t144 _ ?side1 ?side2 ?side3 ?side4 A23.out).mono ?_
               (case side1 => repeat (first | exact (Kd.C_below HR137_0.out HB.out) | (with_reducible refine Kd.C_alloc ?_ _) | (with_reducible refine Kd.C_drewN ?_ _) | (with_reducible refine Kd.C_drew ?_)))
               (case side2 => exact HC137_0.out)
               (case side3 => repeat (first | exact (Kd.C_below HR137_1.out HB.out) | (with_reducible refine Kd.C_alloc ?_ _) | (with_reducible refine Kd.C_drewN ?_ _) | (with_reducible refine Kd.C_drew ?_)))
               (case side4 => exact HC137_1.out)
               rintro e w222 ⟨rfl, hb⟩
               refine ⟨_, rfl, ?_⟩
               have n0_ := Aside0.mk (blk_below (bk_ BK132.out) hb)
               have n1_ := Aside0.mk (blk_below (bk_ BK134.out) hb)
               have n2_ := Aside0.mk (blk_below (bk_ BK145.out) hb)
               have n3_ := Aside0.mk (below_step (by repeat (first | (with_reducible first | exact HB.out | apply eA | apply eN | apply eD | refine below_set ?_ GE132.out | refine below_set ?_ GE134.out | refine below_set ?_ GE145.out) | exact HB.out)) hb)
               clear BK132 BK134 BK145 HB
               have BK132 := n0_
               have BK134 := n1_
               have BK145 := n2_
               have HB := n3_
               clear n0_ n1_ n2_ n3_
               (try clear hb)
               (try clear hb2)
               (try clear hk)
               (try clear hi)
               refine hK.out _ _ ⟨(blk_cell BK132.out 0).trans rfl, (blk_cell BK132.out 1).trans rfl, (blk_cell BK132.out 2).trans rfl, (blk_cell BK132.out 3).trans rfl, (blk_cell BK134.out 0).trans rfl, (blk_cell BK134.out 1).trans rfl, (blk_cell BK134.out 2).trans rfl, (blk_cell BK134.out 3).trans rfl, ((HB.out.cell (World.block_lt_of_cell? w _ hw137_0)).trans hw137_0), ((HB.out.cell (World.block_lt_of_cell? w _ hw137_1)).trans hw137_1)⟩ (fun hHeld => ?_)
               clear hK K
               refine norm_ (a' := ?_) ?_ ?_
               rotate_left
               ·show Act.put _ (some 52) _ = _
                simp only [Act.put, List.setIfInBounds_toArray, List.set_cons_zero, List.set_cons_succ, i64_w, i32_w]
                rfl
               refine pure_ (i := 9) (N := some 43) (v := ?_) (a' := ?_) #[true, true, true, true, true, true, true, true, true, true, false, false, true, false, false] rfl rfl (any_of HT_.out (by kernel_rfl)) (fun _ _ _ h => h) (Or.inl ⟨by rfl, ?_⟩) ?_ ?_
               rotate_left
               ·intro w'
                go_simp
                with_reducible rfl
               rotate_left
               ·simp only [Act.put, List.setIfInBounds_toArray, List.set_cons_zero, List.set_cons_succ, i64_w, i32_w]
                rfl
               refine pure_ (i := 10) (N := some 53) (v := ?_) (a' := ?_) #[true, true, true, true, true, true, true, true, true, true, true, false, true, false, false] rfl rfl (any_of HT_.out (by kernel_rfl)) (fun _ _ _ h => h) (Or.inl ⟨by rfl, ?_⟩) ?_ ?_
               rotate_left
               ·intro w'
                go_simp
                with_reducible rfl
               rotate_left
               ·simp only [Act.put, List.setIfInBounds_toArray, List.set_cons_zero, List.set_cons_succ, i64_w, i32_w]
                rfl
               refine pure_ (i := 11) (N := some 54) (v := ?_) (a' := ?_) #[true, true, true, true, true, true, true, true, true, true, true, true, true, false, false] rfl rfl (any_of HT_.out (by kernel_rfl)) (fun _ _ _ h => h) (Or.inl ⟨by rfl, ?_⟩) ?_ ?_
               rotate_left
               ·intro w'
                go_simp
                with_reducible rfl
               rotate_left
               ·simp only [Act.put, List.setIfInBounds_toArray, List.set_cons_zero, List.set_cons_succ, i64_w, i32_w]
                rfl
               exact norm_ (by simp only [putAll, Act.put, List.setIfInBounds_toArray, List.set_cons_zero, List.set_cons_succ]) (hCont (gb145) _ ⟨hHeld, (bk_ BK132.out), (bk_ BK134.out), (bk_ BK145.out), GW145.out, GE145.out, NB132_145.out, NB145_132.out, NB134_145.out, NB145_134.out, (by repeat (first | (with_reducible first | exact HB.out | apply eA | apply eN | apply eD | refine below_set ?_ GE132.out | refine below_set ?_ GE134.out | refine below_set ?_ GE145.out) | exact HB.out))⟩)
             rintro gb145 w223 ⟨hS_, h0_, h1_, h2_, h3_, h4_, h5_, h6_, h7_, h8_, h9_⟩
             have n0_ : Aside0 (w223.heap[gb132]? = some (.cells #[.slice A0_0 l0_0.length c0_0, .slice (some ad137) l0_1.length c0_1, .slice (some ad133) l0_2.length c0_2, .slice A0_3 l0_3.length c0_3] 45 (0, 0))) := ⟨h0_⟩
             have n1_ : Aside0 (w223.heap[gb134]? = some (.cells #[.int .i64 ((rd_T155 l0_2 x20_1).f0), .int .i64 ((rd_T155 l0_2 x20_1).f1), .int .i64 ((rd_T155 l0_2 x20_1).f2), .int .i64 ((rd_T155 l0_2 x20_1).f3)] 155 (0, 0))) := ⟨h1_⟩
             have n2_ : Aside0 (w223.heap[gb145]? = some (.cells #[.bool false, .int .i64 0, .int .i64 0, .bool false, .int .i64 0, .int .i64 0] 75 (0, 0))) := ⟨h2_⟩
             have n3_ : Aside0 (w.heap.size ≤ gb145) := ⟨h3_⟩
             have n4_ : Aside0 (w.heap.size ≤ gb145) := ⟨h4_⟩
             have n5_ : Aside0 (gb132 ≠ gb145) := ⟨h5_⟩
             have n6_ : Aside0 (gb145 ≠ gb132) := ⟨h6_⟩
             have n7_ : Aside0 (gb134 ≠ gb145) := ⟨h7_⟩
             have n8_ : Aside0 (gb145 ≠ gb134) := ⟨h8_⟩
             have n9_ : Aside0 (Below w.heap.size w w223) := ⟨h9_⟩
             clear BK132 BK134 HB h0_ h1_ h2_ h3_ h4_ h5_ h6_ h7_ h8_ h9_
             have BK132 := n0_
             have BK134 := n1_
             have BK145 := n2_
             have GW145 := n3_
             have GE145 := n4_
             have NB132_145 := n5_
             have NB145_132 := n6_
             have NB134_145 := n7_
             have NB145_134 := n8_
             have HB := n9_
             clear n0_ n1_ n2_ n3_ n4_ n5_ n6_ n7_ n8_ n9_
             have hHeld : w223.cell? ⟨gb132, 0, none⟩ = some (.slice A0_0 l0_0.length c0_0) ∧ w223.cell? ⟨gb132, 1, none⟩ = some (.slice (some ad137) l0_1.length c0_1) ∧ w223.cell? ⟨gb132, 2, none⟩ = some (.slice (some ad133) l0_2.length c0_2) ∧ w223.cell? ⟨gb132, 3, none⟩ = some (.slice A0_3 l0_3.length c0_3) ∧ w223.cell? ⟨gb134, 0, none⟩ = some (.int .i64 ((rd_T155 l0_2 x20_1).f0)) ∧ w223.cell? ⟨gb134, 1, none⟩ = some (.int .i64 ((rd_T155 l0_2 x20_1).f1)) ∧ w223.cell? ⟨gb134, 2, none⟩ = some (.int .i64 ((rd_T155 l0_2 x20_1).f2)) ∧ w223.cell? ⟨gb134, 3, none⟩ = some (.int .i64 ((rd_T155 l0_2 x20_1).f3)) ∧ w223.cell? (ad137.add ((((rd_T155 l0_2 x20_1).f0)).toNat * 2)) = some (.slice A137_0 ((rd_T78 l0_1 ((rd_T155 l0_2 x20_1).f0)).f0).length c137_0) ∧ w223.cell? ⟨(ad137.add ((((rd_T155 l0_2 x20_1).f0)).toNat * 2)).block, (ad137.add ((((rd_T155 l0_2 x20_1).f0)).toNat * 2)).off + 1, none⟩ = some (.slice A137_1 ((rd_T78 l0_1 ((rd_T155 l0_2 x20_1).f0)).f1).length c137_1) := hS_
             refine norm_ (a' := ?_) ?_ ?_
             rotate_left
             ·simp only [putAll, Act.put, List.setIfInBounds_toArray, List.set_cons_zero, List.set_cons_succ]
              rfl
             refine one_ (i := 13) (N := none) #[true, true, true, true, true, true, true, true, true, true, true, true, true, true, false] rfl rfl (one_of HT_.out (by kernel_rfl)) (by decide) (fun K hK => ?_)
             have hs224 : w223.cell? ⟨gb145, 0, none⟩ = some (.bool false) := (blk_cell BK145.out 0).trans rfl
             have hfs224 := blk_frozen BK145.out 0
             have hns224_0 := NB132_145.out
             have hns224_1 := NB134_145.out
             have hms224_0 := NB145_132.out
             have hms224_1 := NB145_134.out
             have hs225 : w223.cell? ⟨gb145, 1, none⟩ = some (.int .i64 0) := (blk_cell BK145.out 1).trans rfl
             have hfs225 := blk_frozen BK145.out 1
             have hns225_0 := NB132_145.out
             have hns225_1 := NB134_145.out
             have hms225_0 := NB145_132.out
             have hms225_1 := NB145_134.out
             have hs226 : w223.cell? ⟨gb145, 2, none⟩ = some (.int .i64 0) := (blk_cell BK145.out 2).trans rfl
             have hfs226 := blk_frozen BK145.out 2
             have hns226_0 := NB132_145.out
             have hns226_1 := NB134_145.out
             have hms226_0 := NB145_132.out
             have hms226_1 := NB145_134.out
             have hs227 : w223.cell? ⟨gb145, 3, none⟩ = some (.bool false) := (blk_cell BK145.out 3).trans rfl
             have hfs227 := blk_frozen BK145.out 3
             have hns227_0 := NB132_145.out
             have hns227_1 := NB134_145.out
             have hms227_0 := NB145_132.out
             have hms227_1 := NB145_134.out
             have hs228 : w223.cell? ⟨gb145, 4, none⟩ = some (.int .i64 0) := (blk_cell BK145.out 4).trans rfl
             have hfs228 := blk_frozen BK145.out 4
             have hns228_0 := NB132_145.out
             have hns228_1 := NB134_145.out
             have hms228_0 := NB145_132.out
             have hms228_1 := NB145_134.out
             have hs229 : w223.cell? ⟨gb145, 5, none⟩ = some (.int .i64 0) := (blk_cell BK145.out 5).trans rfl
             have hfs229 := blk_frozen BK145.out 5
             have hns229_0 := NB132_145.out
             have hns229_1 := NB134_145.out
             have hms229_0 := NB145_132.out
             have hms229_1 := NB145_134.out
             refine skip_ (w1 := ?_) (by rfl) rfl ?_ ?_
             rotate_left
             ·go_simp
              rfl
             refine hK.out _ _ ⟨((cell_far (p := ⟨gb145, _, none⟩) NB132_145.out _).trans (((cell_far (p := ⟨gb145, _, none⟩) NB132_145.out _).trans (((cell_far (p := ⟨gb145, _, none⟩) NB132_145.out _).trans (((cell_far (p := ⟨gb145, _, none⟩) NB132_145.out _).trans (((cell_far (p := ⟨gb145, _, none⟩) NB132_145.out _).trans (((cell_far (p := ⟨gb145, _, none⟩) NB132_145.out _).trans (hHeld.1)))))))))))), ((cell_far (p := ⟨gb145, _, none⟩) NB132_145.out _).trans (((cell_far (p := ⟨gb145, _, none⟩) NB132_145.out _).trans (((cell_far (p := ⟨gb145, _, none⟩) NB132_145.out _).trans (((cell_far (p := ⟨gb145, _, none⟩) NB132_145.out _).trans (((cell_far (p := ⟨gb145, _, none⟩) NB132_145.out _).trans (((cell_far (p := ⟨gb145, _, none⟩) NB132_145.out _).trans (hHeld.2.1)))))))))))), ((cell_far (p := ⟨gb145, _, none⟩) NB132_145.out _).trans (((cell_far (p := ⟨gb145, _, none⟩) NB132_145.out _).trans (((cell_far (p := ⟨gb145, _, none⟩) NB132_145.out _).trans (((cell_far (p := ⟨gb145, _, none⟩) NB132_145.out _).trans (((cell_far (p := ⟨gb145, _, none⟩) NB132_145.out _).trans (((cell_far (p := ⟨gb145, _, none⟩) NB132_145.out _).trans (hHeld.2.2.1)))))))))))), ((cell_far (p := ⟨gb145, _, none⟩) NB132_145.out _).trans (((cell_far (p := ⟨gb145, _, none⟩) NB132_145.out _).trans (((cell_far (p := ⟨gb145, _, none⟩) NB132_145.out _).trans (((cell_far (p := ⟨gb145, _, none⟩) NB132_145.out _).trans (((cell_far (p := ⟨gb145, _, none⟩) NB132_145.out _).trans (((cell_far (p := ⟨gb145, _, none⟩) NB132_145.out _).trans (hHeld.2.2.2.1)))))))))))), ((cell_far (p := ⟨gb145, _, none⟩) NB134_145.out _).trans (((cell_far (p := ⟨gb145, _, none⟩) NB134_145.out _).trans (((cell_far (p := ⟨gb145, _, none⟩) NB134_145.out _).trans (((cell_far (p := ⟨gb145, _, none⟩) NB134_145.out _).trans (((cell_far (p := ⟨gb145, _, none⟩) NB134_145.out _).trans (((cell_far (p := ⟨gb145, _, none⟩) NB134_145.out _).trans (hHeld.2.2.2.2.1)))))))))))), ((cell_far (p := ⟨gb145, _, none⟩) NB134_145.out _).trans (((cell_far (p := ⟨gb145, _, none⟩) NB134_145.out _).trans (((cell_far (p := ⟨gb145, _, none⟩) NB134_145.out _).trans (((cell_far (p := ⟨gb145, _, none⟩) NB134_145.out _).trans (((cell_far (p := ⟨gb145, _, none⟩) NB134_145.out _).trans (((cell_far (p := ⟨gb145, _, none⟩) NB134_145.out _).trans (hHeld.2.2.2.2.2.1)))))))))))), ((cell_far (p := ⟨gb145, _, none⟩) NB134_145.out _).trans (((cell_far (p := ⟨gb145, _, none⟩) NB134_145.out _).trans (((cell_far (p := ⟨gb145, _, none⟩) NB134_145.out _).trans (((cell_far (p := ⟨gb145, _, none⟩) NB134_145.out _).trans (((cell_far (p := ⟨gb145, _, none⟩) NB134_145.out _).trans (((cell_far (p := ⟨gb145, _, none⟩) NB134_145.out _).trans (hHeld.2.2.2.2.2.2.1)))))))))))), ((cell_far (p := ⟨gb145, _, none⟩) NB134_145.out _).trans (((cell_far (p := ⟨gb145, _, none⟩) NB134_145.out _).trans (((cell_far (p := ⟨gb145, _, none⟩) NB134_145.out _).trans (((cell_far (p := ⟨gb145, _, none⟩) NB134_145.out _).trans (((cell_far (p := ⟨gb145, _, none⟩) NB134_145.out _).trans (((cell_far (p := ⟨gb145, _, none⟩) NB134_145.out _).trans (hHeld.2.2.2.2.2.2.2.1)))))))))))), ((cell_far (p := ⟨gb145, _, none⟩) (by first | exact Nat.ne_of_lt (Nat.lt_of_lt_of_le (by have := World.block_lt_of_cell? _ _ hw137_0; first | rwa [add_block] at this | exact this) GW145.out) | (rw [add_block]; exact Nat.ne_of_lt (Nat.lt_of_lt_of_le (by have := World.block_lt_of_cell? _ _ hw137_0; first | rwa [add_block] at this | exact this) GW145.out)) | (show (Addr.add _ _).block ≠ _; rw [add_block]; exact Nat.ne_of_lt (Nat.lt_of_lt_of_le (by have := World.block_lt_of_cell? _ _ hw137_0; first | rwa [add_block] at this | exact this) GW145.out)) | (dsimp only; exact Nat.ne_of_lt (Nat.lt_of_lt_of_le (by have := World.block_lt_of_cell? _ _ hw137_0; first | rwa [add_block] at this | exact this) GW145.out))) _).trans (((cell_far (p := ⟨gb145, _, none⟩) (by first | exact Nat.ne_of_lt (Nat.lt_of_lt_of_le (by have := World.block_lt_of_cell? _ _ hw137_0; first | rwa [add_block] at this | exact this) GW145.out) | (rw [add_block]; exact Nat.ne_of_lt (Nat.lt_of_lt_of_le (by have := World.block_lt_of_cell? _ _ hw137_0; first | rwa [add_block] at this | exact this) GW145.out)) | (show (Addr.add _ _).block ≠ _; rw [add_block]; exact Nat.ne_of_lt (Nat.lt_of_lt_of_le (by have := World.block_lt_of_cell? _ _ hw137_0; first | rwa [add_block] at this | exact this) GW145.out)) | (dsimp only; exact Nat.ne_of_lt (Nat.lt_of_lt_of_le (by have := World.block_lt_of_cell? _ _ hw137_0; first | rwa [add_block] at this | exact this) GW145.out))) _).trans (((cell_far (p := ⟨gb145, _, none⟩) (by first | exact Nat.ne_of_lt (Nat.lt_of_lt_of_le (by have := World.block_lt_of_cell? _ _ hw137_0; first | rwa [add_block] at this | exact this) GW145.out) | (rw [add_block]; exact Nat.ne_of_lt (Nat.lt_of_lt_of_le (by have := World.block_lt_of_cell? _ _ hw137_0; first | rwa [add_block] at this | exact this) GW145.out)) | (show (Addr.add _ _).block ≠ _; rw [add_block]; exact Nat.ne_of_lt (Nat.lt_of_lt_of_le (by have := World.block_lt_of_cell? _ _ hw137_0; first | rwa [add_block] at this | exact this) GW145.out)) | (dsimp only; exact Nat.ne_of_lt (Nat.lt_of_lt_of_le (by have := World.block_lt_of_cell? _ _ hw137_0; first | rwa [add_block] at this | exact this) GW145.out))) _).trans (((cell_far (p := ⟨gb145, _, none⟩) (by first | exact Nat.ne_of_lt (Nat.lt_of_lt_of_le (by have := World.block_lt_of_cell? _ _ hw137_0; first | rwa [add_block] at this | exact this) GW145.out) | (rw [add_block]; exact Nat.ne_of_lt (Nat.lt_of_lt_of_le (by have := World.block_lt_of_cell? _ _ hw137_0; first | rwa [add_block] at this | exact this) GW145.out)) | (show (Addr.add _ _).block ≠ _; rw [add_block]; exact Nat.ne_of_lt (Nat.lt_of_lt_of_le (by have := World.block_lt_of_cell? _ _ hw137_0; first | rwa [add_block] at this | exact this) GW145.out)) | (dsimp only; exact Nat.ne_of_lt (Nat.lt_of_lt_of_le (by have := World.block_lt_of_cell? _ _ hw137_0; first | rwa [add_block] at this | exact this) GW145.out))) _).trans (((cell_far (p := ⟨gb145, _, none⟩) (by first | exact Nat.ne_of_lt (Nat.lt_of_lt_of_le (by have := World.block_lt_of_cell? _ _ hw137_0; first | rwa [add_block] at this | exact this) GW145.out) | (rw [add_block]; exact Nat.ne_of_lt (Nat.lt_of_lt_of_le (by have := World.block_lt_of_cell? _ _ hw137_0; first | rwa [add_block] at this | exact this) GW145.out)) | (show (Addr.add _ _).block ≠ _; rw [add_block]; exact Nat.ne_of_lt (Nat.lt_of_lt_of_le (by have := World.block_lt_of_cell? _ _ hw137_0; first | rwa [add_block] at this | exact this) GW145.out)) | (dsimp only; exact Nat.ne_of_lt (Nat.lt_of_lt_of_le (by have := World.block_lt_of_cell? _ _ hw137_0; first | rwa [add_block] at this | exact this) GW145.out))) _).trans (((cell_far (p := ⟨gb145, _, none⟩) (by first | exact Nat.ne_of_lt (Nat.lt_of_lt_of_le (by have := World.block_lt_of_cell? _ _ hw137_0; first | rwa [add_block] at this | exact this) GW145.out) | (rw [add_block]; exact Nat.ne_of_lt (Nat.lt_of_lt_of_le (by have := World.block_lt_of_cell? _ _ hw137_0; first | rwa [add_block] at this | exact this) GW145.out)) | (show (Addr.add _ _).block ≠ _; rw [add_block]; exact Nat.ne_of_lt (Nat.lt_of_lt_of_le (by have := World.block_lt_of_cell? _ _ hw137_0; first | rwa [add_block] at this | exact this) GW145.out)) | (dsimp only; exact Nat.ne_of_lt (Nat.lt_of_lt_of_le (by have := World.block_lt_of_cell? _ _ hw137_0; first | rwa [add_block] at this | exact this) GW145.out))) _).trans (hHeld.2.2.2.2.2.2.2.2.1)))))))))))), ((cell_far (p := ⟨gb145, _, none⟩) (by first | exact Nat.ne_of_lt (Nat.lt_of_lt_of_le (by have := World.block_lt_of_cell? _ _ hw137_1; first | rwa [add_block] at this | exact this) GW145.out) | (rw [add_block]; exact Nat.ne_of_lt (Nat.lt_of_lt_of_le (by have := World.block_lt_of_cell? _ _ hw137_1; first | rwa [add_block] at this | exact this) GW145.out)) | (show (Addr.add _ _).block ≠ _; rw [add_block]; exact Nat.ne_of_lt (Nat.lt_of_lt_of_le (by have := World.block_lt_of_cell? _ _ hw137_1; first | rwa [add_block] at this | exact this) GW145.out)) | (dsimp only; exact Nat.ne_of_lt (Nat.lt_of_lt_of_le (by have := World.block_lt_of_cell? _ _ hw137_1; first | rwa [add_block] at this | exact this) GW145.out))) _).trans (((cell_far (p := ⟨gb145, _, none⟩) (by first | exact Nat.ne_of_lt (Nat.lt_of_lt_of_le (by have := World.block_lt_of_cell? _ _ hw137_1; first | rwa [add_block] at this | exact this) GW145.out) | (rw [add_block]; exact Nat.ne_of_lt (Nat.lt_of_lt_of_le (by have := World.block_lt_of_cell? _ _ hw137_1; first | rwa [add_block] at this | exact this) GW145.out)) | (show (Addr.add _ _).block ≠ _; rw [add_block]; exact Nat.ne_of_lt (Nat.lt_of_lt_of_le (by have := World.block_lt_of_cell? _ _ hw137_1; first | rwa [add_block] at this | exact this) GW145.out)) | (dsimp only; exact Nat.ne_of_lt (Nat.lt_of_lt_of_le (by have := World.block_lt_of_cell? _ _ hw137_1; first | rwa [add_block] at this | exact this) GW145.out))) _).trans (((cell_far (p := ⟨gb145, _, none⟩) (by first | exact Nat.ne_of_lt (Nat.lt_of_lt_of_le (by have := World.block_lt_of_cell? _ _ hw137_1; first | rwa [add_block] at this | exact this) GW145.out) | (rw [add_block]; exact Nat.ne_of_lt (Nat.lt_of_lt_of_le (by have := World.block_lt_of_cell? _ _ hw137_1; first | rwa [add_block] at this | exact this) GW145.out)) | (show (Addr.add _ _).block ≠ _; rw [add_block]; exact Nat.ne_of_lt (Nat.lt_of_lt_of_le (by have := World.block_lt_of_cell? _ _ hw137_1; first | rwa [add_block] at this | exact this) GW145.out)) | (dsimp only; exact Nat.ne_of_lt (Nat.lt_of_lt_of_le (by have := World.block_lt_of_cell? _ _ hw137_1; first | rwa [add_block] at this | exact this) GW145.out))) _).trans (((cell_far (p := ⟨gb145, _, none⟩) (by first | exact Nat.ne_of_lt (Nat.lt_of_lt_of_le (by have := World.block_lt_of_cell? _ _ hw137_1; first | rwa [add_block] at this | exact this) GW145.out) | (rw [add_block]; exact Nat.ne_of_lt (Nat.lt_of_lt_of_le (by have := World.block_lt_of_cell? _ _ hw137_1; first | rwa [add_block] at this | exact this) GW145.out)) | (show (Addr.add _ _).block ≠ _; rw [add_block]; exact Nat.ne_of_lt (Nat.lt_of_lt_of_le (by have := World.block_lt_of_cell? _ _ hw137_1; first | rwa [add_block] at this | exact this) GW145.out)) | (dsimp only; exact Nat.ne_of_lt (Nat.lt_of_lt_of_le (by have := World.block_lt_of_cell? _ _ hw137_1; first | rwa [add_block] at this | exact this) GW145.out))) _).trans (((cell_far (p := ⟨gb145, _, none⟩) (by first | exact Nat.ne_of_lt (Nat.lt_of_lt_of_le (by have := World.block_lt_of_cell? _ _ hw137_1; first | rwa [add_block] at this | exact this) GW145.out) | (rw [add_block]; exact Nat.ne_of_lt (Nat.lt_of_lt_of_le (by have := World.block_lt_of_cell? _ _ hw137_1; first | rwa [add_block] at this | exact this) GW145.out)) | (show (Addr.add _ _).block ≠ _; rw [add_block]; exact Nat.ne_of_lt (Nat.lt_of_lt_of_le (by have := World.block_lt_of_cell? _ _ hw137_1; first | rwa [add_block] at this | exact this) GW145.out)) | (dsimp only; exact Nat.ne_of_lt (Nat.lt_of_lt_of_le (by have := World.block_lt_of_cell? _ _ hw137_1; first | rwa [add_block] at this | exact this) GW145.out))) _).trans (((cell_far (p := ⟨gb145, _, none⟩) (by first | exact Nat.ne_of_lt (Nat.lt_of_lt_of_le (by have := World.block_lt_of_cell? _ _ hw137_1; first | rwa [add_block] at this | exact this) GW145.out) | (rw [add_block]; exact Nat.ne_of_lt (Nat.lt_of_lt_of_le (by have := World.block_lt_of_cell? _ _ hw137_1; first | rwa [add_block] at this | exact this) GW145.out)) | (show (Addr.add _ _).block ≠ _; rw [add_block]; exact Nat.ne_of_lt (Nat.lt_of_lt_of_le (by have := World.block_lt_of_cell? _ _ hw137_1; first | rwa [add_block] at this | exact this) GW145.out)) | (dsimp only; exact Nat.ne_of_lt (Nat.lt_of_lt_of_le (by have := World.block_lt_of_cell? _ _ hw137_1; first | rwa [add_block] at this | exact this) GW145.out))) _).trans (hHeld.2.2.2.2.2.2.2.2.2))))))))))))⟩ (fun hHeld => ?_)
             clear hK K
             refine pure_ (i := 14) (N := some 6) (v := ?_) (a' := ?_) #[true, true, true, true, true, true, true, true, true, true, true, true, true, true, true] rfl rfl (any_of HT_.out (by kernel_rfl)) (fun _ _ _ h => h) (Or.inl ⟨by rfl, ?_⟩) ?_ ?_
             rotate_left
             ·intro w'
              go_simp
              with_reducible rfl
             rotate_left
             ·simp only [Act.put, List.setIfInBounds_toArray, List.set_cons_zero, List.set_cons_succ, i64_w, i32_w]
              rfl
             refine done_ (done_of HT_.out (by kernel_rfl)) ?_
             try go_wp2
             have n0_ : Aside0 (((((((w223.setCell ⟨gb145, 0, none⟩ (.bool t138)).setCell ⟨gb145, 1, none⟩ (.int .i64 t139)).setCell ⟨gb145, 2, none⟩ (.int .i64 t140)).setCell ⟨gb145, 3, none⟩ (.bool t141)).setCell ⟨gb145, 4, none⟩ (.int .i64 t142)).setCell ⟨gb145, 5, none⟩ (.int .i64 t143)).heap[gb132]? = some (.cells #[.slice A0_0 l0_0.length c0_0, .slice (some ad137) l0_1.length c0_1, .slice (some ad133) l0_2.length c0_2, .slice A0_3 l0_3.length c0_3] 45 (0, 0))) := ⟨by (with_reducible repeat first | apply bN | apply bD | apply bA); refine blk_far ?_ NB132_145.out _; (with_reducible repeat first | apply bN | apply bD | apply bA); refine blk_far ?_ NB132_145.out _; (with_reducible repeat first | apply bN | apply bD | apply bA); refine blk_far ?_ NB132_145.out _; (with_reducible repeat first | apply bN | apply bD | apply bA); refine blk_far ?_ NB132_145.out _; (with_reducible repeat first | apply bN | apply bD | apply bA); refine blk_far ?_ NB132_145.out _; (with_reducible repeat first | apply bN | apply bD | apply bA); refine blk_far ?_ NB132_145.out _; (with_reducible repeat first | apply bN | apply bD | apply bA); exact BK132.out⟩
             have n1_ : Aside0 (((((((w223.setCell ⟨gb145, 0, none⟩ (.bool t138)).setCell ⟨gb145, 1, none⟩ (.int .i64 t139)).setCell ⟨gb145, 2, none⟩ (.int .i64 t140)).setCell ⟨gb145, 3, none⟩ (.bool t141)).setCell ⟨gb145, 4, none⟩ (.int .i64 t142)).setCell ⟨gb145, 5, none⟩ (.int .i64 t143)).heap[gb134]? = some (.cells #[.int .i64 ((rd_T155 l0_2 x20_1).f0), .int .i64 ((rd_T155 l0_2 x20_1).f1), .int .i64 ((rd_T155 l0_2 x20_1).f2), .int .i64 ((rd_T155 l0_2 x20_1).f3)] 155 (0, 0))) := ⟨by (with_reducible repeat first | apply bN | apply bD | apply bA); refine blk_far ?_ NB134_145.out _; (with_reducible repeat first | apply bN | apply bD | apply bA); refine blk_far ?_ NB134_145.out _; (with_reducible repeat first | apply bN | apply bD | apply bA); refine blk_far ?_ NB134_145.out _; (with_reducible repeat first | apply bN | apply bD | apply bA); refine blk_far ?_ NB134_145.out _; (with_reducible repeat first | apply bN | apply bD | apply bA); refine blk_far ?_ NB134_145.out _; (with_reducible repeat first | apply bN | apply bD | apply bA); refine blk_far ?_ NB134_145.out _; (with_reducible repeat first | apply bN | apply bD | apply bA); exact BK134.out⟩
             have n2_ : Aside0 (((((((w223.setCell ⟨gb145, 0, none⟩ (.bool t138)).setCell ⟨gb145, 1, none⟩ (.int .i64 t139)).setCell ⟨gb145, 2, none⟩ (.int .i64 t140)).setCell ⟨gb145, 3, none⟩ (.bool t141)).setCell ⟨gb145, 4, none⟩ (.int .i64 t142)).setCell ⟨gb145, 5, none⟩ (.int .i64 t143)).heap[gb145]? = some (.cells #[.bool t138, .int .i64 t139, .int .i64 t140, .bool t141, .int .i64 t142, .int .i64 t143] 75 (0, 0))) := ⟨by (with_reducible repeat first | apply bN | apply bD | apply bA); refine blk_put (cs := #[.bool t138, .int .i64 t139, .int .i64 t140, .bool t141, .int .i64 t142, .int .i64 0]) ?_ 5 _ rfl; (with_reducible repeat first | apply bN | apply bD | apply bA); refine blk_put (cs := #[.bool t138, .int .i64 t139, .int .i64 t140, .bool t141, .int .i64 0, .int .i64 0]) ?_ 4 _ rfl; (with_reducible repeat first | apply bN | apply bD | apply bA); refine blk_put (cs := #[.bool t138, .int .i64 t139, .int .i64 t140, .bool false, .int .i64 0, .int .i64 0]) ?_ 3 _ rfl; (with_reducible repeat first | apply bN | apply bD | apply bA); refine blk_put (cs := #[.bool t138, .int .i64 t139, .int .i64 0, .bool false, .int .i64 0, .int .i64 0]) ?_ 2 _ rfl; (with_reducible repeat first | apply bN | apply bD | apply bA); refine blk_put (cs := #[.bool t138, .int .i64 0, .int .i64 0, .bool false, .int .i64 0, .int .i64 0]) ?_ 1 _ rfl; (with_reducible repeat first | apply bN | apply bD | apply bA); refine blk_put (cs := #[.bool false, .int .i64 0, .int .i64 0, .bool false, .int .i64 0, .int .i64 0]) ?_ 0 _ rfl; (with_reducible repeat first | apply bN | apply bD | apply bA); exact BK145.out⟩
             have n3_ : Aside0 (Below w.heap.size w ((((((w223.setCell ⟨gb145, 0, none⟩ (.bool t138)).setCell ⟨gb145, 1, none⟩ (.int .i64 t139)).setCell ⟨gb145, 2, none⟩ (.int .i64 t140)).setCell ⟨gb145, 3, none⟩ (.bool t141)).setCell ⟨gb145, 4, none⟩ (.int .i64 t142)).setCell ⟨gb145, 5, none⟩ (.int .i64 t143))) := ⟨by repeat (first | (with_reducible first | exact HB.out | apply eA | apply eN | apply eD | refine below_set ?_ GE132.out | refine below_set ?_ GE134.out | refine below_set ?_ GE145.out) | exact HB.out)⟩
             (try clear BK132)
             (try clear BK134)
             (try clear BK145)
             (try clear HB)
             generalize ((((((w223.setCell ⟨gb145, 0, none⟩ (.bool t138)).setCell ⟨gb145, 1, none⟩ (.int .i64 t139)).setCell ⟨gb145, 2, none⟩ (.int .i64 t140)).setCell ⟨gb145, 3, none⟩ (.bool t141)).setCell ⟨gb145, 4, none⟩ (.int .i64 t142)).setCell ⟨gb145, 5, none⟩ (.int .i64 t143)) = w230 at n0_ n1_ n2_ n3_ ⊢
             have BK132 := n0_
             have BK134 := n1_
             have BK145 := n2_
             have HB := n3_
             clear n0_ n1_ n2_ n3_
             have n0_ := Aside0.mk (blk_drew BK132.out)
             have n1_ := Aside0.mk (blk_drew BK134.out)
             have n2_ := Aside0.mk (blk_drew BK145.out)
             have n3_ := Aside0.mk (below_drew1 HB.out)
             clear BK132 BK134 BK145 HB
             have BK132 := n0_
             have BK134 := n1_
             have BK145 := n2_
             have HB := n3_
             clear n0_ n1_ n2_ n3_
             have p146 : 0 ≤ (((rd_T155 l0_2 x20_1).f2) : Int) := of_decide_eq_true (by first | (with_reducible assumption) | assumption)
             have q146 : ((rd_T155 l0_2 x20_1).f2) < (l0_1.length : Int) := of_decide_eq_true (by first | (with_reducible assumption) | assumption)
             obtain ⟨ad146, A146_0, c146_0, A146_1, c146_1, e146, hx146_0, hx146_1, hl146_0, hi146_0, hl146_1, hi146_1⟩ := at_T78 HR0_1.out ((rd_T155 l0_2 x20_1).f2) p146 q146
             have hw146_1 := hx146_1
             have hw146_0 := hx146_0
             obtain rfl : ad137 = ad146 := (by injection e146)
             replace hx146_0 := (HB.out.cell (World.block_lt_of_cell? w _ hx146_0)).trans hx146_0
             replace hx146_1 := (HB.out.cell (World.block_lt_of_cell? w _ hx146_1)).trans hx146_1
             have HR146_0 := Aside0.mk hi146_0
             have HC146_0 := Aside0.mk hl146_0
             clear hi146_0 hl146_0
             have HR146_1 := Aside0.mk hi146_1
             have HC146_1 := Aside0.mk hl146_1
             clear hi146_1 hl146_1
             replace p146 := eq_true p146
             replace q146 := eq_true q146
             refine start_ (n := 15) (S := fun w' => w'.cell? ⟨gb132, 0, none⟩ = some (.slice A0_0 l0_0.length c0_0) ∧ w'.cell? ⟨gb132, 1, none⟩ = some (.slice (some ad137) l0_1.length c0_1) ∧ w'.cell? ⟨gb132, 2, none⟩ = some (.slice (some ad133) l0_2.length c0_2) ∧ w'.cell? ⟨gb132, 3, none⟩ = some (.slice A0_3 l0_3.length c0_3) ∧ w'.cell? ⟨gb134, 0, none⟩ = some (.int .i64 ((rd_T155 l0_2 x20_1).f0)) ∧ w'.cell? ⟨gb134, 1, none⟩ = some (.int .i64 ((rd_T155 l0_2 x20_1).f1)) ∧ w'.cell? ⟨gb134, 2, none⟩ = some (.int .i64 ((rd_T155 l0_2 x20_1).f2)) ∧ w'.cell? ⟨gb134, 3, none⟩ = some (.int .i64 ((rd_T155 l0_2 x20_1).f3)) ∧ w'.cell? (ad137.add ((((rd_T155 l0_2 x20_1).f2)).toNat * 2)) = some (.slice A146_0 ((rd_T78 l0_1 ((rd_T155 l0_2 x20_1).f2)).f0).length c146_0) ∧ w'.cell? ⟨(ad137.add ((((rd_T155 l0_2 x20_1).f2)).toNat * 2)).block, (ad137.add ((((rd_T155 l0_2 x20_1).f2)).toNat * 2)).off + 1, none⟩ = some (.slice A146_1 ((rd_T78 l0_1 ((rd_T155 l0_2 x20_1).f2)).f1).length c146_1)) (ds := []) #[false, false, false, false, false, false, false, false, false, false, false, false, false, false, false] (by kernel_rfl) rfl rfl ⟨(blk_cell BK132.out 0).trans rfl, (blk_cell BK132.out 1).trans rfl, (blk_cell BK132.out 2).trans rfl, (blk_cell BK132.out 3).trans rfl, (blk_cell BK134.out 0).trans rfl, (blk_cell BK134.out 1).trans rfl, (blk_cell BK134.out 2).trans rfl, (blk_cell BK134.out 3).trans rfl, ((HB.out.cell (World.block_lt_of_cell? w _ hw146_0)).trans hw146_0), ((HB.out.cell (World.block_lt_of_cell? w _ hw146_1)).trans hw146_1)⟩ (fun hHeld => ?_); refine with_tabW spec_l16Loans.tab7 spec_l16Loans.bits7 (fun HT_ HW_ => ?_)
             generalize w230.drew = w231 at BK132 BK134 BK145 HB HR146_0 HR146_1 hx146_0 hx146_1 hHeld ⊢
             refine pure_ (i := 0) (N := some 56) (v := ?_) (a' := ?_) #[true, false, false, false, false, false, false, false, false, false, false, false, false, false, false] rfl rfl (any_of HT_.out (by kernel_rfl)) (fun _ _ _ h => h) (Or.inl ⟨by rfl, ?_⟩) ?_ ?_
             rotate_left
             ·intro w'
              go_simp
              with_reducible rfl
             rotate_left
             ·simp only [Act.put, List.setIfInBounds_toArray, List.set_cons_zero, List.set_cons_succ, i64_w, i32_w]
              rfl
             refine pure_ (i := 2) (N := some 58) (v := ?_) (a' := ?_) #[true, false, true, false, false, false, false, false, false, false, false, false, false, false, false] rfl rfl (any_of HT_.out (by kernel_rfl)) (fun _ _ _ h => h) (Or.inl ⟨by rfl, ?_⟩) ?_ ?_
             rotate_left
             ·intro w'
              go_simp
              with_reducible rfl
             rotate_left
             ·simp only [Act.put, List.setIfInBounds_toArray, List.set_cons_zero, List.set_cons_succ, i64_w, i32_w]
              rfl
             refine pure_ (i := 6) (N := some 62) (v := ?_) (a' := ?_) #[true, false, true, false, false, false, true, false, false, false, false, false, false, false, false] rfl rfl (any_of HT_.out (by kernel_rfl)) (fun _ _ _ h => h) (Or.inl ⟨by rfl, ?_⟩) ?_ ?_
             rotate_left
             ·intro w'
              go_simp
              with_reducible rfl
             rotate_left
             ·simp only [Act.put, List.setIfInBounds_toArray, List.set_cons_zero, List.set_cons_succ, i64_w, i32_w]
              rfl
             refine take_ (i := 1) (N := some 57) (v := ?_) (a' := ?_) #[true, true, true, false, false, false, true, false, false, false, false, false, false, false, false] rfl rfl (take_ofW HT_.out HW_.out (by kernel_rfl)) (fun _ _ _ h => h) (Or.inl ⟨by rfl, ?_⟩) hHeld ?_ ?_
             rotate_left
             ·rintro w' ⟨s0, s1, s2, s3, s4, s5, s6, s7, s8, s9⟩
              go_simp
              with_reducible rfl
             rotate_left
             ·simp only [Act.put, List.setIfInBounds_toArray, List.set_cons_zero, List.set_cons_succ, i64_w, i32_w]
              rfl
             refine take_ (i := 3) (N := some 59) (v := ?_) (a' := ?_) #[true, true, true, true, false, false, true, false, false, false, false, false, false, false, false] rfl rfl (take_ofW HT_.out HW_.out (by kernel_rfl)) (fun _ _ _ h => h) (Or.inl ⟨by rfl, ?_⟩) hHeld ?_ ?_
             rotate_left
             ·rintro w' ⟨s0, s1, s2, s3, s4, s5, s6, s7, s8, s9⟩
              go_simp
              with_reducible rfl
             rotate_left
             ·simp only [Act.put, List.setIfInBounds_toArray, List.set_cons_zero, List.set_cons_succ, i64_w, i32_w]
              rfl
             refine pure_ (i := 4) (N := some 60) (v := ?_) (a' := ?_) #[true, true, true, true, true, false, true, false, false, false, false, false, false, false, false] rfl rfl (any_of HT_.out (by kernel_rfl)) (fun _ _ _ h => h) (Or.inl ⟨by rfl, ?_⟩) ?_ ?_
             rotate_left
             ·intro w'
              go_simp
              with_reducible rfl
             rotate_left
             ·simp only [Act.put, List.setIfInBounds_toArray, List.set_cons_zero, List.set_cons_succ, i64_w, i32_w]
              rfl
             refine take_ (i := 5) (N := some 61) (v := ?_) (a' := ?_) #[true, true, true, true, true, true, true, false, false, false, false, false, false, false, false] rfl rfl (take_ofW HT_.out HW_.out (by kernel_rfl)) (fun _ _ _ h => h) (Or.inl ⟨by rfl, ?_⟩) hHeld ?_ ?_
             rotate_left
             ·rintro w' ⟨s0, s1, s2, s3, s4, s5, s6, s7, s8, s9⟩
              go_simp
              with_reducible rfl
             rotate_left
             ·simp only [Act.put, List.setIfInBounds_toArray, List.set_cons_zero, List.set_cons_succ, i64_w, i32_w]
              rfl
             refine take_ (i := 7) (N := some 63) (v := ?_) (a' := ?_) #[true, true, true, true, true, true, true, true, false, false, false, false, false, false, false] rfl rfl (take_ofW HT_.out HW_.out (by kernel_rfl)) (fun _ _ _ h => h) (Or.inl ⟨by rfl, ?_⟩) hHeld ?_ ?_
             rotate_left
             ·rintro w' ⟨s0, s1, s2, s3, s4, s5, s6, s7, s8, s9⟩
              go_simp
              with_reducible rfl
             rotate_left
             ·simp only [Act.put, List.setIfInBounds_toArray, List.set_cons_zero, List.set_cons_succ, i64_w, i32_w]
              rfl
             refine join_ (σ := Nat) 2 #[true, true, true, true, true, true, true, true, true, true, true, true, true, false, false] (fun s_ => [(64, .tuple #[.agg #[.bool t147, .int .i64 t148, .int .i64 t149, .bool t150, .int .i64 t151, .int .i64 t152], .bool t153]), (7, .pointer (some ⟨s_, 0, none⟩)), (55, .tuple #[.agg #[.bool t147, .int .i64 t148, .int .i64 t149, .bool t150, .int .i64 t151, .int .i64 t152], .bool t153]), (65, .agg #[.bool t147, .int .i64 t148, .int .i64 t149, .bool t150, .int .i64 t151, .int .i64 t152]), (66, .bool t153)]) (fun s_ w' => (w'.cell? ⟨gb132, 0, none⟩ = some (.slice A0_0 l0_0.length c0_0) ∧ w'.cell? ⟨gb132, 1, none⟩ = some (.slice (some ad137) l0_1.length c0_1) ∧ w'.cell? ⟨gb132, 2, none⟩ = some (.slice (some ad133) l0_2.length c0_2) ∧ w'.cell? ⟨gb132, 3, none⟩ = some (.slice A0_3 l0_3.length c0_3) ∧ w'.cell? ⟨gb134, 0, none⟩ = some (.int .i64 ((rd_T155 l0_2 x20_1).f0)) ∧ w'.cell? ⟨gb134, 1, none⟩ = some (.int .i64 ((rd_T155 l0_2 x20_1).f1)) ∧ w'.cell? ⟨gb134, 2, none⟩ = some (.int .i64 ((rd_T155 l0_2 x20_1).f2)) ∧ w'.cell? ⟨gb134, 3, none⟩ = some (.int .i64 ((rd_T155 l0_2 x20_1).f3)) ∧ w'.cell? (ad137.add ((((rd_T155 l0_2 x20_1).f2)).toNat * 2)) = some (.slice A146_0 ((rd_T78 l0_1 ((rd_T155 l0_2 x20_1).f2)).f0).length c146_0) ∧ w'.cell? ⟨(ad137.add ((((rd_T155 l0_2 x20_1).f2)).toNat * 2)).block, (ad137.add ((((rd_T155 l0_2 x20_1).f2)).toNat * 2)).off + 1, none⟩ = some (.slice A146_1 ((rd_T78 l0_1 ((rd_T155 l0_2 x20_1).f2)).f1).length c146_1)) ∧ (w'.heap[gb132]? = some (.cells #[.slice A0_0 l0_0.length c0_0, .slice (some ad137) l0_1.length c0_1, .slice (some ad133) l0_2.length c0_2, .slice A0_3 l0_3.length c0_3] 45 (0, 0))) ∧ (w'.heap[gb134]? = some (.cells #[.int .i64 ((rd_T155 l0_2 x20_1).f0), .int .i64 ((rd_T155 l0_2 x20_1).f1), .int .i64 ((rd_T155 l0_2 x20_1).f2), .int .i64 ((rd_T155 l0_2 x20_1).f3)] 155 (0, 0))) ∧ (w'.heap[gb145]? = some (.cells #[.bool t138, .int .i64 t139, .int .i64 t140, .bool t141, .int .i64 t142, .int .i64 t143] 75 (0, 0))) ∧ (w'.heap[s_]? = some (.cells #[.bool false, .int .i64 0, .int .i64 0, .bool false, .int .i64 0, .int .i64 0] 75 (0, 0))) ∧ (w.heap.size ≤ s_) ∧ (w.heap.size ≤ s_) ∧ (gb132 ≠ s_) ∧ (s_ ≠ gb132) ∧ (gb134 ≠ s_) ∧ (s_ ≠ gb134) ∧ (gb145 ≠ s_) ∧ (s_ ≠ gb145) ∧ (Below w.heap.size w w')) ?_ ?_
             rotate_left
             ·intro hCont
              refine two_ (i := 8) (j := 12) (Ni := some 64) (Nj := some 7) #[true, true, true, true, true, true, true, true, true, false, false, false, false, false, false] #[true, true, true, true, true, true, true, true, false, false, false, false, true, false, false] rfl rfl rfl rfl (two_of HT_.out (by kernel_rfl)) (by decide) (by decide) (fun K hK => ?_) (fun K hK => ?_)
              ·skip
               refine goes_ Try.func125 (by kernel_rfl) rfl #[.agg #[.slice A146_0 ((rd_T78 l0_1 ((rd_T155 l0_2 x20_1).f2)).f0).length c146_0, .slice A146_1 ((rd_T78 l0_1 ((rd_T155 l0_2 x20_1).f2)).f1).length c146_1], .int .i64 ((rd_T155 l0_2 x20_1).f3)] (by rfl) rfl rfl (by (try simp only [List.map_toArray, List.map_cons, List.map_nil]); first | done | rfl | (simp only [List.length_drop, List.length_take]; rfl)) ?_
               with_reducible refine (spec_l16Used.calls _ _ ((rd_T78 l0_1 ((rd_T155 l0_2 x20_1).f2)).f0) _ _ ((rd_T78 l0_1 ((rd_T155 l0_2 x20_1).f2)).f1) ((rd_T155 l0_2 x20_1).f3) t147 t148 t149 t150 t151 t152 t153 _ ?side1 ?side2 ?side3 ?side4 A26.out).mono ?_
               (case side1 => repeat (first | exact (Kd.C_below HR146_0.out HB.out) | (with_reducible refine Kd.C_alloc ?_ _) | (with_reducible refine Kd.C_drewN ?_ _) | (with_reducible refine Kd.C_drew ?_)))
               (case side2 => exact HC146_0.out)
               (case side3 => repeat (first | exact (Kd.C_below HR146_1.out HB.out) | (with_reducible refine Kd.C_alloc ?_ _) | (with_reducible refine Kd.C_drewN ?_ _) | (with_reducible refine Kd.C_drew ?_)))
               (case side4 => exact HC146_1.out)
               rintro e w232 ⟨rfl, hb⟩
               refine ⟨_, rfl, ?_⟩
               have n0_ := Aside0.mk (blk_below (bk_ BK132.out) hb)
               have n1_ := Aside0.mk (blk_below (bk_ BK134.out) hb)
               have n2_ := Aside0.mk (blk_below (bk_ BK145.out) hb)
               have n3_ := Aside0.mk (below_step (by repeat (first | (with_reducible first | exact HB.out | apply eA | apply eN | apply eD | refine below_set ?_ GE132.out | refine below_set ?_ GE134.out | refine below_set ?_ GE145.out) | exact HB.out)) hb)
               clear BK132 BK134 BK145 HB
               have BK132 := n0_
               have BK134 := n1_
               have BK145 := n2_
               have HB := n3_
               clear n0_ n1_ n2_ n3_
               (try clear hb)
               (try clear hb2)
               (try clear hk)
               (try clear hi)
               refine hK.out _ _ ⟨(blk_cell BK132.out 0).trans rfl, (blk_cell BK132.out 1).trans rfl, (blk_cell BK132.out 2).trans rfl, (blk_cell BK132.out 3).trans rfl, (blk_cell BK134.out 0).trans rfl, (blk_cell BK134.out 1).trans rfl, (blk_cell BK134.out 2).trans rfl, (blk_cell BK134.out 3).trans rfl, ((HB.out.cell (World.block_lt_of_cell? w _ hw146_0)).trans hw146_0), ((HB.out.cell (World.block_lt_of_cell? w _ hw146_1)).trans hw146_1)⟩ (fun hHeld => ?_)
               clear hK K
               refine norm_ (a' := ?_) ?_ ?_
               rotate_left
               ·show Act.put _ (some 64) _ = _
                simp only [Act.put, List.setIfInBounds_toArray, List.set_cons_zero, List.set_cons_succ, i64_w, i32_w]
                rfl
               refine pure_ (i := 9) (N := some 55) (v := ?_) (a' := ?_) #[true, true, true, true, true, true, true, true, true, true, false, false, false, false, false] rfl rfl (any_of HT_.out (by kernel_rfl)) (fun _ _ _ h => h) (Or.inl ⟨by rfl, ?_⟩) ?_ ?_
               rotate_left
               ·intro w'
                go_simp
                with_reducible rfl
               rotate_left
               ·simp only [Act.put, List.setIfInBounds_toArray, List.set_cons_zero, List.set_cons_succ, i64_w, i32_w]
                rfl
               refine pure_ (i := 10) (N := some 65) (v := ?_) (a' := ?_) #[true, true, true, true, true, true, true, true, true, true, true, false, false, false, false] rfl rfl (any_of HT_.out (by kernel_rfl)) (fun _ _ _ h => h) (Or.inl ⟨by rfl, ?_⟩) ?_ ?_
               rotate_left
               ·intro w'
                go_simp
                with_reducible rfl
               rotate_left
               ·simp only [Act.put, List.setIfInBounds_toArray, List.set_cons_zero, List.set_cons_succ, i64_w, i32_w]
                rfl
               refine pure_ (i := 11) (N := some 66) (v := ?_) (a' := ?_) #[true, true, true, true, true, true, true, true, true, true, true, true, false, false, false] rfl rfl (any_of HT_.out (by kernel_rfl)) (fun _ _ _ h => h) (Or.inl ⟨by rfl, ?_⟩) ?_ ?_
               rotate_left
               ·intro w'
                go_simp
                with_reducible rfl
               rotate_left
               ·simp only [Act.put, List.setIfInBounds_toArray, List.set_cons_zero, List.set_cons_succ, i64_w, i32_w]
                rfl
               refine one_ (i := 12) (N := some 7) #[true, true, true, true, true, true, true, true, true, true, true, true, true, false, false] rfl rfl (one_of HT_.out (by kernel_rfl)) (by decide) (fun K hK => ?_)
               refine box_step ?hg (N := 7) ?hd (cs := #[.bool false, .int .i64 0, .int .i64 0, .bool false, .int .i64 0, .int .i64 0]) (t := 75) ?hr ?_; (case hd => rfl); (case hg => rfl); (case hr => first | (go_simp; done) | (go_simp; rfl))
               intro gb154 hg w233 hbox hb
               have n0_ := Aside0.mk (blk_below (bk_ BK132.out) hb)
               have n1_ := Aside0.mk (blk_below (bk_ BK134.out) hb)
               have n2_ := Aside0.mk (blk_below (bk_ BK145.out) hb)
               have n3_ := Aside0.mk (below_step (by repeat (first | (with_reducible first | exact HB.out | apply eA | apply eN | apply eD | refine below_set ?_ GE132.out | refine below_set ?_ GE134.out | refine below_set ?_ GE145.out) | exact HB.out)) hb)
               have n4_ := Aside0.mk (hbox)
               have n5_ := Aside0.mk (gs_ hg (by repeat (first | (with_reducible first | exact HB.out | apply eA | apply eN | apply eD | refine below_set ?_ GE132.out | refine below_set ?_ GE134.out | refine below_set ?_ GE145.out) | exact HB.out)) : w.heap.size ≤ gb154)
               have n6_ := Aside0.mk (gs_ hg (by repeat (first | (with_reducible first | exact HB.out | apply eA | apply eN | apply eD | refine below_set ?_ GE132.out | refine below_set ?_ GE134.out | refine below_set ?_ GE145.out) | exact HB.out)) : w.heap.size ≤ gb154)
               have n7_ := Aside0.mk ((by rw [hg]; exact Nat.ne_of_lt (blk_lt (g := gb132) (o := .cells #[.slice A0_0 l0_0.length c0_0, .slice (some ad137) l0_1.length c0_1, .slice (some ad133) l0_2.length c0_2, .slice A0_3 l0_3.length c0_3] 45 (0, 0)) (bk_ BK132.out)) : gb132 ≠ gb154))
               have n8_ := Aside0.mk ((by rw [hg]; exact Nat.ne_of_gt (blk_lt (g := gb132) (o := .cells #[.slice A0_0 l0_0.length c0_0, .slice (some ad137) l0_1.length c0_1, .slice (some ad133) l0_2.length c0_2, .slice A0_3 l0_3.length c0_3] 45 (0, 0)) (bk_ BK132.out)) : gb154 ≠ gb132))
               have n9_ := Aside0.mk ((by rw [hg]; exact Nat.ne_of_lt (blk_lt (g := gb134) (o := .cells #[.int .i64 ((rd_T155 l0_2 x20_1).f0), .int .i64 ((rd_T155 l0_2 x20_1).f1), .int .i64 ((rd_T155 l0_2 x20_1).f2), .int .i64 ((rd_T155 l0_2 x20_1).f3)] 155 (0, 0)) (bk_ BK134.out)) : gb134 ≠ gb154))
               have n10_ := Aside0.mk ((by rw [hg]; exact Nat.ne_of_gt (blk_lt (g := gb134) (o := .cells #[.int .i64 ((rd_T155 l0_2 x20_1).f0), .int .i64 ((rd_T155 l0_2 x20_1).f1), .int .i64 ((rd_T155 l0_2 x20_1).f2), .int .i64 ((rd_T155 l0_2 x20_1).f3)] 155 (0, 0)) (bk_ BK134.out)) : gb154 ≠ gb134))
               have n11_ := Aside0.mk ((by rw [hg]; exact Nat.ne_of_lt (blk_lt (g := gb145) (o := .cells #[.bool t138, .int .i64 t139, .int .i64 t140, .bool t141, .int .i64 t142, .int .i64 t143] 75 (0, 0)) (bk_ BK145.out)) : gb145 ≠ gb154))
               have n12_ := Aside0.mk ((by rw [hg]; exact Nat.ne_of_gt (blk_lt (g := gb145) (o := .cells #[.bool t138, .int .i64 t139, .int .i64 t140, .bool t141, .int .i64 t142, .int .i64 t143] 75 (0, 0)) (bk_ BK145.out)) : gb154 ≠ gb145))
               clear BK132 BK134 BK145 HB
               have BK132 := n0_
               have BK134 := n1_
               have BK145 := n2_
               have HB := n3_
               have BK154 := n4_
               have GW154 := n5_
               have GE154 := n6_
               have NB132_154 := n7_
               have NB154_132 := n8_
               have NB134_154 := n9_
               have NB154_134 := n10_
               have NB145_154 := n11_
               have NB154_145 := n12_
               clear n0_ n1_ n2_ n3_ n4_ n5_ n6_ n7_ n8_ n9_ n10_ n11_ n12_ hb hbox hg
               refine hK.out _ _ ⟨(blk_cell BK132.out 0).trans rfl, (blk_cell BK132.out 1).trans rfl, (blk_cell BK132.out 2).trans rfl, (blk_cell BK132.out 3).trans rfl, (blk_cell BK134.out 0).trans rfl, (blk_cell BK134.out 1).trans rfl, (blk_cell BK134.out 2).trans rfl, (blk_cell BK134.out 3).trans rfl, ((HB.out.cell (World.block_lt_of_cell? w _ hw146_0)).trans hw146_0), ((HB.out.cell (World.block_lt_of_cell? w _ hw146_1)).trans hw146_1)⟩ (fun hHeld => ?_)
               clear hK K
               refine norm_ (a' := ?_) ?_ ?_
               rotate_left
               ·show Act.put _ (some 7) _ = _
                simp only [Act.put, List.setIfInBounds_toArray, List.set_cons_zero, List.set_cons_succ, i64_w, i32_w]
                rfl
               exact norm_ (by simp only [putAll, Act.put, List.setIfInBounds_toArray, List.set_cons_zero, List.set_cons_succ]) (hCont (gb154) _ ⟨hHeld, (bk_ BK132.out), (bk_ BK134.out), (bk_ BK145.out), (bk_ BK154.out), GW154.out, GE154.out, NB132_154.out, NB154_132.out, NB134_154.out, NB154_134.out, NB145_154.out, NB154_145.out, (by repeat (first | (with_reducible first | exact HB.out | apply eA | apply eN | apply eD | refine below_set ?_ GE132.out | refine below_set ?_ GE134.out | refine below_set ?_ GE145.out | refine below_set ?_ GE154.out) | exact HB.out))⟩)
              ·skip
               refine box_step ?hg (N := 7) ?hd (cs := #[.bool false, .int .i64 0, .int .i64 0, .bool false, .int .i64 0, .int .i64 0]) (t := 75) ?hr ?_; (case hd => rfl); (case hg => rfl); (case hr => first | (go_simp; done) | (go_simp; rfl))
               intro gb154 hg w232 hbox hb
               have n0_ := Aside0.mk (blk_below (bk_ BK132.out) hb)
               have n1_ := Aside0.mk (blk_below (bk_ BK134.out) hb)
               have n2_ := Aside0.mk (blk_below (bk_ BK145.out) hb)
               have n3_ := Aside0.mk (below_step (by repeat (first | (with_reducible first | exact HB.out | apply eA | apply eN | apply eD | refine below_set ?_ GE132.out | refine below_set ?_ GE134.out | refine below_set ?_ GE145.out) | exact HB.out)) hb)
               have n4_ := Aside0.mk (hbox)
               have n5_ := Aside0.mk (gs_ hg (by repeat (first | (with_reducible first | exact HB.out | apply eA | apply eN | apply eD | refine below_set ?_ GE132.out | refine below_set ?_ GE134.out | refine below_set ?_ GE145.out) | exact HB.out)) : w.heap.size ≤ gb154)
               have n6_ := Aside0.mk (gs_ hg (by repeat (first | (with_reducible first | exact HB.out | apply eA | apply eN | apply eD | refine below_set ?_ GE132.out | refine below_set ?_ GE134.out | refine below_set ?_ GE145.out) | exact HB.out)) : w.heap.size ≤ gb154)
               have n7_ := Aside0.mk ((by rw [hg]; exact Nat.ne_of_lt (blk_lt (g := gb132) (o := .cells #[.slice A0_0 l0_0.length c0_0, .slice (some ad137) l0_1.length c0_1, .slice (some ad133) l0_2.length c0_2, .slice A0_3 l0_3.length c0_3] 45 (0, 0)) (bk_ BK132.out)) : gb132 ≠ gb154))
               have n8_ := Aside0.mk ((by rw [hg]; exact Nat.ne_of_gt (blk_lt (g := gb132) (o := .cells #[.slice A0_0 l0_0.length c0_0, .slice (some ad137) l0_1.length c0_1, .slice (some ad133) l0_2.length c0_2, .slice A0_3 l0_3.length c0_3] 45 (0, 0)) (bk_ BK132.out)) : gb154 ≠ gb132))
               have n9_ := Aside0.mk ((by rw [hg]; exact Nat.ne_of_lt (blk_lt (g := gb134) (o := .cells #[.int .i64 ((rd_T155 l0_2 x20_1).f0), .int .i64 ((rd_T155 l0_2 x20_1).f1), .int .i64 ((rd_T155 l0_2 x20_1).f2), .int .i64 ((rd_T155 l0_2 x20_1).f3)] 155 (0, 0)) (bk_ BK134.out)) : gb134 ≠ gb154))
               have n10_ := Aside0.mk ((by rw [hg]; exact Nat.ne_of_gt (blk_lt (g := gb134) (o := .cells #[.int .i64 ((rd_T155 l0_2 x20_1).f0), .int .i64 ((rd_T155 l0_2 x20_1).f1), .int .i64 ((rd_T155 l0_2 x20_1).f2), .int .i64 ((rd_T155 l0_2 x20_1).f3)] 155 (0, 0)) (bk_ BK134.out)) : gb154 ≠ gb134))
               have n11_ := Aside0.mk ((by rw [hg]; exact Nat.ne_of_lt (blk_lt (g := gb145) (o := .cells #[.bool t138, .int .i64 t139, .int .i64 t140, .bool t141, .int .i64 t142, .int .i64 t143] 75 (0, 0)) (bk_ BK145.out)) : gb145 ≠ gb154))
               have n12_ := Aside0.mk ((by rw [hg]; exact Nat.ne_of_gt (blk_lt (g := gb145) (o := .cells #[.bool t138, .int .i64 t139, .int .i64 t140, .bool t141, .int .i64 t142, .int .i64 t143] 75 (0, 0)) (bk_ BK145.out)) : gb154 ≠ gb145))
               clear BK132 BK134 BK145 HB
               have BK132 := n0_
               have BK134 := n1_
               have BK145 := n2_
               have HB := n3_
               have BK154 := n4_
               have GW154 := n5_
               have GE154 := n6_
               have NB132_154 := n7_
               have NB154_132 := n8_
               have NB134_154 := n9_
               have NB154_134 := n10_
               have NB145_154 := n11_
               have NB154_145 := n12_
               clear n0_ n1_ n2_ n3_ n4_ n5_ n6_ n7_ n8_ n9_ n10_ n11_ n12_ hb hbox hg
               refine hK.out _ _ ⟨(blk_cell BK132.out 0).trans rfl, (blk_cell BK132.out 1).trans rfl, (blk_cell BK132.out 2).trans rfl, (blk_cell BK132.out 3).trans rfl, (blk_cell BK134.out 0).trans rfl, (blk_cell BK134.out 1).trans rfl, (blk_cell BK134.out 2).trans rfl, (blk_cell BK134.out 3).trans rfl, ((HB.out.cell (World.block_lt_of_cell? w _ hw146_0)).trans hw146_0), ((HB.out.cell (World.block_lt_of_cell? w _ hw146_1)).trans hw146_1)⟩ (fun hHeld => ?_)
               clear hK K
               refine norm_ (a' := ?_) ?_ ?_
               rotate_left
               ·show Act.put _ (some 7) _ = _
                simp only [Act.put, List.setIfInBounds_toArray, List.set_cons_zero, List.set_cons_succ, i64_w, i32_w]
                rfl
               refine one_ (i := 8) (N := some 64) #[true, true, true, true, true, true, true, true, true, false, false, false, true, false, false] rfl rfl (one_of HT_.out (by kernel_rfl)) (by decide) (fun K hK => ?_)
               refine goes_ Try.func125 (by kernel_rfl) rfl #[.agg #[.slice A146_0 ((rd_T78 l0_1 ((rd_T155 l0_2 x20_1).f2)).f0).length c146_0, .slice A146_1 ((rd_T78 l0_1 ((rd_T155 l0_2 x20_1).f2)).f1).length c146_1], .int .i64 ((rd_T155 l0_2 x20_1).f3)] (by rfl) rfl rfl (by (try simp only [List.map_toArray, List.map_cons, List.map_nil]); first | done | rfl | (simp only [List.length_drop, List.length_take]; rfl)) ?_
               with_reducible refine (spec_l16Used.calls _ _ ((rd_T78 l0_1 ((rd_T155 l0_2 x20_1).f2)).f0) _ _ ((rd_T78 l0_1 ((rd_T155 l0_2 x20_1).f2)).f1) ((rd_T155 l0_2 x20_1).f3) t147 t148 t149 t150 t151 t152 t153 _ ?side1 ?side2 ?side3 ?side4 A26.out).mono ?_
               (case side1 => repeat (first | exact (Kd.C_below HR146_0.out HB.out) | (with_reducible refine Kd.C_alloc ?_ _) | (with_reducible refine Kd.C_drewN ?_ _) | (with_reducible refine Kd.C_drew ?_)))
               (case side2 => exact HC146_0.out)
               (case side3 => repeat (first | exact (Kd.C_below HR146_1.out HB.out) | (with_reducible refine Kd.C_alloc ?_ _) | (with_reducible refine Kd.C_drewN ?_ _) | (with_reducible refine Kd.C_drew ?_)))
               (case side4 => exact HC146_1.out)
               rintro e w233 ⟨rfl, hb⟩
               refine ⟨_, rfl, ?_⟩
               have n0_ := Aside0.mk (blk_below (bk_ BK132.out) hb)
               have n1_ := Aside0.mk (blk_below (bk_ BK134.out) hb)
               have n2_ := Aside0.mk (blk_below (bk_ BK145.out) hb)
               have n3_ := Aside0.mk (blk_below (bk_ BK154.out) hb)
               have n4_ := Aside0.mk (below_step (by repeat (first | (with_reducible first | exact HB.out | apply eA | apply eN | apply eD | refine below_set ?_ GE132.out | refine below_set ?_ GE134.out | refine below_set ?_ GE145.out | refine below_set ?_ GE154.out) | exact HB.out)) hb)
               clear BK132 BK134 BK145 BK154 HB
               have BK132 := n0_
               have BK134 := n1_
               have BK145 := n2_
               have BK154 := n3_
               have HB := n4_
               clear n0_ n1_ n2_ n3_ n4_
               (try clear hb)
               (try clear hb2)
               (try clear hk)
               (try clear hi)
               refine hK.out _ _ ⟨(blk_cell BK132.out 0).trans rfl, (blk_cell BK132.out 1).trans rfl, (blk_cell BK132.out 2).trans rfl, (blk_cell BK132.out 3).trans rfl, (blk_cell BK134.out 0).trans rfl, (blk_cell BK134.out 1).trans rfl, (blk_cell BK134.out 2).trans rfl, (blk_cell BK134.out 3).trans rfl, ((HB.out.cell (World.block_lt_of_cell? w _ hw146_0)).trans hw146_0), ((HB.out.cell (World.block_lt_of_cell? w _ hw146_1)).trans hw146_1)⟩ (fun hHeld => ?_)
               clear hK K
               refine norm_ (a' := ?_) ?_ ?_
               rotate_left
               ·show Act.put _ (some 64) _ = _
                simp only [Act.put, List.setIfInBounds_toArray, List.set_cons_zero, List.set_cons_succ, i64_w, i32_w]
                rfl
               refine pure_ (i := 9) (N := some 55) (v := ?_) (a' := ?_) #[true, true, true, true, true, true, true, true, true, true, false, false, true, false, false] rfl rfl (any_of HT_.out (by kernel_rfl)) (fun _ _ _ h => h) (Or.inl ⟨by rfl, ?_⟩) ?_ ?_
               rotate_left
               ·intro w'
                go_simp
                with_reducible rfl
               rotate_left
               ·simp only [Act.put, List.setIfInBounds_toArray, List.set_cons_zero, List.set_cons_succ, i64_w, i32_w]
                rfl
               refine pure_ (i := 10) (N := some 65) (v := ?_) (a' := ?_) #[true, true, true, true, true, true, true, true, true, true, true, false, true, false, false] rfl rfl (any_of HT_.out (by kernel_rfl)) (fun _ _ _ h => h) (Or.inl ⟨by rfl, ?_⟩) ?_ ?_
               rotate_left
               ·intro w'
                go_simp
                with_reducible rfl
               rotate_left
               ·simp only [Act.put, List.setIfInBounds_toArray, List.set_cons_zero, List.set_cons_succ, i64_w, i32_w]
                rfl
               refine pure_ (i := 11) (N := some 66) (v := ?_) (a' := ?_) #[true, true, true, true, true, true, true, true, true, true, true, true, true, false, false] rfl rfl (any_of HT_.out (by kernel_rfl)) (fun _ _ _ h => h) (Or.inl ⟨by rfl, ?_⟩) ?_ ?_
               rotate_left
               ·intro w'
                go_simp
                with_reducible rfl
               rotate_left
               ·simp only [Act.put, List.setIfInBounds_toArray, List.set_cons_zero, List.set_cons_succ, i64_w, i32_w]
                rfl
               exact norm_ (by simp only [putAll, Act.put, List.setIfInBounds_toArray, List.set_cons_zero, List.set_cons_succ]) (hCont (gb154) _ ⟨hHeld, (bk_ BK132.out), (bk_ BK134.out), (bk_ BK145.out), (bk_ BK154.out), GW154.out, GE154.out, NB132_154.out, NB154_132.out, NB134_154.out, NB154_134.out, NB145_154.out, NB154_145.out, (by repeat (first | (with_reducible first | exact HB.out | apply eA | apply eN | apply eD | refine below_set ?_ GE132.out | refine below_set ?_ GE134.out | refine below_set ?_ GE145.out | refine below_set ?_ GE154.out) | exact HB.out))⟩)
             rintro gb154 w234 ⟨hS_, h0_, h1_, h2_, h3_, h4_, h5_, h6_, h7_, h8_, h9_, h10_, h11_, h12_⟩
             have n0_ : Aside0 (w234.heap[gb132]? = some (.cells #[.slice A0_0 l0_0.length c0_0, .slice (some ad137) l0_1.length c0_1, .slice (some ad133) l0_2.length c0_2, .slice A0_3 l0_3.length c0_3] 45 (0, 0))) := ⟨h0_⟩
             have n1_ : Aside0 (w234.heap[gb134]? = some (.cells #[.int .i64 ((rd_T155 l0_2 x20_1).f0), .int .i64 ((rd_T155 l0_2 x20_1).f1), .int .i64 ((rd_T155 l0_2 x20_1).f2), .int .i64 ((rd_T155 l0_2 x20_1).f3)] 155 (0, 0))) := ⟨h1_⟩
             have n2_ : Aside0 (w234.heap[gb145]? = some (.cells #[.bool t138, .int .i64 t139, .int .i64 t140, .bool t141, .int .i64 t142, .int .i64 t143] 75 (0, 0))) := ⟨h2_⟩
             have n3_ : Aside0 (w234.heap[gb154]? = some (.cells #[.bool false, .int .i64 0, .int .i64 0, .bool false, .int .i64 0, .int .i64 0] 75 (0, 0))) := ⟨h3_⟩
             have n4_ : Aside0 (w.heap.size ≤ gb154) := ⟨h4_⟩
             have n5_ : Aside0 (w.heap.size ≤ gb154) := ⟨h5_⟩
             have n6_ : Aside0 (gb132 ≠ gb154) := ⟨h6_⟩
             have n7_ : Aside0 (gb154 ≠ gb132) := ⟨h7_⟩
             have n8_ : Aside0 (gb134 ≠ gb154) := ⟨h8_⟩
             have n9_ : Aside0 (gb154 ≠ gb134) := ⟨h9_⟩
             have n10_ : Aside0 (gb145 ≠ gb154) := ⟨h10_⟩
             have n11_ : Aside0 (gb154 ≠ gb145) := ⟨h11_⟩
             have n12_ : Aside0 (Below w.heap.size w w234) := ⟨h12_⟩
             clear BK132 BK134 BK145 HB h0_ h1_ h2_ h3_ h4_ h5_ h6_ h7_ h8_ h9_ h10_ h11_ h12_
             have BK132 := n0_
             have BK134 := n1_
             have BK145 := n2_
             have BK154 := n3_
             have GW154 := n4_
             have GE154 := n5_
             have NB132_154 := n6_
             have NB154_132 := n7_
             have NB134_154 := n8_
             have NB154_134 := n9_
             have NB145_154 := n10_
             have NB154_145 := n11_
             have HB := n12_
             clear n0_ n1_ n2_ n3_ n4_ n5_ n6_ n7_ n8_ n9_ n10_ n11_ n12_
             have hHeld : w234.cell? ⟨gb132, 0, none⟩ = some (.slice A0_0 l0_0.length c0_0) ∧ w234.cell? ⟨gb132, 1, none⟩ = some (.slice (some ad137) l0_1.length c0_1) ∧ w234.cell? ⟨gb132, 2, none⟩ = some (.slice (some ad133) l0_2.length c0_2) ∧ w234.cell? ⟨gb132, 3, none⟩ = some (.slice A0_3 l0_3.length c0_3) ∧ w234.cell? ⟨gb134, 0, none⟩ = some (.int .i64 ((rd_T155 l0_2 x20_1).f0)) ∧ w234.cell? ⟨gb134, 1, none⟩ = some (.int .i64 ((rd_T155 l0_2 x20_1).f1)) ∧ w234.cell? ⟨gb134, 2, none⟩ = some (.int .i64 ((rd_T155 l0_2 x20_1).f2)) ∧ w234.cell? ⟨gb134, 3, none⟩ = some (.int .i64 ((rd_T155 l0_2 x20_1).f3)) ∧ w234.cell? (ad137.add ((((rd_T155 l0_2 x20_1).f2)).toNat * 2)) = some (.slice A146_0 ((rd_T78 l0_1 ((rd_T155 l0_2 x20_1).f2)).f0).length c146_0) ∧ w234.cell? ⟨(ad137.add ((((rd_T155 l0_2 x20_1).f2)).toNat * 2)).block, (ad137.add ((((rd_T155 l0_2 x20_1).f2)).toNat * 2)).off + 1, none⟩ = some (.slice A146_1 ((rd_T78 l0_1 ((rd_T155 l0_2 x20_1).f2)).f1).length c146_1) := hS_
             refine norm_ (a' := ?_) ?_ ?_
             rotate_left
             ·simp only [putAll, Act.put, List.setIfInBounds_toArray, List.set_cons_zero, List.set_cons_succ]
              rfl
             refine one_ (i := 13) (N := none) #[true, true, true, true, true, true, true, true, true, true, true, true, true, true, false] rfl rfl (one_of HT_.out (by kernel_rfl)) (by decide) (fun K hK => ?_)
             have hs235 : w234.cell? ⟨gb154, 0, none⟩ = some (.bool false) := (blk_cell BK154.out 0).trans rfl
             have hfs235 := blk_frozen BK154.out 0
             have hns235_0 := NB132_154.out
             have hns235_1 := NB134_154.out
             have hns235_2 := NB145_154.out
             have hms235_0 := NB154_132.out
             have hms235_1 := NB154_134.out
             have hms235_2 := NB154_145.out
             have hs236 : w234.cell? ⟨gb154, 1, none⟩ = some (.int .i64 0) := (blk_cell BK154.out 1).trans rfl
             have hfs236 := blk_frozen BK154.out 1
             have hns236_0 := NB132_154.out
             have hns236_1 := NB134_154.out
             have hns236_2 := NB145_154.out
             have hms236_0 := NB154_132.out
             have hms236_1 := NB154_134.out
             have hms236_2 := NB154_145.out
             have hs237 : w234.cell? ⟨gb154, 2, none⟩ = some (.int .i64 0) := (blk_cell BK154.out 2).trans rfl
             have hfs237 := blk_frozen BK154.out 2
             have hns237_0 := NB132_154.out
             have hns237_1 := NB134_154.out
             have hns237_2 := NB145_154.out
             have hms237_0 := NB154_132.out
             have hms237_1 := NB154_134.out
             have hms237_2 := NB154_145.out
             have hs238 : w234.cell? ⟨gb154, 3, none⟩ = some (.bool false) := (blk_cell BK154.out 3).trans rfl
             have hfs238 := blk_frozen BK154.out 3
             have hns238_0 := NB132_154.out
             have hns238_1 := NB134_154.out
             have hns238_2 := NB145_154.out
             have hms238_0 := NB154_132.out
             have hms238_1 := NB154_134.out
             have hms238_2 := NB154_145.out
             have hs239 : w234.cell? ⟨gb154, 4, none⟩ = some (.int .i64 0) := (blk_cell BK154.out 4).trans rfl
             have hfs239 := blk_frozen BK154.out 4
             have hns239_0 := NB132_154.out
             have hns239_1 := NB134_154.out
             have hns239_2 := NB145_154.out
             have hms239_0 := NB154_132.out
             have hms239_1 := NB154_134.out
             have hms239_2 := NB154_145.out
             have hs240 : w234.cell? ⟨gb154, 5, none⟩ = some (.int .i64 0) := (blk_cell BK154.out 5).trans rfl
             have hfs240 := blk_frozen BK154.out 5
             have hns240_0 := NB132_154.out
             have hns240_1 := NB134_154.out
             have hns240_2 := NB145_154.out
             have hms240_0 := NB154_132.out
             have hms240_1 := NB154_134.out
             have hms240_2 := NB154_145.out
             refine skip_ (w1 := ?_) (by rfl) rfl ?_ ?_
             rotate_left
             ·go_simp
              rfl
             refine hK.out _ _ ⟨((cell_far (p := ⟨gb154, _, none⟩) NB132_154.out _).trans (((cell_far (p := ⟨gb154, _, none⟩) NB132_154.out _).trans (((cell_far (p := ⟨gb154, _, none⟩) NB132_154.out _).trans (((cell_far (p := ⟨gb154, _, none⟩) NB132_154.out _).trans (((cell_far (p := ⟨gb154, _, none⟩) NB132_154.out _).trans (((cell_far (p := ⟨gb154, _, none⟩) NB132_154.out _).trans (hHeld.1)))))))))))), ((cell_far (p := ⟨gb154, _, none⟩) NB132_154.out _).trans (((cell_far (p := ⟨gb154, _, none⟩) NB132_154.out _).trans (((cell_far (p := ⟨gb154, _, none⟩) NB132_154.out _).trans (((cell_far (p := ⟨gb154, _, none⟩) NB132_154.out _).trans (((cell_far (p := ⟨gb154, _, none⟩) NB132_154.out _).trans (((cell_far (p := ⟨gb154, _, none⟩) NB132_154.out _).trans (hHeld.2.1)))))))))))), ((cell_far (p := ⟨gb154, _, none⟩) NB132_154.out _).trans (((cell_far (p := ⟨gb154, _, none⟩) NB132_154.out _).trans (((cell_far (p := ⟨gb154, _, none⟩) NB132_154.out _).trans (((cell_far (p := ⟨gb154, _, none⟩) NB132_154.out _).trans (((cell_far (p := ⟨gb154, _, none⟩) NB132_154.out _).trans (((cell_far (p := ⟨gb154, _, none⟩) NB132_154.out _).trans (hHeld.2.2.1)))))))))))), ((cell_far (p := ⟨gb154, _, none⟩) NB132_154.out _).trans (((cell_far (p := ⟨gb154, _, none⟩) NB132_154.out _).trans (((cell_far (p := ⟨gb154, _, none⟩) NB132_154.out _).trans (((cell_far (p := ⟨gb154, _, none⟩) NB132_154.out _).trans (((cell_far (p := ⟨gb154, _, none⟩) NB132_154.out _).trans (((cell_far (p := ⟨gb154, _, none⟩) NB132_154.out _).trans (hHeld.2.2.2.1)))))))))))), ((cell_far (p := ⟨gb154, _, none⟩) NB134_154.out _).trans (((cell_far (p := ⟨gb154, _, none⟩) NB134_154.out _).trans (((cell_far (p := ⟨gb154, _, none⟩) NB134_154.out _).trans (((cell_far (p := ⟨gb154, _, none⟩) NB134_154.out _).trans (((cell_far (p := ⟨gb154, _, none⟩) NB134_154.out _).trans (((cell_far (p := ⟨gb154, _, none⟩) NB134_154.out _).trans (hHeld.2.2.2.2.1)))))))))))), ((cell_far (p := ⟨gb154, _, none⟩) NB134_154.out _).trans (((cell_far (p := ⟨gb154, _, none⟩) NB134_154.out _).trans (((cell_far (p := ⟨gb154, _, none⟩) NB134_154.out _).trans (((cell_far (p := ⟨gb154, _, none⟩) NB134_154.out _).trans (((cell_far (p := ⟨gb154, _, none⟩) NB134_154.out _).trans (((cell_far (p := ⟨gb154, _, none⟩) NB134_154.out _).trans (hHeld.2.2.2.2.2.1)))))))))))), ((cell_far (p := ⟨gb154, _, none⟩) NB134_154.out _).trans (((cell_far (p := ⟨gb154, _, none⟩) NB134_154.out _).trans (((cell_far (p := ⟨gb154, _, none⟩) NB134_154.out _).trans (((cell_far (p := ⟨gb154, _, none⟩) NB134_154.out _).trans (((cell_far (p := ⟨gb154, _, none⟩) NB134_154.out _).trans (((cell_far (p := ⟨gb154, _, none⟩) NB134_154.out _).trans (hHeld.2.2.2.2.2.2.1)))))))))))), ((cell_far (p := ⟨gb154, _, none⟩) NB134_154.out _).trans (((cell_far (p := ⟨gb154, _, none⟩) NB134_154.out _).trans (((cell_far (p := ⟨gb154, _, none⟩) NB134_154.out _).trans (((cell_far (p := ⟨gb154, _, none⟩) NB134_154.out _).trans (((cell_far (p := ⟨gb154, _, none⟩) NB134_154.out _).trans (((cell_far (p := ⟨gb154, _, none⟩) NB134_154.out _).trans (hHeld.2.2.2.2.2.2.2.1)))))))))))), ((cell_far (p := ⟨gb154, _, none⟩) (by first | exact Nat.ne_of_lt (Nat.lt_of_lt_of_le (by have := World.block_lt_of_cell? _ _ hw146_0; first | rwa [add_block] at this | exact this) GW154.out) | (rw [add_block]; exact Nat.ne_of_lt (Nat.lt_of_lt_of_le (by have := World.block_lt_of_cell? _ _ hw146_0; first | rwa [add_block] at this | exact this) GW154.out)) | (show (Addr.add _ _).block ≠ _; rw [add_block]; exact Nat.ne_of_lt (Nat.lt_of_lt_of_le (by have := World.block_lt_of_cell? _ _ hw146_0; first | rwa [add_block] at this | exact this) GW154.out)) | (dsimp only; exact Nat.ne_of_lt (Nat.lt_of_lt_of_le (by have := World.block_lt_of_cell? _ _ hw146_0; first | rwa [add_block] at this | exact this) GW154.out))) _).trans (((cell_far (p := ⟨gb154, _, none⟩) (by first | exact Nat.ne_of_lt (Nat.lt_of_lt_of_le (by have := World.block_lt_of_cell? _ _ hw146_0; first | rwa [add_block] at this | exact this) GW154.out) | (rw [add_block]; exact Nat.ne_of_lt (Nat.lt_of_lt_of_le (by have := World.block_lt_of_cell? _ _ hw146_0; first | rwa [add_block] at this | exact this) GW154.out)) | (show (Addr.add _ _).block ≠ _; rw [add_block]; exact Nat.ne_of_lt (Nat.lt_of_lt_of_le (by have := World.block_lt_of_cell? _ _ hw146_0; first | rwa [add_block] at this | exact this) GW154.out)) | (dsimp only; exact Nat.ne_of_lt (Nat.lt_of_lt_of_le (by have := World.block_lt_of_cell? _ _ hw146_0; first | rwa [add_block] at this | exact this) GW154.out))) _).trans (((cell_far (p := ⟨gb154, _, none⟩) (by first | exact Nat.ne_of_lt (Nat.lt_of_lt_of_le (by have := World.block_lt_of_cell? _ _ hw146_0; first | rwa [add_block] at this | exact this) GW154.out) | (rw [add_block]; exact Nat.ne_of_lt (Nat.lt_of_lt_of_le (by have := World.block_lt_of_cell? _ _ hw146_0; first | rwa [add_block] at this | exact this) GW154.out)) | (show (Addr.add _ _).block ≠ _; rw [add_block]; exact Nat.ne_of_lt (Nat.lt_of_lt_of_le (by have := World.block_lt_of_cell? _ _ hw146_0; first | rwa [add_block] at this | exact this) GW154.out)) | (dsimp only; exact Nat.ne_of_lt (Nat.lt_of_lt_of_le (by have := World.block_lt_of_cell? _ _ hw146_0; first | rwa [add_block] at this | exact this) GW154.out))) _).trans (((cell_far (p := ⟨gb154, _, none⟩) (by first | exact Nat.ne_of_lt (Nat.lt_of_lt_of_le (by have := World.block_lt_of_cell? _ _ hw146_0; first | rwa [add_block] at this | exact this) GW154.out) | (rw [add_block]; exact Nat.ne_of_lt (Nat.lt_of_lt_of_le (by have := World.block_lt_of_cell? _ _ hw146_0; first | rwa [add_block] at this | exact this) GW154.out)) | (show (Addr.add _ _).block ≠ _; rw [add_block]; exact Nat.ne_of_lt (Nat.lt_of_lt_of_le (by have := World.block_lt_of_cell? _ _ hw146_0; first | rwa [add_block] at this | exact this) GW154.out)) | (dsimp only; exact Nat.ne_of_lt (Nat.lt_of_lt_of_le (by have := World.block_lt_of_cell? _ _ hw146_0; first | rwa [add_block] at this | exact this) GW154.out))) _).trans (((cell_far (p := ⟨gb154, _, none⟩) (by first | exact Nat.ne_of_lt (Nat.lt_of_lt_of_le (by have := World.block_lt_of_cell? _ _ hw146_0; first | rwa [add_block] at this | exact this) GW154.out) | (rw [add_block]; exact Nat.ne_of_lt (Nat.lt_of_lt_of_le (by have := World.block_lt_of_cell? _ _ hw146_0; first | rwa [add_block] at this | exact this) GW154.out)) | (show (Addr.add _ _).block ≠ _; rw [add_block]; exact Nat.ne_of_lt (Nat.lt_of_lt_of_le (by have := World.block_lt_of_cell? _ _ hw146_0; first | rwa [add_block] at this | exact this) GW154.out)) | (dsimp only; exact Nat.ne_of_lt (Nat.lt_of_lt_of_le (by have := World.block_lt_of_cell? _ _ hw146_0; first | rwa [add_block] at this | exact this) GW154.out))) _).trans (((cell_far (p := ⟨gb154, _, none⟩) (by first | exact Nat.ne_of_lt (Nat.lt_of_lt_of_le (by have := World.block_lt_of_cell? _ _ hw146_0; first | rwa [add_block] at this | exact this) GW154.out) | (rw [add_block]; exact Nat.ne_of_lt (Nat.lt_of_lt_of_le (by have := World.block_lt_of_cell? _ _ hw146_0; first | rwa [add_block] at this | exact this) GW154.out)) | (show (Addr.add _ _).block ≠ _; rw [add_block]; exact Nat.ne_of_lt (Nat.lt_of_lt_of_le (by have := World.block_lt_of_cell? _ _ hw146_0; first | rwa [add_block] at this | exact this) GW154.out)) | (dsimp only; exact Nat.ne_of_lt (Nat.lt_of_lt_of_le (by have := World.block_lt_of_cell? _ _ hw146_0; first | rwa [add_block] at this | exact this) GW154.out))) _).trans (hHeld.2.2.2.2.2.2.2.2.1)))))))))))), ((cell_far (p := ⟨gb154, _, none⟩) (by first | exact Nat.ne_of_lt (Nat.lt_of_lt_of_le (by have := World.block_lt_of_cell? _ _ hw146_1; first | rwa [add_block] at this | exact this) GW154.out) | (rw [add_block]; exact Nat.ne_of_lt (Nat.lt_of_lt_of_le (by have := World.block_lt_of_cell? _ _ hw146_1; first | rwa [add_block] at this | exact this) GW154.out)) | (show (Addr.add _ _).block ≠ _; rw [add_block]; exact Nat.ne_of_lt (Nat.lt_of_lt_of_le (by have := World.block_lt_of_cell? _ _ hw146_1; first | rwa [add_block] at this | exact this) GW154.out)) | (dsimp only; exact Nat.ne_of_lt (Nat.lt_of_lt_of_le (by have := World.block_lt_of_cell? _ _ hw146_1; first | rwa [add_block] at this | exact this) GW154.out))) _).trans (((cell_far (p := ⟨gb154, _, none⟩) (by first | exact Nat.ne_of_lt (Nat.lt_of_lt_of_le (by have := World.block_lt_of_cell? _ _ hw146_1; first | rwa [add_block] at this | exact this) GW154.out) | (rw [add_block]; exact Nat.ne_of_lt (Nat.lt_of_lt_of_le (by have := World.block_lt_of_cell? _ _ hw146_1; first | rwa [add_block] at this | exact this) GW154.out)) | (show (Addr.add _ _).block ≠ _; rw [add_block]; exact Nat.ne_of_lt (Nat.lt_of_lt_of_le (by have := World.block_lt_of_cell? _ _ hw146_1; first | rwa [add_block] at this | exact this) GW154.out)) | (dsimp only; exact Nat.ne_of_lt (Nat.lt_of_lt_of_le (by have := World.block_lt_of_cell? _ _ hw146_1; first | rwa [add_block] at this | exact this) GW154.out))) _).trans (((cell_far (p := ⟨gb154, _, none⟩) (by first | exact Nat.ne_of_lt (Nat.lt_of_lt_of_le (by have := World.block_lt_of_cell? _ _ hw146_1; first | rwa [add_block] at this | exact this) GW154.out) | (rw [add_block]; exact Nat.ne_of_lt (Nat.lt_of_lt_of_le (by have := World.block_lt_of_cell? _ _ hw146_1; first | rwa [add_block] at this | exact this) GW154.out)) | (show (Addr.add _ _).block ≠ _; rw [add_block]; exact Nat.ne_of_lt (Nat.lt_of_lt_of_le (by have := World.block_lt_of_cell? _ _ hw146_1; first | rwa [add_block] at this | exact this) GW154.out)) | (dsimp only; exact Nat.ne_of_lt (Nat.lt_of_lt_of_le (by have := World.block_lt_of_cell? _ _ hw146_1; first | rwa [add_block] at this | exact this) GW154.out))) _).trans (((cell_far (p := ⟨gb154, _, none⟩) (by first | exact Nat.ne_of_lt (Nat.lt_of_lt_of_le (by have := World.block_lt_of_cell? _ _ hw146_1; first | rwa [add_block] at this | exact this) GW154.out) | (rw [add_block]; exact Nat.ne_of_lt (Nat.lt_of_lt_of_le (by have := World.block_lt_of_cell? _ _ hw146_1; first | rwa [add_block] at this | exact this) GW154.out)) | (show (Addr.add _ _).block ≠ _; rw [add_block]; exact Nat.ne_of_lt (Nat.lt_of_lt_of_le (by have := World.block_lt_of_cell? _ _ hw146_1; first | rwa [add_block] at this | exact this) GW154.out)) | (dsimp only; exact Nat.ne_of_lt (Nat.lt_of_lt_of_le (by have := World.block_lt_of_cell? _ _ hw146_1; first | rwa [add_block] at this | exact this) GW154.out))) _).trans (((cell_far (p := ⟨gb154, _, none⟩) (by first | exact Nat.ne_of_lt (Nat.lt_of_lt_of_le (by have := World.block_lt_of_cell? _ _ hw146_1; first | rwa [add_block] at this | exact this) GW154.out) | (rw [add_block]; exact Nat.ne_of_lt (Nat.lt_of_lt_of_le (by have := World.block_lt_of_cell? _ _ hw146_1; first | rwa [add_block] at this | exact this) GW154.out)) | (show (Addr.add _ _).block ≠ _; rw [add_block]; exact Nat.ne_of_lt (Nat.lt_of_lt_of_le (by have := World.block_lt_of_cell? _ _ hw146_1; first | rwa [add_block] at this | exact this) GW154.out)) | (dsimp only; exact Nat.ne_of_lt (Nat.lt_of_lt_of_le (by have := World.block_lt_of_cell? _ _ hw146_1; first | rwa [add_block] at this | exact this) GW154.out))) _).trans (((cell_far (p := ⟨gb154, _, none⟩) (by first | exact Nat.ne_of_lt (Nat.lt_of_lt_of_le (by have := World.block_lt_of_cell? _ _ hw146_1; first | rwa [add_block] at this | exact this) GW154.out) | (rw [add_block]; exact Nat.ne_of_lt (Nat.lt_of_lt_of_le (by have := World.block_lt_of_cell? _ _ hw146_1; first | rwa [add_block] at this | exact this) GW154.out)) | (show (Addr.add _ _).block ≠ _; rw [add_block]; exact Nat.ne_of_lt (Nat.lt_of_lt_of_le (by have := World.block_lt_of_cell? _ _ hw146_1; first | rwa [add_block] at this | exact this) GW154.out)) | (dsimp only; exact Nat.ne_of_lt (Nat.lt_of_lt_of_le (by have := World.block_lt_of_cell? _ _ hw146_1; first | rwa [add_block] at this | exact this) GW154.out))) _).trans (hHeld.2.2.2.2.2.2.2.2.2))))))))))))⟩ (fun hHeld => ?_)
             clear hK K
             refine pure_ (i := 14) (N := some 8) (v := ?_) (a' := ?_) #[true, true, true, true, true, true, true, true, true, true, true, true, true, true, true] rfl rfl (any_of HT_.out (by kernel_rfl)) (fun _ _ _ h => h) (Or.inl ⟨by rfl, ?_⟩) ?_ ?_
             rotate_left
             ·intro w'
              go_simp
              with_reducible rfl
             rotate_left
             ·simp only [Act.put, List.setIfInBounds_toArray, List.set_cons_zero, List.set_cons_succ, i64_w, i32_w]
              rfl
             refine done_ (done_of HT_.out (by kernel_rfl)) ?_
             have hnb52 := NB145_132.out
             have hnc52 := NB132_145.out
             have hnb53 := NB145_134.out
             have hnc53 := NB134_145.out
             have hnb54 := NB145_154.out
             have hnc54 := NB154_145.out
             obtain ⟨_, _, _, _, _, _, _, _, _, _, _, _⟩ := zc6_ BK145.out
             have hnb56 := NB154_132.out
             have hnc56 := NB132_154.out
             have hnb57 := NB154_134.out
             have hnc57 := NB134_154.out
             obtain ⟨_, _, _, _, _, _, _, _, _, _, _, _⟩ := zc6_ BK154.out
             have H := HCx.out
             clear HCx
             by_cases c27 : t144 = true
             ·subst c27
              have H1 : (if t153 = true then (if t141 = true then (if t150 = true then (some false) else (if t139 = t148 then (if t140 = t149 then (if t152 = (wrap64 (x20_1 + 1)) then (spec_l16Loans.l0 kj6 l0_2 (l0_2.length : Int) (wrap64 (x20_1 + 1)) l0_0 l0_1 l0_2 l0_3) else (some false)) else (some false)) else (some false))) else (some false)) else (some false)) = some r := by rw [if_pos rfl] at H; first | done | exact H
              clear H
              have H := H1
              clear H1
              by_cases c28 : t153 = true
              ·subst c28
               have H1 : (if t141 = true then (if t150 = true then (some false) else (if t139 = t148 then (if t140 = t149 then (if t152 = (wrap64 (x20_1 + 1)) then (spec_l16Loans.l0 kj6 l0_2 (l0_2.length : Int) (wrap64 (x20_1 + 1)) l0_0 l0_1 l0_2 l0_3) else (some false)) else (some false)) else (some false))) else (some false)) = some r := by rw [if_pos rfl] at H; first | done | exact H
               clear H
               have H := H1
               clear H1
               by_cases c29 : t141 = true
               ·subst c29
                have H1 : (if t150 = true then (some false) else (if t139 = t148 then (if t140 = t149 then (if t152 = (wrap64 (x20_1 + 1)) then (spec_l16Loans.l0 kj6 l0_2 (l0_2.length : Int) (wrap64 (x20_1 + 1)) l0_0 l0_1 l0_2 l0_3) else (some false)) else (some false)) else (some false))) = some r := by rw [if_pos rfl] at H; first | done | exact H
                clear H
                have H := H1
                clear H1
                by_cases c30 : t150 = true
                ·subst c30
                 have H1 : (some false) = some r := by rw [if_pos rfl] at H; first | done | exact H
                 clear H
                 have H := H1
                 clear H1
                 obtain rfl := Option.some.inj H
                 try go_wp2
                 go_ret
                 exact ⟨by first | rfl | (simp [errW_none, errW_some] <;> rfl) | (simp [*, errW_none, errW_some] <;> rfl), by repeat (first | (with_reducible first | exact HB.out | apply eA | apply eN | apply eD | refine below_set ?_ GE132.out | refine below_set ?_ GE134.out | refine below_set ?_ GE145.out | refine below_set ?_ GE154.out) | exact HB.out)⟩
                ·replace c30 := Bool.eq_false_iff.mpr c30
                 subst c30
                 have H1 : (if t139 = t148 then (if t140 = t149 then (if t152 = (wrap64 (x20_1 + 1)) then (spec_l16Loans.l0 kj6 l0_2 (l0_2.length : Int) (wrap64 (x20_1 + 1)) l0_0 l0_1 l0_2 l0_3) else (some false)) else (some false)) else (some false)) = some r := by rw [if_neg (show ¬ (false = true) by decide)] at H; first | done | exact H
                 clear H
                 have H := H1
                 clear H1
                 by_cases c59 : t139 = t148
                 ·rw [if_pos c59] at H
                  have c59b0 : (t139 == t148) = true := beq_iff_eq.mpr c59
                  have c59b1 : (t139 != t148) = false := bne_eq_false_iff_eq.mpr c59
                  clear c59
                  by_cases c60 : t140 = t149
                  ·rw [if_pos c60] at H
                   have c60b0 : (t140 == t149) = true := beq_iff_eq.mpr c60
                   have c60b1 : (t140 != t149) = false := bne_eq_false_iff_eq.mpr c60
                   clear c60
                   by_cases c61 : t152 = (wrap64 (x20_1 + 1))
                   ·rw [if_pos c61] at H
                    have c61b0 : (t152 == (wrap64 (x20_1 + 1))) = true := beq_iff_eq.mpr c61
                    have c61b1 : (t152 != (wrap64 (x20_1 + 1))) = false := bne_eq_false_iff_eq.mpr c61
                    clear c61
                    have H' := Aside0.mk H
                    clear H
                    try go_wp2
                    go_roundg kj6
                    case measure => have := HK1.out; have := HJ6.out; omega
                    case rel => exact ⟨(wrap64 (x20_1 + 1)), (by first | rfl | (simp; done) | (simp [*]; done)), H', ⟨by have := HK1.out; have := HJ6.out; omega⟩, ⟨by (with_reducible repeat first | apply bN | apply bD | apply bA); refine blk_far ?_ NB132_154.out _; (with_reducible repeat first | apply bN | apply bD | apply bA); refine blk_far ?_ NB132_154.out _; (with_reducible repeat first | apply bN | apply bD | apply bA); refine blk_far ?_ NB132_154.out _; (with_reducible repeat first | apply bN | apply bD | apply bA); refine blk_far ?_ NB132_154.out _; (with_reducible repeat first | apply bN | apply bD | apply bA); refine blk_far ?_ NB132_154.out _; (with_reducible repeat first | apply bN | apply bD | apply bA); refine blk_far ?_ NB132_154.out _; (with_reducible repeat first | apply bN | apply bD | apply bA); exact BK132.out⟩, ⟨by repeat (first | (with_reducible first | exact HB.out | apply eA | apply eN | apply eD | refine below_set ?_ GE132.out | refine below_set ?_ GE134.out | refine below_set ?_ GE145.out | refine below_set ?_ GE154.out) | exact HB.out)⟩⟩
                   ·rw [if_neg c61] at H
                    have c61b0 : (t152 == (wrap64 (x20_1 + 1))) = false := beq_eq_false_iff_ne.mpr c61
                    have c61b1 : (t152 != (wrap64 (x20_1 + 1))) = true := bne_iff_ne.mpr c61
                    obtain rfl := Option.some.inj H
                    try go_wp2
                    go_ret
                    exact ⟨by first | rfl | (simp [errW_none, errW_some] <;> rfl) | (simp [*, errW_none, errW_some] <;> rfl), by repeat (first | (with_reducible first | exact HB.out | apply eA | apply eN | apply eD | refine below_set ?_ GE132.out | refine below_set ?_ GE134.out | refine below_set ?_ GE145.out | refine below_set ?_ GE154.out) | exact HB.out)⟩
                  ·rw [if_neg c60] at H
                   have c60b0 : (t140 == t149) = false := beq_eq_false_iff_ne.mpr c60
                   have c60b1 : (t140 != t149) = true := bne_iff_ne.mpr c60
                   obtain rfl := Option.some.inj H
                   try go_wp2
                   go_ret
                   exact ⟨by first | rfl | (simp [errW_none, errW_some] <;> rfl) | (simp [*, errW_none, errW_some] <;> rfl), by repeat (first | (with_reducible first | exact HB.out | apply eA | apply eN | apply eD | refine below_set ?_ GE132.out | refine below_set ?_ GE134.out | refine below_set ?_ GE145.out | refine below_set ?_ GE154.out) | exact HB.out)⟩
                 ·rw [if_neg c59] at H
                  have c59b0 : (t139 == t148) = false := beq_eq_false_iff_ne.mpr c59
                  have c59b1 : (t139 != t148) = true := bne_iff_ne.mpr c59
                  obtain rfl := Option.some.inj H
                  try go_wp2
                  go_ret
                  exact ⟨by first | rfl | (simp [errW_none, errW_some] <;> rfl) | (simp [*, errW_none, errW_some] <;> rfl), by repeat (first | (with_reducible first | exact HB.out | apply eA | apply eN | apply eD | refine below_set ?_ GE132.out | refine below_set ?_ GE134.out | refine below_set ?_ GE145.out | refine below_set ?_ GE154.out) | exact HB.out)⟩
               ·replace c29 := Bool.eq_false_iff.mpr c29
                subst c29
                have H1 : (some false) = some r := by rw [if_neg (show ¬ (false = true) by decide)] at H; first | done | exact H
                clear H
                have H := H1
                clear H1
                obtain rfl := Option.some.inj H
                try go_wp2
                go_ret
                exact ⟨by first | rfl | (simp [errW_none, errW_some] <;> rfl) | (simp [*, errW_none, errW_some] <;> rfl), by repeat (first | (with_reducible first | exact HB.out | apply eA | apply eN | apply eD | refine below_set ?_ GE132.out | refine below_set ?_ GE134.out | refine below_set ?_ GE145.out | refine below_set ?_ GE154.out) | exact HB.out)⟩
              ·replace c28 := Bool.eq_false_iff.mpr c28
               subst c28
               have H1 : (some false) = some r := by rw [if_neg (show ¬ (false = true) by decide)] at H; first | done | exact H
               clear H
               have H := H1
               clear H1
               obtain rfl := Option.some.inj H
               try go_wp2
               go_ret
               exact ⟨by first | rfl | (simp [errW_none, errW_some] <;> rfl) | (simp [*, errW_none, errW_some] <;> rfl), by repeat (first | (with_reducible first | exact HB.out | apply eA | apply eN | apply eD | refine below_set ?_ GE132.out | refine below_set ?_ GE134.out | refine below_set ?_ GE145.out | refine below_set ?_ GE154.out) | exact HB.out)⟩
             ·replace c27 := Bool.eq_false_iff.mpr c27
              subst c27
              have H1 : (some false) = some r := by rw [if_neg (show ¬ (false = true) by decide)] at H; first | done | exact H
              clear H
              have H := H1
              clear H1
              obtain rfl := Option.some.inj H
              try go_wp2
              go_ret
              exact ⟨by first | rfl | (simp [errW_none, errW_some] <;> rfl) | (simp [*, errW_none, errW_some] <;> rfl), by repeat (first | (with_reducible first | exact HB.out | apply eA | apply eN | apply eD | refine below_set ?_ GE132.out | refine below_set ?_ GE134.out | refine below_set ?_ GE145.out | refine below_set ?_ GE154.out) | exact HB.out)⟩
            ·rw [if_neg c25] at H
             exact absurd H (by simp)
           ·rw [if_neg c24] at H
            exact absurd H (by simp)
          ·rw [if_neg c22] at H
           exact absurd H (by simp)
         ·rw [if_neg c21] at H
          exact absurd H (by simp)
     ·rw [if_neg c6] at H
      exact absurd H (by simp)
    ·rw [if_neg c5] at H
     exact absurd H (by simp)
   ·rw [if_neg c4] at H
    have c4b0 : decide (x20_1 < (l0_2.length : Int)) = false := decide_eq_false c4
    clear c4
    have H' := Aside0.mk H
    clear H
    obtain ⟨_, _, _, _, _, _, _, _⟩ := zc4_ BK132.out
    go_wp2
    go_loopg [9, 107] k1 (fun kq v9 v107 w' => ∃ (x9_2 : Int) (x107_2 : Int), v9 = .int .i64 x9_2 ∧ v107 = .int .i64 x107_2 ∧ Aside0 (spec_l16Loans.l1 kq x9_2 l0_1 (l0_1.length : Int) x107_2 l0_0 l0_1 l0_2 l0_3 = some r) ∧ Aside0 (kq ≤ k1) ∧ Aside0 (w'.heap[gb132]? = some (.cells #[(.slice A0_0 l0_0.length c0_0), (.slice A0_1 l0_1.length c0_1), (.slice A0_2 l0_2.length c0_2), (.slice A0_3 l0_3.length c0_3)] 45 (0, 0))) ∧ Aside0 (Below w.heap.size w w'))
    case atStart => exact ⟨(0), (0), (by first | rfl | (simp; done) | (simp [*]; done)), (by first | rfl | (simp; done) | (simp [*]; done)), H', ⟨Nat.le_refl _⟩, ⟨by (with_reducible repeat first | apply bN | apply bD | apply bA); exact BK132.out⟩, ⟨by repeat (first | (with_reducible first | exact HB.out | apply eA | apply eN | apply eD | refine below_set ?_ GE132.out) | exact HB.out)⟩⟩
    case round =>
     clear H'
     try clear c1
     try clear p1
     try clear q1
     try clear hx1
     try clear c2
     try clear p2
     try clear c4
     try clear c4b0
     try clear c5
     try clear c6
     try clear c12
     try clear c13
     try clear c14
     try clear p14
     try clear q14
     try clear hx14
     try clear c21
     try clear c22
     try clear c24
     try clear c25
     try clear c125
     try clear c137
     try clear c146
     try clear p146
     try clear q146
     try clear hx146
     try clear hx146_0
     try clear hx146_1
     try clear p146
     try clear q146
     obtain ⟨x9_2, x107_2, rfl, rfl, HA, HK2, BK132, HB⟩ := hrel
     cases gk with
     | zero => exact absurd HA.out (by simp [spec_l16Loans.l1])
     | succ k2 =>
      have H := HA.out
      clear HA
      simp only [spec_l16Loans.l1] at H
      by_cases c242 : x107_2 < (l0_1.length : Int)
      ·rw [if_pos c242] at H
       have c242b0 : decide (x107_2 < (l0_1.length : Int)) = true := decide_eq_true c242
       clear c242
       by_cases c243 : 0 ≤ x107_2
       ·rw [if_pos c243] at H
        have c243b0 : decide (0 ≤ x107_2) = true := decide_eq_true c243
        clear c243
        by_cases c244 : x107_2 < (l0_1.length : Int)
        ·rw [if_pos c244] at H
         have c244b0 : decide (x107_2 < (l0_1.length : Int)) = true := decide_eq_true c244
         clear c244
         have H' := Aside0.mk H
         clear H
         have p155 : 0 ≤ (x107_2 : Int) := of_decide_eq_true (by first | (with_reducible assumption) | assumption)
         have q155 : x107_2 < (l0_1.length : Int) := of_decide_eq_true (by first | (with_reducible assumption) | assumption)
         obtain ⟨ad155, A155_0, c155_0, A155_1, c155_1, e155, hx155_0, hx155_1, hl155_0, hi155_0, hl155_1, hi155_1⟩ := at_T78 HR0_1.out x107_2 p155 q155
         cases e155
         replace hx155_0 := (HB.out.cell (World.block_lt_of_cell? w _ hx155_0)).trans hx155_0
         replace hx155_1 := (HB.out.cell (World.block_lt_of_cell? w _ hx155_1)).trans hx155_1
         have HR155_0 := Aside0.mk hi155_0
         have HC155_0 := Aside0.mk hl155_0
         clear hi155_0 hl155_0
         have HR155_1 := Aside0.mk hi155_1
         have HC155_1 := Aside0.mk hl155_1
         clear hi155_1 hl155_1
         replace p155 := eq_true p155
         replace q155 := eq_true q155
         go_wp2_with (first | ((with_reducible refine gate_dst (N := 11) rfl ?_); (try (refine gate_guard (by rfl) ?_; dsimp only)); refine box_event ?hg (N := 11) ?hd (cs := #[.slice none 0 0, .slice none 0 0]) (t := 78) ?hr ?_; (case hd => rfl); (case hg => rfl); (case hr => first | (go_simp; done) | (go_simp; rfl)); intro gb156 hg w245 hbox hb; have n0_ := Aside0.mk (blk_below (bk_ BK132.out) hb); have n1_ := Aside0.mk (below_step (by repeat (first | (with_reducible first | exact HB.out | apply eA | apply eN | apply eD | refine below_set ?_ GE132.out) | exact HB.out)) hb); have n2_ := Aside0.mk (hbox); have n3_ := Aside0.mk (gs_ hg (by repeat (first | (with_reducible first | exact HB.out | apply eA | apply eN | apply eD | refine below_set ?_ GE132.out) | exact HB.out)) : w.heap.size ≤ gb156); have n4_ := n3_; have n5_ := Aside0.mk ((by rw [hg]; exact Nat.ne_of_lt (blk_lt (g := gb132) (o := .cells #[.slice A0_0 l0_0.length c0_0, .slice (some ad155) l0_1.length c0_1, .slice A0_2 l0_2.length c0_2, .slice A0_3 l0_3.length c0_3] 45 (0, 0)) (bk_ BK132.out)) : gb132 ≠ gb156)); have n6_ := Aside0.mk ((by rw [hg]; exact Nat.ne_of_gt (blk_lt (g := gb132) (o := .cells #[.slice A0_0 l0_0.length c0_0, .slice (some ad155) l0_1.length c0_1, .slice A0_2 l0_2.length c0_2, .slice A0_3 l0_3.length c0_3] 45 (0, 0)) (bk_ BK132.out)) : gb156 ≠ gb132)); clear BK132 HB; have BK132 := n0_; have HB := n1_; have BK156 := n2_; have GW156 := n3_; have GE156 := n4_; have NB132_156 := n5_; have NB156_132 := n6_; clear n0_ n1_ n2_ n3_ n4_ n5_ n6_; clear hb hbox hg; have hnb246 := NB156_132.out; have hnc246 := NB132_156.out; obtain ⟨_, _, _, _⟩ := zc2_ BK156.out))
         go_loopg [9, 115] k2 (fun kq v9 v115 w' => ∃ (x9_3 : Int) (x115_3 : Int), v9 = .int .i64 x9_3 ∧ v115 = .int .i64 x115_3 ∧ Aside0 (spec_l16Loans.l2 kq x9_3 x107_2 l0_1 (l0_1.length : Int) x107_2 ((rd_T78 l0_1 x107_2).f0) (((rd_T78 l0_1 x107_2).f0).length : Int) x115_3 l0_0 l0_1 l0_2 l0_3 = some r) ∧ Aside0 (kq ≤ k2) ∧ Aside0 (w'.heap[gb132]? = some (.cells #[(.slice A0_0 l0_0.length c0_0), (.slice (some ad155) l0_1.length c0_1), (.slice A0_2 l0_2.length c0_2), (.slice A0_3 l0_3.length c0_3)] 45 (0, 0))) ∧ Aside0 (w'.heap[gb156]? = some (.cells #[(.slice A155_0 ((rd_T78 l0_1 x107_2).f0).length c155_0), (.slice A155_1 ((rd_T78 l0_1 x107_2).f1).length c155_1)] 78 (0, 0))) ∧ Aside0 (Below w.heap.size w w'))
         case atStart => exact ⟨(x9_2), (0), (by first | rfl | (simp; done) | (simp [*]; done)), (by first | rfl | (simp; done) | (simp [*]; done)), H', ⟨Nat.le_refl _⟩, ⟨by (with_reducible repeat first | apply bN | apply bD | apply bA); refine blk_far ?_ NB132_156.out _; (with_reducible repeat first | apply bN | apply bD | apply bA); refine blk_far ?_ NB132_156.out _; (with_reducible repeat first | apply bN | apply bD | apply bA); exact BK132.out⟩, ⟨by (with_reducible repeat first | apply bN | apply bD | apply bA); refine blk_put (cs := #[.slice A155_0 ((rd_T78 l0_1 x107_2).f0).length c155_0, .slice none 0 0]) ?_ 1 _ rfl; (with_reducible repeat first | apply bN | apply bD | apply bA); refine blk_put (cs := #[.slice none 0 0, .slice none 0 0]) ?_ 0 _ rfl; (with_reducible repeat first | apply bN | apply bD | apply bA); exact BK156.out⟩, ⟨by repeat (first | (with_reducible first | exact HB.out | apply eA | apply eN | apply eD | refine below_set ?_ GE132.out | refine below_set ?_ GE156.out) | exact HB.out)⟩⟩
         case round =>
          clear H'
          try clear c1
          try clear p1
          try clear q1
          try clear hx1
          try clear c2
          try clear p2
          try clear c4
          try clear c4b0
          try clear c5
          try clear c6
          try clear c12
          try clear c13
          try clear c14
          try clear p14
          try clear q14
          try clear hx14
          try clear c15
          try clear p15
          try clear q15
          try clear hx15
          try clear c21
          try clear c22
          try clear c24
          try clear c25
          try clear c125
          try clear c137
          try clear c146
          try clear p146
          try clear q146
          try clear hx146
          try clear c155
          try clear p155
          try clear q155
          try clear hx155
          try clear c242
          try clear c242b0
          try clear c243
          try clear c243b0
          try clear c244
          try clear c244b0
          try clear c246
          try clear hx146_0
          try clear hx146_1
          try clear hx155_0
          try clear hx155_1
          try clear p1
          try clear p14
          try clear p146
          try clear p155
          try clear p2
          try clear q1
          try clear q14
          try clear q146
          try clear q155
          obtain ⟨x9_3, x115_3, rfl, rfl, HA, HK3, BK132, BK156, HB⟩ := hrel
          cases gk with
          | zero => exact absurd HA.out (by simp [spec_l16Loans.l2])
          | succ k3 =>
           have H := HA.out
           clear HA
           simp only [spec_l16Loans.l2] at H
           by_cases c248 : x115_3 < (((rd_T78 l0_1 x107_2).f0).length : Int)
           ·rw [if_pos c248] at H
            have c248b0 : decide (x115_3 < (((rd_T78 l0_1 x107_2).f0).length : Int)) = true := decide_eq_true c248
            clear c248
            by_cases c249 : 0 ≤ x115_3
            ·rw [if_pos c249] at H
             have c249b0 : decide (0 ≤ x115_3) = true := decide_eq_true c249
             clear c249
             by_cases c250 : x115_3 < (((rd_T78 l0_1 x107_2).f0).length : Int)
             ·rw [if_pos c250] at H
              have c250b0 : decide (x115_3 < (((rd_T78 l0_1 x107_2).f0).length : Int)) = true := decide_eq_true c250
              clear c250
              obtain ⟨bq251, hbq251⟩ : ∃ b_ : Bool, b_ = ((rd_T75 ((rd_T78 l0_1 x107_2).f0) x115_3).f0) := ⟨_, rfl⟩
              replace H : (if (bq251 = true) then (spec_l16Loans.l3 k3 x9_3 x107_2 x115_3 0 l0_1 (l0_1.length : Int) x107_2 ((rd_T78 l0_1 x107_2).f0) (((rd_T78 l0_1 x107_2).f0).length : Int) x115_3 l0_2 (l0_2.length : Int) 0 l0_0 l0_1 l0_2 l0_3 bq251 ((rd_T75 ((rd_T78 l0_1 x107_2).f0) x115_3).f1) ((rd_T75 ((rd_T78 l0_1 x107_2).f0) x115_3).f2) ((rd_T75 ((rd_T78 l0_1 x107_2).f0) x115_3).f3) ((rd_T75 ((rd_T78 l0_1 x107_2).f0) x115_3).f4) ((rd_T75 ((rd_T78 l0_1 x107_2).f0) x115_3).f5)) else (spec_l16Loans.l2 k3 x9_3 x107_2 l0_1 (l0_1.length : Int) x107_2 ((rd_T78 l0_1 x107_2).f0) (((rd_T78 l0_1 x107_2).f0).length : Int) (wrap64 (x115_3 + 1)) l0_0 l0_1 l0_2 l0_3)) = some r := by rw [← hbq251] at H; exact H
              have Nbq251 := Aside0.mk hbq251
              clear hbq251
              by_cases c252 : (bq251 = true)
              ·subst c252
               have H1 : (spec_l16Loans.l3 k3 x9_3 x107_2 x115_3 0 l0_1 (l0_1.length : Int) x107_2 ((rd_T78 l0_1 x107_2).f0) (((rd_T78 l0_1 x107_2).f0).length : Int) x115_3 l0_2 (l0_2.length : Int) 0 l0_0 l0_1 l0_2 l0_3 true ((rd_T75 ((rd_T78 l0_1 x107_2).f0) x115_3).f1) ((rd_T75 ((rd_T78 l0_1 x107_2).f0) x115_3).f2) ((rd_T75 ((rd_T78 l0_1 x107_2).f0) x115_3).f3) ((rd_T75 ((rd_T78 l0_1 x107_2).f0) x115_3).f4) ((rd_T75 ((rd_T78 l0_1 x107_2).f0) x115_3).f5)) = some r := by rw [if_pos rfl] at H; first | done | exact H
               clear H
               have H := H1
               clear H1
               have H' := Aside0.mk H
               clear H
               have p157 : 0 ≤ (x115_3 : Int) := of_decide_eq_true (by first | (with_reducible assumption) | assumption)
               have q157 : x115_3 < (((rd_T78 l0_1 x107_2).f0).length : Int) := of_decide_eq_true (by first | (with_reducible assumption) | assumption)
               obtain ⟨ad157, e157, hx157_0, hx157_1, hx157_2, hx157_3, hx157_4, hx157_5⟩ := at_T75 HR155_0.out x115_3 p157 q157
               (try rw [← Nbq251.out] at hx157_0)
               (try rw [← Nbq251.out] at hx157_3)
               cases e157
               replace hx157_0 := (HB.out.cell (World.block_lt_of_cell? w _ hx157_0)).trans hx157_0
               replace hx157_1 := (HB.out.cell (World.block_lt_of_cell? w _ hx157_1)).trans hx157_1
               replace hx157_2 := (HB.out.cell (World.block_lt_of_cell? w _ hx157_2)).trans hx157_2
               replace hx157_3 := (HB.out.cell (World.block_lt_of_cell? w _ hx157_3)).trans hx157_3
               replace hx157_4 := (HB.out.cell (World.block_lt_of_cell? w _ hx157_4)).trans hx157_4
               replace hx157_5 := (HB.out.cell (World.block_lt_of_cell? w _ hx157_5)).trans hx157_5
               replace p157 := eq_true p157
               replace q157 := eq_true q157
               go_wp2_with (first | ((with_reducible refine gate_dst (N := 13) rfl ?_); (try (refine gate_guard (by rfl) ?_; dsimp only)); refine box_event ?hg (N := 13) ?hd (cs := #[.bool false, .int .i64 0, .int .i64 0, .bool false, .int .i64 0, .int .i64 0]) (t := 75) ?hr ?_; (case hd => rfl); (case hg => rfl); (case hr => first | (go_simp; done) | (go_simp; rfl)); intro gb158 hg w253 hbox hb; have n0_ := Aside0.mk (blk_below (bk_ BK132.out) hb); have n1_ := Aside0.mk (blk_below (bk_ BK156.out) hb); have n2_ := Aside0.mk (below_step (by repeat (first | (with_reducible first | exact HB.out | apply eA | apply eN | apply eD | refine below_set ?_ GE132.out | refine below_set ?_ GE156.out) | exact HB.out)) hb); have n3_ := Aside0.mk (hbox); have n4_ := Aside0.mk (gs_ hg (by repeat (first | (with_reducible first | exact HB.out | apply eA | apply eN | apply eD | refine below_set ?_ GE132.out | refine below_set ?_ GE156.out) | exact HB.out)) : w.heap.size ≤ gb158); have n5_ := n4_; have n6_ := Aside0.mk ((by rw [hg]; exact Nat.ne_of_lt (blk_lt (g := gb132) (o := .cells #[.slice A0_0 l0_0.length c0_0, .slice (some ad155) l0_1.length c0_1, .slice A0_2 l0_2.length c0_2, .slice A0_3 l0_3.length c0_3] 45 (0, 0)) (bk_ BK132.out)) : gb132 ≠ gb158)); have n7_ := Aside0.mk ((by rw [hg]; exact Nat.ne_of_gt (blk_lt (g := gb132) (o := .cells #[.slice A0_0 l0_0.length c0_0, .slice (some ad155) l0_1.length c0_1, .slice A0_2 l0_2.length c0_2, .slice A0_3 l0_3.length c0_3] 45 (0, 0)) (bk_ BK132.out)) : gb158 ≠ gb132)); have n8_ := Aside0.mk ((by rw [hg]; exact Nat.ne_of_lt (blk_lt (g := gb156) (o := .cells #[.slice (some ad157) ((rd_T78 l0_1 x107_2).f0).length c155_0, .slice A155_1 ((rd_T78 l0_1 x107_2).f1).length c155_1] 78 (0, 0)) (bk_ BK156.out)) : gb156 ≠ gb158)); have n9_ := Aside0.mk ((by rw [hg]; exact Nat.ne_of_gt (blk_lt (g := gb156) (o := .cells #[.slice (some ad157) ((rd_T78 l0_1 x107_2).f0).length c155_0, .slice A155_1 ((rd_T78 l0_1 x107_2).f1).length c155_1] 78 (0, 0)) (bk_ BK156.out)) : gb158 ≠ gb156)); clear BK132 BK156 HB; have BK132 := n0_; have BK156 := n1_; have HB := n2_; have BK158 := n3_; have GW158 := n4_; have GE158 := n5_; have NB132_158 := n6_; have NB158_132 := n7_; have NB156_158 := n8_; have NB158_156 := n9_; clear n0_ n1_ n2_ n3_ n4_ n5_ n6_ n7_ n8_ n9_; clear hb hbox hg; have hnb254 := NB158_132.out; have hnc254 := NB132_158.out; have hnb255 := NB158_156.out; have hnc255 := NB156_158.out; obtain ⟨_, _, _, _, _, _, _, _, _, _, _, _⟩ := zc6_ BK158.out; have hnb257 := NB132_156.out; have hnc257 := NB156_132.out; obtain ⟨_, _, _, _, _, _, _, _⟩ := zc4_ BK132.out))
               generalize (Value.agg #[.bool true, .int .i64 (rd_T75 (rd_T78 l0_1 x107_2).f0 x115_3).f1, .int .i64 (rd_T75 (rd_T78 l0_1 x107_2).f0 x115_3).f2, .bool (rd_T75 (rd_T78 l0_1 x107_2).f0 x115_3).f3, .int .i64 (rd_T75 (rd_T78 l0_1 x107_2).f0 x115_3).f4, .int .i64 (rd_T75 (rd_T78 l0_1 x107_2).f0 x115_3).f5]) = u119_
               go_loopg [14, 126] k3 (fun kq v14 v126 w' => ∃ (x14_4 : Int) (x126_4 : Int), v14 = .int .i64 x14_4 ∧ v126 = .int .i64 x126_4 ∧ Aside0 (spec_l16Loans.l3 kq x9_3 x107_2 x115_3 x14_4 l0_1 (l0_1.length : Int) x107_2 ((rd_T78 l0_1 x107_2).f0) (((rd_T78 l0_1 x107_2).f0).length : Int) x115_3 l0_2 (l0_2.length : Int) x126_4 l0_0 l0_1 l0_2 l0_3 true ((rd_T75 ((rd_T78 l0_1 x107_2).f0) x115_3).f1) ((rd_T75 ((rd_T78 l0_1 x107_2).f0) x115_3).f2) ((rd_T75 ((rd_T78 l0_1 x107_2).f0) x115_3).f3) ((rd_T75 ((rd_T78 l0_1 x107_2).f0) x115_3).f4) ((rd_T75 ((rd_T78 l0_1 x107_2).f0) x115_3).f5) = some r) ∧ Aside0 (kq ≤ k3) ∧ Aside0 (w'.heap[gb132]? = some (.cells #[(.slice A0_0 l0_0.length c0_0), (.slice (some ad155) l0_1.length c0_1), (.slice A0_2 l0_2.length c0_2), (.slice A0_3 l0_3.length c0_3)] 45 (0, 0))) ∧ Aside0 (w'.heap[gb156]? = some (.cells #[(.slice (some ad157) ((rd_T78 l0_1 x107_2).f0).length c155_0), (.slice A155_1 ((rd_T78 l0_1 x107_2).f1).length c155_1)] 78 (0, 0))) ∧ Aside0 (w'.heap[gb158]? = some (.cells #[.bool true, .int .i64 ((rd_T75 ((rd_T78 l0_1 x107_2).f0) x115_3).f1), .int .i64 ((rd_T75 ((rd_T78 l0_1 x107_2).f0) x115_3).f2), .bool ((rd_T75 ((rd_T78 l0_1 x107_2).f0) x115_3).f3), .int .i64 ((rd_T75 ((rd_T78 l0_1 x107_2).f0) x115_3).f4), .int .i64 ((rd_T75 ((rd_T78 l0_1 x107_2).f0) x115_3).f5)] 75 (0, 0))) ∧ Aside0 (Below w.heap.size w w'))
               case atStart => exact ⟨(0), (0), (by first | rfl | (simp; done) | (simp [*]; done)), (by first | rfl | (simp; done) | (simp [*]; done)), H', ⟨Nat.le_refl _⟩, ⟨by (with_reducible repeat first | apply bN | apply bD | apply bA); refine blk_far ?_ NB132_158.out _; (with_reducible repeat first | apply bN | apply bD | apply bA); refine blk_far ?_ NB132_158.out _; (with_reducible repeat first | apply bN | apply bD | apply bA); refine blk_far ?_ NB132_158.out _; (with_reducible repeat first | apply bN | apply bD | apply bA); refine blk_far ?_ NB132_158.out _; (with_reducible repeat first | apply bN | apply bD | apply bA); refine blk_far ?_ NB132_158.out _; (with_reducible repeat first | apply bN | apply bD | apply bA); refine blk_far ?_ NB132_158.out _; (with_reducible repeat first | apply bN | apply bD | apply bA); exact BK132.out⟩, ⟨by (with_reducible repeat first | apply bN | apply bD | apply bA); refine blk_far ?_ NB156_158.out _; (with_reducible repeat first | apply bN | apply bD | apply bA); refine blk_far ?_ NB156_158.out _; (with_reducible repeat first | apply bN | apply bD | apply bA); refine blk_far ?_ NB156_158.out _; (with_reducible repeat first | apply bN | apply bD | apply bA); refine blk_far ?_ NB156_158.out _; (with_reducible repeat first | apply bN | apply bD | apply bA); refine blk_far ?_ NB156_158.out _; (with_reducible repeat first | apply bN | apply bD | apply bA); refine blk_far ?_ NB156_158.out _; (with_reducible repeat first | apply bN | apply bD | apply bA); exact BK156.out⟩, ⟨by (with_reducible repeat first | apply bN | apply bD | apply bA); refine blk_put (cs := #[.bool true, .int .i64 ((rd_T75 ((rd_T78 l0_1 x107_2).f0) x115_3).f1), .int .i64 ((rd_T75 ((rd_T78 l0_1 x107_2).f0) x115_3).f2), .bool ((rd_T75 ((rd_T78 l0_1 x107_2).f0) x115_3).f3), .int .i64 ((rd_T75 ((rd_T78 l0_1 x107_2).f0) x115_3).f4), .int .i64 0]) ?_ 5 _ rfl; (with_reducible repeat first | apply bN | apply bD | apply bA); refine blk_put (cs := #[.bool true, .int .i64 ((rd_T75 ((rd_T78 l0_1 x107_2).f0) x115_3).f1), .int .i64 ((rd_T75 ((rd_T78 l0_1 x107_2).f0) x115_3).f2), .bool ((rd_T75 ((rd_T78 l0_1 x107_2).f0) x115_3).f3), .int .i64 0, .int .i64 0]) ?_ 4 _ rfl; (with_reducible repeat first | apply bN | apply bD | apply bA); refine blk_put (cs := #[.bool true, .int .i64 ((rd_T75 ((rd_T78 l0_1 x107_2).f0) x115_3).f1), .int .i64 ((rd_T75 ((rd_T78 l0_1 x107_2).f0) x115_3).f2), .bool false, .int .i64 0, .int .i64 0]) ?_ 3 _ rfl; (with_reducible repeat first | apply bN | apply bD | apply bA); refine blk_put (cs := #[.bool true, .int .i64 ((rd_T75 ((rd_T78 l0_1 x107_2).f0) x115_3).f1), .int .i64 0, .bool false, .int .i64 0, .int .i64 0]) ?_ 2 _ rfl; (with_reducible repeat first | apply bN | apply bD | apply bA); refine blk_put (cs := #[.bool true, .int .i64 0, .int .i64 0, .bool false, .int .i64 0, .int .i64 0]) ?_ 1 _ rfl; (with_reducible repeat first | apply bN | apply bD | apply bA); refine blk_put (cs := #[.bool false, .int .i64 0, .int .i64 0, .bool false, .int .i64 0, .int .i64 0]) ?_ 0 _ rfl; (with_reducible repeat first | apply bN | apply bD | apply bA); exact BK158.out⟩, ⟨by repeat (first | (with_reducible first | exact HB.out | apply eA | apply eN | apply eD | refine below_set ?_ GE132.out | refine below_set ?_ GE156.out | refine below_set ?_ GE158.out) | exact HB.out)⟩⟩
               case round =>
                clear H'
                try clear c1
                try clear p1
                try clear q1
                try clear hx1
                try clear c2
                try clear p2
                try clear q2
                try clear c4
                try clear c4b0
                try clear c5
                try clear c6
                try clear p6
                try clear c12
                try clear c13
                try clear c14
                try clear p14
                try clear q14
                try clear hx14
                try clear c15
                try clear p15
                try clear q15
                try clear hx15
                try clear c21
                try clear c22
                try clear c24
                try clear c25
                try clear q25
                try clear p64
                try clear c125
                try clear c137
                try clear c146
                try clear p146
                try clear q146
                try clear hx146
                try clear c155
                try clear p155
                try clear q155
                try clear hx155
                try clear p157
                try clear q157
                try clear hx157
                try clear c242
                try clear c242b0
                try clear c243
                try clear c243b0
                try clear c244
                try clear c244b0
                try clear c246
                try clear c248
                try clear c248b0
                try clear c249
                try clear c249b0
                try clear c250
                try clear c250b0
                try clear q251
                try clear c252
                try clear c254
                try clear c255
                try clear c257
                try clear hx146_0
                try clear hx146_1
                try clear hx155_0
                try clear hx155_1
                try clear hx157_0
                try clear hx157_1
                try clear hx157_2
                try clear hx157_3
                try clear hx157_4
                try clear hx157_5
                try clear p1
                try clear p14
                try clear p146
                try clear p15
                try clear p155
                try clear p157
                try clear p2
                try clear q1
                try clear q14
                try clear q146
                try clear q15
                try clear q155
                try clear q157
                obtain ⟨x14_4, x126_4, rfl, rfl, HA, HK4, BK132, BK156, BK158, HB⟩ := hrel
                cases gk with
                | zero => exact absurd HA.out (by simp [spec_l16Loans.l3])
                | succ k4 =>
                 have H := HA.out
                 clear HA
                 simp only [spec_l16Loans.l3] at H
                 by_cases c259 : x126_4 < (l0_2.length : Int)
                 ·rw [if_pos c259] at H
                  have c259b0 : decide (x126_4 < (l0_2.length : Int)) = true := decide_eq_true c259
                  clear c259
                  by_cases c260 : 0 ≤ x126_4
                  ·rw [if_pos c260] at H
                   have c260b0 : decide (0 ≤ x126_4) = true := decide_eq_true c260
                   clear c260
                   by_cases c261 : x126_4 < (l0_2.length : Int)
                   ·rw [if_pos c261] at H
                    have c261b0 : decide (x126_4 < (l0_2.length : Int)) = true := decide_eq_true c261
                    clear c261
                    by_cases c262 : ((rd_T75 ((rd_T78 l0_1 x107_2).f0) x115_3).f3) = true
                    ·rw [if_pos c262] at H
                     have c262b0 : ((rd_T75 ((rd_T78 l0_1 x107_2).f0) x115_3).f3) = true := c262
                     clear c262
                     by_cases c263 : ((rd_T155 l0_2 x126_4).f0) = x107_2
                     ·rw [if_pos c263] at H
                      have c263b0 : (((rd_T155 l0_2 x126_4).f0) == x107_2) = true := beq_iff_eq.mpr c263
                      have c263b1 : (((rd_T155 l0_2 x126_4).f0) != x107_2) = false := bne_eq_false_iff_eq.mpr c263
                      clear c263
                      by_cases c264 : ((rd_T155 l0_2 x126_4).f1) = x115_3
                      ·rw [if_pos c264] at H
                       have c264b0 : (((rd_T155 l0_2 x126_4).f1) == x115_3) = true := beq_iff_eq.mpr c264
                       have c264b1 : (((rd_T155 l0_2 x126_4).f1) != x115_3) = false := bne_eq_false_iff_eq.mpr c264
                       clear c264
                       have H' := Aside0.mk H
                       clear H
                       have p159 : 0 ≤ (x126_4 : Int) := of_decide_eq_true (by first | (with_reducible assumption) | assumption)
                       have q159 : x126_4 < (l0_2.length : Int) := of_decide_eq_true (by first | (with_reducible assumption) | assumption)
                       obtain ⟨ad159, e159, hx159_0, hx159_1, hx159_2, hx159_3⟩ := at_T155 HR0_2.out x126_4 p159 q159
                       cases e159
                       replace hx159_0 := (HB.out.cell (World.block_lt_of_cell? w _ hx159_0)).trans hx159_0
                       replace hx159_1 := (HB.out.cell (World.block_lt_of_cell? w _ hx159_1)).trans hx159_1
                       replace hx159_2 := (HB.out.cell (World.block_lt_of_cell? w _ hx159_2)).trans hx159_2
                       replace hx159_3 := (HB.out.cell (World.block_lt_of_cell? w _ hx159_3)).trans hx159_3
                       replace p159 := eq_true p159
                       replace q159 := eq_true q159
                       go_wp2_with (first | ((with_reducible refine gate_dst (N := 16) rfl ?_); (try (refine gate_guard (by rfl) ?_; dsimp only)); refine box_event ?hg (N := 16) ?hd (cs := #[.int .i64 0, .int .i64 0, .int .i64 0, .int .i64 0]) (t := 155) ?hr ?_; (case hd => rfl); (case hg => rfl); (case hr => first | (go_simp; done) | (go_simp; rfl)); intro gb160 hg w265 hbox hb; have n0_ := Aside0.mk (blk_below (bk_ BK132.out) hb); have n1_ := Aside0.mk (blk_below (bk_ BK156.out) hb); have n2_ := Aside0.mk (blk_below (bk_ BK158.out) hb); have n3_ := Aside0.mk (below_step (by repeat (first | (with_reducible first | exact HB.out | apply eA | apply eN | apply eD | refine below_set ?_ GE132.out | refine below_set ?_ GE156.out | refine below_set ?_ GE158.out) | exact HB.out)) hb); have n4_ := Aside0.mk (hbox); have n5_ := Aside0.mk (gs_ hg (by repeat (first | (with_reducible first | exact HB.out | apply eA | apply eN | apply eD | refine below_set ?_ GE132.out | refine below_set ?_ GE156.out | refine below_set ?_ GE158.out) | exact HB.out)) : w.heap.size ≤ gb160); have n6_ := n5_; have n7_ := Aside0.mk ((by rw [hg]; exact Nat.ne_of_lt (blk_lt (g := gb132) (o := .cells #[.slice A0_0 l0_0.length c0_0, .slice (some ad155) l0_1.length c0_1, .slice (some ad159) l0_2.length c0_2, .slice A0_3 l0_3.length c0_3] 45 (0, 0)) (bk_ BK132.out)) : gb132 ≠ gb160)); have n8_ := Aside0.mk ((by rw [hg]; exact Nat.ne_of_gt (blk_lt (g := gb132) (o := .cells #[.slice A0_0 l0_0.length c0_0, .slice (some ad155) l0_1.length c0_1, .slice (some ad159) l0_2.length c0_2, .slice A0_3 l0_3.length c0_3] 45 (0, 0)) (bk_ BK132.out)) : gb160 ≠ gb132)); have n9_ := Aside0.mk ((by rw [hg]; exact Nat.ne_of_lt (blk_lt (g := gb156) (o := .cells #[.slice (some ad157) ((rd_T78 l0_1 x107_2).f0).length c155_0, .slice A155_1 ((rd_T78 l0_1 x107_2).f1).length c155_1] 78 (0, 0)) (bk_ BK156.out)) : gb156 ≠ gb160)); have n10_ := Aside0.mk ((by rw [hg]; exact Nat.ne_of_gt (blk_lt (g := gb156) (o := .cells #[.slice (some ad157) ((rd_T78 l0_1 x107_2).f0).length c155_0, .slice A155_1 ((rd_T78 l0_1 x107_2).f1).length c155_1] 78 (0, 0)) (bk_ BK156.out)) : gb160 ≠ gb156)); have n11_ := Aside0.mk ((by rw [hg]; exact Nat.ne_of_lt (blk_lt (g := gb158) (o := .cells #[.bool true, .int .i64 ((rd_T75 ((rd_T78 l0_1 x107_2).f0) x115_3).f1), .int .i64 ((rd_T75 ((rd_T78 l0_1 x107_2).f0) x115_3).f2), .bool ((rd_T75 ((rd_T78 l0_1 x107_2).f0) x115_3).f3), .int .i64 ((rd_T75 ((rd_T78 l0_1 x107_2).f0) x115_3).f4), .int .i64 ((rd_T75 ((rd_T78 l0_1 x107_2).f0) x115_3).f5)] 75 (0, 0)) (bk_ BK158.out)) : gb158 ≠ gb160)); have n12_ := Aside0.mk ((by rw [hg]; exact Nat.ne_of_gt (blk_lt (g := gb158) (o := .cells #[.bool true, .int .i64 ((rd_T75 ((rd_T78 l0_1 x107_2).f0) x115_3).f1), .int .i64 ((rd_T75 ((rd_T78 l0_1 x107_2).f0) x115_3).f2), .bool ((rd_T75 ((rd_T78 l0_1 x107_2).f0) x115_3).f3), .int .i64 ((rd_T75 ((rd_T78 l0_1 x107_2).f0) x115_3).f4), .int .i64 ((rd_T75 ((rd_T78 l0_1 x107_2).f0) x115_3).f5)] 75 (0, 0)) (bk_ BK158.out)) : gb160 ≠ gb158)); clear BK132 BK156; clear BK158 HB; have BK132 := n0_; have BK156 := n1_; have BK158 := n2_; have HB := n3_; have BK160 := n4_; have GW160 := n5_; have GE160 := n6_; have NB132_160 := n7_; have NB160_132 := n8_; have NB156_160 := n9_; have NB160_156 := n10_; have NB158_160 := n11_; have NB160_158 := n12_; clear n0_ n1_ n2_ n3_ n4_ n5_ n6_ n7_ n8_ n9_ n10_ n11_ n12_; clear hb hbox hg; have hnb266 := NB160_132.out; have hnc266 := NB132_160.out; have hnb267 := NB160_156.out; have hnc267 := NB156_160.out; have hnb268 := NB160_158.out; have hnc268 := NB158_160.out; obtain ⟨_, _, _, _, _, _, _, _⟩ := zc4_ BK160.out; have hnb270 := NB158_132.out; have hnc270 := NB132_158.out; have hnb271 := NB158_156.out; have hnc271 := NB156_158.out; obtain ⟨_, _, _, _, _, _, _, _, _, _, _, _⟩ := zc6_ BK158.out))
                       go_roundg k4
                       case measure => have := HK1.out; have := HK2.out; have := HK3.out; have := HK4.out; omega
                       case rel => exact ⟨(wrap64 (x14_4 + 1)), (wrap64 (x126_4 + 1)), (by first | rfl | (simp; done) | (simp [*]; done)), (by first | rfl | (simp; done) | (simp [*]; done)), H', ⟨by have := HK1.out; have := HK2.out; have := HK3.out; have := HK4.out; omega⟩, ⟨by (with_reducible repeat first | apply bN | apply bD | apply bA); refine blk_far ?_ NB132_160.out _; (with_reducible repeat first | apply bN | apply bD | apply bA); refine blk_far ?_ NB132_160.out _; (with_reducible repeat first | apply bN | apply bD | apply bA); refine blk_far ?_ NB132_160.out _; (with_reducible repeat first | apply bN | apply bD | apply bA); refine blk_far ?_ NB132_160.out _; (with_reducible repeat first | apply bN | apply bD | apply bA); exact BK132.out⟩, ⟨by (with_reducible repeat first | apply bN | apply bD | apply bA); refine blk_far ?_ NB156_160.out _; (with_reducible repeat first | apply bN | apply bD | apply bA); refine blk_far ?_ NB156_160.out _; (with_reducible repeat first | apply bN | apply bD | apply bA); refine blk_far ?_ NB156_160.out _; (with_reducible repeat first | apply bN | apply bD | apply bA); refine blk_far ?_ NB156_160.out _; (with_reducible repeat first | apply bN | apply bD | apply bA); exact BK156.out⟩, ⟨by (with_reducible repeat first | apply bN | apply bD | apply bA); refine blk_far ?_ NB158_160.out _; (with_reducible repeat first | apply bN | apply bD | apply bA); refine blk_far ?_ NB158_160.out _; (with_reducible repeat first | apply bN | apply bD | apply bA); refine blk_far ?_ NB158_160.out _; (with_reducible repeat first | apply bN | apply bD | apply bA); refine blk_far ?_ NB158_160.out _; (with_reducible repeat first | apply bN | apply bD | apply bA); exact BK158.out⟩, ⟨by repeat (first | (with_reducible first | exact HB.out | apply eA | apply eN | apply eD | refine below_set ?_ GE132.out | refine below_set ?_ GE156.out | refine below_set ?_ GE158.out | refine below_set ?_ GE160.out) | exact HB.out)⟩⟩
                      ·rw [if_neg c264] at H
                       have c264b0 : (((rd_T155 l0_2 x126_4).f1) == x115_3) = false := beq_eq_false_iff_ne.mpr c264
                       have c264b1 : (((rd_T155 l0_2 x126_4).f1) != x115_3) = true := bne_iff_ne.mpr c264
                       have H' := Aside0.mk H
                       clear H
                       have p159 : 0 ≤ (x126_4 : Int) := of_decide_eq_true (by first | (with_reducible assumption) | assumption)
                       have q159 : x126_4 < (l0_2.length : Int) := of_decide_eq_true (by first | (with_reducible assumption) | assumption)
                       obtain ⟨ad159, e159, hx159_0, hx159_1, hx159_2, hx159_3⟩ := at_T155 HR0_2.out x126_4 p159 q159
                       cases e159
                       replace hx159_0 := (HB.out.cell (World.block_lt_of_cell? w _ hx159_0)).trans hx159_0
                       replace hx159_1 := (HB.out.cell (World.block_lt_of_cell? w _ hx159_1)).trans hx159_1
                       replace hx159_2 := (HB.out.cell (World.block_lt_of_cell? w _ hx159_2)).trans hx159_2
                       replace hx159_3 := (HB.out.cell (World.block_lt_of_cell? w _ hx159_3)).trans hx159_3
                       replace p159 := eq_true p159
                       replace q159 := eq_true q159
                       go_wp2_with (first | ((with_reducible refine gate_dst (N := 16) rfl ?_); (try (refine gate_guard (by rfl) ?_; dsimp only)); refine box_event ?hg (N := 16) ?hd (cs := #[.int .i64 0, .int .i64 0, .int .i64 0, .int .i64 0]) (t := 155) ?hr ?_; (case hd => rfl); (case hg => rfl); (case hr => first | (go_simp; done) | (go_simp; rfl)); intro gb160 hg w273 hbox hb; have n0_ := Aside0.mk (blk_below (bk_ BK132.out) hb); have n1_ := Aside0.mk (blk_below (bk_ BK156.out) hb); have n2_ := Aside0.mk (blk_below (bk_ BK158.out) hb); have n3_ := Aside0.mk (below_step (by repeat (first | (with_reducible first | exact HB.out | apply eA | apply eN | apply eD | refine below_set ?_ GE132.out | refine below_set ?_ GE156.out | refine below_set ?_ GE158.out) | exact HB.out)) hb); have n4_ := Aside0.mk (hbox); have n5_ := Aside0.mk (gs_ hg (by repeat (first | (with_reducible first | exact HB.out | apply eA | apply eN | apply eD | refine below_set ?_ GE132.out | refine below_set ?_ GE156.out | refine below_set ?_ GE158.out) | exact HB.out)) : w.heap.size ≤ gb160); have n6_ := n5_; have n7_ := Aside0.mk ((by rw [hg]; exact Nat.ne_of_lt (blk_lt (g := gb132) (o := .cells #[.slice A0_0 l0_0.length c0_0, .slice (some ad155) l0_1.length c0_1, .slice (some ad159) l0_2.length c0_2, .slice A0_3 l0_3.length c0_3] 45 (0, 0)) (bk_ BK132.out)) : gb132 ≠ gb160)); have n8_ := Aside0.mk ((by rw [hg]; exact Nat.ne_of_gt (blk_lt (g := gb132) (o := .cells #[.slice A0_0 l0_0.length c0_0, .slice (some ad155) l0_1.length c0_1, .slice (some ad159) l0_2.length c0_2, .slice A0_3 l0_3.length c0_3] 45 (0, 0)) (bk_ BK132.out)) : gb160 ≠ gb132)); have n9_ := Aside0.mk ((by rw [hg]; exact Nat.ne_of_lt (blk_lt (g := gb156) (o := .cells #[.slice (some ad157) ((rd_T78 l0_1 x107_2).f0).length c155_0, .slice A155_1 ((rd_T78 l0_1 x107_2).f1).length c155_1] 78 (0, 0)) (bk_ BK156.out)) : gb156 ≠ gb160)); have n10_ := Aside0.mk ((by rw [hg]; exact Nat.ne_of_gt (blk_lt (g := gb156) (o := .cells #[.slice (some ad157) ((rd_T78 l0_1 x107_2).f0).length c155_0, .slice A155_1 ((rd_T78 l0_1 x107_2).f1).length c155_1] 78 (0, 0)) (bk_ BK156.out)) : gb160 ≠ gb156)); have n11_ := Aside0.mk ((by rw [hg]; exact Nat.ne_of_lt (blk_lt (g := gb158) (o := .cells #[.bool true, .int .i64 ((rd_T75 ((rd_T78 l0_1 x107_2).f0) x115_3).f1), .int .i64 ((rd_T75 ((rd_T78 l0_1 x107_2).f0) x115_3).f2), .bool ((rd_T75 ((rd_T78 l0_1 x107_2).f0) x115_3).f3), .int .i64 ((rd_T75 ((rd_T78 l0_1 x107_2).f0) x115_3).f4), .int .i64 ((rd_T75 ((rd_T78 l0_1 x107_2).f0) x115_3).f5)] 75 (0, 0)) (bk_ BK158.out)) : gb158 ≠ gb160)); have n12_ := Aside0.mk ((by rw [hg]; exact Nat.ne_of_gt (blk_lt (g := gb158) (o := .cells #[.bool true, .int .i64 ((rd_T75 ((rd_T78 l0_1 x107_2).f0) x115_3).f1), .int .i64 ((rd_T75 ((rd_T78 l0_1 x107_2).f0) x115_3).f2), .bool ((rd_T75 ((rd_T78 l0_1 x107_2).f0) x115_3).f3), .int .i64 ((rd_T75 ((rd_T78 l0_1 x107_2).f0) x115_3).f4), .int .i64 ((rd_T75 ((rd_T78 l0_1 x107_2).f0) x115_3).f5)] 75 (0, 0)) (bk_ BK158.out)) : gb160 ≠ gb158)); clear BK132 BK156; clear BK158 HB; have BK132 := n0_; have BK156 := n1_; have BK158 := n2_; have HB := n3_; have BK160 := n4_; have GW160 := n5_; have GE160 := n6_; have NB132_160 := n7_; have NB160_132 := n8_; have NB156_160 := n9_; have NB160_156 := n10_; have NB158_160 := n11_; have NB160_158 := n12_; clear n0_ n1_ n2_ n3_ n4_ n5_ n6_ n7_ n8_ n9_ n10_ n11_ n12_; clear hb hbox hg; have hnb274 := NB160_132.out; have hnc274 := NB132_160.out; have hnb275 := NB160_156.out; have hnc275 := NB156_160.out; have hnb276 := NB160_158.out; have hnc276 := NB158_160.out; obtain ⟨_, _, _, _, _, _, _, _⟩ := zc4_ BK160.out; have hnb278 := NB158_132.out; have hnc278 := NB132_158.out; have hnb279 := NB158_156.out; have hnc279 := NB156_158.out; obtain ⟨_, _, _, _, _, _, _, _, _, _, _, _⟩ := zc6_ BK158.out))
                       go_roundg k4
                       case measure => have := HK1.out; have := HK2.out; have := HK3.out; have := HK4.out; omega
                       case rel => exact ⟨(x14_4), (wrap64 (x126_4 + 1)), (by first | rfl | (simp; done) | (simp [*]; done)), (by first | rfl | (simp; done) | (simp [*]; done)), H', ⟨by have := HK1.out; have := HK2.out; have := HK3.out; have := HK4.out; omega⟩, ⟨by (with_reducible repeat first | apply bN | apply bD | apply bA); refine blk_far ?_ NB132_160.out _; (with_reducible repeat first | apply bN | apply bD | apply bA); refine blk_far ?_ NB132_160.out _; (with_reducible repeat first | apply bN | apply bD | apply bA); refine blk_far ?_ NB132_160.out _; (with_reducible repeat first | apply bN | apply bD | apply bA); refine blk_far ?_ NB132_160.out _; (with_reducible repeat first | apply bN | apply bD | apply bA); exact BK132.out⟩, ⟨by (with_reducible repeat first | apply bN | apply bD | apply bA); refine blk_far ?_ NB156_160.out _; (with_reducible repeat first | apply bN | apply bD | apply bA); refine blk_far ?_ NB156_160.out _; (with_reducible repeat first | apply bN | apply bD | apply bA); refine blk_far ?_ NB156_160.out _; (with_reducible repeat first | apply bN | apply bD | apply bA); refine blk_far ?_ NB156_160.out _; (with_reducible repeat first | apply bN | apply bD | apply bA); exact BK156.out⟩, ⟨by (with_reducible repeat first | apply bN | apply bD | apply bA); refine blk_far ?_ NB158_160.out _; (with_reducible repeat first | apply bN | apply bD | apply bA); refine blk_far ?_ NB158_160.out _; (with_reducible repeat first | apply bN | apply bD | apply bA); refine blk_far ?_ NB158_160.out _; (with_reducible repeat first | apply bN | apply bD | apply bA); refine blk_far ?_ NB158_160.out _; (with_reducible repeat first | apply bN | apply bD | apply bA); exact BK158.out⟩, ⟨by repeat (first | (with_reducible first | exact HB.out | apply eA | apply eN | apply eD | refine below_set ?_ GE132.out | refine below_set ?_ GE156.out | refine below_set ?_ GE158.out | refine below_set ?_ GE160.out) | exact HB.out)⟩⟩
                     ·rw [if_neg c263] at H
                      have c263b0 : (((rd_T155 l0_2 x126_4).f0) == x107_2) = false := beq_eq_false_iff_ne.mpr c263
                      have c263b1 : (((rd_T155 l0_2 x126_4).f0) != x107_2) = true := bne_iff_ne.mpr c263
                      have H' := Aside0.mk H
                      clear H
                      have p159 : 0 ≤ (x126_4 : Int) := of_decide_eq_true (by first | (with_reducible assumption) | assumption)
                      have q159 : x126_4 < (l0_2.length : Int) := of_decide_eq_true (by first | (with_reducible assumption) | assumption)
                      obtain ⟨ad159, e159, hx159_0, hx159_1, hx159_2, hx159_3⟩ := at_T155 HR0_2.out x126_4 p159 q159
                      cases e159
                      replace hx159_0 := (HB.out.cell (World.block_lt_of_cell? w _ hx159_0)).trans hx159_0
                      replace hx159_1 := (HB.out.cell (World.block_lt_of_cell? w _ hx159_1)).trans hx159_1
                      replace hx159_2 := (HB.out.cell (World.block_lt_of_cell? w _ hx159_2)).trans hx159_2
                      replace hx159_3 := (HB.out.cell (World.block_lt_of_cell? w _ hx159_3)).trans hx159_3
                      replace p159 := eq_true p159
                      replace q159 := eq_true q159
                      go_wp2_with (first | ((with_reducible refine gate_dst (N := 16) rfl ?_); (try (refine gate_guard (by rfl) ?_; dsimp only)); refine box_event ?hg (N := 16) ?hd (cs := #[.int .i64 0, .int .i64 0, .int .i64 0, .int .i64 0]) (t := 155) ?hr ?_; (case hd => rfl); (case hg => rfl); (case hr => first | (go_simp; done) | (go_simp; rfl)); intro gb160 hg w281 hbox hb; have n0_ := Aside0.mk (blk_below (bk_ BK132.out) hb); have n1_ := Aside0.mk (blk_below (bk_ BK156.out) hb); have n2_ := Aside0.mk (blk_below (bk_ BK158.out) hb); have n3_ := Aside0.mk (below_step (by repeat (first | (with_reducible first | exact HB.out | apply eA | apply eN | apply eD | refine below_set ?_ GE132.out | refine below_set ?_ GE156.out | refine below_set ?_ GE158.out) | exact HB.out)) hb); have n4_ := Aside0.mk (hbox); have n5_ := Aside0.mk (gs_ hg (by repeat (first | (with_reducible first | exact HB.out | apply eA | apply eN | apply eD | refine below_set ?_ GE132.out | refine below_set ?_ GE156.out | refine below_set ?_ GE158.out) | exact HB.out)) : w.heap.size ≤ gb160); have n6_ := n5_; have n7_ := Aside0.mk ((by rw [hg]; exact Nat.ne_of_lt (blk_lt (g := gb132) (o := .cells #[.slice A0_0 l0_0.length c0_0, .slice (some ad155) l0_1.length c0_1, .slice (some ad159) l0_2.length c0_2, .slice A0_3 l0_3.length c0_3] 45 (0, 0)) (bk_ BK132.out)) : gb132 ≠ gb160)); have n8_ := Aside0.mk ((by rw [hg]; exact Nat.ne_of_gt (blk_lt (g := gb132) (o := .cells #[.slice A0_0 l0_0.length c0_0, .slice (some ad155) l0_1.length c0_1, .slice (some ad159) l0_2.length c0_2, .slice A0_3 l0_3.length c0_3] 45 (0, 0)) (bk_ BK132.out)) : gb160 ≠ gb132)); have n9_ := Aside0.mk ((by rw [hg]; exact Nat.ne_of_lt (blk_lt (g := gb156) (o := .cells #[.slice (some ad157) ((rd_T78 l0_1 x107_2).f0).length c155_0, .slice A155_1 ((rd_T78 l0_1 x107_2).f1).length c155_1] 78 (0, 0)) (bk_ BK156.out)) : gb156 ≠ gb160)); have n10_ := Aside0.mk ((by rw [hg]; exact Nat.ne_of_gt (blk_lt (g := gb156) (o := .cells #[.slice (some ad157) ((rd_T78 l0_1 x107_2).f0).length c155_0, .slice A155_1 ((rd_T78 l0_1 x107_2).f1).length c155_1] 78 (0, 0)) (bk_ BK156.out)) : gb160 ≠ gb156)); have n11_ := Aside0.mk ((by rw [hg]; exact Nat.ne_of_lt (blk_lt (g := gb158) (o := .cells #[.bool true, .int .i64 ((rd_T75 ((rd_T78 l0_1 x107_2).f0) x115_3).f1), .int .i64 ((rd_T75 ((rd_T78 l0_1 x107_2).f0) x115_3).f2), .bool ((rd_T75 ((rd_T78 l0_1 x107_2).f0) x115_3).f3), .int .i64 ((rd_T75 ((rd_T78 l0_1 x107_2).f0) x115_3).f4), .int .i64 ((rd_T75 ((rd_T78 l0_1 x107_2).f0) x115_3).f5)] 75 (0, 0)) (bk_ BK158.out)) : gb158 ≠ gb160)); have n12_ := Aside0.mk ((by rw [hg]; exact Nat.ne_of_gt (blk_lt (g := gb158) (o := .cells #[.bool true, .int .i64 ((rd_T75 ((rd_T78 l0_1 x107_2).f0) x115_3).f1), .int .i64 ((rd_T75 ((rd_T78 l0_1 x107_2).f0) x115_3).f2), .bool ((rd_T75 ((rd_T78 l0_1 x107_2).f0) x115_3).f3), .int .i64 ((rd_T75 ((rd_T78 l0_1 x107_2).f0) x115_3).f4), .int .i64 ((rd_T75 ((rd_T78 l0_1 x107_2).f0) x115_3).f5)] 75 (0, 0)) (bk_ BK158.out)) : gb160 ≠ gb158)); clear BK132 BK156; clear BK158 HB; have BK132 := n0_; have BK156 := n1_; have BK158 := n2_; have HB := n3_; have BK160 := n4_; have GW160 := n5_; have GE160 := n6_; have NB132_160 := n7_; have NB160_132 := n8_; have NB156_160 := n9_; have NB160_156 := n10_; have NB158_160 := n11_; have NB160_158 := n12_; clear n0_ n1_ n2_ n3_ n4_ n5_ n6_ n7_ n8_ n9_ n10_ n11_ n12_; clear hb hbox hg; have hnb282 := NB160_132.out; have hnc282 := NB132_160.out; have hnb283 := NB160_156.out; have hnc283 := NB156_160.out; have hnb284 := NB160_158.out; have hnc284 := NB158_160.out; obtain ⟨_, _, _, _, _, _, _, _⟩ := zc4_ BK160.out; have hnb286 := NB158_132.out; have hnc286 := NB132_158.out; have hnb287 := NB158_156.out; have hnc287 := NB156_158.out; obtain ⟨_, _, _, _, _, _, _, _, _, _, _, _⟩ := zc6_ BK158.out))
                      go_roundg k4
                      case measure => have := HK1.out; have := HK2.out; have := HK3.out; have := HK4.out; omega
                      case rel => exact ⟨(x14_4), (wrap64 (x126_4 + 1)), (by first | rfl | (simp; done) | (simp [*]; done)), (by first | rfl | (simp; done) | (simp [*]; done)), H', ⟨by have := HK1.out; have := HK2.out; have := HK3.out; have := HK4.out; omega⟩, ⟨by (with_reducible repeat first | apply bN | apply bD | apply bA); refine blk_far ?_ NB132_160.out _; (with_reducible repeat first | apply bN | apply bD | apply bA); refine blk_far ?_ NB132_160.out _; (with_reducible repeat first | apply bN | apply bD | apply bA); refine blk_far ?_ NB132_160.out _; (with_reducible repeat first | apply bN | apply bD | apply bA); refine blk_far ?_ NB132_160.out _; (with_reducible repeat first | apply bN | apply bD | apply bA); exact BK132.out⟩, ⟨by (with_reducible repeat first | apply bN | apply bD | apply bA); refine blk_far ?_ NB156_160.out _; (with_reducible repeat first | apply bN | apply bD | apply bA); refine blk_far ?_ NB156_160.out _; (with_reducible repeat first | apply bN | apply bD | apply bA); refine blk_far ?_ NB156_160.out _; (with_reducible repeat first | apply bN | apply bD | apply bA); refine blk_far ?_ NB156_160.out _; (with_reducible repeat first | apply bN | apply bD | apply bA); exact BK156.out⟩, ⟨by (with_reducible repeat first | apply bN | apply bD | apply bA); refine blk_far ?_ NB158_160.out _; (with_reducible repeat first | apply bN | apply bD | apply bA); refine blk_far ?_ NB158_160.out _; (with_reducible repeat first | apply bN | apply bD | apply bA); refine blk_far ?_ NB158_160.out _; (with_reducible repeat first | apply bN | apply bD | apply bA); refine blk_far ?_ NB158_160.out _; (with_reducible repeat first | apply bN | apply bD | apply bA); exact BK158.out⟩, ⟨by repeat (first | (with_reducible first | exact HB.out | apply eA | apply eN | apply eD | refine below_set ?_ GE132.out | refine below_set ?_ GE156.out | refine below_set ?_ GE158.out | refine below_set ?_ GE160.out) | exact HB.out)⟩⟩
                    ·rw [if_neg c262] at H
                     have c262b0 : ((rd_T75 ((rd_T78 l0_1 x107_2).f0) x115_3).f3) = false := by simpa using c262
                     clear c262
                     have H' := Aside0.mk H
                     clear H
                     have p159 : 0 ≤ (x126_4 : Int) := of_decide_eq_true (by first | (with_reducible assumption) | assumption)
                     have q159 : x126_4 < (l0_2.length : Int) := of_decide_eq_true (by first | (with_reducible assumption) | assumption)
                     obtain ⟨ad159, e159, hx159_0, hx159_1, hx159_2, hx159_3⟩ := at_T155 HR0_2.out x126_4 p159 q159
                     cases e159
                     replace hx159_0 := (HB.out.cell (World.block_lt_of_cell? w _ hx159_0)).trans hx159_0
                     replace hx159_1 := (HB.out.cell (World.block_lt_of_cell? w _ hx159_1)).trans hx159_1
                     replace hx159_2 := (HB.out.cell (World.block_lt_of_cell? w _ hx159_2)).trans hx159_2
                     replace hx159_3 := (HB.out.cell (World.block_lt_of_cell? w _ hx159_3)).trans hx159_3
                     replace p159 := eq_true p159
                     replace q159 := eq_true q159
                     go_wp2_with (first | ((with_reducible refine gate_dst (N := 16) rfl ?_); (try (refine gate_guard (by rfl) ?_; dsimp only)); refine box_event ?hg (N := 16) ?hd (cs := #[.int .i64 0, .int .i64 0, .int .i64 0, .int .i64 0]) (t := 155) ?hr ?_; (case hd => rfl); (case hg => rfl); (case hr => first | (go_simp; done) | (go_simp; rfl)); intro gb160 hg w289 hbox hb; have n0_ := Aside0.mk (blk_below (bk_ BK132.out) hb); have n1_ := Aside0.mk (blk_below (bk_ BK156.out) hb); have n2_ := Aside0.mk (blk_below (bk_ BK158.out) hb); have n3_ := Aside0.mk (below_step (by repeat (first | (with_reducible first | exact HB.out | apply eA | apply eN | apply eD | refine below_set ?_ GE132.out | refine below_set ?_ GE156.out | refine below_set ?_ GE158.out) | exact HB.out)) hb); have n4_ := Aside0.mk (hbox); have n5_ := Aside0.mk (gs_ hg (by repeat (first | (with_reducible first | exact HB.out | apply eA | apply eN | apply eD | refine below_set ?_ GE132.out | refine below_set ?_ GE156.out | refine below_set ?_ GE158.out) | exact HB.out)) : w.heap.size ≤ gb160); have n6_ := n5_; have n7_ := Aside0.mk ((by rw [hg]; exact Nat.ne_of_lt (blk_lt (g := gb132) (o := .cells #[.slice A0_0 l0_0.length c0_0, .slice (some ad155) l0_1.length c0_1, .slice (some ad159) l0_2.length c0_2, .slice A0_3 l0_3.length c0_3] 45 (0, 0)) (bk_ BK132.out)) : gb132 ≠ gb160)); have n8_ := Aside0.mk ((by rw [hg]; exact Nat.ne_of_gt (blk_lt (g := gb132) (o := .cells #[.slice A0_0 l0_0.length c0_0, .slice (some ad155) l0_1.length c0_1, .slice (some ad159) l0_2.length c0_2, .slice A0_3 l0_3.length c0_3] 45 (0, 0)) (bk_ BK132.out)) : gb160 ≠ gb132)); have n9_ := Aside0.mk ((by rw [hg]; exact Nat.ne_of_lt (blk_lt (g := gb156) (o := .cells #[.slice (some ad157) ((rd_T78 l0_1 x107_2).f0).length c155_0, .slice A155_1 ((rd_T78 l0_1 x107_2).f1).length c155_1] 78 (0, 0)) (bk_ BK156.out)) : gb156 ≠ gb160)); have n10_ := Aside0.mk ((by rw [hg]; exact Nat.ne_of_gt (blk_lt (g := gb156) (o := .cells #[.slice (some ad157) ((rd_T78 l0_1 x107_2).f0).length c155_0, .slice A155_1 ((rd_T78 l0_1 x107_2).f1).length c155_1] 78 (0, 0)) (bk_ BK156.out)) : gb160 ≠ gb156)); have n11_ := Aside0.mk ((by rw [hg]; exact Nat.ne_of_lt (blk_lt (g := gb158) (o := .cells #[.bool true, .int .i64 ((rd_T75 ((rd_T78 l0_1 x107_2).f0) x115_3).f1), .int .i64 ((rd_T75 ((rd_T78 l0_1 x107_2).f0) x115_3).f2), .bool ((rd_T75 ((rd_T78 l0_1 x107_2).f0) x115_3).f3), .int .i64 ((rd_T75 ((rd_T78 l0_1 x107_2).f0) x115_3).f4), .int .i64 ((rd_T75 ((rd_T78 l0_1 x107_2).f0) x115_3).f5)] 75 (0, 0)) (bk_ BK158.out)) : gb158 ≠ gb160)); have n12_ := Aside0.mk ((by rw [hg]; exact Nat.ne_of_gt (blk_lt (g := gb158) (o := .cells #[.bool true, .int .i64 ((rd_T75 ((rd_T78 l0_1 x107_2).f0) x115_3).f1), .int .i64 ((rd_T75 ((rd_T78 l0_1 x107_2).f0) x115_3).f2), .bool ((rd_T75 ((rd_T78 l0_1 x107_2).f0) x115_3).f3), .int .i64 ((rd_T75 ((rd_T78 l0_1 x107_2).f0) x115_3).f4), .int .i64 ((rd_T75 ((rd_T78 l0_1 x107_2).f0) x115_3).f5)] 75 (0, 0)) (bk_ BK158.out)) : gb160 ≠ gb158)); clear BK132 BK156; clear BK158 HB; have BK132 := n0_; have BK156 := n1_; have BK158 := n2_; have HB := n3_; have BK160 := n4_; have GW160 := n5_; have GE160 := n6_; have NB132_160 := n7_; have NB160_132 := n8_; have NB156_160 := n9_; have NB160_156 := n10_; have NB158_160 := n11_; have NB160_158 := n12_; clear n0_ n1_ n2_ n3_ n4_ n5_ n6_ n7_ n8_ n9_ n10_ n11_ n12_; clear hb hbox hg; have hnb290 := NB160_132.out; have hnc290 := NB132_160.out; have hnb291 := NB160_156.out; have hnc291 := NB156_160.out; have hnb292 := NB160_158.out; have hnc292 := NB158_160.out; obtain ⟨_, _, _, _, _, _, _, _⟩ := zc4_ BK160.out; have hnb294 := NB158_132.out; have hnc294 := NB132_158.out; have hnb295 := NB158_156.out; have hnc295 := NB156_158.out; obtain ⟨_, _, _, _, _, _, _, _, _, _, _, _⟩ := zc6_ BK158.out))
                     go_roundg k4
                     case measure => have := HK1.out; have := HK2.out; have := HK3.out; have := HK4.out; omega
                     case rel => exact ⟨(x14_4), (wrap64 (x126_4 + 1)), (by first | rfl | (simp; done) | (simp [*]; done)), (by first | rfl | (simp; done) | (simp [*]; done)), H', ⟨by have := HK1.out; have := HK2.out; have := HK3.out; have := HK4.out; omega⟩, ⟨by (with_reducible repeat first | apply bN | apply bD | apply bA); refine blk_far ?_ NB132_160.out _; (with_reducible repeat first | apply bN | apply bD | apply bA); refine blk_far ?_ NB132_160.out _; (with_reducible repeat first | apply bN | apply bD | apply bA); refine blk_far ?_ NB132_160.out _; (with_reducible repeat first | apply bN | apply bD | apply bA); refine blk_far ?_ NB132_160.out _; (with_reducible repeat first | apply bN | apply bD | apply bA); exact BK132.out⟩, ⟨by (with_reducible repeat first | apply bN | apply bD | apply bA); refine blk_far ?_ NB156_160.out _; (with_reducible repeat first | apply bN | apply bD | apply bA); refine blk_far ?_ NB156_160.out _; (with_reducible repeat first | apply bN | apply bD | apply bA); refine blk_far ?_ NB156_160.out _; (with_reducible repeat first | apply bN | apply bD | apply bA); refine blk_far ?_ NB156_160.out _; (with_reducible repeat first | apply bN | apply bD | apply bA); exact BK156.out⟩, ⟨by (with_reducible repeat first | apply bN | apply bD | apply bA); refine blk_far ?_ NB158_160.out _; (with_reducible repeat first | apply bN | apply bD | apply bA); refine blk_far ?_ NB158_160.out _; (with_reducible repeat first | apply bN | apply bD | apply bA); refine blk_far ?_ NB158_160.out _; (with_reducible repeat first | apply bN | apply bD | apply bA); refine blk_far ?_ NB158_160.out _; (with_reducible repeat first | apply bN | apply bD | apply bA); exact BK158.out⟩, ⟨by repeat (first | (with_reducible first | exact HB.out | apply eA | apply eN | apply eD | refine below_set ?_ GE132.out | refine below_set ?_ GE156.out | refine below_set ?_ GE158.out | refine below_set ?_ GE160.out) | exact HB.out)⟩⟩
                   ·rw [if_neg c261] at H
                    exact absurd H (by simp)
                  ·rw [if_neg c260] at H
                   exact absurd H (by simp)
                 ·rw [if_neg c259] at H
                  have c259b0 : decide (x126_4 < (l0_2.length : Int)) = false := decide_eq_false c259
                  clear c259
                  by_cases c297 : ((rd_T75 ((rd_T78 l0_1 x107_2).f0) x115_3).f3) = true
                  ·rw [if_pos c297] at H
                   have c297b0 : ((rd_T75 ((rd_T78 l0_1 x107_2).f0) x115_3).f3) = true := c297
                   clear c297
                   by_cases c298 : ((rd_T75 ((rd_T78 l0_1 x107_2).f0) x115_3).f4) = x14_4
                   ·rw [if_pos c298] at H
                    have c298b0 : (((rd_T75 ((rd_T78 l0_1 x107_2).f0) x115_3).f4) == x14_4) = true := beq_iff_eq.mpr c298
                    have c298b1 : (((rd_T75 ((rd_T78 l0_1 x107_2).f0) x115_3).f4) != x14_4) = false := bne_eq_false_iff_eq.mpr c298
                    clear c298
                    have H' := Aside0.mk H
                    clear H
                    have hnb299 := NB158_132.out
                    have hnc299 := NB132_158.out
                    have hnb300 := NB158_156.out
                    have hnc300 := NB156_158.out
                    obtain ⟨_, _, _, _, _, _, _, _, _, _, _, _⟩ := zc6_ BK158.out
                    go_wp2
                    go_roundg k4
                    case measure => have := HK1.out; have := HK2.out; have := HK3.out; have := HK4.out; omega
                    case rel => exact ⟨(x9_3), (wrap64 (x115_3 + 1)), (by first | rfl | (simp; done) | (simp [*]; done)), (by first | rfl | (simp; done) | (simp [*]; done)), H', ⟨by have := HK1.out; have := HK2.out; have := HK3.out; have := HK4.out; omega⟩, ⟨by (with_reducible repeat first | apply bN | apply bD | apply bA); exact BK132.out⟩, ⟨by (with_reducible repeat first | apply bN | apply bD | apply bA); exact BK156.out⟩, ⟨by repeat (first | (with_reducible first | exact HB.out | apply eA | apply eN | apply eD | refine below_set ?_ GE132.out | refine below_set ?_ GE156.out | refine below_set ?_ GE158.out) | exact HB.out)⟩⟩
                   ·rw [if_neg c298] at H
                    have c298b0 : (((rd_T75 ((rd_T78 l0_1 x107_2).f0) x115_3).f4) == x14_4) = false := beq_eq_false_iff_ne.mpr c298
                    have c298b1 : (((rd_T75 ((rd_T78 l0_1 x107_2).f0) x115_3).f4) != x14_4) = true := bne_iff_ne.mpr c298
                    obtain rfl := Option.some.inj H
                    have hnb302 := NB158_132.out
                    have hnc302 := NB132_158.out
                    have hnb303 := NB158_156.out
                    have hnc303 := NB156_158.out
                    obtain ⟨_, _, _, _, _, _, _, _, _, _, _, _⟩ := zc6_ BK158.out
                    go_wp2
                    go_ret
                    exact ⟨by first | rfl | (simp [errW_none, errW_some] <;> rfl) | (simp [*, errW_none, errW_some] <;> rfl), by repeat (first | (with_reducible first | exact HB.out | apply eA | apply eN | apply eD | refine below_set ?_ GE132.out | refine below_set ?_ GE156.out | refine below_set ?_ GE158.out) | exact HB.out)⟩
                  ·rw [if_neg c297] at H
                   have c297b0 : ((rd_T75 ((rd_T78 l0_1 x107_2).f0) x115_3).f3) = false := by simpa using c297
                   clear c297
                   by_cases c305 : ((rd_T75 ((rd_T78 l0_1 x107_2).f0) x115_3).f4) = x14_4
                   ·rw [if_pos c305] at H
                    have c305b0 : (((rd_T75 ((rd_T78 l0_1 x107_2).f0) x115_3).f4) == x14_4) = true := beq_iff_eq.mpr c305
                    have c305b1 : (((rd_T75 ((rd_T78 l0_1 x107_2).f0) x115_3).f4) != x14_4) = false := bne_eq_false_iff_eq.mpr c305
                    clear c305
                    have H' := Aside0.mk H
                    clear H
                    have hnb306 := NB158_132.out
                    have hnc306 := NB132_158.out
                    have hnb307 := NB158_156.out
                    have hnc307 := NB156_158.out
                    obtain ⟨_, _, _, _, _, _, _, _, _, _, _, _⟩ := zc6_ BK158.out
                    go_wp2
                    go_roundg k4
                    case measure => have := HK1.out; have := HK2.out; have := HK3.out; have := HK4.out; omega
                    case rel => exact ⟨(wrap64 (x9_3 + 1)), (wrap64 (x115_3 + 1)), (by first | rfl | (simp; done) | (simp [*]; done)), (by first | rfl | (simp; done) | (simp [*]; done)), H', ⟨by have := HK1.out; have := HK2.out; have := HK3.out; have := HK4.out; omega⟩, ⟨by (with_reducible repeat first | apply bN | apply bD | apply bA); exact BK132.out⟩, ⟨by (with_reducible repeat first | apply bN | apply bD | apply bA); exact BK156.out⟩, ⟨by repeat (first | (with_reducible first | exact HB.out | apply eA | apply eN | apply eD | refine below_set ?_ GE132.out | refine below_set ?_ GE156.out | refine below_set ?_ GE158.out) | exact HB.out)⟩⟩
                   ·rw [if_neg c305] at H
                    have c305b0 : (((rd_T75 ((rd_T78 l0_1 x107_2).f0) x115_3).f4) == x14_4) = false := beq_eq_false_iff_ne.mpr c305
                    have c305b1 : (((rd_T75 ((rd_T78 l0_1 x107_2).f0) x115_3).f4) != x14_4) = true := bne_iff_ne.mpr c305
                    obtain rfl := Option.some.inj H
                    have hnb309 := NB158_132.out
                    have hnc309 := NB132_158.out
                    have hnb310 := NB158_156.out
                    have hnc310 := NB156_158.out
                    obtain ⟨_, _, _, _, _, _, _, _, _, _, _, _⟩ := zc6_ BK158.out
                    go_wp2
                    go_ret
                    exact ⟨by first | rfl | (simp [errW_none, errW_some] <;> rfl) | (simp [*, errW_none, errW_some] <;> rfl), by repeat (first | (with_reducible first | exact HB.out | apply eA | apply eN | apply eD | refine below_set ?_ GE132.out | refine below_set ?_ GE156.out | refine below_set ?_ GE158.out) | exact HB.out)⟩
              ·replace c252 := Bool.eq_false_iff.mpr c252
               subst c252
               have H1 : (spec_l16Loans.l2 k3 x9_3 x107_2 l0_1 (l0_1.length : Int) x107_2 ((rd_T78 l0_1 x107_2).f0) (((rd_T78 l0_1 x107_2).f0).length : Int) (wrap64 (x115_3 + 1)) l0_0 l0_1 l0_2 l0_3) = some r := by rw [if_neg (show ¬ (false = true) by decide)] at H; first | done | exact H
               clear H
               have H := H1
               clear H1
               have H' := Aside0.mk H
               clear H
               have p157 : 0 ≤ (x115_3 : Int) := of_decide_eq_true (by first | (with_reducible assumption) | assumption)
               have q157 : x115_3 < (((rd_T78 l0_1 x107_2).f0).length : Int) := of_decide_eq_true (by first | (with_reducible assumption) | assumption)
               obtain ⟨ad157, e157, hx157_0, hx157_1, hx157_2, hx157_3, hx157_4, hx157_5⟩ := at_T75 HR155_0.out x115_3 p157 q157
               (try rw [← Nbq251.out] at hx157_0)
               (try rw [← Nbq251.out] at hx157_3)
               cases e157
               replace hx157_0 := (HB.out.cell (World.block_lt_of_cell? w _ hx157_0)).trans hx157_0
               replace hx157_1 := (HB.out.cell (World.block_lt_of_cell? w _ hx157_1)).trans hx157_1
               replace hx157_2 := (HB.out.cell (World.block_lt_of_cell? w _ hx157_2)).trans hx157_2
               replace hx157_3 := (HB.out.cell (World.block_lt_of_cell? w _ hx157_3)).trans hx157_3
               replace hx157_4 := (HB.out.cell (World.block_lt_of_cell? w _ hx157_4)).trans hx157_4
               replace hx157_5 := (HB.out.cell (World.block_lt_of_cell? w _ hx157_5)).trans hx157_5
               replace p157 := eq_true p157
               replace q157 := eq_true q157
               go_wp2_with (first | ((with_reducible refine gate_dst (N := 13) rfl ?_); (try (refine gate_guard (by rfl) ?_; dsimp only)); refine box_event ?hg (N := 13) ?hd (cs := #[.bool false, .int .i64 0, .int .i64 0, .bool false, .int .i64 0, .int .i64 0]) (t := 75) ?hr ?_; (case hd => rfl); (case hg => rfl); (case hr => first | (go_simp; done) | (go_simp; rfl)); intro gb158 hg w312 hbox hb; have n0_ := Aside0.mk (blk_below (bk_ BK132.out) hb); have n1_ := Aside0.mk (blk_below (bk_ BK156.out) hb); have n2_ := Aside0.mk (below_step (by repeat (first | (with_reducible first | exact HB.out | apply eA | apply eN | apply eD | refine below_set ?_ GE132.out | refine below_set ?_ GE156.out) | exact HB.out)) hb); have n3_ := Aside0.mk (hbox); have n4_ := Aside0.mk (gs_ hg (by repeat (first | (with_reducible first | exact HB.out | apply eA | apply eN | apply eD | refine below_set ?_ GE132.out | refine below_set ?_ GE156.out) | exact HB.out)) : w.heap.size ≤ gb158); have n5_ := n4_; have n6_ := Aside0.mk ((by rw [hg]; exact Nat.ne_of_lt (blk_lt (g := gb132) (o := .cells #[.slice A0_0 l0_0.length c0_0, .slice (some ad155) l0_1.length c0_1, .slice A0_2 l0_2.length c0_2, .slice A0_3 l0_3.length c0_3] 45 (0, 0)) (bk_ BK132.out)) : gb132 ≠ gb158)); have n7_ := Aside0.mk ((by rw [hg]; exact Nat.ne_of_gt (blk_lt (g := gb132) (o := .cells #[.slice A0_0 l0_0.length c0_0, .slice (some ad155) l0_1.length c0_1, .slice A0_2 l0_2.length c0_2, .slice A0_3 l0_3.length c0_3] 45 (0, 0)) (bk_ BK132.out)) : gb158 ≠ gb132)); have n8_ := Aside0.mk ((by rw [hg]; exact Nat.ne_of_lt (blk_lt (g := gb156) (o := .cells #[.slice (some ad157) ((rd_T78 l0_1 x107_2).f0).length c155_0, .slice A155_1 ((rd_T78 l0_1 x107_2).f1).length c155_1] 78 (0, 0)) (bk_ BK156.out)) : gb156 ≠ gb158)); have n9_ := Aside0.mk ((by rw [hg]; exact Nat.ne_of_gt (blk_lt (g := gb156) (o := .cells #[.slice (some ad157) ((rd_T78 l0_1 x107_2).f0).length c155_0, .slice A155_1 ((rd_T78 l0_1 x107_2).f1).length c155_1] 78 (0, 0)) (bk_ BK156.out)) : gb158 ≠ gb156)); clear BK132 BK156 HB; have BK132 := n0_; have BK156 := n1_; have HB := n2_; have BK158 := n3_; have GW158 := n4_; have GE158 := n5_; have NB132_158 := n6_; have NB158_132 := n7_; have NB156_158 := n8_; have NB158_156 := n9_; clear n0_ n1_ n2_ n3_ n4_ n5_ n6_ n7_ n8_ n9_; clear hb hbox hg; have hnb313 := NB158_132.out; have hnc313 := NB132_158.out; have hnb314 := NB158_156.out; have hnc314 := NB156_158.out; obtain ⟨_, _, _, _, _, _, _, _, _, _, _, _⟩ := zc6_ BK158.out))
               go_roundg k3
               case measure => have := HK1.out; have := HK2.out; have := HK3.out; omega
               case rel => exact ⟨(x9_3), (wrap64 (x115_3 + 1)), (by first | rfl | (simp; done) | (simp [*]; done)), (by first | rfl | (simp; done) | (simp [*]; done)), H', ⟨by have := HK1.out; have := HK2.out; have := HK3.out; omega⟩, ⟨by (with_reducible repeat first | apply bN | apply bD | apply bA); refine blk_far ?_ NB132_158.out _; (with_reducible repeat first | apply bN | apply bD | apply bA); refine blk_far ?_ NB132_158.out _; (with_reducible repeat first | apply bN | apply bD | apply bA); refine blk_far ?_ NB132_158.out _; (with_reducible repeat first | apply bN | apply bD | apply bA); refine blk_far ?_ NB132_158.out _; (with_reducible repeat first | apply bN | apply bD | apply bA); refine blk_far ?_ NB132_158.out _; (with_reducible repeat first | apply bN | apply bD | apply bA); refine blk_far ?_ NB132_158.out _; (with_reducible repeat first | apply bN | apply bD | apply bA); exact BK132.out⟩, ⟨by (with_reducible repeat first | apply bN | apply bD | apply bA); refine blk_far ?_ NB156_158.out _; (with_reducible repeat first | apply bN | apply bD | apply bA); refine blk_far ?_ NB156_158.out _; (with_reducible repeat first | apply bN | apply bD | apply bA); refine blk_far ?_ NB156_158.out _; (with_reducible repeat first | apply bN | apply bD | apply bA); refine blk_far ?_ NB156_158.out _; (with_reducible repeat first | apply bN | apply bD | apply bA); refine blk_far ?_ NB156_158.out _; (with_reducible repeat first | apply bN | apply bD | apply bA); refine blk_far ?_ NB156_158.out _; (with_reducible repeat first | apply bN | apply bD | apply bA); exact BK156.out⟩, ⟨by repeat (first | (with_reducible first | exact HB.out | apply eA | apply eN | apply eD | refine below_set ?_ GE132.out | refine below_set ?_ GE156.out | refine below_set ?_ GE158.out) | exact HB.out)⟩⟩
             ·rw [if_neg c250] at H
              exact absurd H (by simp)
            ·rw [if_neg c249] at H
             exact absurd H (by simp)
           ·rw [if_neg c248] at H
            have c248b0 : decide (x115_3 < (((rd_T78 l0_1 x107_2).f0).length : Int)) = false := decide_eq_false c248
            clear c248
            have H' := Aside0.mk H
            clear H
            go_wp2
            go_roundg k3
            case measure => have := HK1.out; have := HK2.out; have := HK3.out; omega
            case rel => exact ⟨(x9_3), (wrap64 (x107_2 + 1)), (by first | rfl | (simp; done) | (simp [*]; done)), (by first | rfl | (simp; done) | (simp [*]; done)), H', ⟨by have := HK1.out; have := HK2.out; have := HK3.out; omega⟩, ⟨by (with_reducible repeat first | apply bN | apply bD | apply bA); exact BK132.out⟩, ⟨by repeat (first | (with_reducible first | exact HB.out | apply eA | apply eN | apply eD | refine below_set ?_ GE132.out | refine below_set ?_ GE156.out) | exact HB.out)⟩⟩
        ·rw [if_neg c244] at H
         exact absurd H (by simp)
       ·rw [if_neg c243] at H
        exact absurd H (by simp)
      ·rw [if_neg c242] at H
       have c242b0 : decide (x107_2 < (l0_1.length : Int)) = false := decide_eq_false c242
       clear c242
       obtain rfl := Option.some.inj H
       obtain ⟨_, _, _, _, _, _, _, _⟩ := zc4_ BK132.out
       go_wp2
       go_ret
       exact ⟨by first | rfl | (simp [errW_none, errW_some] <;> rfl) | (simp [*, errW_none, errW_some] <;> rfl), by repeat (first | (with_reducible first | exact HB.out | apply eA | apply eN | apply eD | refine below_set ?_ GE132.out) | exact HB.out)⟩

end Go.Proofs.Ytdoflfifnkpacaa.WO
