-- Printed by a program of this session (after the kit's print.sh, with contracts of its own beside): Lean checks it.
import Derived.Test.YtdoflfifnkpacaaC19WOx0
import Derived.Test.YtdoflfifnkpacaaC19WOx1
namespace Go.Proofs.Ytdoflfifnkpacaa.WO
open Go.RowKit Go.Proofs.YtdoflfifnkpacaaW.PrintWords Go.Proofs.YtdoflfifnkpacaaW.PrintLast Go.Proofs.YtdoflfifnkpacaaW.PrintMore
attribute [local go_sem] max2_int min2_int max_two min_two max_three min_three max_four min_four   -- for this text's walks alone
set_option linter.unusedVariables false
set_option linter.unusedSimpArgs false

def impl_Handle_sound.j0 : Nat → Bool → Bool → Int → Int → Bool → Int → Int → Option (Bool)
 | 0, _, _, _, _, _, _, _ => none
 | k + 1, x35, x209000, x209001, x209002, x209003, x209004, x209005 => if x35 = true then (some false) else (if x209003 = true then (some (x209005 == 0)) else (if x209005 ≥ 1 then (some (decide (x209005 ≤ 1000))) else (some false)))
def impl_Handle_sound.f (k : Nat) (a0_0 : Bool) (a0_1 : Int) (a0_2 : Int) (a0_3 : Bool) (a0_4 : Int) (a0_5 : Int) : Option (Bool) := if a0_0 = true then (if a0_1 < 0 then (impl_Handle_sound.j0 k true a0_0 a0_1 a0_2 a0_3 a0_4 a0_5) else (if a0_1 > 9 then (impl_Handle_sound.j0 k true a0_0 a0_1 a0_2 a0_3 a0_4 a0_5) else (if a0_2 < 0 then (impl_Handle_sound.j0 k true a0_0 a0_1 a0_2 a0_3 a0_4 a0_5) else (if a0_2 > 1000000 then (impl_Handle_sound.j0 k true a0_0 a0_1 a0_2 a0_3 a0_4 a0_5) else (if a0_4 < 0 then (impl_Handle_sound.j0 k true a0_0 a0_1 a0_2 a0_3 a0_4 a0_5) else (impl_Handle_sound.j0 k (decide (a0_4 > 1000)) a0_0 a0_1 a0_2 a0_3 a0_4 a0_5)))))) else (impl_Handle_sound.j0 k true a0_0 a0_1 a0_2 a0_3 a0_4 a0_5)
set_option maxHeartbeats 8000000 in
set_option maxRecDepth 100000 in
theorem impl_Handle_sound.calls (k : Nat) (a0_0 : Bool) (a0_1 : Int) (a0_2 : Int) (a0_3 : Bool) (a0_4 : Int) (a0_5 : Int) (r : Bool) (w : World) (h : impl_Handle_sound.f k a0_0 a0_1 a0_2 a0_3 a0_4 a0_5 = some r) :
  Calls Try.prog 129 #[.agg #[.bool a0_0, .int .i64 a0_1, .int .i64 a0_2, .bool a0_3, .int .i64 a0_4, .int .i64 a0_5]] w fun e w' => e = .returned (.bool r) ∧ Below w.heap.size w w' := by
 have hu75 := Try.underlying75
 have HB := Aside0.mk (Below.refl w.heap.size w)
 have H : (if a0_0 = true then (if a0_1 < 0 then (impl_Handle_sound.j0 k true a0_0 a0_1 a0_2 a0_3 a0_4 a0_5) else (if a0_1 > 9 then (impl_Handle_sound.j0 k true a0_0 a0_1 a0_2 a0_3 a0_4 a0_5) else (if a0_2 < 0 then (impl_Handle_sound.j0 k true a0_0 a0_1 a0_2 a0_3 a0_4 a0_5) else (if a0_2 > 1000000 then (impl_Handle_sound.j0 k true a0_0 a0_1 a0_2 a0_3 a0_4 a0_5) else (if a0_4 < 0 then (impl_Handle_sound.j0 k true a0_0 a0_1 a0_2 a0_3 a0_4 a0_5) else (impl_Handle_sound.j0 k (decide (a0_4 > 1000)) a0_0 a0_1 a0_2 a0_3 a0_4 a0_5)))))) else (impl_Handle_sound.j0 k true a0_0 a0_1 a0_2 a0_3 a0_4 a0_5)) = some r := h
 clear h
 have HC2 := Aside0.mk H
 clear H
 go_enter Try.func129, Try.ntmps129
 go_upto_region 1 with (first | ((with_reducible refine gate_dst (N := 1) rfl ?_); refine box_event ?hg (N := 1) ?hd (cs := #[.bool a0_0, .int .i64 a0_1, .int .i64 a0_2, .bool a0_3, .int .i64 a0_4, .int .i64 a0_5]) (t := 75) ?hr ?_; (case hd => rfl); (case hg => rfl); (case hr => first | (go_simp; done) | (go_simp; rfl)); intro gb208 hg w3 hbox hb; have n0_ := Aside0.mk (below_step (eb_ HB.out) hb); have n1_ := Aside0.mk (hbox); have n2_ := Aside0.mk (gs_ hg (eb_ HB.out) : w.heap.size ≤ gb208); have n3_ := n2_; clear HB; have HB := n0_; have BK208 := n1_; have GW208 := n2_; have GE208 := n3_; clear n0_ n1_ n2_ n3_; clear hb hbox hg))
 (try simp only [Act.put, List.setIfInBounds_toArray, List.set_cons_zero, List.set_cons_succ])
 go_cut [35] (fun v35 wc => ∃ (kq : Nat) (x35_1 : Bool), v35 = .bool x35_1 ∧ Aside0 (impl_Handle_sound.j0 kq x35_1 a0_0 a0_1 a0_2 a0_3 a0_4 a0_5 = some r) ∧ Aside0 (kq ≤ k) ∧ Aside0 (wc.heap[gb208]? = some (.cells #[.bool a0_0, .int .i64 a0_1, .int .i64 a0_2, .bool a0_3, .int .i64 a0_4, .int .i64 a0_5] 75 (0, 0))) ∧ Aside0 (Below w.heap.size w wc))
 case first =>
  have H := HC2.out
  clear HC2
  by_cases c4 : a0_0 = true
  ·subst c4
   have H1 : (if a0_1 < 0 then (impl_Handle_sound.j0 k true true a0_1 a0_2 a0_3 a0_4 a0_5) else (if a0_1 > 9 then (impl_Handle_sound.j0 k true true a0_1 a0_2 a0_3 a0_4 a0_5) else (if a0_2 < 0 then (impl_Handle_sound.j0 k true true a0_1 a0_2 a0_3 a0_4 a0_5) else (if a0_2 > 1000000 then (impl_Handle_sound.j0 k true true a0_1 a0_2 a0_3 a0_4 a0_5) else (if a0_4 < 0 then (impl_Handle_sound.j0 k true true a0_1 a0_2 a0_3 a0_4 a0_5) else (impl_Handle_sound.j0 k (decide (a0_4 > 1000)) true a0_1 a0_2 a0_3 a0_4 a0_5)))))) = some r := by rw [if_pos rfl] at H; first | done | exact H
   clear H
   have H := H1
   clear H1
   by_cases c5 : a0_1 < 0
   ·rw [if_pos c5] at H
    have c5b0 : decide (a0_1 < 0) = true := decide_eq_true c5
    clear c5
    (first | rw [c5b0] | (simp only [i64_w, i32_w]; rw [c5b0]) | skip)
    have H' := Aside0.mk H
    clear H
    obtain ⟨_, _, _, _, _, _, _, _, _, _, _, _⟩ := zc6_ BK208.out
    go_wp2
    go_meet
    case rel => exact ⟨_, (true), (by first | rfl | (simp; done) | (simp [*]; done)), H', ⟨by first | omega | exact Nat.le_refl _⟩, ⟨by (with_reducible repeat first | apply bN | apply bD | apply bA); exact BK208.out⟩, ⟨by repeat (first | (with_reducible first | exact HB.out | apply eA | apply eN | apply eD | refine below_set ?_ GE208.out) | exact HB.out)⟩⟩
   ·rw [if_neg c5] at H
    have c5b0 : decide (a0_1 < 0) = false := decide_eq_false c5
    clear c5
    (first | rw [c5b0] | (simp only [i64_w, i32_w]; rw [c5b0]) | skip)
    by_cases c7 : a0_1 > 9
    ·rw [if_pos c7] at H
     have c7b0 : decide (9 < a0_1) = true := decide_eq_true c7
     clear c7
     have H' := Aside0.mk H
     clear H
     obtain ⟨_, _, _, _, _, _, _, _, _, _, _, _⟩ := zc6_ BK208.out
     go_wp2
     go_meet
     case rel => exact ⟨_, (true), (by first | rfl | (simp; done) | (simp [*]; done)), H', ⟨by first | omega | exact Nat.le_refl _⟩, ⟨by (with_reducible repeat first | apply bN | apply bD | apply bA); exact BK208.out⟩, ⟨by repeat (first | (with_reducible first | exact HB.out | apply eA | apply eN | apply eD | refine below_set ?_ GE208.out) | exact HB.out)⟩⟩
    ·rw [if_neg c7] at H
     have c7b0 : decide (9 < a0_1) = false := decide_eq_false c7
     clear c7
     by_cases c9 : a0_2 < 0
     ·rw [if_pos c9] at H
      have c9b0 : decide (a0_2 < 0) = true := decide_eq_true c9
      clear c9
      have H' := Aside0.mk H
      clear H
      obtain ⟨_, _, _, _, _, _, _, _, _, _, _, _⟩ := zc6_ BK208.out
      go_wp2
      go_meet
      case rel => exact ⟨_, (true), (by first | rfl | (simp; done) | (simp [*]; done)), H', ⟨by first | omega | exact Nat.le_refl _⟩, ⟨by (with_reducible repeat first | apply bN | apply bD | apply bA); exact BK208.out⟩, ⟨by repeat (first | (with_reducible first | exact HB.out | apply eA | apply eN | apply eD | refine below_set ?_ GE208.out) | exact HB.out)⟩⟩
     ·rw [if_neg c9] at H
      have c9b0 : decide (a0_2 < 0) = false := decide_eq_false c9
      clear c9
      by_cases c11 : a0_2 > 1000000
      ·rw [if_pos c11] at H
       have c11b0 : decide (1000000 < a0_2) = true := decide_eq_true c11
       clear c11
       have H' := Aside0.mk H
       clear H
       obtain ⟨_, _, _, _, _, _, _, _, _, _, _, _⟩ := zc6_ BK208.out
       go_wp2
       go_meet
       case rel => exact ⟨_, (true), (by first | rfl | (simp; done) | (simp [*]; done)), H', ⟨by first | omega | exact Nat.le_refl _⟩, ⟨by (with_reducible repeat first | apply bN | apply bD | apply bA); exact BK208.out⟩, ⟨by repeat (first | (with_reducible first | exact HB.out | apply eA | apply eN | apply eD | refine below_set ?_ GE208.out) | exact HB.out)⟩⟩
      ·rw [if_neg c11] at H
       have c11b0 : decide (1000000 < a0_2) = false := decide_eq_false c11
       clear c11
       by_cases c13 : a0_4 < 0
       ·rw [if_pos c13] at H
        have c13b0 : decide (a0_4 < 0) = true := decide_eq_true c13
        clear c13
        have H' := Aside0.mk H
        clear H
        obtain ⟨_, _, _, _, _, _, _, _, _, _, _, _⟩ := zc6_ BK208.out
        go_wp2
        go_meet
        case rel => exact ⟨_, (true), (by first | rfl | (simp; done) | (simp [*]; done)), H', ⟨by first | omega | exact Nat.le_refl _⟩, ⟨by (with_reducible repeat first | apply bN | apply bD | apply bA); exact BK208.out⟩, ⟨by repeat (first | (with_reducible first | exact HB.out | apply eA | apply eN | apply eD | refine below_set ?_ GE208.out) | exact HB.out)⟩⟩
       ·rw [if_neg c13] at H
        have c13b0 : decide (a0_4 < 0) = false := decide_eq_false c13
        clear c13
        have H' := Aside0.mk H
        clear H
        obtain ⟨_, _, _, _, _, _, _, _, _, _, _, _⟩ := zc6_ BK208.out
        go_wp2
        go_meet
        case rel => exact ⟨_, (decide (a0_4 > 1000)), (by first | rfl | (simp; done) | (simp [*]; done)), H', ⟨by first | omega | exact Nat.le_refl _⟩, ⟨by (with_reducible repeat first | apply bN | apply bD | apply bA); exact BK208.out⟩, ⟨by repeat (first | (with_reducible first | exact HB.out | apply eA | apply eN | apply eD | refine below_set ?_ GE208.out) | exact HB.out)⟩⟩
  ·replace c4 := Bool.eq_false_iff.mpr c4
   subst c4
   have H1 : (impl_Handle_sound.j0 k true false a0_1 a0_2 a0_3 a0_4 a0_5) = some r := by rw [if_neg (show ¬ (false = true) by decide)] at H; first | done | exact H
   clear H
   have H := H1
   clear H1
   have H' := Aside0.mk H
   clear H
   obtain ⟨_, _, _, _, _, _, _, _, _, _, _, _⟩ := zc6_ BK208.out
   go_wp2
   go_meet
   case rel => exact ⟨_, (true), (by first | rfl | (simp; done) | (simp [*]; done)), H', ⟨by first | omega | exact Nat.le_refl _⟩, ⟨by (with_reducible repeat first | apply bN | apply bD | apply bA); exact BK208.out⟩, ⟨by repeat (first | (with_reducible first | exact HB.out | apply eA | apply eN | apply eD | refine below_set ?_ GE208.out) | exact HB.out)⟩⟩
 case rest =>
  clear HC2
  try clear c1
  try clear p2
  try clear c4
  try clear c5
  try clear c5b0
  try clear c7
  try clear c7b0
  try clear c9
  try clear c9b0
  try clear c11
  try clear c11b0
  try clear c12
  try clear c13
  try clear c13b0
  obtain ⟨kq, x35_1, rfl, HA, HJ1, BK208, HB⟩ := hcut
  cases kq with
  | zero => exact absurd HA.out (by simp [impl_Handle_sound.j0])
  | succ kj1 =>
   have H := HA.out
   clear HA
   simp only [impl_Handle_sound.j0] at H
   by_cases c17 : x35_1 = true
   ·subst c17
    have H1 : (some false) = some r := by rw [if_pos rfl] at H; first | done | exact H
    clear H
    have H := H1
    clear H1
    obtain rfl := Option.some.inj H
    go_wp2
    go_ret
    exact ⟨by first | rfl | (simp [errW_none, errW_some] <;> rfl) | (simp [*, errW_none, errW_some] <;> rfl), by repeat (first | (with_reducible first | exact HB.out | apply eA | apply eN | apply eD | refine below_set ?_ GE208.out) | exact HB.out)⟩
   ·replace c17 := Bool.eq_false_iff.mpr c17
    subst c17
    have H1 : (if a0_3 = true then (some (a0_5 == 0)) else (if a0_5 ≥ 1 then (some (decide (a0_5 ≤ 1000))) else (some false))) = some r := by rw [if_neg (show ¬ (false = true) by decide)] at H; first | done | exact H
    clear H
    have H := H1
    clear H1
    by_cases c18 : a0_3 = true
    ·subst c18
     have H1 : (some (a0_5 == 0)) = some r := by rw [if_pos rfl] at H; first | done | exact H
     clear H
     have H := H1
     clear H1
     obtain rfl := Option.some.inj H
     obtain ⟨_, _, _, _, _, _, _, _, _, _, _, _⟩ := zc6_ BK208.out
     go_wp2
     go_ret
     exact ⟨by first | rfl | (simp [errW_none, errW_some] <;> rfl) | (simp [*, errW_none, errW_some] <;> rfl), by repeat (first | (with_reducible first | exact HB.out | apply eA | apply eN | apply eD | refine below_set ?_ GE208.out) | exact HB.out)⟩
    ·replace c18 := Bool.eq_false_iff.mpr c18
     subst c18
     have H1 : (if a0_5 ≥ 1 then (some (decide (a0_5 ≤ 1000))) else (some false)) = some r := by rw [if_neg (show ¬ (false = true) by decide)] at H; first | done | exact H
     clear H
     have H := H1
     clear H1
     by_cases c20 : a0_5 ≥ 1
     ·rw [if_pos c20] at H
      have c20b0 : decide (1 ≤ a0_5) = true := decide_eq_true c20
      clear c20
      obtain rfl := Option.some.inj H
      obtain ⟨_, _, _, _, _, _, _, _, _, _, _, _⟩ := zc6_ BK208.out
      go_wp2
      go_ret
      exact ⟨by first | rfl | (simp [errW_none, errW_some] <;> rfl) | (simp [*, errW_none, errW_some] <;> rfl), by repeat (first | (with_reducible first | exact HB.out | apply eA | apply eN | apply eD | refine below_set ?_ GE208.out) | exact HB.out)⟩
     ·rw [if_neg c20] at H
      have c20b0 : decide (1 ≤ a0_5) = false := decide_eq_false c20
      clear c20
      obtain rfl := Option.some.inj H
      obtain ⟨_, _, _, _, _, _, _, _, _, _, _, _⟩ := zc6_ BK208.out
      go_wp2
      go_ret
      exact ⟨by first | rfl | (simp [errW_none, errW_some] <;> rfl) | (simp [*, errW_none, errW_some] <;> rfl), by repeat (first | (with_reducible first | exact HB.out | apply eA | apply eN | apply eD | refine below_set ?_ GE208.out) | exact HB.out)⟩

theorem z_region_tail {P : Program} {id : Nat} {Q : Exit → Act → World → Prop} {a : Act} {w : World} {l : List Oper} (n : Nat) (hm : P.follows .mixedOrders = true) (hB : Region.lexTailB .any l.toArray n = true)
  (h : wpStill P l.toArray w.drew (fun a' => wpList P l.toArray Q (l.drop n) a' w.drew) (l.take n) a) : (Code.region id l.toArray true).wp P Q a w := wp_region_still_tail n hm hB h
theorem z_cell_new (w : World) (arr : Array Value) (t : Nat) (fr : Nat × Nat) (j : Nat) : (w.alloc (.cells arr t fr)).cell? ⟨w.heap.size, j, none⟩ = arr[j]? := by
 unfold World.cell? World.alloc
 simp
theorem z_cell_old {w : World} {o : Obj} {b j : Nat} {v : Value} (h : w.cell? ⟨b, j, none⟩ = some v) : (w.alloc o).cell? ⟨b, j, none⟩ = some v := by
 have hlt := World.block_lt_of_cell? w _ h
 unfold World.cell? World.alloc at *
 simp only [Array.getElem?_push]
 rw [if_neg (by simpa using (Nat.ne_of_lt hlt))]
 exact h
theorem z_cell_far {w : World} {g b : Nat} {j o : Nat} {u v : Value} (h : w.cell? ⟨b, o, none⟩ = some v) (hne : g ≠ b) : (w.setCell ⟨g, j, none⟩ u).cell? ⟨b, o, none⟩ = some v := by
 unfold World.cell? World.setCell at *
 simp only [Array.getElem?_modify, hne, if_false]
 exact h

/-- An array of bools in a block. -/
def gb (m : List Bool) (i : Int) : Bool := m.getD i.toNat false
def barr (w : World) (g t : Nat) (m : List Bool) : Prop := w.heap[g]? = some (.cells (m.map Value.bool).toArray t (0, 0))
theorem barr_at {w : World} {g t : Nat} {m : List Bool} (h : barr w g t m) (i : Int) (h0 : 0 ≤ i) (h1 : i < m.length) : w.cell? ⟨g, i.toNat, none⟩ = some (.bool (gb m i)) := by
 unfold barr at h
 unfold World.cell? gb
 simp only [h]
 have : i.toNat < m.length := by omega
 simp [List.getD, this]
theorem barr_free {w : World} {g t : Nat} {m : List Bool} (h : barr w g t m) (j : Nat) : w.frozen? ⟨g, j, none⟩ = false := by
 unfold barr at h
 unfold World.frozen?
 simp only [h]
 simp
theorem barr_set {w : World} {g t : Nat} {m : List Bool} (h : barr w g t m) (j : Nat) (b : Bool) : barr (w.setCell ⟨g, j, none⟩ (.bool b)) g t (m.set j b) := by
 unfold barr at h ⊢
 unfold World.setCell
 simp only [Array.getElem?_modify, if_true, h]
 simp [List.map_set]
theorem barr_below {w w' : World} {g t : Nat} {m : List Bool} (h : barr w g t m) (hb : Below w.heap.size w w') : barr w' g t m := by
 unfold barr at h ⊢
 have hlt : g < w.heap.size := (Array.getElem?_eq_some_iff.1 h).1
 exact (hb.block g hlt).trans h

theorem z_barr_push (h : Array Obj) (o o' : Obj) : ((h.push o).push o')[h.size + 1]? = some o' := by
 have e : (h.push o).size = h.size + 1 := by simp
 rw [← e, Array.getElem?_push_size]
theorem z_barr_alloc2 (w : World) (o : Obj) (t : Nat) : barr ((w.alloc o).alloc (.cells ((List.replicate 40 false).map Value.bool).toArray t (0, 0))) (w.heap.size + 1) t (List.replicate 40 false) := z_barr_push _ _ _
theorem z_size_alloc2 (w : World) (o o' : Obj) : w.heap.size + 1 < ((w.alloc o).alloc o').heap.size := by
 unfold World.alloc
 simp
theorem z_lt_new {w : World} {n : Nat} (o : Obj) (h : n < w.heap.size) : n < (w.alloc o).heap.size := by
 show n < (w.heap.push o).size
 simp
 omega
theorem barr_new {w : World} {g t : Nat} {m : List Bool} (h : barr w g t m) (o : Obj) : barr (w.alloc o) g t m := barr_below h (below_alloc (Below.refl _ _) o)

def isz (h : S75) : Bool := !h.f0 && (h.f1 == 0 && (h.f2 == 0 && (!h.f3 && (h.f4 == 0 && h.f5 == 0))))
def impl_GoodTable.l1 (q : Nat) : Nat → List S75 → List Bool → Int → Option Bool
 | 0, _, _, _ => none
 | k + 1, l0, m, y => if y < (l0.length : Int) then (if gb m y = true then (if isz (rd_T75 l0 y) = true then impl_GoodTable.l1 q k l0 m (y + 1) else some false) else (if isz (rd_T75 l0 y) = true then some false else ((impl_Handle_sound.f q (rd_T75 l0 y).f0 (rd_T75 l0 y).f1 (rd_T75 l0 y).f2 (rd_T75 l0 y).f3 (rd_T75 l0 y).f4 (rd_T75 l0 y).f5).bind fun t => if t = true then impl_GoodTable.l1 q k l0 m (y + 1) else some false))) else some true
def impl_GoodTable.l0 (q : Nat) : Nat → List S75 → List Int → List Bool → Int → Option Bool
 | 0, _, _, _, _ => none
 | k + 1, l0, l1, m, x => if x < (l1.length : Int) then (if rd l1 x < 0 then some false else (if rd l1 x ≥ (l0.length : Int) then some false else (if gb m (rd l1 x) = true then some false else impl_GoodTable.l0 q k l0 l1 (m.set (rd l1 x).toNat true) (x + 1)))) else impl_GoodTable.l1 q q l0 m 0
def impl_GoodTable.f (k : Nat) (l0_0 : List S75) (l0_1 : List Int) : Option Bool :=
 if (l0_0.length : Int) > 40 then some false else (if (l0_1.length : Int) > (l0_0.length : Int) then some false else impl_GoodTable.l0 k k l0_0 l0_1 (List.replicate 40 false) 0)

attribute [local go_sem high] eqA75
set_option maxHeartbeats 1000000 in
set_option maxRecDepth 100000 in
theorem impl_GoodTable.calls (k : Nat) (A0_0 : Option Addr) (c0_0 : Nat) (l0_0 : List (S75)) (A0_1 : Option Addr) (c0_1 : Nat) (l0_1 : List Int) (r : Bool) (w : World) (hr0_0 : Kd.C k75 w A0_0 l0_0.length l0_0) (hc0_0 : l0_0.length ≤ c0_0) (hr0_1 : Kd.C (Kd.int .i64) w A0_1 l0_1.length l0_1) (hc0_1 : l0_1.length ≤ c0_1) (hh : impl_GoodTable.f k l0_0 l0_1 = some r) :
  Calls Try.prog 80 #[.agg #[.slice A0_0 l0_0.length c0_0, .slice A0_1 l0_1.length c0_1]] w fun e w' => e = .returned (.bool r) ∧ Below w.heap.size w w' := by
 have H1 := Aside0.mk hr0_1
 have H0 := Aside0.mk hr0_0
 clear hr0_0 hr0_1
 unfold impl_GoodTable.f at hh
 by_cases h : (l0_0.length : Int) > 40
 ·rw [if_pos h] at hh
  obtain rfl := Option.some.inj hh
  have h' : decide (40 < l0_0.length) = true := by simp; omega
  go_enter Try.func80, Try.ntmps80
  go_wp2
  go_ret
  exact ⟨rfl, by repeat (first | exact Below.refl _ _ | apply eA)⟩
 rw [if_neg h] at hh
 have h' : decide (40 < l0_0.length) = false := by simp; omega
 by_cases h2 : (l0_1.length : Int) > (l0_0.length : Int)
 ·rw [if_pos h2] at hh
  obtain rfl := Option.some.inj hh
  have h2' : decide (l0_0.length < l0_1.length) = true := by simp; omega
  go_enter Try.func80, Try.ntmps80
  go_wp2
  go_ret
  exact ⟨rfl, by repeat (first | exact Below.refl _ _ | apply eA)⟩
 rw [if_neg h2] at hh
 have h2' : decide (l0_0.length < l0_1.length) = false := by simp; omega
 have HH := Aside0.mk hh
 clear hh
 go_enter Try.func80, Try.ntmps80
 go_wp2_with fail
 go_loopg [24] k (fun gk v24 wr => ∃ (x : Int) (m : List Bool), v24 = .int .i64 x ∧ Aside0 (0 ≤ x) ∧ Aside0 (impl_GoodTable.l0 k gk l0_0 l0_1 m x = some r) ∧ Aside0 (m.length = 40) ∧ Aside0 (barr wr (w.heap.size + 1) 163 m) ∧ wr.cell? ⟨w.heap.size, 0, none⟩ = some (.slice A0_0 l0_0.length c0_0) ∧ wr.cell? ⟨w.heap.size, 1, none⟩ = some (.slice A0_1 l0_1.length c0_1) ∧ Aside0 (Below w.heap.size w wr) ∧ Aside0 (w.heap.size + 1 < wr.heap.size))
 case atStart => exact ⟨0, List.replicate 40 false, rfl, ⟨Int.le_refl _⟩, HH, ⟨by simp⟩, ⟨z_barr_alloc2 _ _ _⟩, z_cell_old (z_cell_new _ _ _ _ 0), z_cell_old (z_cell_new _ _ _ _ 1), ⟨below_alloc (below_alloc (Below.refl _ _) _) _⟩, ⟨z_size_alloc2 _ _ _⟩⟩
 case round =>
  clear HH
  obtain ⟨x, m, rfl, X0, HX, M, B, T0, T1, HB, HS⟩ := hrel
  cases gk with
  | zero => exact absurd HX.out (by simp [impl_GoodTable.l0])
  | succ k1 =>
  have hx1 := HX.out
  clear HX
  simp only [impl_GoodTable.l0] at hx1
  by_cases hlt : x < (l0_1.length : Int)
  ·rw [if_pos hlt] at hx1
   have p0 : 0 ≤ x := X0.out
   have hr := Kd.C_below H1.out HB.out
   obtain ⟨ad, e, hx⟩ := Kd.at_int hr x p0 hlt
   cases e
   clear hr
   by_cases hk0 : rd l0_1 x < 0
   ·rw [if_pos hk0] at hx1
    obtain rfl := Option.some.inj hx1
    have d0 : decide (rd l0_1 x < 0) = true := decide_eq_true hk0
    go_wp2
    go_ret
    exact ⟨rfl, HB.out⟩
   ·rw [if_neg hk0] at hx1
    have d0 : decide (rd l0_1 x < 0) = false := decide_eq_false hk0
    by_cases hk1 : rd l0_1 x ≥ (l0_0.length : Int)
    ·rw [if_pos hk1] at hx1
     obtain rfl := Option.some.inj hx1
     have d1 : decide (rd l0_1 x ≥ (l0_0.length : Int)) = true := decide_eq_true hk1
     go_wp2
     go_ret
     exact ⟨rfl, HB.out⟩
    ·rw [if_neg hk1] at hx1
     have d1 : decide (rd l0_1 x ≥ (l0_0.length : Int)) = false := decide_eq_false hk1
     have q0 : 0 ≤ rd l0_1 x := by omega
     have q1 : rd l0_1 x < 40 := by omega
     have hb := barr_at B.out (rd l0_1 x) q0 (by rw [M.out]; omega)
     by_cases hm : gb m (rd l0_1 x) = true
     ·rw [if_pos hm] at hx1
      obtain rfl := Option.some.inj hx1
      rw [hm] at hb
      go_wp2
      go_ret
      exact ⟨rfl, HB.out⟩
     ·rw [if_neg hm] at hx1
      have HX := Aside0.mk hx1
      clear hx1
      have hm : gb m (rd l0_1 x) = false := by simpa using hm
      rw [hm] at hb
      have hf := barr_free B.out (rd l0_1 x).toNat
      go_wp2
      go_roundg k1
      case measure => omega
      case rel => exact ⟨x + 1, m.set (rd l0_1 x).toNat true, rfl, ⟨by omega⟩, HX, ⟨by rw [List.length_set]; exact M.out⟩, ⟨barr_set B.out _ _⟩, z_cell_far T0 (by omega), z_cell_far T1 (by omega), ⟨HB.out.setCell (by simp) _⟩, ⟨by simpa [World.setCell] using HS.out⟩⟩
  ·rw [if_neg hlt] at hx1
   have HX := Aside0.mk hx1
   clear hx1
   go_wp2_with fail
   go_loopg [48] k (fun gk v48 wr => ∃ (y : Int), v48 = .int .i64 y ∧ Aside0 (0 ≤ y) ∧ Aside0 (impl_GoodTable.l1 k gk l0_0 m y = some r) ∧ Aside0 (barr wr (w.heap.size + 1) 163 m) ∧ Aside0 (Below w.heap.size w wr) ∧ Aside0 (w.heap.size + 1 < wr.heap.size))
   case atStart => exact ⟨0, rfl, ⟨Int.le_refl _⟩, HX, B, HB, HS⟩
   case round =>
    clear HX T0 T1
    obtain ⟨y, rfl, Y0, HX, B2, HB2, HS2⟩ := hrel
    cases gk with
    | zero => exact absurd HX.out (by simp [impl_GoodTable.l1])
    | succ k2 =>
    have hx1 := HX.out
    clear HX
    simp only [impl_GoodTable.l1] at hx1
    by_cases hlt2 : y < (l0_0.length : Int)
    ·rw [if_pos hlt2] at hx1
     have p0 : 0 ≤ y := Y0.out
     have hr := Kd.C_below H0.out HB2.out
     obtain ⟨ad, e, g0, g1, g2, g3, g4, g5⟩ := at_T75 hr y p0 hlt2
     cases e
     clear hr
     have hb := barr_at B2.out y p0 (by rw [M.out]; omega)
     generalize hT : rd_T75 l0_0 y = T at *
     have HT := Aside0.mk hT
     clear hT
     have y40 : y < 40 := by omega
     have HBel := Aside0.mk (below_alloc HB2.out (.cells #[.bool T.f0, .int .i64 T.f1, .int .i64 T.f2, .bool T.f3, .int .i64 T.f4, .int .i64 T.f5] 75))
     have HBar := Aside0.mk (barr_new B2.out (.cells #[.bool T.f0, .int .i64 T.f1, .int .i64 T.f2, .bool T.f3, .int .i64 T.f4, .int .i64 T.f5] 75))
     have HSz := Aside0.mk (z_lt_new (.cells #[.bool T.f0, .int .i64 T.f1, .int .i64 T.f2, .bool T.f3, .int .i64 T.f4, .int .i64 T.f5] 75) HS2.out)
     by_cases hm : gb m y = true
     ·rw [if_pos hm] at hx1
      rw [hm] at hb
      by_cases hz : isz T = true
      ·rw [if_pos hz] at hx1
       have HX := Aside0.mk hx1
       clear hx1
       have hz' : (!T.f0 && (T.f1 == 0 && (T.f2 == 0 && (!T.f3 && (T.f4 == 0 && T.f5 == 0))))) = true := hz
       clear hz
       go_wp2_with fail
       obtain ⟨W1, hW⟩ : ∃ W1, W1 = wr.alloc (.cells #[.bool T.f0, .int .i64 T.f1, .int .i64 T.f2, .bool T.f3, .int .i64 T.f4, .int .i64 T.f5] 75) := ⟨_, rfl⟩
       have n0 : W1.cell? ⟨wr.heap.size, 0, none⟩ = some (Value.bool T.f0) := by rw [hW]; exact z_cell_new _ _ _ _ _
       have n1 : W1.cell? ⟨wr.heap.size, 1, none⟩ = some (Value.int .i64 T.f1) := by rw [hW]; exact z_cell_new _ _ _ _ _
       have n2 : W1.cell? ⟨wr.heap.size, 2, none⟩ = some (Value.int .i64 T.f2) := by rw [hW]; exact z_cell_new _ _ _ _ _
       have n3 : W1.cell? ⟨wr.heap.size, 3, none⟩ = some (Value.bool T.f3) := by rw [hW]; exact z_cell_new _ _ _ _ _
       have n4 : W1.cell? ⟨wr.heap.size, 4, none⟩ = some (Value.int .i64 T.f4) := by rw [hW]; exact z_cell_new _ _ _ _ _
       have n5 : W1.cell? ⟨wr.heap.size, 5, none⟩ = some (Value.int .i64 T.f5) := by rw [hW]; exact z_cell_new _ _ _ _ _
       replace hb : W1.cell? ⟨w.heap.size + 1, y.toNat, none⟩ = some (.bool true) := by rw [hW]; exact z_cell_old hb
       rw [← hW] at HBel HBar HSz
       rw [← hW]
       clear hW g0 g1 g2 g3 g4 g5
       go_quiet (fail)
       go_wp2
       go_roundg k2
       case measure => omega
       case rel => exact ⟨y + 1, rfl, ⟨by omega⟩, HX, ⟨HBar.out⟩, ⟨by first | exact pw_below_drewN HBel.out _ | exact below_drew1 HBel.out⟩, ⟨HSz.out⟩⟩
      ·rw [if_neg hz] at hx1
       obtain rfl := Option.some.inj hx1
       have hz' : (!T.f0 && (T.f1 == 0 && (T.f2 == 0 && (!T.f3 && (T.f4 == 0 && T.f5 == 0))))) = false := Bool.eq_false_iff.2 hz
       clear hz
       go_wp2_with fail
       obtain ⟨W1, hW⟩ : ∃ W1, W1 = wr.alloc (.cells #[.bool T.f0, .int .i64 T.f1, .int .i64 T.f2, .bool T.f3, .int .i64 T.f4, .int .i64 T.f5] 75) := ⟨_, rfl⟩
       have n0 : W1.cell? ⟨wr.heap.size, 0, none⟩ = some (Value.bool T.f0) := by rw [hW]; exact z_cell_new _ _ _ _ _
       have n1 : W1.cell? ⟨wr.heap.size, 1, none⟩ = some (Value.int .i64 T.f1) := by rw [hW]; exact z_cell_new _ _ _ _ _
       have n2 : W1.cell? ⟨wr.heap.size, 2, none⟩ = some (Value.int .i64 T.f2) := by rw [hW]; exact z_cell_new _ _ _ _ _
       have n3 : W1.cell? ⟨wr.heap.size, 3, none⟩ = some (Value.bool T.f3) := by rw [hW]; exact z_cell_new _ _ _ _ _
       have n4 : W1.cell? ⟨wr.heap.size, 4, none⟩ = some (Value.int .i64 T.f4) := by rw [hW]; exact z_cell_new _ _ _ _ _
       have n5 : W1.cell? ⟨wr.heap.size, 5, none⟩ = some (Value.int .i64 T.f5) := by rw [hW]; exact z_cell_new _ _ _ _ _
       replace hb : W1.cell? ⟨w.heap.size + 1, y.toNat, none⟩ = some (.bool true) := by rw [hW]; exact z_cell_old hb
       rw [← hW] at HBel HBar HSz
       rw [← hW]
       clear hW g0 g1 g2 g3 g4 g5
       go_quiet (fail)
       go_wp2
       go_ret
       exact ⟨rfl, by first | exact pw_below_drewN HBel.out _ | exact below_drew1 HBel.out⟩
     ·rw [if_neg hm] at hx1
      have hm : gb m y = false := by simpa using hm
      rw [hm] at hb
      by_cases hz : isz T = true
      ·rw [if_pos hz] at hx1
       obtain rfl := Option.some.inj hx1
       have hz' : (!T.f0 && (T.f1 == 0 && (T.f2 == 0 && (!T.f3 && (T.f4 == 0 && T.f5 == 0))))) = true := hz
       clear hz
       go_wp2_with fail
       obtain ⟨W1, hW⟩ : ∃ W1, W1 = wr.alloc (.cells #[.bool T.f0, .int .i64 T.f1, .int .i64 T.f2, .bool T.f3, .int .i64 T.f4, .int .i64 T.f5] 75) := ⟨_, rfl⟩
       have n0 : W1.cell? ⟨wr.heap.size, 0, none⟩ = some (Value.bool T.f0) := by rw [hW]; exact z_cell_new _ _ _ _ _
       have n1 : W1.cell? ⟨wr.heap.size, 1, none⟩ = some (Value.int .i64 T.f1) := by rw [hW]; exact z_cell_new _ _ _ _ _
       have n2 : W1.cell? ⟨wr.heap.size, 2, none⟩ = some (Value.int .i64 T.f2) := by rw [hW]; exact z_cell_new _ _ _ _ _
       have n3 : W1.cell? ⟨wr.heap.size, 3, none⟩ = some (Value.bool T.f3) := by rw [hW]; exact z_cell_new _ _ _ _ _
       have n4 : W1.cell? ⟨wr.heap.size, 4, none⟩ = some (Value.int .i64 T.f4) := by rw [hW]; exact z_cell_new _ _ _ _ _
       have n5 : W1.cell? ⟨wr.heap.size, 5, none⟩ = some (Value.int .i64 T.f5) := by rw [hW]; exact z_cell_new _ _ _ _ _
       replace hb : W1.cell? ⟨w.heap.size + 1, y.toNat, none⟩ = some (.bool false) := by rw [hW]; exact z_cell_old hb
       rw [← hW] at HBel HBar HSz
       rw [← hW]
       clear hW g0 g1 g2 g3 g4 g5
       go_quiet (fail)
       go_wp2
       go_ret
       exact ⟨rfl, by first | exact pw_below_drewN HBel.out _ | exact below_drew1 HBel.out⟩
      ·rw [if_neg hz] at hx1
       have hz' : (!T.f0 && (T.f1 == 0 && (T.f2 == 0 && (!T.f3 && (T.f4 == 0 && T.f5 == 0))))) = false := Bool.eq_false_iff.2 hz
       clear hz
       replace hx1 := Option.bind_eq_some_iff.mp hx1
       obtain ⟨t, ht, hx1⟩ := hx1
       have HT2 := Aside0.mk ht
       clear ht
       cases t with
       | true =>
        rw [if_pos rfl] at hx1
        have HX := Aside0.mk hx1
        clear hx1
        go_wp2_with fail
        obtain ⟨W1, hW⟩ : ∃ W1, W1 = wr.alloc (.cells #[.bool T.f0, .int .i64 T.f1, .int .i64 T.f2, .bool T.f3, .int .i64 T.f4, .int .i64 T.f5] 75) := ⟨_, rfl⟩
        have n0 : W1.cell? ⟨wr.heap.size, 0, none⟩ = some (Value.bool T.f0) := by rw [hW]; exact z_cell_new _ _ _ _ _
        have n1 : W1.cell? ⟨wr.heap.size, 1, none⟩ = some (Value.int .i64 T.f1) := by rw [hW]; exact z_cell_new _ _ _ _ _
        have n2 : W1.cell? ⟨wr.heap.size, 2, none⟩ = some (Value.int .i64 T.f2) := by rw [hW]; exact z_cell_new _ _ _ _ _
        have n3 : W1.cell? ⟨wr.heap.size, 3, none⟩ = some (Value.bool T.f3) := by rw [hW]; exact z_cell_new _ _ _ _ _
        have n4 : W1.cell? ⟨wr.heap.size, 4, none⟩ = some (Value.int .i64 T.f4) := by rw [hW]; exact z_cell_new _ _ _ _ _
        have n5 : W1.cell? ⟨wr.heap.size, 5, none⟩ = some (Value.int .i64 T.f5) := by rw [hW]; exact z_cell_new _ _ _ _ _
        replace hb : W1.cell? ⟨w.heap.size + 1, y.toNat, none⟩ = some (.bool false) := by rw [hW]; exact z_cell_old hb
        rw [← hW] at HBel HBar HSz
        rw [← hW]
        clear hW g0 g1 g2 g3 g4 g5
        refine z_region_tail 14 (by kernel_rfl) (by kernel_rfl) ?_
        simp only [List.take_succ_cons, List.take_zero, List.drop_succ_cons, List.drop_zero]
        repeat still_step
        refine wpStill_nil ?_
        go_wp2_with (go_at_call 129; refine (impl_Handle_sound.calls k _ _ _ _ _ _ _ _ HT2.out).mono ?_; rintro e w' ⟨rfl, hb'⟩; have HB3 := Aside0.mk hb'; clear hb')
        go_roundg k2
        case measure => omega
        case rel => exact ⟨y + 1, rfl, ⟨by omega⟩, HX, ⟨barr_below (w := W1.drew) HBar.out HB3.out⟩, ⟨below_step (below_drew1 HBel.out) HB3.out⟩, ⟨Nat.lt_of_lt_of_le HSz.out HB3.out.size⟩⟩
       | false =>
        rw [if_neg (by decide)] at hx1
        obtain rfl := Option.some.inj hx1
        go_wp2_with fail
        obtain ⟨W1, hW⟩ : ∃ W1, W1 = wr.alloc (.cells #[.bool T.f0, .int .i64 T.f1, .int .i64 T.f2, .bool T.f3, .int .i64 T.f4, .int .i64 T.f5] 75) := ⟨_, rfl⟩
        have n0 : W1.cell? ⟨wr.heap.size, 0, none⟩ = some (Value.bool T.f0) := by rw [hW]; exact z_cell_new _ _ _ _ _
        have n1 : W1.cell? ⟨wr.heap.size, 1, none⟩ = some (Value.int .i64 T.f1) := by rw [hW]; exact z_cell_new _ _ _ _ _
        have n2 : W1.cell? ⟨wr.heap.size, 2, none⟩ = some (Value.int .i64 T.f2) := by rw [hW]; exact z_cell_new _ _ _ _ _
        have n3 : W1.cell? ⟨wr.heap.size, 3, none⟩ = some (Value.bool T.f3) := by rw [hW]; exact z_cell_new _ _ _ _ _
        have n4 : W1.cell? ⟨wr.heap.size, 4, none⟩ = some (Value.int .i64 T.f4) := by rw [hW]; exact z_cell_new _ _ _ _ _
        have n5 : W1.cell? ⟨wr.heap.size, 5, none⟩ = some (Value.int .i64 T.f5) := by rw [hW]; exact z_cell_new _ _ _ _ _
        replace hb : W1.cell? ⟨w.heap.size + 1, y.toNat, none⟩ = some (.bool false) := by rw [hW]; exact z_cell_old hb
        rw [← hW] at HBel HBar HSz
        rw [← hW]
        clear hW g0 g1 g2 g3 g4 g5
        refine z_region_tail 14 (by kernel_rfl) (by kernel_rfl) ?_
        simp only [List.take_succ_cons, List.take_zero, List.drop_succ_cons, List.drop_zero]
        repeat still_step
        refine wpStill_nil ?_
        go_wp2_with (go_at_call 129; refine (impl_Handle_sound.calls k _ _ _ _ _ _ _ _ HT2.out).mono ?_; rintro e w' ⟨rfl, hb'⟩; have HB3 := Aside0.mk hb'; clear hb')
        go_ret
        exact ⟨rfl, below_step (below_drew1 HBel.out) HB3.out⟩
    ·rw [if_neg hlt2] at hx1
     obtain rfl := Option.some.inj hx1
     go_wp2
     go_ret
     exact ⟨rfl, HB2.out⟩

end Go.Proofs.Ytdoflfifnkpacaa.WO
