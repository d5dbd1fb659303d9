-- Printed by a program of this session (after the kit's print.sh, with contracts of its own beside): Lean checks it.
import Derived.Test.YtoomeeoijbkmnaaC12PHx0
import Derived.Test.YtoomeeoijbkmnaaC12PHx5
import Derived.Test.YtoomeeoijbkmnaaC12PHx9
namespace Go.Proofs.Ytoomeeoijbkmnaa.PH
open Go.RowKit Go.Proofs.YtoomeeoijbkmnaaW.PrintWords Go.Proofs.YtoomeeoijbkmnaaW.PrintLast Go.Proofs.YtoomeeoijbkmnaaW.PrintMore
attribute [local go_sem] max2_int min2_int max_two min_two max_three min_three max_four min_four   -- for this text's walks alone
set_option linter.unusedVariables false
set_option linter.unusedSimpArgs false

theorem z_below_drew {B : Nat} {w w' : World} (h : Below B w w') : Below B w w'.drew := ⟨h.os, h.tape, h.output, h.size, h.block⟩
theorem z_set6 {w : World} {base g c : Nat} {ok : Nat → Prop} {S : List S46} (H : Kd.R k46 46 w base ok (.slice (some ⟨g, 0, none⟩) S.length c) S) (i : Int) (h0 : 0 ≤ i) (h1 : i < (S.length : Int)) (x : S46) :
    Kd.R k46 46 ((((((w.setCell ⟨g, i.toNat * 6, none⟩ (.bool x.f0)).setCell ⟨g, i.toNat * 6 + 1, none⟩ (.int .i64 x.f1)).setCell ⟨g, i.toNat * 6 + 2, none⟩ (.int .i64 x.f2)).setCell ⟨g, i.toNat * 6 + 3, none⟩ (.bool x.f3)).setCell ⟨g, i.toNat * 6 + 4, none⟩ (.int .i64 x.f4)).setCell ⟨g, i.toNat * 6 + 5, none⟩ (.int .i64 x.f5)) base ok (.slice (some ⟨g, 0, none⟩) (S.set i.toNat x).length c) (S.set i.toNat x) ∧
    w.grownBy ((((((w.setCell ⟨g, i.toNat * 6, none⟩ (.bool x.f0)).setCell ⟨g, i.toNat * 6 + 1, none⟩ (.int .i64 x.f1)).setCell ⟨g, i.toNat * 6 + 2, none⟩ (.int .i64 x.f2)).setCell ⟨g, i.toNat * 6 + 3, none⟩ (.bool x.f3)).setCell ⟨g, i.toNat * 6 + 4, none⟩ (.int .i64 x.f4)).setCell ⟨g, i.toNat * 6 + 5, none⟩ (.int .i64 x.f5)) (some g) := by
  obtain ⟨ce, hcl, hM, hcc, hfr⟩ := Kd.R_elem H z46 i h0 h1
  have HP := Kd.R_seg H i h0 h1 (seg := [.bool x.f0, .int .i64 x.f1, .int .i64 x.f2, .bool x.f3, .int .i64 x.f4, .int .i64 x.f5]) (j := 0) hcl hcc (show 6 ≤ 6 from by decide) (x' := x) (by
    have e : ce.drop (0 + [Value.bool x.f0, .int .i64 x.f1, .int .i64 x.f2, .bool x.f3, .int .i64 x.f4, .int .i64 x.f5].length) = [] := List.drop_eq_nil_of_le (by rw [hcl]; exact Nat.le_refl _)
    rw [e, List.take_zero, List.nil_append, List.append_nil]
    exact k46_mkM w base (fun k => ok k ∧ k ≠ g) x) (fun _ hk => hk)
  rw [List.length_set]
  exact HP
theorem z_cells6 {w : World} {base g c : Nat} {ok : Nat → Prop} {S : List S46} (H : Kd.R k46 46 w base ok (.slice (some ⟨g, 0, none⟩) S.length c) S) (i : Int) (h0 : 0 ≤ i) (h1 : i < (S.length : Int)) :
    ∃ v0 v1 v2 v3 v4 v5, (w.cell? ⟨g, i.toNat * 6, none⟩ = some v0 ∧ w.cell? ⟨g, i.toNat * 6 + 1, none⟩ = some v1 ∧ w.cell? ⟨g, i.toNat * 6 + 2, none⟩ = some v2 ∧ w.cell? ⟨g, i.toNat * 6 + 3, none⟩ = some v3 ∧ w.cell? ⟨g, i.toNat * 6 + 4, none⟩ = some v4 ∧ w.cell? ⟨g, i.toNat * 6 + 5, none⟩ = some v5) ∧
    (w.frozen? ⟨g, i.toNat * 6, none⟩ = false ∧ w.frozen? ⟨g, i.toNat * 6 + 1, none⟩ = false ∧ w.frozen? ⟨g, i.toNat * 6 + 2, none⟩ = false ∧ w.frozen? ⟨g, i.toNat * 6 + 3, none⟩ = false ∧ w.frozen? ⟨g, i.toNat * 6 + 4, none⟩ = false ∧ w.frozen? ⟨g, i.toNat * 6 + 5, none⟩ = false) := by
  obtain ⟨ce, hcl, hM, hcc, hfr⟩ := Kd.R_elem H z46 i h0 h1
  obtain rfl := k46_openM hM
  exact ⟨_, _, _, _, _, _, ⟨hcc 0 _ rfl, hcc 1 _ rfl, hcc 2 _ rfl, hcc 3 _ rfl, hcc 4 _ rfl, hcc 5 _ rfl⟩, ⟨hfr 0, hfr 1, hfr 2, hfr 3, hfr 4, hfr 5⟩⟩
theorem z_below_trans {B : Nat} {a b c : World} (h : Below B a b) (h' : Below B b c) : Below B a c := h.trans h'
theorem z_three_behind {w w1 : World} {o o' o'' : Obj} (hb : Below (((w.alloc o).alloc o').alloc o'').heap.size (((w.alloc o).alloc o').alloc o'') w1) :
    w1.heap[w.heap.size]? = some o ∧ w1.heap[w.heap.size + 1]? = some o' ∧ w1.heap[w.heap.size + 2]? = some o'' ∧ Below w.heap.size w w1 ∧ w.heap.size + 3 ≤ w1.heap.size := by
  have e1 : (w.alloc o).heap.size = w.heap.size + 1 := Array.size_push _
  have e2 : ((w.alloc o).alloc o').heap.size = w.heap.size + 2 := (Array.size_push _).trans (by rw [e1])
  have e3 : (((w.alloc o).alloc o').alloc o'').heap.size = w.heap.size + 3 := (Array.size_push _).trans (by rw [e2])
  refine ⟨blk_below (blk_alloc (blk_alloc (blk_new w o) o') o'') hb, ?_, ?_, below_step (below_alloc (below_alloc (below_alloc (Below.refl _ _) _) _) _) hb, ?_⟩
  · rw [← e1]; exact blk_below (blk_alloc (blk_new (w.alloc o) o') o'') hb
  · rw [← e2]; exact blk_below (blk_new ((w.alloc o).alloc o') o'') hb
  · rw [← e3]; exact hb.size

-- NOT PRINTED: function 8 (laws_FnExactNewHandle)

end Go.Proofs.Ytoomeeoijbkmnaa.PH
