-- Printed by a program of this session (after the kit's print.sh, with contracts of its own beside): Lean checks it.
import Derived.Test.YtoomeeoijbkmnaaC9PHx0
import Derived.Test.YtoomeeoijbkmnaaC9PHx5
import Derived.Test.YtoomeeoijbkmnaaC9PHx9
namespace Go.Proofs.Ytoomeeoijbkmnaa.PH
open Go.RowKit Go.Proofs.YtoomeeoijbkmnaaW.PrintWords Go.Proofs.YtoomeeoijbkmnaaW.PrintLast Go.Proofs.YtoomeeoijbkmnaaW.PrintMore
attribute [local go_sem] max2_int min2_int max_two min_two max_three min_three max_four min_four   -- for this text's walks alone
set_option linter.unusedVariables false
set_option linter.unusedSimpArgs false

def impl_Table_add.f (S : List S46) (F : List Int) (h : S46) : Option (Int × List S46 × List Int) :=
 if 0 < F.length then (if 0 ≤ rd F ((F.length : Int) - 1) then (if rd F ((F.length : Int) - 1) < (S.length : Int) then some (rd F ((F.length : Int) - 1), S.set (rd F ((F.length : Int) - 1)).toNat h, F.take (F.length - 1)) else none) else none)
 else (if S.length < 2932031007402 then some ((S.length : Int), S ++ [h], F) else none)
theorem z_below_drew {B : Nat} {w w' : World} (h : Below B w w') : Below B w w'.drew := ⟨h.os, h.tape, h.output, h.size, h.block⟩
theorem z_set6 {w : World} {base g c : Nat} {ok : Nat → Prop} {S : List S46} (H : Kd.R k46 46 w base ok (.slice (some ⟨g, 0, none⟩) S.length c) S) (i : Int) (h0 : 0 ≤ i) (h1 : i < (S.length : Int)) (x : S46) :
  Kd.R k46 46 ((((((w.setCell ⟨g, i.toNat * 6, none⟩ (.bool x.f0)).setCell ⟨g, i.toNat * 6 + 1, none⟩ (.int .i64 x.f1)).setCell ⟨g, i.toNat * 6 + 2, none⟩ (.int .i64 x.f2)).setCell ⟨g, i.toNat * 6 + 3, none⟩ (.bool x.f3)).setCell ⟨g, i.toNat * 6 + 4, none⟩ (.int .i64 x.f4)).setCell ⟨g, i.toNat * 6 + 5, none⟩ (.int .i64 x.f5)) base ok (.slice (some ⟨g, 0, none⟩) (S.set i.toNat x).length c) (S.set i.toNat x) ∧
  w.grownBy ((((((w.setCell ⟨g, i.toNat * 6, none⟩ (.bool x.f0)).setCell ⟨g, i.toNat * 6 + 1, none⟩ (.int .i64 x.f1)).setCell ⟨g, i.toNat * 6 + 2, none⟩ (.int .i64 x.f2)).setCell ⟨g, i.toNat * 6 + 3, none⟩ (.bool x.f3)).setCell ⟨g, i.toNat * 6 + 4, none⟩ (.int .i64 x.f4)).setCell ⟨g, i.toNat * 6 + 5, none⟩ (.int .i64 x.f5)) (some g) := by
 obtain ⟨ce, hcl, hM, hcc, hfr⟩ := Kd.R_elem H z46 i h0 h1
 have HP := Kd.R_seg H i h0 h1 (seg := [.bool x.f0, .int .i64 x.f1, .int .i64 x.f2, .bool x.f3, .int .i64 x.f4, .int .i64 x.f5]) (j := 0) hcl hcc (show 6 ≤ 6 from by decide) (x' := x) (by
  have e : ce.drop (0 + [Value.bool x.f0, .int .i64 x.f1, .int .i64 x.f2, .bool x.f3, .int .i64 x.f4, .int .i64 x.f5].length) = [] := List.drop_eq_nil_of_le (by rw [hcl]; exact Nat.le_refl _)
  rw [e, List.take_zero, List.nil_append, List.append_nil]
  exact k46_mkM w base (fun k => ok k ∧ k ≠ g) x) (fun _ hk => hk)
 rw [List.length_set]
 exact HP
theorem z_cells6 {w : World} {base g c : Nat} {ok : Nat → Prop} {S : List S46} (H : Kd.R k46 46 w base ok (.slice (some ⟨g, 0, none⟩) S.length c) S) (i : Int) (h0 : 0 ≤ i) (h1 : i < (S.length : Int)) :
  ∃ v0 v1 v2 v3 v4 v5, (w.cell? ⟨g, i.toNat * 6, none⟩ = some v0 ∧ w.cell? ⟨g, i.toNat * 6 + 1, none⟩ = some v1 ∧ w.cell? ⟨g, i.toNat * 6 + 2, none⟩ = some v2 ∧ w.cell? ⟨g, i.toNat * 6 + 3, none⟩ = some v3 ∧ w.cell? ⟨g, i.toNat * 6 + 4, none⟩ = some v4 ∧ w.cell? ⟨g, i.toNat * 6 + 5, none⟩ = some v5) ∧
  (w.frozen? ⟨g, i.toNat * 6, none⟩ = false ∧ w.frozen? ⟨g, i.toNat * 6 + 1, none⟩ = false ∧ w.frozen? ⟨g, i.toNat * 6 + 2, none⟩ = false ∧ w.frozen? ⟨g, i.toNat * 6 + 3, none⟩ = false ∧ w.frozen? ⟨g, i.toNat * 6 + 4, none⟩ = false ∧ w.frozen? ⟨g, i.toNat * 6 + 5, none⟩ = false) := by
 obtain ⟨ce, hcl, hM, hcc, hfr⟩ := Kd.R_elem H z46 i h0 h1
 obtain rfl := k46_openM hM
 exact ⟨_, _, _, _, _, _, ⟨hcc 0 _ rfl, hcc 1 _ rfl, hcc 2 _ rfl, hcc 3 _ rfl, hcc 4 _ rfl, hcc 5 _ rfl⟩, ⟨hfr 0, hfr 1, hfr 2, hfr 3, hfr 4, hfr 5⟩⟩
theorem z_below_trans {B : Nat} {a b c : World} (h : Below B a b) (h' : Below B b c) : Below B a c := h.trans h'
theorem z_three_behind {w w1 : World} {o o' o'' : Obj} (hb : Below (((w.alloc o).alloc o').alloc o'').heap.size (((w.alloc o).alloc o').alloc o'') w1) :
  w1.heap[w.heap.size]? = some o ∧ w1.heap[w.heap.size + 1]? = some o' ∧ w1.heap[w.heap.size + 2]? = some o'' ∧ Below w.heap.size w w1 ∧ w.heap.size + 3 ≤ w1.heap.size := by
 have e1 : (w.alloc o).heap.size = w.heap.size + 1 := Array.size_push _
 have e2 : ((w.alloc o).alloc o').heap.size = w.heap.size + 2 := (Array.size_push _).trans (by rw [e1])
 have e3 : (((w.alloc o).alloc o').alloc o'').heap.size = w.heap.size + 3 := (Array.size_push _).trans (by rw [e2])
 refine ⟨blk_below (blk_alloc (blk_alloc (blk_new w o) o') o'') hb, ?_, ?_, below_step (below_alloc (below_alloc (below_alloc (Below.refl _ _) _) _) _) hb, ?_⟩
 ·rw [← e1]; exact blk_below (blk_alloc (blk_new (w.alloc o) o') o'') hb
 ·rw [← e2]; exact blk_below (blk_new ((w.alloc o).alloc o') o'') hb
 ·rw [← e3]; exact hb.size
def impl_NewHandle.f (k : Nat) (l0_0 : List (S46)) (l0_1 : List Int) (a1_0 : Bool) (a1_1 : Int) (a1_2 : Int) (a1_3 : Bool) (a1_4 : Int) (a1_5 : Int) : Option ((List (S46)) × List Int × Int × Int) :=
 (impl_cloneTable.f k l0_0 l0_1).bind fun c => (impl_GoodTable.f k l0_0 l0_1).bind fun t =>
  if t = true then ((impl_Handle_sound.f k a1_0 a1_1 a1_2 a1_3 a1_4 a1_5).bind fun s => if s = true then (if a1_4 = 0 then (if c.2.length = 0 ∧ c.1.length = 40 then some (c.1, c.2, 0, 5) else ((impl_Table_add.f c.1 c.2 ⟨a1_0, a1_1, a1_2, a1_3, a1_4, a1_5⟩).bind fun r => some (r.2.1, r.2.2, r.1, 0))) else some (c.1, c.2, 0, 1)) else some (c.1, c.2, 0, 1))
  else some (c.1, c.2, 0, 1)

-- NOT PRINTED: function 8 (laws_FnExactNewHandle)

def impl_LendHandle.f (k : Nat) (l0_0 : List (S46)) (l0_1 : List Int) (a1 : Int) (a2 : Int) : Option ((List (S46)) × List Int × Bool × Int × Int × Bool × Int × Int × Int) := (impl_cloneTable.f k l0_0 l0_1).bind fun bt469 => ((impl_FindHandle.f k l0_0 l0_1 a1 a2).bind fun bt476 => (if bt476.2.2.2.2.2.2 = 0 then (if bt476.2.2.2.2.1 = 1000 then (some (bt469.1, bt469.2, false, 0, 0, false, 0, 0, 4)) else (if 0 ≤ a1 then (if a1 < (bt469.1.length : Int) then (some ((bt469.1.set (a1 : Int).toNat (⟨(rd_T46 bt469.1 a1).f0, (rd_T46 bt469.1 a1).f1, (rd_T46 bt469.1 a1).f2, (rd_T46 bt469.1 a1).f3, wrap64 (((rd_T46 bt469.1 a1).f4) + 1), (rd_T46 bt469.1 a1).f5⟩ : S46)), bt469.2, bt476.1, bt476.2.1, bt476.2.2.1, bt476.2.2.2.1, bt476.2.2.2.2.1, bt476.2.2.2.2.2.1, 0)) else (none)) else (none))) else (some (bt469.1, bt469.2, false, 0, 0, false, 0, 0, bt476.2.2.2.2.2.2))))
theorem zl_put2 {W : World} {p : Nat} {t : TypeId} {a b : Value} (x y : Value) (h : W.heap[p]? = some (.cells #[a, b] t (0, 0))) :
  ((W.setCell ⟨p, 0, none⟩ x).setCell ⟨p, 1, none⟩ y).heap[p]? = some (.cells #[x, y] t (0, 0)) ∧ ∀ k, k ≠ p → ((W.setCell ⟨p, 0, none⟩ x).setCell ⟨p, 1, none⟩ y).heap[k]? = W.heap[k]? :=
 ⟨blk_put (blk_put h 0 x rfl) 1 y rfl, fun k hk => (Below.heap_setCell _ ⟨p, 1, none⟩ y k hk).trans (Below.heap_setCell W ⟨p, 0, none⟩ x k hk)⟩
theorem zl_put6 {W : World} {p : Nat} {t : TypeId} {a b c d e f : Value} (x0 x1 x2 x3 x4 x5 : Value) (h : W.heap[p]? = some (.cells #[a, b, c, d, e, f] t (0, 0))) :
  ((((((W.setCell ⟨p, 0, none⟩ x0).setCell ⟨p, 1, none⟩ x1).setCell ⟨p, 2, none⟩ x2).setCell ⟨p, 3, none⟩ x3).setCell ⟨p, 4, none⟩ x4).setCell ⟨p, 5, none⟩ x5).heap[p]? = some (.cells #[x0, x1, x2, x3, x4, x5] t (0, 0)) ∧ ∀ k, k ≠ p → ((((((W.setCell ⟨p, 0, none⟩ x0).setCell ⟨p, 1, none⟩ x1).setCell ⟨p, 2, none⟩ x2).setCell ⟨p, 3, none⟩ x3).setCell ⟨p, 4, none⟩ x4).setCell ⟨p, 5, none⟩ x5).heap[k]? = W.heap[k]? :=
 ⟨blk_put (blk_put (blk_put (blk_put (blk_put (blk_put h 0 x0 rfl) 1 x1 rfl) 2 x2 rfl) 3 x3 rfl) 4 x4 rfl) 5 x5 rfl, fun k hk => (Below.heap_setCell _ ⟨p, 5, none⟩ x5 k hk).trans ((Below.heap_setCell _ ⟨p, 4, none⟩ x4 k hk).trans ((Below.heap_setCell _ ⟨p, 3, none⟩ x3 k hk).trans ((Below.heap_setCell _ ⟨p, 2, none⟩ x2 k hk).trans ((Below.heap_setCell _ ⟨p, 1, none⟩ x1 k hk).trans (Below.heap_setCell W ⟨p, 0, none⟩ x0 k hk)))))⟩
/-- A table's two rows, both among the blocks from lo up to hi. -/
def Tl (W : World) (B lo hi : Nat) (v0 v1 : Value) (L0 : List S46) (L1 : List Int) : Prop :=
 Kd.R k46 46 W B (fun k => lo ≤ k ∧ k < hi) v0 L0 ∧ Kd.R (Kd.int .i64) 3 W B (fun k => lo ≤ k ∧ k < hi) v1 L1
theorem Tl.new {w W : World} {B : Nat} {v0 v1 : Value} {L0 : List S46} {L1 : List Int} (hB : B ≤ w.heap.size) (h0 : Kd.R k46 46 W w.heap.size (fun _ => True) v0 L0) (h1 : Kd.R (Kd.int .i64) 3 W w.heap.size (fun _ => True) v1 L1) : Tl W B w.heap.size W.heap.size v0 v1 L0 L1 :=
 ⟨Kd.R_lower (Kd.R_mono (Kd.R_bound h0) (fun _ hk => ⟨hk.2.1, hk.2.2.1⟩)) hB, Kd.R_lower (Kd.R_mono (Kd.R_bound h1) (fun _ hk => ⟨hk.2.1, hk.2.2.1⟩)) hB⟩
theorem Tl.keep {W W' : World} {B lo hi : Nat} {v0 v1 : Value} {L0 : List S46} {L1 : List Int} (h : Tl W B lo hi v0 v1 L0 L1) (hm : ∀ k, lo ≤ k → k < hi → k < W.heap.size → W'.heap[k]? = W.heap[k]?) : Tl W' B lo hi v0 v1 L0 L1 :=
 ⟨Kd.R_step h.1 (fun k hk hl => hm k hk.1 hk.2 hl), Kd.R_step h.2 (fun k hk hl => hm k hk.1 hk.2 hl)⟩
theorem z_at4 {w : World} {base g c : Nat} {ok : Nat → Prop} {S : List S46} (H : Kd.R k46 46 w base ok (.slice (some ⟨g, 0, none⟩) S.length c) S) (i : Int) (h0 : 0 ≤ i) (h1 : i < (S.length : Int)) :
  w.cell? ⟨g, i.toNat * 6 + 4, none⟩ = some (.int .i64 (rd_T46 S i).f4) ∧ w.frozen? ⟨g, i.toNat * 6 + 4, none⟩ = false := by
 obtain ⟨ce, hcl, hM, hcc, hfr⟩ := Kd.R_elem H z46 i h0 h1
 obtain rfl := k46_openM hM
 exact ⟨hcc 4 _ rfl, hfr 4⟩
theorem Tl.below {W W' : World} {B lo hi : Nat} {v0 v1 : Value} {L0 : List S46} {L1 : List Int} (h : Tl W B lo hi v0 v1 L0 L1) (hb : Below W.heap.size W W') : Tl W' B lo hi v0 v1 L0 L1 := h.keep (fun k _ _ hl => hb.block k hl)
theorem z_set1 {w : World} {base g c : Nat} {ok : Nat → Prop} {S : List S46} (H : Kd.R k46 46 w base ok (.slice (some ⟨g, 0, none⟩) S.length c) S) (i : Int) (h0 : 0 ≤ i) (h1 : i < (S.length : Int)) (n : Int) :
  Kd.R k46 46 (w.setCell ⟨g, i.toNat * 6 + 4, none⟩ (.int .i64 n)) base ok (.slice (some ⟨g, 0, none⟩) (S.set i.toNat ⟨(rd_T46 S i).f0, (rd_T46 S i).f1, (rd_T46 S i).f2, (rd_T46 S i).f3, n, (rd_T46 S i).f5⟩).length c) (S.set i.toNat ⟨(rd_T46 S i).f0, (rd_T46 S i).f1, (rd_T46 S i).f2, (rd_T46 S i).f3, n, (rd_T46 S i).f5⟩) ∧
  w.grownBy (w.setCell ⟨g, i.toNat * 6 + 4, none⟩ (.int .i64 n)) (some g) := by
 obtain ⟨ce, hcl, hM, hcc, hfr⟩ := Kd.R_elem H z46 i h0 h1
 obtain rfl := k46_openM hM
 have HP := Kd.R_seg H i h0 h1 (seg := [.int .i64 n]) (j := 4) hcl hcc (show 4 + 1 ≤ 6 from by decide) (x' := ⟨(rd_T46 S i).f0, (rd_T46 S i).f1, (rd_T46 S i).f2, (rd_T46 S i).f3, n, (rd_T46 S i).f5⟩) (k46_mkM w base (fun k => ok k ∧ k ≠ g) ⟨(rd_T46 S i).f0, (rd_T46 S i).f1, (rd_T46 S i).f2, (rd_T46 S i).f3, n, (rd_T46 S i).f5⟩) (fun _ hk => hk)
 rw [List.length_set]
 exact HP
set_option maxHeartbeats 8000000 in
set_option maxRecDepth 100000 in
theorem impl_LendHandle.calls (k : Nat) (A0_0 : Option Addr) (c0_0 : Nat) (l0_0 : List (S46)) (A0_1 : Option Addr) (c0_1 : Nat) (l0_1 : List Int) (a1 : Int) (a2 : Int) (r1 : List (S46)) (r2 : List Int) (r3 : Bool) (r4 : Int) (r5 : Int) (r6 : Bool) (r7 : Int) (r8 : Int) (r9 : Int) (w : World) (hr0_0 : Kd.C k46 w A0_0 l0_0.length l0_0) (hc0_0 : l0_0.length ≤ c0_0) (hr0_1 : Kd.C (Kd.int .i64) w A0_1 l0_1.length l0_1) (hc0_1 : l0_1.length ≤ c0_1) (h : impl_LendHandle.f k l0_0 l0_1 a1 a2 = some (r1, r2, r3, r4, r5, r6, r7, r8, r9)) :
  Calls Try.prog 43 #[.agg #[.slice A0_0 l0_0.length c0_0, .slice A0_1 l0_1.length c0_1], .int .i64 a1, .int .i64 a2] w fun e w' => ∃ v0_ v1_ : Value, e = .returned (.tuple #[.agg #[v0_, v1_], .agg #[.bool r3, .int .i64 r4, .int .i64 r5, .bool r6, .int .i64 r7, .int .i64 r8], .int .i64 r9]) ∧ Kd.R k46 46 w' w.heap.size (fun _ => True) v0_ r1 ∧ Kd.R (Kd.int .i64) 3 w' w.heap.size (fun _ => True) v1_ r2 ∧ Below w.heap.size w w' := by
 unfold impl_LendHandle.f at h
 obtain ⟨⟨S, F⟩, hcl, h⟩ := Option.bind_eq_some_iff.1 h
 obtain ⟨⟨q1, q2, q3, q4, q5, q6, q7⟩, hfd, h⟩ := Option.bind_eq_some_iff.1 h
 dsimp only at h
 have HR0 := Aside0.mk hr0_0
 have HC0 := Aside0.mk hc0_0
 have HR1 := Aside0.mk hr0_1
 have HC1 := Aside0.mk hc0_1
 have HCL := Aside0.mk hcl
 have HFD := Aside0.mk hfd
 have HH := Aside0.mk h
 clear hr0_0 hc0_0 hr0_1 hc0_1 hcl hfd h
 have hu51 := Try.underlying51
 have hu46 := Try.underlying46
 have L := Aside0.mk (Below.refl w.heap.size w)
 go_enter Try.func43, Try.ntmps43
 go_upto_region 2 with (first | ((with_reducible refine gate_dst (N := 3) rfl ?_); refine box_event ?hg (N := 3) ?hd (cs := #[.slice A0_0 l0_0.length c0_0, .slice A0_1 l0_1.length c0_1]) (t := 51) ?hr ?_; (case hd => rfl); (case hg => rfl); (case hr => first | (go_simp; done) | (go_simp; rfl)); intro g3 hg W1 hbox hb; have G3 := Aside0.mk (show w.heap.size ≤ g3 by rw [hg]; exact L.out.size); replace L := Aside0.mk (below_step L.out hb); have B3 := Aside0.mk hbox; clear hg hbox hb) | ((with_reducible refine gate_dst (N := 6) rfl ?_); refine box_event ?hg (N := 6) ?hd (cs := #[.slice none 0 0, .slice none 0 0]) (t := 51) ?hr ?_; (case hd => rfl); (case hg => rfl); (case hr => first | (go_simp; done) | (go_simp; rfl)); intro g6 hg W2 hbox hb; have Z3_6 := Aside0.mk (show g3 < g6 by rw [hg]; exact blk_lt B3.out); have G6 := Aside0.mk (show w.heap.size ≤ g6 by rw [hg]; exact L.out.size); replace L := Aside0.mk (below_step L.out hb); replace B3 := Aside0.mk (blk_below B3.out hb); have B6 := Aside0.mk hbox; clear hg hbox hb) | ((with_reducible refine gate_dst (N := 7) rfl ?_); refine box_event ?hg (N := 7) ?hd (cs := #[.bool false, .int .i64 0, .int .i64 0, .bool false, .int .i64 0, .int .i64 0]) (t := 46) ?hr ?_; (case hd => rfl); (case hg => rfl); (case hr => first | (go_simp; done) | (go_simp; rfl)); intro g7 hg W3 hbox hb; have Z3_7 := Aside0.mk (show g3 < g7 by rw [hg]; exact blk_lt B3.out); have Z6_7 := Aside0.mk (show g6 < g7 by rw [hg]; exact blk_lt B6.out); have G7 := Aside0.mk (show w.heap.size ≤ g7 by rw [hg]; exact L.out.size); replace L := Aside0.mk (below_step L.out hb); replace B3 := Aside0.mk (blk_below B3.out hb); replace B6 := Aside0.mk (blk_below B6.out hb); have B7 := Aside0.mk hbox; have ZL := Aside0.mk (blk_lt hbox); clear hg hbox hb; have mB3_0 : W3.cell? ⟨g3, 0, none⟩ = some (.slice A0_0 l0_0.length c0_0) := (blk_cell B3.out 0).trans rfl; have mB3_1 : W3.cell? ⟨g3, 1, none⟩ = some (.slice A0_1 l0_1.length c0_1) := (blk_cell B3.out 1).trans rfl) | (go_at_call 73; refine (impl_cloneTable.calls k _ _ l0_0 _ _ l0_1 S F _ (Kd.C_below HR0.out L.out) HC0.out (Kd.C_below HR1.out L.out) HC1.out HCL.out).mono ?_; rintro e W4 ⟨y0, y1, rfl, x0, x1, hb⟩; obtain ⟨Ac0, cc0, rfl⟩ := Kd.R_slice x0; obtain ⟨Ac1, cc1, rfl⟩ := Kd.R_slice x1; have Tc := Aside0.mk (Tl.new (below_size L.out) x0 x1); replace L := Aside0.mk (below_step L.out hb); replace B3 := Aside0.mk (blk_below B3.out hb); replace B6 := Aside0.mk (blk_below B6.out hb); replace B7 := Aside0.mk (blk_below B7.out hb); clear hb x0 x1; clear mB3_0 mB3_1))
 obtain ⟨lo, hlo⟩ : ∃ lo, lo = W3.heap.size := ⟨_, rfl⟩
 obtain ⟨hi, hhi⟩ : ∃ hi, hi = W4.heap.size := ⟨_, rfl⟩
 have Tc' := Tc.out
 rw [← hlo, ← hhi] at Tc'
 replace Tc := Aside0.mk Tc'
 clear Tc'
 have ZL' := ZL.out
 rw [← hlo] at ZL'
 replace ZL := Aside0.mk ZL'
 have HHI := Aside0.mk hhi
 clear ZL' hlo hhi
 have Z7_9 := Aside0.mk (show g7 < W4.heap.size from blk_lt B7.out)
 have hb : Below W4.heap.size W4 (W4.alloc (.cells #[.slice Ac0 S.length cc0, .slice Ac1 F.length cc1] 51 (0, 0))) := (below_alloc (Below.refl _ _) (.cells #[.slice Ac0 S.length cc0, .slice Ac1 F.length cc1] 51 (0, 0)))
 have b0 := blk_new W4 (.cells #[.slice Ac0 S.length cc0, .slice Ac1 F.length cc1] 51 (0, 0))
 replace L := Aside0.mk (below_step L.out hb)
 replace B3 := Aside0.mk (blk_below B3.out hb)
 replace B6 := Aside0.mk (blk_below B6.out hb)
 replace B7 := Aside0.mk (blk_below B7.out hb)
 replace Tc := Aside0.mk (Tc.out.below hb)
 clear hb
 obtain ⟨g9, hg⟩ : ∃ g9, g9 = W4.heap.size := ⟨_, rfl⟩
 rw [← hg] at b0 ⊢
 replace Z7_9 := Aside0.mk (show g7 < g9 by rw [hg]; exact Z7_9.out)
 have GE9 := Aside0.mk (Nat.le_of_eq hg.symm)
 clear hg
 generalize (W4.alloc (.cells #[.slice Ac0 S.length cc0, .slice Ac1 F.length cc1] 51 (0, 0))) = W5 at b0 L B3 B6 B7 Tc ⊢
 have B9 := Aside0.mk b0
 clear b0
 have mB3_0 : W5.cell? ⟨g3, 0, none⟩ = some (.slice A0_0 l0_0.length c0_0) := (blk_cell B3.out 0).trans rfl
 have mB3_1 : W5.cell? ⟨g3, 1, none⟩ = some (.slice A0_1 l0_1.length c0_1) := (blk_cell B3.out 1).trans rfl
 go_upto_region 3 with (go_at_call 27; refine (impl_FindHandle.calls k _ _ l0_0 _ _ l0_1 a1 a2 q1 q2 q3 q4 q5 q6 q7 _ (Kd.C_below HR0.out L.out) HC0.out (Kd.C_below HR1.out L.out) HC1.out HFD.out).mono ?_; rintro e W6 ⟨rfl, hb⟩; replace L := Aside0.mk (below_step L.out hb); replace B3 := Aside0.mk (blk_below B3.out hb); replace B6 := Aside0.mk (blk_below B6.out hb); replace B7 := Aside0.mk (blk_below B7.out hb); replace Tc := Aside0.mk (Tc.out.below hb); replace B9 := Aside0.mk (blk_below B9.out hb); clear hb; clear mB3_0 mB3_1)
 have Z9_0 := Aside0.mk (show g9 < W6.heap.size from blk_lt B9.out)
 have hb : Below W6.heap.size W6 (W6.alloc (.cells #[.bool q1, .int .i64 q2, .int .i64 q3, .bool q4, .int .i64 q5, .int .i64 q6] 46 (0, 0))) := (below_alloc (Below.refl _ _) (.cells #[.bool q1, .int .i64 q2, .int .i64 q3, .bool q4, .int .i64 q5, .int .i64 q6] 46 (0, 0)))
 have b0 := blk_new W6 (.cells #[.bool q1, .int .i64 q2, .int .i64 q3, .bool q4, .int .i64 q5, .int .i64 q6] 46 (0, 0))
 replace L := Aside0.mk (below_step L.out hb)
 replace B3 := Aside0.mk (blk_below B3.out hb)
 replace B6 := Aside0.mk (blk_below B6.out hb)
 replace B7 := Aside0.mk (blk_below B7.out hb)
 replace Tc := Aside0.mk (Tc.out.below hb)
 replace B9 := Aside0.mk (blk_below B9.out hb)
 clear hb
 obtain ⟨g0, hg⟩ : ∃ g0, g0 = W6.heap.size := ⟨_, rfl⟩
 rw [← hg] at b0 ⊢
 replace Z9_0 := Aside0.mk (show g9 < g0 by rw [hg]; exact Z9_0.out)
 have GE0 := Aside0.mk (Nat.le_of_eq hg.symm)
 clear hg
 generalize (W6.alloc (.cells #[.bool q1, .int .i64 q2, .int .i64 q3, .bool q4, .int .i64 q5, .int .i64 q6] 46 (0, 0))) = W7 at b0 L B3 B6 B7 Tc B9 ⊢
 have B0 := Aside0.mk b0
 clear b0
 have n67 := Aside0.mk (show g6 < g7 from Z6_7.out)
 have h := HH.out
 clear HH B3
 by_cases c : q7 = 0
 ·rw [if_pos c] at h
  subst c
  by_cases d : q5 = 1000
  ·rw [if_pos d] at h
   simp only [Option.some.injEq, Prod.mk.injEq] at h
   obtain ⟨rfl, rfl, rfl, rfl, rfl, rfl, rfl, rfl, rfl⟩ := h
   have d1 : (q5 == 1000) = true := beq_iff_eq.mpr d
   clear d
   have mB9_0 : W7.cell? ⟨g9, 0, none⟩ = some (.slice Ac0 S.length cc0) := (blk_cell B9.out 0).trans rfl
   have mB9_1 : W7.cell? ⟨g9, 1, none⟩ = some (.slice Ac1 F.length cc1) := (blk_cell B9.out 1).trans rfl
   have mB0_0 : W7.cell? ⟨g0, 0, none⟩ = some (.bool q1) := (blk_cell B0.out 0).trans rfl
   have mB0_1 : W7.cell? ⟨g0, 1, none⟩ = some (.int .i64 q2) := (blk_cell B0.out 1).trans rfl
   have mB0_2 : W7.cell? ⟨g0, 2, none⟩ = some (.int .i64 q3) := (blk_cell B0.out 2).trans rfl
   have mB0_3 : W7.cell? ⟨g0, 3, none⟩ = some (.bool q4) := (blk_cell B0.out 3).trans rfl
   have mB0_4 : W7.cell? ⟨g0, 4, none⟩ = some (.int .i64 q5) := (blk_cell B0.out 4).trans rfl
   have mB0_5 : W7.cell? ⟨g0, 5, none⟩ = some (.int .i64 q6) := (blk_cell B0.out 5).trans rfl
   have cB6_0 : W7.cell? ⟨g6, 0, none⟩ = some (.slice none 0 0) := (blk_cell B6.out 0).trans rfl
   have fB6_0 := blk_frozen B6.out 0
   have cB6_1 : W7.cell? ⟨g6, 1, none⟩ = some (.slice none 0 0) := (blk_cell B6.out 1).trans rfl
   have fB6_1 := blk_frozen B6.out 1
   have cB7_0 : W7.cell? ⟨g7, 0, none⟩ = some (.bool false) := (blk_cell B7.out 0).trans rfl
   have fB7_0 := blk_frozen B7.out 0
   have cB7_1 : W7.cell? ⟨g7, 1, none⟩ = some (.int .i64 0) := (blk_cell B7.out 1).trans rfl
   have fB7_1 := blk_frozen B7.out 1
   have cB7_2 : W7.cell? ⟨g7, 2, none⟩ = some (.int .i64 0) := (blk_cell B7.out 2).trans rfl
   have fB7_2 := blk_frozen B7.out 2
   have cB7_3 : W7.cell? ⟨g7, 3, none⟩ = some (.bool false) := (blk_cell B7.out 3).trans rfl
   have fB7_3 := blk_frozen B7.out 3
   have cB7_4 : W7.cell? ⟨g7, 4, none⟩ = some (.int .i64 0) := (blk_cell B7.out 4).trans rfl
   have fB7_4 := blk_frozen B7.out 4
   have cB7_5 : W7.cell? ⟨g7, 5, none⟩ = some (.int .i64 0) := (blk_cell B7.out 5).trans rfl
   have fB7_5 := blk_frozen B7.out 5
   have n67 : (g6 = g7) = False := eq_false (by have := Z6_7.out; omega)
   have n76 : (g7 = g6) = False := eq_false (by have := Z6_7.out; omega)
   go_wp2
   have P2 := zl_put2 (.slice Ac0 S.length cc0) (.slice Ac1 F.length cc1) B6.out
   have P3 := zl_put6 (.bool false) (.int .i64 0) (.int .i64 0) (.bool false) (.int .i64 0) (.int .i64 0) ((P2.2 g7 (by have := Z6_7.out; omega)).trans B7.out)
   have E2 := (P3.2 g6 (by have := Z6_7.out; omega)).trans P2.1
   have ge6 := G6.out
   have ge7 := G7.out
   have T2 := (Tc.out.keep (fun j a _ _ => P2.2 j (by have := Z6_7.out; have := ZL.out; omega))).keep (fun j a _ _ => P3.2 j (by have := ZL.out; omega))
   refine bodyPost_ret (results_list (rs := [.cell 6 51, .cell 7 46, .tmp 8]) rfl (by simp) (.cell g6 51 #[.slice Ac0 S.length cc0, .slice Ac1 F.length cc1] (0, 0) _ rfl E2 Try.underlying51 rfl (by kernel_rfl) (.cell g7 46 #[.bool false, .int .i64 0, .int .i64 0, .bool false, .int .i64 0, .int .i64 0] (0, 0) _ rfl P3.1 Try.underlying46 rfl (by kernel_rfl) (.tmp .nil)))) rfl ?_
   exact ⟨_, _, rfl, Kd.R_mono T2.1 (fun _ _ => trivial), Kd.R_mono T2.2 (fun _ _ => trivial), below_set (below_set (below_set (below_set (below_set (below_set (below_set (below_set L.out ge6) ge6) ge7) ge7) ge7) ge7) ge7) ge7⟩
  ·rw [if_neg d] at h
   by_cases i0 : 0 ≤ a1
   ·rw [if_pos i0] at h
    by_cases i1 : a1 < (S.length : Int)
    ·rw [if_pos i1] at h
     simp only [Option.some.injEq, Prod.mk.injEq] at h
     obtain ⟨rfl, rfl, rfl, rfl, rfl, rfl, rfl, rfl, rfl⟩ := h
     have d1 : (q5 == 1000) = false := beq_eq_false_iff_ne.mpr d
     clear d
     obtain ⟨gs, cs, es, hgs, hgl, cells, hgc⟩ := Kd.R_form Tc.out.1 (by omega)
     cases es
     have A4 := z_at4 Tc.out.1 a1 i0 i1
     have a4 := A4.1
     have b4 := A4.2
     have HZ := z_set1 Tc.out.1 a1 i0 i1 (wrap64 ((rd_T46 S a1).f4 + 1))
     rw [List.length_set] at HZ
     have hw : IntKind.i64.wrap ((rd_T46 S a1).f4 + 1) = wrap64 ((rd_T46 S a1).f4 + 1) := i64_w _
     have p0 : (0 ≤ a1) = True := eq_true i0
     have p1 : (a1 < (S.length : Int)) = True := eq_true i1
     have HZZ := Aside0.mk HZ
     have GS_ := Aside0.mk hgs
     clear HZ hgl cells hgc hgs A4 i0 i1
     have mB9_0 : W7.cell? ⟨g9, 0, none⟩ = some (.slice (some ⟨gs, 0, none⟩) S.length cc0) := (blk_cell B9.out 0).trans rfl
     have mB9_1 : W7.cell? ⟨g9, 1, none⟩ = some (.slice Ac1 F.length cc1) := (blk_cell B9.out 1).trans rfl
     have mB0_0 : W7.cell? ⟨g0, 0, none⟩ = some (.bool q1) := (blk_cell B0.out 0).trans rfl
     have mB0_1 : W7.cell? ⟨g0, 1, none⟩ = some (.int .i64 q2) := (blk_cell B0.out 1).trans rfl
     have mB0_2 : W7.cell? ⟨g0, 2, none⟩ = some (.int .i64 q3) := (blk_cell B0.out 2).trans rfl
     have mB0_3 : W7.cell? ⟨g0, 3, none⟩ = some (.bool q4) := (blk_cell B0.out 3).trans rfl
     have mB0_4 : W7.cell? ⟨g0, 4, none⟩ = some (.int .i64 q5) := (blk_cell B0.out 4).trans rfl
     have mB0_5 : W7.cell? ⟨g0, 5, none⟩ = some (.int .i64 q6) := (blk_cell B0.out 5).trans rfl
     go_upto_region 8 with (fail)
     have HZ := HZZ.out
     have hgr := Tc.out.1.1 gs rfl
     have DB6 := Aside0.mk (blk_drew (blk_grown B6.out HZ.2 (fun e_ => by have e2_ := Option.some.inj e_; have := Z6_7.out; have := ZL.out; have := HHI.out; have := GE9.out; have := Z9_0.out; omega)))
     have DB7 := Aside0.mk (blk_drew (blk_grown B7.out HZ.2 (fun e_ => by have e2_ := Option.some.inj e_; have := Z6_7.out; have := ZL.out; have := HHI.out; have := GE9.out; have := Z9_0.out; omega)))
     have DB9 := Aside0.mk (blk_drew (blk_grown B9.out HZ.2 (fun e_ => by have e2_ := Option.some.inj e_; have := Z6_7.out; have := ZL.out; have := HHI.out; have := GE9.out; have := Z9_0.out; omega)))
     have DB0 := Aside0.mk (blk_drew (blk_grown B0.out HZ.2 (fun e_ => by have e2_ := Option.some.inj e_; have := Z6_7.out; have := ZL.out; have := HHI.out; have := GE9.out; have := Z9_0.out; omega)))
     have DTc := Aside0.mk (show Tl (W7.setCell ⟨gs, a1.toNat * 6 + 4, none⟩ (.int .i64 (wrap64 ((rd_T46 S a1).f4 + 1)))).drew w.heap.size lo hi (.slice (some ⟨gs, 0, none⟩) S.length cc0) (.slice Ac1 F.length cc1) _ F from ⟨Kd.R_drew HZ.1, Kd.R_drew (Kd.R_over' (v := (.slice (some ⟨gs, 0, none⟩) S.length cc0)) Tc.out.2 (Kd.R_typed Tc.out.1) (by decide) HZ.2)⟩)
     have DL := Aside0.mk (z_below_drew (below_set (j := a1.toNat * 6 + 4) (v := .int .i64 (wrap64 ((rd_T46 S a1).f4 + 1))) L.out GS_.out))
     refine start_ (n := 5) (S := fun w' => w'.cell? ⟨g9, 0, none⟩ = some (.slice (some ⟨gs, 0, none⟩) S.length cc0) ∧ w'.cell? ⟨g9, 1, none⟩ = some (.slice Ac1 F.length cc1) ∧ w'.cell? ⟨g0, 0, none⟩ = some (.bool q1) ∧ w'.cell? ⟨g0, 1, none⟩ = some (.int .i64 q2) ∧ w'.cell? ⟨g0, 2, none⟩ = some (.int .i64 q3) ∧ w'.cell? ⟨g0, 3, none⟩ = some (.bool q4) ∧ w'.cell? ⟨g0, 4, none⟩ = some (.int .i64 q5) ∧ w'.cell? ⟨g0, 5, none⟩ = some (.int .i64 q6)) (ds := []) #[false, false, false, false, false] (by kernel_rfl) rfl rfl ⟨(blk_cell DB9.out 0).trans rfl, (blk_cell DB9.out 1).trans rfl, (blk_cell DB0.out 0).trans rfl, (blk_cell DB0.out 1).trans rfl, (blk_cell DB0.out 2).trans rfl, (blk_cell DB0.out 3).trans rfl, (blk_cell DB0.out 4).trans rfl, (blk_cell DB0.out 5).trans rfl⟩ (fun hHeld => ?_)
     clear HZ HZZ a4 b4 B6 B7 B9 B0 Tc L mB9_0 mB9_1 mB0_0 mB0_1 mB0_2 mB0_3 mB0_4 mB0_5
     generalize hWd : (W7.setCell ⟨gs, a1.toNat * 6 + 4, none⟩ (.int .i64 (wrap64 ((rd_T46 S a1).f4 + 1)))).drew = Wd at DB6 DB7 DB9 DB0 DTc DL hHeld ⊢
     clear hWd
     refine take_ (i := 0) (N := some 42) (v := ?_) (a' := ?_) #[true, false, false, false, false] rfl rfl (by kernel_rfl) (fun _ _ _ h => h) (Or.inl ⟨by rfl, ?_⟩) hHeld ?_ ?_
     rotate_left
     ·rintro w' ⟨s0, s1, s2, s3, s4, s5, s6, s7⟩
      go_simp
      with_reducible rfl
     rotate_left
     ·simp only [Act.put, List.setIfInBounds_toArray, List.set_cons_zero, List.set_cons_succ, i64_w, i32_w]
      rfl
     refine take_ (i := 1) (N := some 43) (v := ?_) (a' := ?_) #[true, true, false, false, false] rfl rfl (by kernel_rfl) (fun _ _ _ h => h) (Or.inl ⟨by rfl, ?_⟩) hHeld ?_ ?_
     rotate_left
     ·rintro w' ⟨s0, s1, s2, s3, s4, s5, s6, s7⟩
      go_simp
      with_reducible rfl
     rotate_left
     ·simp only [Act.put, List.setIfInBounds_toArray, List.set_cons_zero, List.set_cons_succ, i64_w, i32_w]
      rfl
     clear hHeld
     have cB6_0 : Wd.cell? ⟨g6, 0, none⟩ = some (.slice none 0 0) := (blk_cell DB6.out 0).trans rfl
     have fB6_0 := blk_frozen DB6.out 0
     have cB6_1 : Wd.cell? ⟨g6, 1, none⟩ = some (.slice none 0 0) := (blk_cell DB6.out 1).trans rfl
     have fB6_1 := blk_frozen DB6.out 1
     have cB7_0 : Wd.cell? ⟨g7, 0, none⟩ = some (.bool false) := (blk_cell DB7.out 0).trans rfl
     have fB7_0 := blk_frozen DB7.out 0
     have cB7_1 : Wd.cell? ⟨g7, 1, none⟩ = some (.int .i64 0) := (blk_cell DB7.out 1).trans rfl
     have fB7_1 := blk_frozen DB7.out 1
     have cB7_2 : Wd.cell? ⟨g7, 2, none⟩ = some (.int .i64 0) := (blk_cell DB7.out 2).trans rfl
     have fB7_2 := blk_frozen DB7.out 2
     have cB7_3 : Wd.cell? ⟨g7, 3, none⟩ = some (.bool false) := (blk_cell DB7.out 3).trans rfl
     have fB7_3 := blk_frozen DB7.out 3
     have cB7_4 : Wd.cell? ⟨g7, 4, none⟩ = some (.int .i64 0) := (blk_cell DB7.out 4).trans rfl
     have fB7_4 := blk_frozen DB7.out 4
     have cB7_5 : Wd.cell? ⟨g7, 5, none⟩ = some (.int .i64 0) := (blk_cell DB7.out 5).trans rfl
     have fB7_5 := blk_frozen DB7.out 5
     have n67 : (g6 = g7) = False := eq_false (by have := Z6_7.out; omega)
     have n76 : (g7 = g6) = False := eq_false (by have := Z6_7.out; omega)
     have hgr2 := ZL.out
     refine one_ (i := 2) (N := none) #[true, true, true, false, false] rfl rfl (by kernel_rfl) (by decide) (fun K hK => ?_)
     refine skip_ (w1 := ((Wd.setCell ⟨g6, 0, none⟩ (.slice (some ⟨gs, 0, none⟩) S.length cc0)).setCell ⟨g6, 1, none⟩ (.slice Ac1 F.length cc1))) (by rfl) rfl ?_ ?_
     ·go_simp
     have P2 := zl_put2 (.slice (some ⟨gs, 0, none⟩) S.length cc0) (.slice Ac1 F.length cc1) DB6.out
     have EB6 := Aside0.mk P2.1
     have EB7 := Aside0.mk ((P2.2 g7 (by have := Z6_7.out; have := ZL.out; have := hgr; have := HHI.out; have := GE9.out; have := Z9_0.out; omega)).trans DB7.out)
     have EB9 := Aside0.mk ((P2.2 g9 (by have := Z6_7.out; have := ZL.out; have := hgr; have := HHI.out; have := GE9.out; have := Z9_0.out; omega)).trans DB9.out)
     have EB0 := Aside0.mk ((P2.2 g0 (by have := Z6_7.out; have := ZL.out; have := hgr; have := HHI.out; have := GE9.out; have := Z9_0.out; omega)).trans DB0.out)
     have ETc := Aside0.mk (DTc.out.keep (fun j a _ _ => P2.2 j (by have := Z6_7.out; have := ZL.out; omega)))
     have EL := Aside0.mk (below_set (below_set DL.out (g := g6) (j := 0) (v := .slice (some ⟨gs, 0, none⟩) S.length cc0) G6.out) (g := g6) (j := 1) (v := .slice Ac1 F.length cc1) G6.out)
     clear P2 DB6 DB7 DB9 DB0 DTc DL cB6_0 fB6_0 cB6_1 fB6_1 cB7_0 fB7_0 cB7_1 fB7_1 cB7_2 fB7_2 cB7_3 fB7_3 cB7_4 fB7_4 cB7_5 fB7_5 n67 n76
     generalize ((Wd.setCell ⟨g6, 0, none⟩ (.slice (some ⟨gs, 0, none⟩) S.length cc0)).setCell ⟨g6, 1, none⟩ (.slice Ac1 F.length cc1)) = We at EB6 EB7 EB9 EB0 ETc EL ⊢
     refine hK.out _ _ ⟨(blk_cell EB9.out 0).trans rfl, (blk_cell EB9.out 1).trans rfl, (blk_cell EB0.out 0).trans rfl, (blk_cell EB0.out 1).trans rfl, (blk_cell EB0.out 2).trans rfl, (blk_cell EB0.out 3).trans rfl, (blk_cell EB0.out 4).trans rfl, (blk_cell EB0.out 5).trans rfl⟩ (fun hHeld => ?_)
     clear hK K hHeld
     have c7_0 : We.cell? ⟨g7, 0, none⟩ = some (.bool false) := (blk_cell EB7.out 0).trans rfl
     have f7_0 := blk_frozen EB7.out 0
     have c7_1 : We.cell? ⟨g7, 1, none⟩ = some (.int .i64 0) := (blk_cell EB7.out 1).trans rfl
     have f7_1 := blk_frozen EB7.out 1
     have c7_2 : We.cell? ⟨g7, 2, none⟩ = some (.int .i64 0) := (blk_cell EB7.out 2).trans rfl
     have f7_2 := blk_frozen EB7.out 2
     have c7_3 : We.cell? ⟨g7, 3, none⟩ = some (.bool false) := (blk_cell EB7.out 3).trans rfl
     have f7_3 := blk_frozen EB7.out 3
     have c7_4 : We.cell? ⟨g7, 4, none⟩ = some (.int .i64 0) := (blk_cell EB7.out 4).trans rfl
     have f7_4 := blk_frozen EB7.out 4
     have c7_5 : We.cell? ⟨g7, 5, none⟩ = some (.int .i64 0) := (blk_cell EB7.out 5).trans rfl
     have f7_5 := blk_frozen EB7.out 5
     refine one_ (i := 3) (N := none) #[true, true, true, true, false] rfl rfl (by kernel_rfl) (by decide) (fun K hK => ?_)
     refine skip_ (w1 := ((((((We.setCell ⟨g7, 0, none⟩ (.bool q1)).setCell ⟨g7, 1, none⟩ (.int .i64 q2)).setCell ⟨g7, 2, none⟩ (.int .i64 q3)).setCell ⟨g7, 3, none⟩ (.bool q4)).setCell ⟨g7, 4, none⟩ (.int .i64 q5)).setCell ⟨g7, 5, none⟩ (.int .i64 q6))) (by rfl) rfl ?_ ?_
     ·go_simp
     have P3 := zl_put6 (.bool q1) (.int .i64 q2) (.int .i64 q3) (.bool q4) (.int .i64 q5) (.int .i64 q6) EB7.out
     have FB7 := Aside0.mk P3.1
     have FB6 := Aside0.mk ((P3.2 g6 (by have := Z6_7.out; have := ZL.out; have := hgr; have := HHI.out; have := GE9.out; have := Z9_0.out; omega)).trans EB6.out)
     have FB9 := Aside0.mk ((P3.2 g9 (by have := Z6_7.out; have := ZL.out; have := hgr; have := HHI.out; have := GE9.out; have := Z9_0.out; omega)).trans EB9.out)
     have FB0 := Aside0.mk ((P3.2 g0 (by have := Z6_7.out; have := ZL.out; have := hgr; have := HHI.out; have := GE9.out; have := Z9_0.out; omega)).trans EB0.out)
     have FTc := Aside0.mk (ETc.out.keep (fun j a _ _ => P3.2 j (by have := ZL.out; omega)))
     have FL := Aside0.mk (below_set (below_set (below_set (below_set (below_set (below_set EL.out G7.out) G7.out) G7.out) G7.out) G7.out) G7.out : Below w.heap.size w ((((((We.setCell ⟨g7, 0, none⟩ (.bool q1)).setCell ⟨g7, 1, none⟩ (.int .i64 q2)).setCell ⟨g7, 2, none⟩ (.int .i64 q3)).setCell ⟨g7, 3, none⟩ (.bool q4)).setCell ⟨g7, 4, none⟩ (.int .i64 q5)).setCell ⟨g7, 5, none⟩ (.int .i64 q6)))
     clear P3 EB6 EB7 EB9 EB0 ETc EL c7_0 f7_0 c7_1 f7_1 c7_2 f7_2 c7_3 f7_3 c7_4 f7_4 c7_5 f7_5
     generalize ((((((We.setCell ⟨g7, 0, none⟩ (.bool q1)).setCell ⟨g7, 1, none⟩ (.int .i64 q2)).setCell ⟨g7, 2, none⟩ (.int .i64 q3)).setCell ⟨g7, 3, none⟩ (.bool q4)).setCell ⟨g7, 4, none⟩ (.int .i64 q5)).setCell ⟨g7, 5, none⟩ (.int .i64 q6)) = Wf at FB6 FB7 FB9 FB0 FTc FL ⊢
     refine hK.out _ _ ⟨(blk_cell FB9.out 0).trans rfl, (blk_cell FB9.out 1).trans rfl, (blk_cell FB0.out 0).trans rfl, (blk_cell FB0.out 1).trans rfl, (blk_cell FB0.out 2).trans rfl, (blk_cell FB0.out 3).trans rfl, (blk_cell FB0.out 4).trans rfl, (blk_cell FB0.out 5).trans rfl⟩ (fun hHeld => ?_)
     clear hK K hHeld
     refine pure_ (i := 4) (N := some 8) (v := ?_) (a' := ?_) #[true, true, true, true, true] rfl rfl (by kernel_rfl) (fun _ _ _ h => h) (Or.inl ⟨by rfl, ?_⟩) ?_ ?_
     rotate_left
     ·intro w'
      go_simp
      with_reducible rfl
     rotate_left
     ·simp only [Act.put, List.setIfInBounds_toArray, List.set_cons_zero, List.set_cons_succ, i64_w, i32_w]
      rfl
     refine done_ (by kernel_rfl) ?_
     try go_wp2
     refine bodyPost_ret (results_list (rs := [.cell 6 51, .cell 7 46, .tmp 8]) rfl (by simp) (.cell g6 51 #[.slice (some ⟨gs, 0, none⟩) S.length cc0, .slice Ac1 F.length cc1] (0, 0) _ rfl FB6.out Try.underlying51 rfl (by kernel_rfl) (.cell g7 46 #[.bool q1, .int .i64 q2, .int .i64 q3, .bool q4, .int .i64 q5, .int .i64 q6] (0, 0) _ rfl FB7.out Try.underlying46 rfl (by kernel_rfl) (.tmp .nil)))) rfl ?_
     exact ⟨_, _, rfl, Kd.R_mono FTc.out.1 (fun _ _ => trivial), Kd.R_mono FTc.out.2 (fun _ _ => trivial), FL.out⟩
    ·rw [if_neg i1] at h; cases h
   ·rw [if_neg i0] at h; cases h
 ·rw [if_neg c] at h
  simp only [Option.some.injEq, Prod.mk.injEq] at h
  obtain ⟨rfl, rfl, rfl, rfl, rfl, rfl, rfl, rfl, rfl⟩ := h
  have d0 : (q7 != 0) = true := bne_iff_ne.mpr c
  clear c
  have mB9_0 : W7.cell? ⟨g9, 0, none⟩ = some (.slice Ac0 S.length cc0) := (blk_cell B9.out 0).trans rfl
  have mB9_1 : W7.cell? ⟨g9, 1, none⟩ = some (.slice Ac1 F.length cc1) := (blk_cell B9.out 1).trans rfl
  have cB6_0 : W7.cell? ⟨g6, 0, none⟩ = some (.slice none 0 0) := (blk_cell B6.out 0).trans rfl
  have fB6_0 := blk_frozen B6.out 0
  have cB6_1 : W7.cell? ⟨g6, 1, none⟩ = some (.slice none 0 0) := (blk_cell B6.out 1).trans rfl
  have fB6_1 := blk_frozen B6.out 1
  have cB7_0 : W7.cell? ⟨g7, 0, none⟩ = some (.bool false) := (blk_cell B7.out 0).trans rfl
  have fB7_0 := blk_frozen B7.out 0
  have cB7_1 : W7.cell? ⟨g7, 1, none⟩ = some (.int .i64 0) := (blk_cell B7.out 1).trans rfl
  have fB7_1 := blk_frozen B7.out 1
  have cB7_2 : W7.cell? ⟨g7, 2, none⟩ = some (.int .i64 0) := (blk_cell B7.out 2).trans rfl
  have fB7_2 := blk_frozen B7.out 2
  have cB7_3 : W7.cell? ⟨g7, 3, none⟩ = some (.bool false) := (blk_cell B7.out 3).trans rfl
  have fB7_3 := blk_frozen B7.out 3
  have cB7_4 : W7.cell? ⟨g7, 4, none⟩ = some (.int .i64 0) := (blk_cell B7.out 4).trans rfl
  have fB7_4 := blk_frozen B7.out 4
  have cB7_5 : W7.cell? ⟨g7, 5, none⟩ = some (.int .i64 0) := (blk_cell B7.out 5).trans rfl
  have fB7_5 := blk_frozen B7.out 5
  have n67 : (g6 = g7) = False := eq_false (by have := Z6_7.out; omega)
  have n76 : (g7 = g6) = False := eq_false (by have := Z6_7.out; omega)
  go_wp2
  have P2 := zl_put2 (.slice Ac0 S.length cc0) (.slice Ac1 F.length cc1) B6.out
  have P3 := zl_put6 (.bool false) (.int .i64 0) (.int .i64 0) (.bool false) (.int .i64 0) (.int .i64 0) ((P2.2 g7 (by have := Z6_7.out; omega)).trans B7.out)
  have E2 := (P3.2 g6 (by have := Z6_7.out; omega)).trans P2.1
  have ge6 := G6.out
  have ge7 := G7.out
  have T2 := (Tc.out.keep (fun j a _ _ => P2.2 j (by have := Z6_7.out; have := ZL.out; omega))).keep (fun j a _ _ => P3.2 j (by have := ZL.out; omega))
  refine bodyPost_ret (results_list (rs := [.cell 6 51, .cell 7 46, .tmp 8]) rfl (by simp) (.cell g6 51 #[.slice Ac0 S.length cc0, .slice Ac1 F.length cc1] (0, 0) _ rfl E2 Try.underlying51 rfl (by kernel_rfl) (.cell g7 46 #[.bool false, .int .i64 0, .int .i64 0, .bool false, .int .i64 0, .int .i64 0] (0, 0) _ rfl P3.1 Try.underlying46 rfl (by kernel_rfl) (.tmp .nil)))) rfl ?_
  exact ⟨_, _, rfl, Kd.R_mono T2.1 (fun _ _ => trivial), Kd.R_mono T2.2 (fun _ _ => trivial), below_set (below_set (below_set (below_set (below_set (below_set (below_set (below_set L.out ge6) ge6) ge7) ge7) ge7) ge7) ge7) ge7⟩
end Go.Proofs.Ytoomeeoijbkmnaa.PH
