-- Printed by a program of this session (after the kit's print.sh, with contracts of its own beside): Lean checks it.
import Derived.Test.YtoomeeoijbkmnaaC8PHx0
import Derived.Test.YtoomeeoijbkmnaaC8PHx5
import Derived.Test.YtoomeeoijbkmnaaC8PHx9
namespace Go.Proofs.Ytoomeeoijbkmnaa.PH
open Go.RowKit Go.Proofs.YtoomeeoijbkmnaaW.PrintWords Go.Proofs.YtoomeeoijbkmnaaW.PrintLast Go.Proofs.YtoomeeoijbkmnaaW.PrintMore
attribute [local go_sem] max2_int min2_int max_two min_two max_three min_three max_four min_four   -- for this text's walks alone
set_option linter.unusedVariables false
set_option linter.unusedSimpArgs false

def impl_Table_add.f (S : List S46) (F : List Int) (h : S46) : Option (Int × List S46 × List Int) :=
 if 0 < F.length then (if 0 ≤ rd F ((F.length : Int) - 1) then (if rd F ((F.length : Int) - 1) < (S.length : Int) then some (rd F ((F.length : Int) - 1), S.set (rd F ((F.length : Int) - 1)).toNat h, F.take (F.length - 1)) else none) else none)
 else (if S.length < 2932031007402 then some ((S.length : Int), S ++ [h], F) else none)
theorem wrap_in_ {x : Int} (h0 : 0 ≤ x) (h : x ≤ 9223372036854775807) : wrap64 x = x := by
 unfold wrap64
 omega
theorem z_size_set (w : World) (p : Addr) (v : Value) : (w.setCell p v).heap.size = w.heap.size := by simp [World.setCell]
theorem z_below_drew {B : Nat} {w w' : World} (h : Below B w w') : Below B w w'.drew := ⟨h.os, h.tape, h.output, h.size, h.block⟩
theorem z_set6 {w : World} {base g c : Nat} {ok : Nat → Prop} {S : List S46} (H : Kd.R k46 46 w base ok (.slice (some ⟨g, 0, none⟩) S.length c) S) (i : Int) (h0 : 0 ≤ i) (h1 : i < (S.length : Int)) (x : S46) :
  Kd.R k46 46 ((((((w.setCell ⟨g, i.toNat * 6, none⟩ (.bool x.f0)).setCell ⟨g, i.toNat * 6 + 1, none⟩ (.int .i64 x.f1)).setCell ⟨g, i.toNat * 6 + 2, none⟩ (.int .i64 x.f2)).setCell ⟨g, i.toNat * 6 + 3, none⟩ (.bool x.f3)).setCell ⟨g, i.toNat * 6 + 4, none⟩ (.int .i64 x.f4)).setCell ⟨g, i.toNat * 6 + 5, none⟩ (.int .i64 x.f5)) base ok (.slice (some ⟨g, 0, none⟩) (S.set i.toNat x).length c) (S.set i.toNat x) ∧
  w.grownBy ((((((w.setCell ⟨g, i.toNat * 6, none⟩ (.bool x.f0)).setCell ⟨g, i.toNat * 6 + 1, none⟩ (.int .i64 x.f1)).setCell ⟨g, i.toNat * 6 + 2, none⟩ (.int .i64 x.f2)).setCell ⟨g, i.toNat * 6 + 3, none⟩ (.bool x.f3)).setCell ⟨g, i.toNat * 6 + 4, none⟩ (.int .i64 x.f4)).setCell ⟨g, i.toNat * 6 + 5, none⟩ (.int .i64 x.f5)) (some g) := by
 obtain ⟨ce, hcl, hM, hcc, hfr⟩ := Kd.R_elem H z46 i h0 h1
 have HP := Kd.R_seg H i h0 h1 (seg := [.bool x.f0, .int .i64 x.f1, .int .i64 x.f2, .bool x.f3, .int .i64 x.f4, .int .i64 x.f5]) (j := 0) hcl hcc (show 6 ≤ 6 from by decide) (x' := x) (by
  have e : ce.drop (0 + [Value.bool x.f0, .int .i64 x.f1, .int .i64 x.f2, .bool x.f3, .int .i64 x.f4, .int .i64 x.f5].length) = [] := List.drop_eq_nil_of_le (by rw [hcl]; exact Nat.le_refl _)
  rw [e, List.take_zero, List.nil_append, List.append_nil]
  exact k46_mkM w base (fun k => ok k ∧ k ≠ g) x) (fun _ hk => hk)
 rw [List.length_set]
 exact HP
theorem z_cells6 {w : World} {base g c : Nat} {ok : Nat → Prop} {S : List S46} (H : Kd.R k46 46 w base ok (.slice (some ⟨g, 0, none⟩) S.length c) S) (i : Int) (h0 : 0 ≤ i) (h1 : i < (S.length : Int)) :
  ∃ v0 v1 v2 v3 v4 v5, (w.cell? ⟨g, i.toNat * 6, none⟩ = some v0 ∧ w.cell? ⟨g, i.toNat * 6 + 1, none⟩ = some v1 ∧ w.cell? ⟨g, i.toNat * 6 + 2, none⟩ = some v2 ∧ w.cell? ⟨g, i.toNat * 6 + 3, none⟩ = some v3 ∧ w.cell? ⟨g, i.toNat * 6 + 4, none⟩ = some v4 ∧ w.cell? ⟨g, i.toNat * 6 + 5, none⟩ = some v5) ∧
  (w.frozen? ⟨g, i.toNat * 6, none⟩ = false ∧ w.frozen? ⟨g, i.toNat * 6 + 1, none⟩ = false ∧ w.frozen? ⟨g, i.toNat * 6 + 2, none⟩ = false ∧ w.frozen? ⟨g, i.toNat * 6 + 3, none⟩ = false ∧ w.frozen? ⟨g, i.toNat * 6 + 4, none⟩ = false ∧ w.frozen? ⟨g, i.toNat * 6 + 5, none⟩ = false) := by
 obtain ⟨ce, hcl, hM, hcc, hfr⟩ := Kd.R_elem H z46 i h0 h1
 obtain rfl := k46_openM hM
 exact ⟨_, _, _, _, _, _, ⟨hcc 0 _ rfl, hcc 1 _ rfl, hcc 2 _ rfl, hcc 3 _ rfl, hcc 4 _ rfl, hcc 5 _ rfl⟩, ⟨hfr 0, hfr 1, hfr 2, hfr 3, hfr 4, hfr 5⟩⟩
set_option maxHeartbeats 2000000 in
set_option maxRecDepth 100000 in
theorem impl_Table_add.calls (g base : Nat) (A0 A1 : Option Addr) (c0 c1 : Nat) (S : List S46) (F : List Int) (h : S46) (r : Int) (S' : List S46) (F' : List Int) (w : World)
  (hg : w.heap[g]? = some (.cells #[.slice A0 S.length c0, .slice A1 F.length c1] 51 (0, 0))) (hgb : base ≤ g)
  (h0 : Kd.R k46 46 w base (fun _ => True) (.slice A0 S.length c0) S) (h1 : Kd.R (Kd.int .i64) 3 w base (fun _ => True) (.slice A1 F.length c1) F) (hf : impl_Table_add.f S F h = some (r, S', F')) :
  Calls Try.prog 81 #[.pointer (some ⟨g, 0, none⟩), .agg #[.bool h.f0, .int .i64 h.f1, .int .i64 h.f2, .bool h.f3, .int .i64 h.f4, .int .i64 h.f5]] w fun e w' => e = .returned (.int .i64 r) ∧ ∃ A0' c0' A1' c1',
   w'.heap[g]? = some (.cells #[.slice A0' S'.length c0', .slice A1' F'.length c1'] 51 (0, 0)) ∧ Kd.R k46 46 w' base (fun _ => True) (.slice A0' S'.length c0') S' ∧ Kd.R (Kd.int .i64) 3 w' base (fun _ => True) (.slice A1' F'.length c1') F' ∧
   Below base w w' ∧ ∀ k, k < w.heap.size → k ≠ g → some k ≠ (Value.slice A0 S.length c0).ownBlock → w'.heap[k]? = w.heap[k]? := by
 unfold impl_Table_add.f at hf
 have hc0 : w.cell? ⟨g, 0, none⟩ = some (.slice A0 S.length c0) := (blk_cell hg 0).trans rfl
 have hc1 : w.cell? ⟨g, 1, none⟩ = some (.slice A1 F.length c1) := (blk_cell hg 1).trans rfl
 have hz0 := blk_frozen hg 0
 have hz1 := blk_frozen hg 1
 have zg := World.block_lt_of_cell? w _ hc0
 have H0 := Aside0.mk h0
 have H1 := Aside0.mk h1
 have HG := Aside0.mk hg
 clear h0 h1 hg
 by_cases hn : 0 < F.length
 ·rw [if_pos hn] at hf
  obtain ⟨j, hj⟩ : ∃ j : Int, j = (F.length : Int) - 1 := ⟨_, rfl⟩
  rw [← hj] at hf
  by_cases hk : 0 ≤ rd F j
  ·rw [if_pos hk] at hf
   by_cases hk1 : rd F j < (S.length : Int)
   ·rw [if_pos hk1] at hf
    simp only [Option.some.injEq, Prod.mk.injEq] at hf
    obtain ⟨rfl, rfl, rfl⟩ := hf
    obtain ⟨gs, cs, es, hgs, hgl, cells, hgc⟩ := Kd.R_form H0.out (by omega)
    cases es
    have hl1 := (Kd.R_reads' H1.out).2.1
    obtain ⟨ad, ea, hx⟩ := Kd.at_int (Kd.R_reads' H1.out).2.2 j (by omega) (by omega)
    cases ea
    have za := World.block_lt_of_cell? w _ hx
    obtain ⟨v0, v1, v2, v3, v4, v5, ⟨x0, x1, x2, x3, x4, x5⟩, ⟨y0, y1, y2, y3, y4, y5⟩⟩ := z_cells6 H0.out (rd F j) hk hk1
    have q47 : (j : Int) ≤ ((F.length : Int) : Int) := by omega
    obtain ⟨i047, hi047, _, hsz47, _⟩ := info_parts info3
    have hcut := cut_to (P := Try.prog) 41 3 .i64 Try.underlying41 hi047 (some ad) F.length c1 j (by omega) q47 hl1
    have hji : IntKind.i64.wrap ((F.length : Int) - 1) = j := by rw [hj]; exact (i64_w _).trans (wrap_in_ (by omega) (by have := (Kd.R_reads' H1.out).2.2.2.1; omega))
    have d0 : decide (j ≥ 0) = true := decide_eq_true (by omega)
    have p0 : (0 ≤ j) = True := eq_true (by omega)
    have p1 : (j < (F.length : Int)) = True := eq_true (by omega)
    have p2 : (j ≤ (F.length : Int)) = True := eq_true (by omega)
    have p3 : (0 ≤ rd F j) = True := eq_true hk
    have p4 : (rd F j < (S.length : Int)) = True := eq_true hk1
    have HJ := Aside0.mk hj
    clear hj hn hk hk1 q47
    go_enter Try.func81, Try.ntmps81
    go_wp2
    obtain ⟨W1, hW⟩ : ∃ W1, W1 = (w.setCell ⟨g, 1, none⟩ (.slice (some ad) j.toNat c1)).alloc (.cells #[.bool h.f0, .int .i64 h.f1, .int .i64 h.f2, .bool h.f3, .int .i64 h.f4, .int .i64 h.f5] 46 (0, 0)) := ⟨_, rfl⟩
    have zsz : (w.setCell ⟨g, 1, none⟩ (.slice (some ad) j.toNat c1)).heap.size = w.heap.size := z_size_set _ _ _
    have B1 : W1.heap[g]? = some (.cells #[.slice (some ⟨gs, 0, none⟩) S.length c0, .slice (some ad) j.toNat c1] 51 (0, 0)) := by rw [hW]; exact blk_alloc (blk_put HG.out 1 _ rfl) _
    have hjl : j.toNat ≤ F.length := by have := HJ.out; omega
    have R1 : Kd.R (Kd.int .i64) 3 W1 base (fun _ => True) (.slice (some ad) j.toNat c1) (F.take j.toNat) := by
     rw [hW]; exact Kd.R_alloc (Kd.R_set (Kd.R_take H1.out hjl) HG.out (by decide) 1 _) _
    have R0 : Kd.R k46 46 W1 base (fun _ => True) (.slice (some ⟨gs, 0, none⟩) S.length c0) S := by rw [hW]; exact Kd.R_alloc (Kd.R_set H0.out HG.out (by decide) 1 _) _
    have L1 : Below base w W1 := by rw [hW]; exact ((Below.refl base w).setCell (p := ⟨g, 1, none⟩) hgb _).alloc (by rw [zsz]; omega) _
    have M1 : ∀ k, k < w.heap.size → k ≠ g → W1.heap[k]? = w.heap[k]? := by
     intro k hk hkg; rw [hW]; exact (Below.heap_alloc _ _ k (by rw [zsz]; exact hk)).trans (Below.heap_setCell w ⟨g, 1, none⟩ _ k hkg)
    have N1 : W1.heap[w.heap.size]? = some (.cells #[.bool h.f0, .int .i64 h.f1, .int .i64 h.f2, .bool h.f3, .int .i64 h.f4, .int .i64 h.f5] 46 (0, 0)) := by
     rw [hW]; have := blk_new (w.setCell ⟨g, 1, none⟩ (.slice (some ad) j.toNat c1)) (.cells #[.bool h.f0, .int .i64 h.f1, .int .i64 h.f2, .bool h.f3, .int .i64 h.f4, .int .i64 h.f5] 46 (0, 0)); rwa [zsz] at this
    rw [← hW]
    clear hW hx hc0 hc1 hz0 hz1 x0 x1 x2 x3 x4 x5 y0 y1 y2 y3 y4 y5 v0 v1 v2 v3 v4 v5 hcut zg za hgc cells
    obtain ⟨v0, v1, v2, v3, v4, v5, ⟨x0, x1, x2, x3, x4, x5⟩, ⟨y0, y1, y2, y3, y4, y5⟩⟩ := z_cells6 R0 (rd F j) (of_eq_true p3) (of_eq_true p4)
    have hc0 : W1.cell? ⟨g, 0, none⟩ = some (.slice (some ⟨gs, 0, none⟩) S.length c0) := (blk_cell B1 0).trans rfl
    have n0 : W1.cell? ⟨w.heap.size, 0, none⟩ = some (.bool h.f0) := (blk_cell N1 0).trans rfl
    have n1 : W1.cell? ⟨w.heap.size, 1, none⟩ = some (.int .i64 h.f1) := (blk_cell N1 1).trans rfl
    have n2 : W1.cell? ⟨w.heap.size, 2, none⟩ = some (.int .i64 h.f2) := (blk_cell N1 2).trans rfl
    have n3 : W1.cell? ⟨w.heap.size, 3, none⟩ = some (.bool h.f3) := (blk_cell N1 3).trans rfl
    have n4 : W1.cell? ⟨w.heap.size, 4, none⟩ = some (.int .i64 h.f4) := (blk_cell N1 4).trans rfl
    have n5 : W1.cell? ⟨w.heap.size, 5, none⟩ = some (.int .i64 h.f5) := (blk_cell N1 5).trans rfl
    have HR0 := Aside0.mk R0
    have HR1 := Aside0.mk R1
    have HB1 := Aside0.mk B1
    have HL1 := Aside0.mk L1
    have HM1 := Aside0.mk M1
    clear R0 R1 B1 L1 M1 N1 zsz
    refine z_region_tail 7 (by kernel_rfl) (by kernel_rfl) ?_
    simp only [List.take_succ_cons, List.take_zero, List.drop_succ_cons, List.drop_zero]
    repeat still_step
    refine wpStill_nil ?_
    go_wp2
    have HZ := z_set6 HR0.out (rd F j) (of_eq_true p3) (of_eq_true p4) h
    have ZB := (((((HL1.out.setCell (p := ⟨gs, (rd F j).toNat * 6, none⟩) hgs (.bool h.f0)).setCell (p := ⟨gs, (rd F j).toNat * 6 + 1, none⟩) hgs (.int .i64 h.f1)).setCell (p := ⟨gs, (rd F j).toNat * 6 + 2, none⟩) hgs (.int .i64 h.f2)).setCell (p := ⟨gs, (rd F j).toNat * 6 + 3, none⟩) hgs (.bool h.f3)).setCell (p := ⟨gs, (rd F j).toNat * 6 + 4, none⟩) hgs (.int .i64 h.f4)).setCell (p := ⟨gs, (rd F j).toNat * 6 + 5, none⟩) hgs (.int .i64 h.f5)
    have e1 : F.length - 1 = j.toNat := by have := HJ.out; omega
    have e2 : (F.take j.toNat).length = j.toNat := by rw [List.length_take]; omega
    have hne : some g ≠ (Value.slice (some ⟨gs, 0, none⟩) S.length c0).ownBlock := Kd.R_ne HR0.out HB1.out (by decide)
    go_ret
    rw [e1, e2]
    refine ⟨rfl, some ⟨gs, 0, none⟩, c0, some ad, c1, ?_⟩
    obtain ⟨HZ1, HZ2⟩ := HZ
    generalize (((((W1.setCell ⟨gs, (rd F j).toNat * 6, none⟩ (.bool h.f0)).setCell ⟨gs, (rd F j).toNat * 6 + 1, none⟩ (.int .i64 h.f1)).setCell ⟨gs, (rd F j).toNat * 6 + 2, none⟩ (.int .i64 h.f2)).setCell ⟨gs, (rd F j).toNat * 6 + 3, none⟩ (.bool h.f3)).setCell ⟨gs, (rd F j).toNat * 6 + 4, none⟩ (.int .i64 h.f4)).setCell ⟨gs, (rd F j).toNat * 6 + 5, none⟩ (.int .i64 h.f5) = W2 at HZ1 HZ2 ZB ⊢
    refine ⟨?_, Kd.R_drew HZ1, Kd.R_drew (Kd.R_over' (v := (.slice (some ⟨gs, 0, none⟩) S.length c0)) HR1.out (Kd.R_typed HR0.out) (by decide) HZ2), z_below_drew ZB, ?_⟩
    ·rw [List.length_set]
     exact blk_drew (blk_grown HB1.out HZ2 hne)
    ·intro k hk hkg hkr
     exact (HZ2.block k (Nat.lt_of_lt_of_le hk HL1.out.size) hkr).trans (HM1.out k hk hkg)
   ·rw [if_neg hk1] at hf
    exact absurd hf (by simp)
  ·rw [if_neg hk] at hf
   exact absurd hf (by simp)
 ·rw [if_neg hn] at hf
  by_cases hs : S.length < 2932031007402
  ·rw [if_pos hs] at hf
   simp only [Option.some.injEq, Prod.mk.injEq] at hf
   obtain ⟨rfl, rfl, rfl⟩ := hf
   have hF : F.length = 0 := by omega
   have hji : IntKind.i64.wrap ((F.length : Int) - 1) = -1 := by rw [hF, i64_w]; unfold wrap64; omega
   have HN := Aside0.mk hn
   have HS := Aside0.mk hs
   have HF := Aside0.mk hF
   clear hn hs hF
   go_enter Try.func81, Try.ntmps81
   go_wp2
   have B1 : (w.alloc (.cells #[.bool h.f0, .int .i64 h.f1, .int .i64 h.f2, .bool h.f3, .int .i64 h.f4, .int .i64 h.f5] 46 (0, 0))).drew.heap[g]? = some (.cells #[.slice A0 S.length c0, .slice A1 F.length c1] 51 (0, 0)) := blk_drew (blk_alloc HG.out _)
   have N1 : (w.alloc (.cells #[.bool h.f0, .int .i64 h.f1, .int .i64 h.f2, .bool h.f3, .int .i64 h.f4, .int .i64 h.f5] 46 (0, 0))).drew.heap[w.heap.size]? = some (.cells #[.bool h.f0, .int .i64 h.f1, .int .i64 h.f2, .bool h.f3, .int .i64 h.f4, .int .i64 h.f5] 46 (0, 0)) := blk_drew (blk_new w _)
   have R0 := Kd.R_drew (Kd.R_alloc H0.out (.cells #[.bool h.f0, .int .i64 h.f1, .int .i64 h.f2, .bool h.f3, .int .i64 h.f4, .int .i64 h.f5] 46 (0, 0)))
   have R1 := Kd.R_drew (Kd.R_alloc H1.out (.cells #[.bool h.f0, .int .i64 h.f1, .int .i64 h.f2, .bool h.f3, .int .i64 h.f4, .int .i64 h.f5] 46 (0, 0)))
   have L1 : Below base w (w.alloc (.cells #[.bool h.f0, .int .i64 h.f1, .int .i64 h.f2, .bool h.f3, .int .i64 h.f4, .int .i64 h.f5] 46 (0, 0))).drew := z_below_drew ((Below.refl base w).alloc (by omega) _)
   have M1 : ∀ k, k < w.heap.size → (w.alloc (.cells #[.bool h.f0, .int .i64 h.f1, .int .i64 h.f2, .bool h.f3, .int .i64 h.f4, .int .i64 h.f5] 46 (0, 0))).drew.heap[k]? = w.heap[k]? := fun k hk => Below.heap_alloc _ _ k hk
   have Z1 : (w.alloc (.cells #[.bool h.f0, .int .i64 h.f1, .int .i64 h.f2, .bool h.f3, .int .i64 h.f4, .int .i64 h.f5] 46 (0, 0))).drew.heap.size = w.heap.size + 1 := Array.size_push _
   have HZ := Aside0.mk Z1
   clear Z1
   have hne0 : ∀ k, (Value.slice A0 S.length c0).ownBlock = some k → k < w.heap.size := Kd.R_lt H0.out
   refine start_ (n := 11) (S := fun w' => w'.cell? ⟨g, 0, none⟩ = some (.slice A0 S.length c0) ∧ w'.cell? ⟨w.heap.size, 0, none⟩ = some (.bool h.f0) ∧ w'.cell? ⟨w.heap.size, 1, none⟩ = some (.int .i64 h.f1) ∧ w'.cell? ⟨w.heap.size, 2, none⟩ = some (.int .i64 h.f2) ∧ w'.cell? ⟨w.heap.size, 3, none⟩ = some (.bool h.f3) ∧ w'.cell? ⟨w.heap.size, 4, none⟩ = some (.int .i64 h.f4) ∧ w'.cell? ⟨w.heap.size, 5, none⟩ = some (.int .i64 h.f5)) (ds := [10]) #[false, false, false, false, false, false, false, false, false, false, false] (by kernel_rfl) rfl rfl ⟨(blk_cell B1 0).trans rfl, (blk_cell N1 0).trans rfl, (blk_cell N1 1).trans rfl, (blk_cell N1 2).trans rfl, (blk_cell N1 3).trans rfl, (blk_cell N1 4).trans rfl, (blk_cell N1 5).trans rfl⟩ (fun hHeld => ?_)
   generalize (w.alloc (.cells #[.bool h.f0, .int .i64 h.f1, .int .i64 h.f2, .bool h.f3, .int .i64 h.f4, .int .i64 h.f5] 46 (0, 0))).drew = W1 at B1 N1 R0 R1 L1 M1 HZ hHeld ⊢
   refine pure_ (i := 0) (N := some 39) (v := ?_) (a' := ?_) #[true, false, false, false, false, false, false, false, false, false, false] rfl rfl (by kernel_rfl) (fun _ _ _ h => h) (Or.inl ⟨by rfl, ?_⟩) ?_ ?_
   rotate_left
   ·intro w'
    go_simp
    with_reducible rfl
   rotate_left
   ·simp only [Act.put, List.setIfInBounds_toArray, List.set_cons_zero, List.set_cons_succ, i64_w, i32_w]
    rfl
   refine pure_ (i := 1) (N := some 40) (v := ?_) (a' := ?_) #[true, true, false, false, false, false, false, false, false, false, false] rfl rfl (by kernel_rfl) (fun _ _ _ h => h) (Or.inl ⟨by rfl, ?_⟩) ?_ ?_
   rotate_left
   ·intro w'
    go_simp
    with_reducible rfl
   rotate_left
   ·simp only [Act.put, List.setIfInBounds_toArray, List.set_cons_zero, List.set_cons_succ, i64_w, i32_w]
    rfl
   refine pure_ (i := 2) (N := some 41) (v := ?_) (a' := ?_) #[true, true, true, false, false, false, false, false, false, false, false] rfl rfl (by kernel_rfl) (fun _ _ _ h => h) (Or.inl ⟨by rfl, ?_⟩) ?_ ?_
   rotate_left
   ·intro w'
    go_simp
    with_reducible rfl
   rotate_left
   ·simp only [Act.put, List.setIfInBounds_toArray, List.set_cons_zero, List.set_cons_succ, i64_w, i32_w]
    rfl
   refine pure_ (i := 3) (N := some 42) (v := ?_) (a' := ?_) #[true, true, true, true, false, false, false, false, false, false, false] rfl rfl (by kernel_rfl) (fun _ _ _ h => h) (Or.inl ⟨by rfl, ?_⟩) ?_ ?_
   rotate_left
   ·intro w'
    go_simp
    with_reducible rfl
   rotate_left
   ·simp only [Act.put, List.setIfInBounds_toArray, List.set_cons_zero, List.set_cons_succ, i64_w, i32_w]
    rfl
   refine take_ (i := 4) (N := some 43) (v := ?_) (a' := ?_) #[true, true, true, true, true, false, false, false, false, false, false] rfl rfl (by kernel_rfl) (fun _ _ _ h => h) (Or.inl ⟨by rfl, ?_⟩) hHeld ?_ ?_
   rotate_left
   ·rintro w' ⟨s0, s1, s2, s3, s4, s5, s6⟩
    go_simp
    with_reducible rfl
   rotate_left
   ·simp only [Act.put, List.setIfInBounds_toArray, List.set_cons_zero, List.set_cons_succ, i64_w, i32_w]
    rfl
   refine take_ (i := 5) (N := some 44) (v := ?_) (a' := ?_) #[true, true, true, true, true, true, false, false, false, false, false] rfl rfl (by kernel_rfl) (fun _ _ _ h => h) (Or.inl ⟨by rfl, ?_⟩) hHeld ?_ ?_
   rotate_left
   ·rintro w' ⟨s0, s1, s2, s3, s4, s5, s6⟩
    go_simp
    with_reducible rfl
   rotate_left
   ·simp only [Act.put, List.setIfInBounds_toArray, List.set_cons_zero, List.set_cons_succ, i64_w, i32_w]
    rfl
   refine one_ (i := 6) (N := some 45) #[true, true, true, true, true, true, true, false, false, false, false] rfl rfl (by kernel_rfl) (by decide) (fun K hK => ?_)
   refine value_ (w1 := W1.alloc (.cells #[.bool h.f0, .int .i64 h.f1, .int .i64 h.f2, .bool h.f3, .int .i64 h.f4, .int .i64 h.f5] 46 (0, 0))) (v := .slice (some ⟨W1.heap.size, 0, none⟩) 1 1) (by rfl) rfl ?_ ?_
   ·go_simp
   have hwl : W1.heap.size < (W1.alloc (.cells #[.bool h.f0, .int .i64 h.f1, .int .i64 h.f2, .bool h.f3, .int .i64 h.f4, .int .i64 h.f5] 46 (0, 0))).heap.size := by
    rw [show (W1.alloc (.cells #[.bool h.f0, .int .i64 h.f1, .int .i64 h.f2, .bool h.f3, .int .i64 h.f4, .int .i64 h.f5] 46 (0, 0))).heap.size = W1.heap.size + 1 from Array.size_push _]; omega
   refine hK.out _ _ ⟨(blk_cell (blk_alloc B1 _) 0).trans rfl, (blk_cell (blk_alloc N1 _) 0).trans rfl, (blk_cell (blk_alloc N1 _) 1).trans rfl, (blk_cell (blk_alloc N1 _) 2).trans rfl, (blk_cell (blk_alloc N1 _) 3).trans rfl, (blk_cell (blk_alloc N1 _) 4).trans rfl, (blk_cell (blk_alloc N1 _) 5).trans rfl⟩ (fun hHeld => ?_)
   clear hK K
   refine norm_ (a' := ?_) ?_ ?_
   rotate_left
   ·show Act.put _ (some 45) _ = _
    simp only [Act.put, List.setIfInBounds_toArray, List.set_cons_zero, List.set_cons_succ, i64_w, i32_w]
    rfl
   refine one_ (i := 7) (N := some 46) #[true, true, true, true, true, true, true, true, false, false, false] rfl rfl (by kernel_rfl) (by decide) (fun K hK => ?_)
   refine Kd.R_append_step k46 (w0 := w) base (by rfl) (.tmp 43) (.tmp 45) 49 46 (.agg #[(.bool false), (.int .i64 0), (.int .i64 0), (.bool false), (.int .i64 0), (.int .i64 0)]) 48 rfl Try.underlying49 info46 rfl (by decide) (by omega) (.slice A0 S.length c0) S h [.bool h.f0, .int .i64 h.f1, .int .i64 h.f2, .bool h.f3, .int .i64 h.f4, .int .i64 h.f5] (fun _ => True) (fun _ => False) rfl rfl (k46_mkM _ _ _ h) (fun _ hk => hk.elim) (fun _ _ => trivial) R0 L1 (Nat.le_trans (by omega) L1.size) (by have := HS.out; omega) ?_
   intro v1 W2 ho hb hgr hat
   obtain ⟨A2, c2, rfl⟩ := Kd.R_slice ho
   have B2 := blk_grown B1 hgr (Kd.R_ne R0 B1 (by decide))
   have N2 := blk_grown N1 hgr (fun e => absurd (hne0 _ e.symm) (Nat.lt_irrefl _))
   have R2 := Kd.R_over' R1 (Kd.R_typed R0) (by decide) hgr
   have M2 : ∀ k, k < w.heap.size → some k ≠ (Value.slice A0 S.length c0).ownBlock → W2.heap[k]? = w.heap[k]? := fun k hk hkr => (hgr.block k (Nat.lt_of_lt_of_le hk L1.size) hkr).trans (M1 k hk)
   have L2 := hb
   refine hK.out _ _ ⟨(blk_cell B2 0).trans rfl, (blk_cell N2 0).trans rfl, (blk_cell N2 1).trans rfl, (blk_cell N2 2).trans rfl, (blk_cell N2 3).trans rfl, (blk_cell N2 4).trans rfl, (blk_cell N2 5).trans rfl⟩ (fun hHeld => ?_)
   clear hK K hgr hat hb
   refine norm_ (a' := ?_) ?_ ?_
   rotate_left
   ·show Act.put _ (some 46) _ = _
    simp only [Act.put, List.setIfInBounds_toArray, List.set_cons_zero, List.set_cons_succ, i64_w, i32_w]
    rfl
   refine pure_ (i := 8) (N := some 47) (v := ?_) (a' := ?_) #[true, true, true, true, true, true, true, true, true, false, false] rfl rfl (by kernel_rfl) (fun _ _ _ h => h) (Or.inl ⟨by rfl, ?_⟩) ?_ ?_
   rotate_left
   ·intro w'
    go_simp
    with_reducible rfl
   rotate_left
   ·simp only [Act.put, List.setIfInBounds_toArray, List.set_cons_zero, List.set_cons_succ, i64_w, i32_w]
    rfl
   refine pure_ (i := 9) (N := some 48) (v := ?_) (a' := ?_) #[true, true, true, true, true, true, true, true, true, true, false] rfl rfl (by kernel_rfl) (fun _ _ _ h => h) (Or.inl ⟨by rfl, ?_⟩) ?_ ?_
   rotate_left
   ·intro w'
    go_simp
    with_reducible rfl
   rotate_left
   ·simp only [Act.put, List.setIfInBounds_toArray, List.set_cons_zero, List.set_cons_succ, i64_w, i32_w]
    rfl
   refine last_ (i := 10) (N := none) #[true, true, true, true, true, true, true, true, true, true, true] rfl rfl (by kernel_rfl) (by decide) (fun K hK => ?_)
   have hc2 := hHeld.1
   have hz2 := blk_frozen B2 0
   refine skip_ (w1 := W2.setCell ⟨g, 0, none⟩ (.slice A2 (S ++ [h]).length c2)) (by rfl) rfl ?_ ?_
   ·go_simp
   have B3 : (W2.setCell ⟨g, 0, none⟩ (.slice A2 (S ++ [h]).length c2)).heap[g]? = some (.cells #[.slice A2 (S ++ [h]).length c2, .slice A1 F.length c1] 51 (0, 0)) := blk_put B2 0 _ rfl
   have R3 := Kd.R_set ho B2 (by decide) 0 (.slice A2 (S ++ [h]).length c2)
   have R4 := Kd.R_set R2 B2 (by decide) 0 (.slice A2 (S ++ [h]).length c2)
   have L3 := L2.setCell (p := ⟨g, 0, none⟩) hgb (.slice A2 (S ++ [h]).length c2)
   have M3 : ∀ k, k < w.heap.size → k ≠ g → some k ≠ (Value.slice A0 S.length c0).ownBlock → (W2.setCell ⟨g, 0, none⟩ (.slice A2 (S ++ [h]).length c2)).heap[k]? = w.heap[k]? := fun k hk hkg hkr => (Below.heap_setCell W2 ⟨g, 0, none⟩ _ k hkg).trans (M2 k hk hkr)
   generalize W2.setCell ⟨g, 0, none⟩ (.slice A2 (S ++ [h]).length c2) = W3 at B3 R3 R4 L3 M3 ⊢
   refine hK.out _ _ ?_
   clear hK K
   refine done_ (by kernel_rfl) ?_
   clear hHeld hc2 hz2 B2 N2 R2 M2 L2 B1 N1 R0 R1 L1 M1 ho
   have hc3 : W3.cell? ⟨g, 0, none⟩ = some (.slice A2 (S ++ [h]).length c2) := (blk_cell B3 0).trans rfl
   obtain ⟨n, hn⟩ : ∃ n, n = (S ++ [h]).length := ⟨_, rfl⟩
   have hjj : IntKind.i64.wrap ((n : Int) - 1) = (S.length : Int) := by rw [hn, i64_w]; have := HS.out; simp only [List.length_append, List.length_cons, List.length_nil]; unfold wrap64; omega
   rw [← hn] at hc3 B3 R3
   rw [← hn]
   have HN2 := Aside0.mk hn
   clear hn
   go_wp2
   go_ret
   rw [HN2.out] at B3 R3
   exact ⟨rfl, A2, c2, A1, c1, B3, R3, R4, L3, M3⟩
  ·rw [if_neg hs] at hf
   exact absurd hf (by simp)
theorem z_below_trans {B : Nat} {a b c : World} (h : Below B a b) (h' : Below B b c) : Below B a c := h.trans h'
theorem z_three_behind {w w1 : World} {o o' o'' : Obj} (hb : Below (((w.alloc o).alloc o').alloc o'').heap.size (((w.alloc o).alloc o').alloc o'') w1) :
  w1.heap[w.heap.size]? = some o ∧ w1.heap[w.heap.size + 1]? = some o' ∧ w1.heap[w.heap.size + 2]? = some o'' ∧ Below w.heap.size w w1 ∧ w.heap.size + 3 ≤ w1.heap.size := by
 have e1 : (w.alloc o).heap.size = w.heap.size + 1 := Array.size_push _
 have e2 : ((w.alloc o).alloc o').heap.size = w.heap.size + 2 := (Array.size_push _).trans (by rw [e1])
 have e3 : (((w.alloc o).alloc o').alloc o'').heap.size = w.heap.size + 3 := (Array.size_push _).trans (by rw [e2])
 refine ⟨blk_below (blk_alloc (blk_alloc (blk_new w o) o') o'') hb, ?_, ?_, below_step (below_alloc (below_alloc (below_alloc (Below.refl _ _) _) _) _) hb, ?_⟩
 ·rw [← e1]; exact blk_below (blk_alloc (blk_new (w.alloc o) o') o'') hb
 ·rw [← e2]; exact blk_below (blk_new ((w.alloc o).alloc o') o'') hb
 ·rw [← e3]; exact hb.size
def impl_NewHandle.f (k : Nat) (l0_0 : List (S46)) (l0_1 : List Int) (a1_0 : Bool) (a1_1 : Int) (a1_2 : Int) (a1_3 : Bool) (a1_4 : Int) (a1_5 : Int) : Option ((List (S46)) × List Int × Int × Int) :=
 (impl_cloneTable.f k l0_0 l0_1).bind fun c => (impl_GoodTable.f k l0_0 l0_1).bind fun t =>
  if t = true then ((impl_Handle_sound.f k a1_0 a1_1 a1_2 a1_3 a1_4 a1_5).bind fun s => if s = true then (if a1_4 = 0 then (if c.2.length = 0 ∧ c.1.length = 40 then some (c.1, c.2, 0, 5) else ((impl_Table_add.f c.1 c.2 ⟨a1_0, a1_1, a1_2, a1_3, a1_4, a1_5⟩).bind fun r => some (r.2.1, r.2.2, r.1, 0))) else some (c.1, c.2, 0, 1)) else some (c.1, c.2, 0, 1))
  else some (c.1, c.2, 0, 1)
/-- What the callee full answers, from the cells. -/
theorem z_full.calls (g : Nat) (A0 A1 : Option Addr) (n0 n1 c0 c1 : Nat) (w : World) (hg : w.heap[g]? = some (.cells #[.slice A0 n0 c0, .slice A1 n1 c1] 51 (0, 0))) (r : Bool) (hr : decide (n1 = 0 ∧ n0 = 40) = r) :
  Calls Try.prog 80 #[.pointer (some ⟨g, 0, none⟩)] w fun e w' => e = .returned (.bool r) ∧ Below w.heap.size w w' := by
 have hc0 : w.cell? ⟨g, 0, none⟩ = some (.slice A0 n0 c0) := (blk_cell hg 0).trans rfl
 have hc1 : w.cell? ⟨g, 1, none⟩ = some (.slice A1 n1 c1) := (blk_cell hg 1).trans rfl
 clear hg
 by_cases h1 : n1 = 0
 ·have e1 : (((n1 : Nat) : Int) == 0) = true := by simp [h1]
  have hr' : (((n0 : Nat) : Int) == 40) = r := by rw [← hr]; by_cases h2 : n0 = 40 <;> simp [h1, h2]; omega
  have HR := Aside0.mk hr'
  clear hr hr' h1
  go_enter Try.func80, Try.ntmps80
  go_wp2
  go_ret
  exact ⟨congrArg (fun b => Ending.returned (Value.bool b)) HR.out, Below.refl _ _⟩
 ·have e1 : (((n1 : Nat) : Int) == 0) = false := by simp [h1]
  have hr' : r = false := by rw [← hr]; simp [h1]
  subst hr'
  clear hr h1
  go_enter Try.func80, Try.ntmps80
  go_wp2
  go_ret
  exact ⟨rfl, Below.refl _ _⟩
set_option maxHeartbeats 4000000 in
set_option maxRecDepth 100000 in
theorem impl_NewHandle.calls (k : Nat) (A0_0 : Option Addr) (c0_0 : Nat) (l0_0 : List (S46)) (A0_1 : Option Addr) (c0_1 : Nat) (l0_1 : List Int) (a1_0 : Bool) (a1_1 : Int) (a1_2 : Int) (a1_3 : Bool) (a1_4 : Int) (a1_5 : Int) (r1 : List (S46)) (r2 : List Int) (r3 : Int) (r4 : Int) (w : World) (hr0_0 : Kd.C k46 w A0_0 l0_0.length l0_0) (hc0_0 : l0_0.length ≤ c0_0) (hr0_1 : Kd.C (Kd.int .i64) w A0_1 l0_1.length l0_1) (hc0_1 : l0_1.length ≤ c0_1) (h : impl_NewHandle.f k l0_0 l0_1 a1_0 a1_1 a1_2 a1_3 a1_4 a1_5 = some (r1, r2, r3, r4)) :
  Calls Try.prog 36 #[.agg #[.slice A0_0 l0_0.length c0_0, .slice A0_1 l0_1.length c0_1], .agg #[.bool a1_0, .int .i64 a1_1, .int .i64 a1_2, .bool a1_3, .int .i64 a1_4, .int .i64 a1_5]] w fun e w' => ∃ v0_ v1_ : Value, e = .returned (.tuple #[.agg #[v0_, v1_], .int .i64 r3, .int .i64 r4]) ∧ Kd.R k46 46 w' w.heap.size (fun _ => True) v0_ r1 ∧ Kd.R (Kd.int .i64) 3 w' w.heap.size (fun _ => True) v1_ r2 ∧ Below w.heap.size w w' := by
 have H0 := Aside0.mk hr0_0
 have H1 := Aside0.mk hr0_1
 have C0 := Aside0.mk hc0_0
 have C1 := Aside0.mk hc0_1
 clear hr0_0 hr0_1 hc0_0 hc0_1
 unfold impl_NewHandle.f at h
 replace h := Option.bind_eq_some_iff.mp h
 obtain ⟨⟨S1, F1⟩, hc, h⟩ := h
 replace h := Option.bind_eq_some_iff.mp h
 obtain ⟨t, ht, h⟩ := h
 have HC := Aside0.mk hc
 have HT := Aside0.mk ht
 have HH := Aside0.mk h
 clear hc ht h
 go_enter Try.func36, Try.ntmps36
 go_upto_region 2 with (go_at_call 73; refine (impl_cloneTable.calls k _ c0_0 l0_0 _ c0_1 l0_1 S1 F1 _ (Kd.C_below H0.out (below_alloc (below_alloc (below_alloc (Below.refl _ _) _) _) _)) C0.out (Kd.C_below H1.out (below_alloc (below_alloc (below_alloc (Below.refl _ _) _) _) _)) C1.out HC.out).mono ?_; rintro e w1 ⟨v0, v1, rfl, x0, x1, hb⟩; obtain ⟨y0, z_0, rfl⟩ := Kd.R_slice x0; obtain ⟨y1, z_1, rfl⟩ := Kd.R_slice x1; obtain ⟨b0, b1, b2, hb2, hsz⟩ := z_three_behind hb; clear hb; have X0 := Aside0.mk x0; have X1 := Aside0.mk x1; have B0 := Aside0.mk b0; have B1 := Aside0.mk b1; have B2 := Aside0.mk b2; have HB := Aside0.mk hb2; have HS := Aside0.mk hsz; clear x0 x1 b0 b1 b2 hb2 hsz)
 obtain ⟨W, hW⟩ : ∃ W, W = w1.alloc (.cells #[.slice y0 S1.length z_0, .slice y1 F1.length z_1] 51 (0, 0)) := ⟨_, rfl⟩
 obtain ⟨g, hg⟩ : ∃ g, g = w1.heap.size := ⟨_, rfl⟩
 have T0 : Aside0 (W.heap[w.heap.size]? = some (.cells #[.slice A0_0 l0_0.length c0_0, .slice A0_1 l0_1.length c0_1] 51 (0, 0))) := Aside0.mk (by rw [hW]; exact blk_alloc B0.out _)
 have T1 : Aside0 (W.heap[w.heap.size + 1]? = some (.cells #[.bool a1_0, .int .i64 a1_1, .int .i64 a1_2, .bool a1_3, .int .i64 a1_4, .int .i64 a1_5] 46 (0, 0))) := Aside0.mk (by rw [hW]; exact blk_alloc B1.out _)
 have T2 : Aside0 (W.heap[w.heap.size + 2]? = some (.cells #[.slice none 0 0, .slice none 0 0] 51 (0, 0))) := Aside0.mk (by rw [hW]; exact blk_alloc B2.out _)
 have T3 : Aside0 (W.heap[g]? = some (.cells #[.slice y0 S1.length z_0, .slice y1 F1.length z_1] 51 (0, 0))) := Aside0.mk (by rw [hW, hg]; exact blk_new w1 _)
 have K0 : Aside0 (Kd.R k46 46 W w.heap.size (fun _ => True) (.slice y0 S1.length z_0) S1) := Aside0.mk (by rw [hW]; exact Kd.R_lower (Kd.R_alloc X0.out _) (below_size (below_alloc (below_alloc (below_alloc (Below.refl _ _) _) _) _)))
 have K1 : Aside0 (Kd.R (Kd.int .i64) 3 W w.heap.size (fun _ => True) (.slice y1 F1.length z_1) F1) := Aside0.mk (by rw [hW]; exact Kd.R_lower (Kd.R_alloc X1.out _) (below_size (below_alloc (below_alloc (below_alloc (Below.refl _ _) _) _) _)))
 have L : Aside0 (Below w.heap.size w W) := Aside0.mk (by rw [hW]; exact below_alloc HB.out _)
 have GG : Aside0 (w.heap.size + 3 ≤ g) := Aside0.mk (by rw [hg]; exact HS.out)
 rw [← hW, ← hg]
 clear hW hg X0 X1 B0 B1 B2 HB HS w1
 have m0 : W.cell? ⟨w.heap.size, 0, none⟩ = some (.slice A0_0 l0_0.length c0_0) := (blk_cell T0.out 0).trans rfl
 have m1 : W.cell? ⟨w.heap.size, 1, none⟩ = some (.slice A0_1 l0_1.length c0_1) := (blk_cell T0.out 1).trans rfl
 have n0 : W.cell? ⟨w.heap.size + 1, 0, none⟩ = some (.bool a1_0) := (blk_cell (T1.out) 0).trans rfl
 have n1 : W.cell? ⟨w.heap.size + 1, 1, none⟩ = some (.int .i64 a1_1) := (blk_cell (T1.out) 1).trans rfl
 have n2 : W.cell? ⟨w.heap.size + 1, 2, none⟩ = some (.int .i64 a1_2) := (blk_cell (T1.out) 2).trans rfl
 have n3 : W.cell? ⟨w.heap.size + 1, 3, none⟩ = some (.bool a1_3) := (blk_cell (T1.out) 3).trans rfl
 have n4 : W.cell? ⟨w.heap.size + 1, 4, none⟩ = some (.int .i64 a1_4) := (blk_cell (T1.out) 4).trans rfl
 have n5 : W.cell? ⟨w.heap.size + 1, 5, none⟩ = some (.int .i64 a1_5) := (blk_cell (T1.out) 5).trans rfl
 have z0 : W.cell? ⟨w.heap.size + 2, 0, none⟩ = some (.slice none 0 0) := (blk_cell (T2.out) 0).trans rfl
 have z1 : W.cell? ⟨w.heap.size + 2, 1, none⟩ = some (.slice none 0 0) := (blk_cell (T2.out) 1).trans rfl
 have zf0 := blk_frozen (T2.out) 0
 have zf1 := blk_frozen (T2.out) 1
 have g0 : W.cell? ⟨g, 0, none⟩ = some (.slice y0 S1.length z_0) := (blk_cell (T3.out) 0).trans rfl
 have g1 : W.cell? ⟨g, 1, none⟩ = some (.slice y1 F1.length z_1) := (blk_cell (T3.out) 1).trans rfl
 cases t with
 | false =>
  have h := HH.out
  clear HH
  rw [if_neg (by decide)] at h
  simp only [Option.some.injEq, Prod.mk.injEq] at h
  obtain ⟨rfl, rfl, rfl, rfl⟩ := h
  clear n0 n1 n2 n3 n4 n5 z0 z1 zf0 zf1 g0 g1
  go_wp2_with (go_at_call 40; refine (impl_GoodTable.calls k _ c0_0 l0_0 _ c0_1 l0_1 _ _ (Kd.C_below H0.out L.out) C0.out (Kd.C_below H1.out L.out) C1.out HT.out).mono ?_; rintro e w2 ⟨rfl, hb⟩; have HW := Aside0.mk hb; clear hb; have n0 : w2.cell? ⟨w.heap.size + 1, 0, none⟩ = some (.bool a1_0) := (blk_cell (blk_below T1.out HW.out) 0).trans rfl; have n1 : w2.cell? ⟨w.heap.size + 1, 1, none⟩ = some (.int .i64 a1_1) := (blk_cell (blk_below T1.out HW.out) 1).trans rfl; have n2 : w2.cell? ⟨w.heap.size + 1, 2, none⟩ = some (.int .i64 a1_2) := (blk_cell (blk_below T1.out HW.out) 2).trans rfl; have n3 : w2.cell? ⟨w.heap.size + 1, 3, none⟩ = some (.bool a1_3) := (blk_cell (blk_below T1.out HW.out) 3).trans rfl; have n4 : w2.cell? ⟨w.heap.size + 1, 4, none⟩ = some (.int .i64 a1_4) := (blk_cell (blk_below T1.out HW.out) 4).trans rfl; have n5 : w2.cell? ⟨w.heap.size + 1, 5, none⟩ = some (.int .i64 a1_5) := (blk_cell (blk_below T1.out HW.out) 5).trans rfl; have z0 : w2.cell? ⟨w.heap.size + 2, 0, none⟩ = some (.slice none 0 0) := (blk_cell (blk_below T2.out HW.out) 0).trans rfl; have z1 : w2.cell? ⟨w.heap.size + 2, 1, none⟩ = some (.slice none 0 0) := (blk_cell (blk_below T2.out HW.out) 1).trans rfl; have zf0 := blk_frozen (blk_below T2.out HW.out) 0; have zf1 := blk_frozen (blk_below T2.out HW.out) 1; have g0 : w2.cell? ⟨g, 0, none⟩ = some (.slice y0 S1.length z_0) := (blk_cell (blk_below T3.out HW.out) 0).trans rfl; have g1 : w2.cell? ⟨g, 1, none⟩ = some (.slice y1 F1.length z_1) := (blk_cell (blk_below T3.out HW.out) 1).trans rfl)
  have E0 := Kd.R_below K0.out HW.out
  have E1 := Kd.R_below K1.out HW.out
  have T2' := blk_below T2.out HW.out
  have E0' := Kd.R_set (Kd.R_set E0 T2' (by decide) 0 (.slice y0 S1.length z_0)) (blk_put T2' 0 (.slice y0 S1.length z_0) rfl) (by decide) 1 (.slice y1 F1.length z_1)
  have E1' := Kd.R_set (Kd.R_set E1 T2' (by decide) 0 (.slice y0 S1.length z_0)) (blk_put T2' 0 (.slice y0 S1.length z_0) rfl) (by decide) 1 (.slice y1 F1.length z_1)
  have T2'' := blk_put (blk_put T2' 0 (.slice y0 S1.length z_0) rfl) 1 (.slice y1 F1.length z_1) rfl
  have L'' := ((below_step L.out HW.out).setCell (p := ⟨w.heap.size + 2, 0, none⟩) (Nat.le_add_right _ _) (.slice y0 S1.length z_0)).setCell (p := ⟨w.heap.size + 2, 1, none⟩) (Nat.le_add_right _ _) (.slice y1 F1.length z_1)
  generalize (w2.setCell ⟨w.heap.size + 2, 0, none⟩ (.slice y0 S1.length z_0)).setCell ⟨w.heap.size + 2, 1, none⟩ (.slice y1 F1.length z_1) = WF at E0' E1' T2'' L'' ⊢
  exact bodyPost_ret (results_ctt rfl _ _ (w.heap.size + 2) 51 #[.slice y0 S1.length z_0, .slice y1 F1.length z_1] (0, 0) _ rfl T2'' Try.underlying51 rfl (by kernel_rfl)) rfl ⟨_, _, rfl, E0', E1', L''⟩
 | true =>
  have h := HH.out
  clear HH
  rw [if_pos rfl] at h
  replace h := Option.bind_eq_some_iff.mp h
  obtain ⟨s, hs, h⟩ := h
  have HSo := Aside0.mk hs
  clear hs
  clear n0 n1 n2 n3 n4 n5 z0 z1 zf0 zf1 g0 g1
  cases s with
  | false =>
   rw [if_neg (by decide)] at h
   simp only [Option.some.injEq, Prod.mk.injEq] at h
   obtain ⟨rfl, rfl, rfl, rfl⟩ := h
   go_wp2_with (first | (go_at_call 40; refine (impl_GoodTable.calls k _ c0_0 l0_0 _ c0_1 l0_1 _ _ (Kd.C_below H0.out L.out) C0.out (Kd.C_below H1.out L.out) C1.out HT.out).mono ?_; rintro e w2 ⟨rfl, hb⟩; have HW := Aside0.mk hb; clear hb; have n0 : w2.cell? ⟨w.heap.size + 1, 0, none⟩ = some (.bool a1_0) := (blk_cell (blk_below T1.out HW.out) 0).trans rfl; have n1 : w2.cell? ⟨w.heap.size + 1, 1, none⟩ = some (.int .i64 a1_1) := (blk_cell (blk_below T1.out HW.out) 1).trans rfl; have n2 : w2.cell? ⟨w.heap.size + 1, 2, none⟩ = some (.int .i64 a1_2) := (blk_cell (blk_below T1.out HW.out) 2).trans rfl; have n3 : w2.cell? ⟨w.heap.size + 1, 3, none⟩ = some (.bool a1_3) := (blk_cell (blk_below T1.out HW.out) 3).trans rfl; have n4 : w2.cell? ⟨w.heap.size + 1, 4, none⟩ = some (.int .i64 a1_4) := (blk_cell (blk_below T1.out HW.out) 4).trans rfl; have n5 : w2.cell? ⟨w.heap.size + 1, 5, none⟩ = some (.int .i64 a1_5) := (blk_cell (blk_below T1.out HW.out) 5).trans rfl; have z0 : w2.cell? ⟨w.heap.size + 2, 0, none⟩ = some (.slice none 0 0) := (blk_cell (blk_below T2.out HW.out) 0).trans rfl; have z1 : w2.cell? ⟨w.heap.size + 2, 1, none⟩ = some (.slice none 0 0) := (blk_cell (blk_below T2.out HW.out) 1).trans rfl; have zf0 := blk_frozen (blk_below T2.out HW.out) 0; have zf1 := blk_frozen (blk_below T2.out HW.out) 1; have g0 : w2.cell? ⟨g, 0, none⟩ = some (.slice y0 S1.length z_0) := (blk_cell (blk_below T3.out HW.out) 0).trans rfl; have g1 : w2.cell? ⟨g, 1, none⟩ = some (.slice y1 F1.length z_1) := (blk_cell (blk_below T3.out HW.out) 1).trans rfl) | (go_at_call 79; clear n0 n1 n2 n3 n4 n5 z0 z1 zf0 zf1 g0 g1; refine (impl_Handle_sound.calls k _ _ _ _ _ _ _ _ HSo.out).mono ?_; rintro e w3 ⟨rfl, hb⟩; have HW3 := Aside0.mk (below_step HW.out hb); clear hb; have n0 : w3.cell? ⟨w.heap.size + 1, 0, none⟩ = some (.bool a1_0) := (blk_cell (blk_below T1.out HW3.out) 0).trans rfl; have n1 : w3.cell? ⟨w.heap.size + 1, 1, none⟩ = some (.int .i64 a1_1) := (blk_cell (blk_below T1.out HW3.out) 1).trans rfl; have n2 : w3.cell? ⟨w.heap.size + 1, 2, none⟩ = some (.int .i64 a1_2) := (blk_cell (blk_below T1.out HW3.out) 2).trans rfl; have n3 : w3.cell? ⟨w.heap.size + 1, 3, none⟩ = some (.bool a1_3) := (blk_cell (blk_below T1.out HW3.out) 3).trans rfl; have n4 : w3.cell? ⟨w.heap.size + 1, 4, none⟩ = some (.int .i64 a1_4) := (blk_cell (blk_below T1.out HW3.out) 4).trans rfl; have n5 : w3.cell? ⟨w.heap.size + 1, 5, none⟩ = some (.int .i64 a1_5) := (blk_cell (blk_below T1.out HW3.out) 5).trans rfl; have z0 : w3.cell? ⟨w.heap.size + 2, 0, none⟩ = some (.slice none 0 0) := (blk_cell (blk_below T2.out HW3.out) 0).trans rfl; have z1 : w3.cell? ⟨w.heap.size + 2, 1, none⟩ = some (.slice none 0 0) := (blk_cell (blk_below T2.out HW3.out) 1).trans rfl; have zf0 := blk_frozen (blk_below T2.out HW3.out) 0; have zf1 := blk_frozen (blk_below T2.out HW3.out) 1; have g0 : w3.cell? ⟨g, 0, none⟩ = some (.slice y0 S1.length z_0) := (blk_cell (blk_below T3.out HW3.out) 0).trans rfl; have g1 : w3.cell? ⟨g, 1, none⟩ = some (.slice y1 F1.length z_1) := (blk_cell (blk_below T3.out HW3.out) 1).trans rfl))
   have E0 := Kd.R_below K0.out HW3.out
   have E1 := Kd.R_below K1.out HW3.out
   have T2' := blk_below T2.out HW3.out
   have E0' := Kd.R_set (Kd.R_set E0 T2' (by decide) 0 (.slice y0 S1.length z_0)) (blk_put T2' 0 (.slice y0 S1.length z_0) rfl) (by decide) 1 (.slice y1 F1.length z_1)
   have E1' := Kd.R_set (Kd.R_set E1 T2' (by decide) 0 (.slice y0 S1.length z_0)) (blk_put T2' 0 (.slice y0 S1.length z_0) rfl) (by decide) 1 (.slice y1 F1.length z_1)
   have T2'' := blk_put (blk_put T2' 0 (.slice y0 S1.length z_0) rfl) 1 (.slice y1 F1.length z_1) rfl
   have L'' := ((below_step L.out HW3.out).setCell (p := ⟨w.heap.size + 2, 0, none⟩) (Nat.le_add_right _ _) (.slice y0 S1.length z_0)).setCell (p := ⟨w.heap.size + 2, 1, none⟩) (Nat.le_add_right _ _) (.slice y1 F1.length z_1)
   generalize (w3.setCell ⟨w.heap.size + 2, 0, none⟩ (.slice y0 S1.length z_0)).setCell ⟨w.heap.size + 2, 1, none⟩ (.slice y1 F1.length z_1) = WF at E0' E1' T2'' L'' ⊢
   exact bodyPost_ret (results_ctt rfl _ _ (w.heap.size + 2) 51 #[.slice y0 S1.length z_0, .slice y1 F1.length z_1] (0, 0) _ rfl T2'' Try.underlying51 rfl (by kernel_rfl)) rfl ⟨_, _, rfl, E0', E1', L''⟩
  | true =>
   rw [if_pos rfl] at h
   by_cases hl : a1_4 = 0
   ·rw [if_pos hl] at h
    have hl' : (a1_4 != 0) = false := bne_eq_false_iff_eq.mpr hl
    have HL := Lib.hid hl
    clear hl
    by_cases hf : F1.length = 0 ∧ S1.length = 40
    ·rw [if_pos hf] at h
     simp only [Option.some.injEq, Prod.mk.injEq] at h
     obtain ⟨rfl, rfl, rfl, rfl⟩ := h
     have FU : Aside0 (decide (F1.length = 0 ∧ S1.length = 40) = true) := Aside0.mk (decide_eq_true hf)
     clear hf
     go_wp2_with (first | (go_at_call 40; refine (impl_GoodTable.calls k _ c0_0 l0_0 _ c0_1 l0_1 _ _ (Kd.C_below H0.out L.out) C0.out (Kd.C_below H1.out L.out) C1.out HT.out).mono ?_; rintro e w2 ⟨rfl, hb⟩; have HW := Aside0.mk hb; clear hb; have n0 : w2.cell? ⟨w.heap.size + 1, 0, none⟩ = some (.bool a1_0) := (blk_cell (blk_below T1.out HW.out) 0).trans rfl; have n1 : w2.cell? ⟨w.heap.size + 1, 1, none⟩ = some (.int .i64 a1_1) := (blk_cell (blk_below T1.out HW.out) 1).trans rfl; have n2 : w2.cell? ⟨w.heap.size + 1, 2, none⟩ = some (.int .i64 a1_2) := (blk_cell (blk_below T1.out HW.out) 2).trans rfl; have n3 : w2.cell? ⟨w.heap.size + 1, 3, none⟩ = some (.bool a1_3) := (blk_cell (blk_below T1.out HW.out) 3).trans rfl; have n4 : w2.cell? ⟨w.heap.size + 1, 4, none⟩ = some (.int .i64 a1_4) := (blk_cell (blk_below T1.out HW.out) 4).trans rfl; have n5 : w2.cell? ⟨w.heap.size + 1, 5, none⟩ = some (.int .i64 a1_5) := (blk_cell (blk_below T1.out HW.out) 5).trans rfl; have z0 : w2.cell? ⟨w.heap.size + 2, 0, none⟩ = some (.slice none 0 0) := (blk_cell (blk_below T2.out HW.out) 0).trans rfl; have z1 : w2.cell? ⟨w.heap.size + 2, 1, none⟩ = some (.slice none 0 0) := (blk_cell (blk_below T2.out HW.out) 1).trans rfl; have zf0 := blk_frozen (blk_below T2.out HW.out) 0; have zf1 := blk_frozen (blk_below T2.out HW.out) 1; have g0 : w2.cell? ⟨g, 0, none⟩ = some (.slice y0 S1.length z_0) := (blk_cell (blk_below T3.out HW.out) 0).trans rfl; have g1 : w2.cell? ⟨g, 1, none⟩ = some (.slice y1 F1.length z_1) := (blk_cell (blk_below T3.out HW.out) 1).trans rfl) | (go_at_call 79; clear n0 n1 n2 n3 n4 n5 z0 z1 zf0 zf1 g0 g1; refine (impl_Handle_sound.calls k _ _ _ _ _ _ _ _ HSo.out).mono ?_; rintro e w3 ⟨rfl, hb⟩; have HW3 := Aside0.mk (below_step HW.out hb); clear hb; have n0 : w3.cell? ⟨w.heap.size + 1, 0, none⟩ = some (.bool a1_0) := (blk_cell (blk_below T1.out HW3.out) 0).trans rfl; have n1 : w3.cell? ⟨w.heap.size + 1, 1, none⟩ = some (.int .i64 a1_1) := (blk_cell (blk_below T1.out HW3.out) 1).trans rfl; have n2 : w3.cell? ⟨w.heap.size + 1, 2, none⟩ = some (.int .i64 a1_2) := (blk_cell (blk_below T1.out HW3.out) 2).trans rfl; have n3 : w3.cell? ⟨w.heap.size + 1, 3, none⟩ = some (.bool a1_3) := (blk_cell (blk_below T1.out HW3.out) 3).trans rfl; have n4 : w3.cell? ⟨w.heap.size + 1, 4, none⟩ = some (.int .i64 a1_4) := (blk_cell (blk_below T1.out HW3.out) 4).trans rfl; have n5 : w3.cell? ⟨w.heap.size + 1, 5, none⟩ = some (.int .i64 a1_5) := (blk_cell (blk_below T1.out HW3.out) 5).trans rfl; have z0 : w3.cell? ⟨w.heap.size + 2, 0, none⟩ = some (.slice none 0 0) := (blk_cell (blk_below T2.out HW3.out) 0).trans rfl; have z1 : w3.cell? ⟨w.heap.size + 2, 1, none⟩ = some (.slice none 0 0) := (blk_cell (blk_below T2.out HW3.out) 1).trans rfl; have zf0 := blk_frozen (blk_below T2.out HW3.out) 0; have zf1 := blk_frozen (blk_below T2.out HW3.out) 1; have g0 : w3.cell? ⟨g, 0, none⟩ = some (.slice y0 S1.length z_0) := (blk_cell (blk_below T3.out HW3.out) 0).trans rfl; have g1 : w3.cell? ⟨g, 1, none⟩ = some (.slice y1 F1.length z_1) := (blk_cell (blk_below T3.out HW3.out) 1).trans rfl) | (go_at_call 80; clear n0 n1 n2 n3 n4 n5 z0 z1 zf0 zf1 g0 g1; refine (z_full.calls g y0 y1 S1.length F1.length z_0 z_1 _ (blk_below T3.out HW3.out) _ FU.out).mono ?_; rintro e w4 ⟨rfl, hb⟩; have HW4 := Aside0.mk (below_step HW3.out hb); clear hb; have n0 : w4.cell? ⟨w.heap.size + 1, 0, none⟩ = some (.bool a1_0) := (blk_cell (blk_below T1.out HW4.out) 0).trans rfl; have n1 : w4.cell? ⟨w.heap.size + 1, 1, none⟩ = some (.int .i64 a1_1) := (blk_cell (blk_below T1.out HW4.out) 1).trans rfl; have n2 : w4.cell? ⟨w.heap.size + 1, 2, none⟩ = some (.int .i64 a1_2) := (blk_cell (blk_below T1.out HW4.out) 2).trans rfl; have n3 : w4.cell? ⟨w.heap.size + 1, 3, none⟩ = some (.bool a1_3) := (blk_cell (blk_below T1.out HW4.out) 3).trans rfl; have n4 : w4.cell? ⟨w.heap.size + 1, 4, none⟩ = some (.int .i64 a1_4) := (blk_cell (blk_below T1.out HW4.out) 4).trans rfl; have n5 : w4.cell? ⟨w.heap.size + 1, 5, none⟩ = some (.int .i64 a1_5) := (blk_cell (blk_below T1.out HW4.out) 5).trans rfl; have z0 : w4.cell? ⟨w.heap.size + 2, 0, none⟩ = some (.slice none 0 0) := (blk_cell (blk_below T2.out HW4.out) 0).trans rfl; have z1 : w4.cell? ⟨w.heap.size + 2, 1, none⟩ = some (.slice none 0 0) := (blk_cell (blk_below T2.out HW4.out) 1).trans rfl; have zf0 := blk_frozen (blk_below T2.out HW4.out) 0; have zf1 := blk_frozen (blk_below T2.out HW4.out) 1; have g0 : w4.cell? ⟨g, 0, none⟩ = some (.slice y0 S1.length z_0) := (blk_cell (blk_below T3.out HW4.out) 0).trans rfl; have g1 : w4.cell? ⟨g, 1, none⟩ = some (.slice y1 F1.length z_1) := (blk_cell (blk_below T3.out HW4.out) 1).trans rfl))
     have E0 := Kd.R_below K0.out HW4.out
     have E1 := Kd.R_below K1.out HW4.out
     have T2' := blk_below T2.out HW4.out
     have E0' := Kd.R_set (Kd.R_set E0 T2' (by decide) 0 (.slice y0 S1.length z_0)) (blk_put T2' 0 (.slice y0 S1.length z_0) rfl) (by decide) 1 (.slice y1 F1.length z_1)
     have E1' := Kd.R_set (Kd.R_set E1 T2' (by decide) 0 (.slice y0 S1.length z_0)) (blk_put T2' 0 (.slice y0 S1.length z_0) rfl) (by decide) 1 (.slice y1 F1.length z_1)
     have T2'' := blk_put (blk_put T2' 0 (.slice y0 S1.length z_0) rfl) 1 (.slice y1 F1.length z_1) rfl
     have L'' := ((below_step L.out HW4.out).setCell (p := ⟨w.heap.size + 2, 0, none⟩) (Nat.le_add_right _ _) (.slice y0 S1.length z_0)).setCell (p := ⟨w.heap.size + 2, 1, none⟩) (Nat.le_add_right _ _) (.slice y1 F1.length z_1)
     generalize (w4.setCell ⟨w.heap.size + 2, 0, none⟩ (.slice y0 S1.length z_0)).setCell ⟨w.heap.size + 2, 1, none⟩ (.slice y1 F1.length z_1) = WF at E0' E1' T2'' L'' ⊢
     exact bodyPost_ret (results_ctt rfl _ _ (w.heap.size + 2) 51 #[.slice y0 S1.length z_0, .slice y1 F1.length z_1] (0, 0) _ rfl T2'' Try.underlying51 rfl (by kernel_rfl)) rfl ⟨_, _, rfl, E0', E1', L''⟩
    ·rw [if_neg hf] at h
     have FU : Aside0 (decide (F1.length = 0 ∧ S1.length = 40) = false) := Aside0.mk (decide_eq_false hf)
     clear hf
     replace h := Option.bind_eq_some_iff.mp h
     obtain ⟨⟨p1, p2, p3⟩, hp, h⟩ := h
     have HP := Aside0.mk hp
     clear hp
     simp only [Option.some.injEq, Prod.mk.injEq] at h
     obtain ⟨rfl, rfl, rfl, rfl⟩ := h
     go_wp2_with (first | (go_at_call 40; refine (impl_GoodTable.calls k _ c0_0 l0_0 _ c0_1 l0_1 _ _ (Kd.C_below H0.out L.out) C0.out (Kd.C_below H1.out L.out) C1.out HT.out).mono ?_; rintro e w2 ⟨rfl, hb⟩; have HW := Aside0.mk hb; clear hb; have n0 : w2.cell? ⟨w.heap.size + 1, 0, none⟩ = some (.bool a1_0) := (blk_cell (blk_below T1.out HW.out) 0).trans rfl; have n1 : w2.cell? ⟨w.heap.size + 1, 1, none⟩ = some (.int .i64 a1_1) := (blk_cell (blk_below T1.out HW.out) 1).trans rfl; have n2 : w2.cell? ⟨w.heap.size + 1, 2, none⟩ = some (.int .i64 a1_2) := (blk_cell (blk_below T1.out HW.out) 2).trans rfl; have n3 : w2.cell? ⟨w.heap.size + 1, 3, none⟩ = some (.bool a1_3) := (blk_cell (blk_below T1.out HW.out) 3).trans rfl; have n4 : w2.cell? ⟨w.heap.size + 1, 4, none⟩ = some (.int .i64 a1_4) := (blk_cell (blk_below T1.out HW.out) 4).trans rfl; have n5 : w2.cell? ⟨w.heap.size + 1, 5, none⟩ = some (.int .i64 a1_5) := (blk_cell (blk_below T1.out HW.out) 5).trans rfl; have z0 : w2.cell? ⟨w.heap.size + 2, 0, none⟩ = some (.slice none 0 0) := (blk_cell (blk_below T2.out HW.out) 0).trans rfl; have z1 : w2.cell? ⟨w.heap.size + 2, 1, none⟩ = some (.slice none 0 0) := (blk_cell (blk_below T2.out HW.out) 1).trans rfl; have zf0 := blk_frozen (blk_below T2.out HW.out) 0; have zf1 := blk_frozen (blk_below T2.out HW.out) 1; have g0 : w2.cell? ⟨g, 0, none⟩ = some (.slice y0 S1.length z_0) := (blk_cell (blk_below T3.out HW.out) 0).trans rfl; have g1 : w2.cell? ⟨g, 1, none⟩ = some (.slice y1 F1.length z_1) := (blk_cell (blk_below T3.out HW.out) 1).trans rfl) | (go_at_call 79; clear n0 n1 n2 n3 n4 n5 z0 z1 zf0 zf1 g0 g1; refine (impl_Handle_sound.calls k _ _ _ _ _ _ _ _ HSo.out).mono ?_; rintro e w3 ⟨rfl, hb⟩; have HW3 := Aside0.mk (below_step HW.out hb); clear hb; have n0 : w3.cell? ⟨w.heap.size + 1, 0, none⟩ = some (.bool a1_0) := (blk_cell (blk_below T1.out HW3.out) 0).trans rfl; have n1 : w3.cell? ⟨w.heap.size + 1, 1, none⟩ = some (.int .i64 a1_1) := (blk_cell (blk_below T1.out HW3.out) 1).trans rfl; have n2 : w3.cell? ⟨w.heap.size + 1, 2, none⟩ = some (.int .i64 a1_2) := (blk_cell (blk_below T1.out HW3.out) 2).trans rfl; have n3 : w3.cell? ⟨w.heap.size + 1, 3, none⟩ = some (.bool a1_3) := (blk_cell (blk_below T1.out HW3.out) 3).trans rfl; have n4 : w3.cell? ⟨w.heap.size + 1, 4, none⟩ = some (.int .i64 a1_4) := (blk_cell (blk_below T1.out HW3.out) 4).trans rfl; have n5 : w3.cell? ⟨w.heap.size + 1, 5, none⟩ = some (.int .i64 a1_5) := (blk_cell (blk_below T1.out HW3.out) 5).trans rfl; have z0 : w3.cell? ⟨w.heap.size + 2, 0, none⟩ = some (.slice none 0 0) := (blk_cell (blk_below T2.out HW3.out) 0).trans rfl; have z1 : w3.cell? ⟨w.heap.size + 2, 1, none⟩ = some (.slice none 0 0) := (blk_cell (blk_below T2.out HW3.out) 1).trans rfl; have zf0 := blk_frozen (blk_below T2.out HW3.out) 0; have zf1 := blk_frozen (blk_below T2.out HW3.out) 1; have g0 : w3.cell? ⟨g, 0, none⟩ = some (.slice y0 S1.length z_0) := (blk_cell (blk_below T3.out HW3.out) 0).trans rfl; have g1 : w3.cell? ⟨g, 1, none⟩ = some (.slice y1 F1.length z_1) := (blk_cell (blk_below T3.out HW3.out) 1).trans rfl) | (go_at_call 80; clear n0 n1 n2 n3 n4 n5 z0 z1 zf0 zf1 g0 g1; refine (z_full.calls g y0 y1 S1.length F1.length z_0 z_1 _ (blk_below T3.out HW3.out) _ FU.out).mono ?_; rintro e w4 ⟨rfl, hb⟩; have HW4 := Aside0.mk (below_step HW3.out hb); clear hb; have n0 : w4.cell? ⟨w.heap.size + 1, 0, none⟩ = some (.bool a1_0) := (blk_cell (blk_below T1.out HW4.out) 0).trans rfl; have n1 : w4.cell? ⟨w.heap.size + 1, 1, none⟩ = some (.int .i64 a1_1) := (blk_cell (blk_below T1.out HW4.out) 1).trans rfl; have n2 : w4.cell? ⟨w.heap.size + 1, 2, none⟩ = some (.int .i64 a1_2) := (blk_cell (blk_below T1.out HW4.out) 2).trans rfl; have n3 : w4.cell? ⟨w.heap.size + 1, 3, none⟩ = some (.bool a1_3) := (blk_cell (blk_below T1.out HW4.out) 3).trans rfl; have n4 : w4.cell? ⟨w.heap.size + 1, 4, none⟩ = some (.int .i64 a1_4) := (blk_cell (blk_below T1.out HW4.out) 4).trans rfl; have n5 : w4.cell? ⟨w.heap.size + 1, 5, none⟩ = some (.int .i64 a1_5) := (blk_cell (blk_below T1.out HW4.out) 5).trans rfl; have z0 : w4.cell? ⟨w.heap.size + 2, 0, none⟩ = some (.slice none 0 0) := (blk_cell (blk_below T2.out HW4.out) 0).trans rfl; have z1 : w4.cell? ⟨w.heap.size + 2, 1, none⟩ = some (.slice none 0 0) := (blk_cell (blk_below T2.out HW4.out) 1).trans rfl; have zf0 := blk_frozen (blk_below T2.out HW4.out) 0; have zf1 := blk_frozen (blk_below T2.out HW4.out) 1; have g0 : w4.cell? ⟨g, 0, none⟩ = some (.slice y0 S1.length z_0) := (blk_cell (blk_below T3.out HW4.out) 0).trans rfl; have g1 : w4.cell? ⟨g, 1, none⟩ = some (.slice y1 F1.length z_1) := (blk_cell (blk_below T3.out HW4.out) 1).trans rfl) | (go_at_call 81; clear n0 n1 n2 n3 n4 n5 z0 z1 zf0 zf1 g0 g1; refine (impl_Table_add.calls g w.heap.size y0 y1 z_0 z_1 S1 F1 ⟨a1_0, a1_1, a1_2, a1_3, a1_4, a1_5⟩ p1 p2 p3 _ (blk_below T3.out HW4.out) (Nat.le_trans (Nat.le_add_right _ _) GG.out) (Kd.R_below K0.out HW4.out) (Kd.R_below K1.out HW4.out) HP.out).mono ?_; rintro e w5 ⟨rfl, A0', c0', A1', c1', t3, q0, q1, hb, hfr⟩; have t2 := (hfr (w.heap.size + 2) (blk_lt (blk_below T2.out HW4.out)) (by have := GG.out; omega) (Kd.R_ne (Kd.R_below K0.out HW4.out) (blk_below T2.out HW4.out) (by decide))).trans (blk_below T2.out HW4.out); have T3' := Aside0.mk t3; have T2' := Aside0.mk t2; have Q0 := Aside0.mk q0; have Q1 := Aside0.mk q1; have HB5 := Aside0.mk hb; clear t3 t2 q0 q1 hb hfr; have z0 : w5.cell? ⟨w.heap.size + 2, 0, none⟩ = some (.slice none 0 0) := (blk_cell T2'.out 0).trans rfl; have z1 : w5.cell? ⟨w.heap.size + 2, 1, none⟩ = some (.slice none 0 0) := (blk_cell T2'.out 1).trans rfl; have zf0 := blk_frozen T2'.out 0; have zf1 := blk_frozen T2'.out 1; have g0 : w5.cell? ⟨g, 0, none⟩ = some (.slice A0' p2.length c0') := (blk_cell T3'.out 0).trans rfl; have g1 : w5.cell? ⟨g, 1, none⟩ = some (.slice A1' p3.length c1') := (blk_cell T3'.out 1).trans rfl))
     have E0' := Kd.R_set (Kd.R_set Q0.out T2'.out (by decide) 0 (.slice A0' p2.length c0')) (blk_put T2'.out 0 (.slice A0' p2.length c0') rfl) (by decide) 1 (.slice A1' p3.length c1')
     have E1' := Kd.R_set (Kd.R_set Q1.out T2'.out (by decide) 0 (.slice A0' p2.length c0')) (blk_put T2'.out 0 (.slice A0' p2.length c0') rfl) (by decide) 1 (.slice A1' p3.length c1')
     have T2'' := blk_put (blk_put T2'.out 0 (.slice A0' p2.length c0') rfl) 1 (.slice A1' p3.length c1') rfl
     have L'' := ((z_below_trans (below_step L.out HW4.out) HB5.out).setCell (p := ⟨w.heap.size + 2, 0, none⟩) (Nat.le_add_right _ _) (.slice A0' p2.length c0')).setCell (p := ⟨w.heap.size + 2, 1, none⟩) (Nat.le_add_right _ _) (.slice A1' p3.length c1')
     generalize (w5.setCell ⟨w.heap.size + 2, 0, none⟩ (.slice A0' p2.length c0')).setCell ⟨w.heap.size + 2, 1, none⟩ (.slice A1' p3.length c1') = WF at E0' E1' T2'' L'' ⊢
     exact bodyPost_ret (results_ctt rfl _ _ (w.heap.size + 2) 51 #[.slice A0' p2.length c0', .slice A1' p3.length c1'] (0, 0) _ rfl T2'' Try.underlying51 rfl (by kernel_rfl)) rfl ⟨_, _, rfl, E0', E1', L''⟩
   ·rw [if_neg hl] at h
    have hl' : (a1_4 != 0) = true := bne_iff_ne.mpr hl
    clear hl
    simp only [Option.some.injEq, Prod.mk.injEq] at h
    obtain ⟨rfl, rfl, rfl, rfl⟩ := h
    go_wp2_with (first | (go_at_call 40; refine (impl_GoodTable.calls k _ c0_0 l0_0 _ c0_1 l0_1 _ _ (Kd.C_below H0.out L.out) C0.out (Kd.C_below H1.out L.out) C1.out HT.out).mono ?_; rintro e w2 ⟨rfl, hb⟩; have HW := Aside0.mk hb; clear hb; have n0 : w2.cell? ⟨w.heap.size + 1, 0, none⟩ = some (.bool a1_0) := (blk_cell (blk_below T1.out HW.out) 0).trans rfl; have n1 : w2.cell? ⟨w.heap.size + 1, 1, none⟩ = some (.int .i64 a1_1) := (blk_cell (blk_below T1.out HW.out) 1).trans rfl; have n2 : w2.cell? ⟨w.heap.size + 1, 2, none⟩ = some (.int .i64 a1_2) := (blk_cell (blk_below T1.out HW.out) 2).trans rfl; have n3 : w2.cell? ⟨w.heap.size + 1, 3, none⟩ = some (.bool a1_3) := (blk_cell (blk_below T1.out HW.out) 3).trans rfl; have n4 : w2.cell? ⟨w.heap.size + 1, 4, none⟩ = some (.int .i64 a1_4) := (blk_cell (blk_below T1.out HW.out) 4).trans rfl; have n5 : w2.cell? ⟨w.heap.size + 1, 5, none⟩ = some (.int .i64 a1_5) := (blk_cell (blk_below T1.out HW.out) 5).trans rfl; have z0 : w2.cell? ⟨w.heap.size + 2, 0, none⟩ = some (.slice none 0 0) := (blk_cell (blk_below T2.out HW.out) 0).trans rfl; have z1 : w2.cell? ⟨w.heap.size + 2, 1, none⟩ = some (.slice none 0 0) := (blk_cell (blk_below T2.out HW.out) 1).trans rfl; have zf0 := blk_frozen (blk_below T2.out HW.out) 0; have zf1 := blk_frozen (blk_below T2.out HW.out) 1; have g0 : w2.cell? ⟨g, 0, none⟩ = some (.slice y0 S1.length z_0) := (blk_cell (blk_below T3.out HW.out) 0).trans rfl; have g1 : w2.cell? ⟨g, 1, none⟩ = some (.slice y1 F1.length z_1) := (blk_cell (blk_below T3.out HW.out) 1).trans rfl) | (go_at_call 79; clear n0 n1 n2 n3 n4 n5 z0 z1 zf0 zf1 g0 g1; refine (impl_Handle_sound.calls k _ _ _ _ _ _ _ _ HSo.out).mono ?_; rintro e w3 ⟨rfl, hb⟩; have HW3 := Aside0.mk (below_step HW.out hb); clear hb; have n0 : w3.cell? ⟨w.heap.size + 1, 0, none⟩ = some (.bool a1_0) := (blk_cell (blk_below T1.out HW3.out) 0).trans rfl; have n1 : w3.cell? ⟨w.heap.size + 1, 1, none⟩ = some (.int .i64 a1_1) := (blk_cell (blk_below T1.out HW3.out) 1).trans rfl; have n2 : w3.cell? ⟨w.heap.size + 1, 2, none⟩ = some (.int .i64 a1_2) := (blk_cell (blk_below T1.out HW3.out) 2).trans rfl; have n3 : w3.cell? ⟨w.heap.size + 1, 3, none⟩ = some (.bool a1_3) := (blk_cell (blk_below T1.out HW3.out) 3).trans rfl; have n4 : w3.cell? ⟨w.heap.size + 1, 4, none⟩ = some (.int .i64 a1_4) := (blk_cell (blk_below T1.out HW3.out) 4).trans rfl; have n5 : w3.cell? ⟨w.heap.size + 1, 5, none⟩ = some (.int .i64 a1_5) := (blk_cell (blk_below T1.out HW3.out) 5).trans rfl; have z0 : w3.cell? ⟨w.heap.size + 2, 0, none⟩ = some (.slice none 0 0) := (blk_cell (blk_below T2.out HW3.out) 0).trans rfl; have z1 : w3.cell? ⟨w.heap.size + 2, 1, none⟩ = some (.slice none 0 0) := (blk_cell (blk_below T2.out HW3.out) 1).trans rfl; have zf0 := blk_frozen (blk_below T2.out HW3.out) 0; have zf1 := blk_frozen (blk_below T2.out HW3.out) 1; have g0 : w3.cell? ⟨g, 0, none⟩ = some (.slice y0 S1.length z_0) := (blk_cell (blk_below T3.out HW3.out) 0).trans rfl; have g1 : w3.cell? ⟨g, 1, none⟩ = some (.slice y1 F1.length z_1) := (blk_cell (blk_below T3.out HW3.out) 1).trans rfl))
    have E0 := Kd.R_below K0.out HW3.out
    have E1 := Kd.R_below K1.out HW3.out
    have T2' := blk_below T2.out HW3.out
    have E0' := Kd.R_set (Kd.R_set E0 T2' (by decide) 0 (.slice y0 S1.length z_0)) (blk_put T2' 0 (.slice y0 S1.length z_0) rfl) (by decide) 1 (.slice y1 F1.length z_1)
    have E1' := Kd.R_set (Kd.R_set E1 T2' (by decide) 0 (.slice y0 S1.length z_0)) (blk_put T2' 0 (.slice y0 S1.length z_0) rfl) (by decide) 1 (.slice y1 F1.length z_1)
    have T2'' := blk_put (blk_put T2' 0 (.slice y0 S1.length z_0) rfl) 1 (.slice y1 F1.length z_1) rfl
    have L'' := ((below_step L.out HW3.out).setCell (p := ⟨w.heap.size + 2, 0, none⟩) (Nat.le_add_right _ _) (.slice y0 S1.length z_0)).setCell (p := ⟨w.heap.size + 2, 1, none⟩) (Nat.le_add_right _ _) (.slice y1 F1.length z_1)
    generalize (w3.setCell ⟨w.heap.size + 2, 0, none⟩ (.slice y0 S1.length z_0)).setCell ⟨w.heap.size + 2, 1, none⟩ (.slice y1 F1.length z_1) = WF at E0' E1' T2'' L'' ⊢
    exact bodyPost_ret (results_ctt rfl _ _ (w.heap.size + 2) 51 #[.slice y0 S1.length z_0, .slice y1 F1.length z_1] (0, 0) _ rfl T2'' Try.underlying51 rfl (by kernel_rfl)) rfl ⟨_, _, rfl, E0', E1', L''⟩

-- NOT PRINTED: function 8 (laws_FnExactNewHandle)

def impl_LendHandle.f (k : Nat) (l0_0 : List (S46)) (l0_1 : List Int) (a1 : Int) (a2 : Int) : Option ((List (S46)) × List Int × Bool × Int × Int × Bool × Int × Int × Int) := (impl_cloneTable.f k l0_0 l0_1).bind fun bt469 => ((impl_FindHandle.f k l0_0 l0_1 a1 a2).bind fun bt476 => (if bt476.2.2.2.2.2.2 = 0 then (if bt476.2.2.2.2.1 = 1000 then (some (bt469.1, bt469.2, false, 0, 0, false, 0, 0, 4)) else (if 0 ≤ a1 then (if a1 < (bt469.1.length : Int) then (some ((bt469.1.set (a1 : Int).toNat (⟨(rd_T46 bt469.1 a1).f0, (rd_T46 bt469.1 a1).f1, (rd_T46 bt469.1 a1).f2, (rd_T46 bt469.1 a1).f3, wrap64 (((rd_T46 bt469.1 a1).f4) + 1), (rd_T46 bt469.1 a1).f5⟩ : S46)), bt469.2, bt476.1, bt476.2.1, bt476.2.2.1, bt476.2.2.2.1, bt476.2.2.2.2.1, bt476.2.2.2.2.2.1, 0)) else (none)) else (none))) else (some (bt469.1, bt469.2, false, 0, 0, false, 0, 0, bt476.2.2.2.2.2.2))))

end Go.Proofs.Ytoomeeoijbkmnaa.PH
