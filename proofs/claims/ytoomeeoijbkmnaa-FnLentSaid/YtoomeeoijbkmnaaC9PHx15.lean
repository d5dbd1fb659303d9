-- Printed by a program of this session (after the kit's print.sh, with contracts of its own beside): Lean checks it.
import Derived.Test.YtoomeeoijbkmnaaC9PHx0
import Derived.Test.YtoomeeoijbkmnaaC9PHx5
import Derived.Test.YtoomeeoijbkmnaaC9PHx9
import Derived.Test.YtoomeeoijbkmnaaC9PHx13
namespace Go.Proofs.Ytoomeeoijbkmnaa.PH
open Go.RowKit Go.Proofs.YtoomeeoijbkmnaaW.PrintWords Go.Proofs.YtoomeeoijbkmnaaW.PrintLast Go.Proofs.YtoomeeoijbkmnaaW.PrintMore
attribute [local go_sem] max2_int min2_int max_two min_two max_three min_three max_four min_four   -- for this text's walks alone
set_option linter.unusedVariables false
set_option linter.unusedSimpArgs false

def impl_Table_drop.f (S : List S46) (F : List Int) (i : Int) : Option (List S46 × List Int) :=
 if 0 ≤ i then (if i < (S.length : Int) then (if F.length < 17592186044416 then some (S.set i.toNat z46, F ++ [i]) else none) else none) else none
set_option maxHeartbeats 2000000 in
set_option maxRecDepth 100000 in
theorem impl_Table_drop.calls (g base : Nat) (A0 A1 : Option Addr) (c0 c1 : Nat) (S : List S46) (F : List Int) (i : Int) (S' : List S46) (F' : List Int) (w : World)
  (hg : w.heap[g]? = some (.cells #[.slice A0 S.length c0, .slice A1 F.length c1] 51 (0, 0))) (hgb : base ≤ g)
  (h0 : Kd.R k46 46 w base (fun _ => True) (.slice A0 S.length c0) S) (h1 : Kd.R (Kd.int .i64) 3 w base (fun _ => True) (.slice A1 F.length c1) F) (hf : impl_Table_drop.f S F i = some (S', F')) :
  Calls Try.prog 105 #[.pointer (some ⟨g, 0, none⟩), .int .i64 i] w fun e w' => e = .returned (.tuple #[]) ∧ ∃ A1' c1',
   w'.heap[g]? = some (.cells #[.slice A0 S'.length c0, .slice A1' F'.length c1'] 51 (0, 0)) ∧ Kd.R k46 46 w' base (fun _ => True) (.slice A0 S'.length c0) S' ∧ Kd.R (Kd.int .i64) 3 w' base (fun _ => True) (.slice A1' F'.length c1') F' ∧
   Below base w w' ∧ ∀ k, k < w.heap.size → k ≠ g → some k ≠ (Value.slice A0 S.length c0).ownBlock → some k ≠ (Value.slice A1 F.length c1).ownBlock → w'.heap[k]? = w.heap[k]? := by
 unfold impl_Table_drop.f at hf
 by_cases hk : 0 ≤ i
 ·rw [if_pos hk] at hf
  by_cases hk1 : i < (S.length : Int)
  ·rw [if_pos hk1] at hf
   by_cases hs : F.length < 17592186044416
   ·rw [if_pos hs] at hf
    simp only [Option.some.injEq, Prod.mk.injEq] at hf
    obtain ⟨rfl, rfl⟩ := hf
    have H0 := Aside0.mk h0
    have H1 := Aside0.mk h1
    have HG := Aside0.mk hg
    have HS := Aside0.mk hs
    have hc0 : w.cell? ⟨g, 0, none⟩ = some (.slice A0 S.length c0) := (blk_cell hg 0).trans rfl
    have hc1 : w.cell? ⟨g, 1, none⟩ = some (.slice A1 F.length c1) := (blk_cell hg 1).trans rfl
    clear h0 h1 hg hs
    obtain ⟨gs, cs, es, hgs, hgl, cells, hgc⟩ := Kd.R_form H0.out (by omega)
    cases es
    obtain ⟨v0, v1, v2, v3, v4, v5, ⟨x0, x1, x2, x3, x4, x5⟩, ⟨y0, y1, y2, y3, y4, y5⟩⟩ := z_cells6 H0.out i hk hk1
    have p3 : (0 ≤ i) = True := eq_true hk
    have p4 : (i < (S.length : Int)) = True := eq_true hk1
    have HZ : Kd.R k46 46 ((((((w.setCell ⟨gs, i.toNat * 6, none⟩ (.bool false)).setCell ⟨gs, i.toNat * 6 + 1, none⟩ (.int .i64 0)).setCell ⟨gs, i.toNat * 6 + 2, none⟩ (.int .i64 0)).setCell ⟨gs, i.toNat * 6 + 3, none⟩ (.bool false)).setCell ⟨gs, i.toNat * 6 + 4, none⟩ (.int .i64 0)).setCell ⟨gs, i.toNat * 6 + 5, none⟩ (.int .i64 0)) base (fun _ => True) (.slice (some ⟨gs, 0, none⟩) (S.set i.toNat z46).length c0) (S.set i.toNat z46) ∧ w.grownBy ((((((w.setCell ⟨gs, i.toNat * 6, none⟩ (.bool false)).setCell ⟨gs, i.toNat * 6 + 1, none⟩ (.int .i64 0)).setCell ⟨gs, i.toNat * 6 + 2, none⟩ (.int .i64 0)).setCell ⟨gs, i.toNat * 6 + 3, none⟩ (.bool false)).setCell ⟨gs, i.toNat * 6 + 4, none⟩ (.int .i64 0)).setCell ⟨gs, i.toNat * 6 + 5, none⟩ (.int .i64 0)) (some gs) := z_set6 H0.out i hk hk1 z46
    have ZB := ((((((Below.refl base w).setCell (p := ⟨gs, i.toNat * 6, none⟩) hgs (.bool false)).setCell (p := ⟨gs, i.toNat * 6 + 1, none⟩) hgs (.int .i64 0)).setCell (p := ⟨gs, i.toNat * 6 + 2, none⟩) hgs (.int .i64 0)).setCell (p := ⟨gs, i.toNat * 6 + 3, none⟩) hgs (.bool false)).setCell (p := ⟨gs, i.toNat * 6 + 4, none⟩) hgs (.int .i64 0)).setCell (p := ⟨gs, i.toNat * 6 + 5, none⟩) hgs (.int .i64 0)
    clear hk hk1 hgc cells
    go_enter Try.func105, Try.ntmps105
    go_upto_region 1 with fail
    have hne : some g ≠ (Value.slice (some ⟨gs, 0, none⟩) S.length c0).ownBlock := Kd.R_ne H0.out HG.out (by decide)
    obtain ⟨HZ1, HZ2⟩ := HZ
    have B1 := blk_grown HG.out HZ2 hne
    have R1 := Kd.R_over' (v := (.slice (some ⟨gs, 0, none⟩) S.length c0)) H1.out (Kd.R_typed H0.out) (by decide) HZ2
    have M1 : ∀ k, k < w.heap.size → some k ≠ (Value.slice (some ⟨gs, 0, none⟩) S.length c0).ownBlock → ((((((w.setCell ⟨gs, i.toNat * 6, none⟩ (.bool false)).setCell ⟨gs, i.toNat * 6 + 1, none⟩ (.int .i64 0)).setCell ⟨gs, i.toNat * 6 + 2, none⟩ (.int .i64 0)).setCell ⟨gs, i.toNat * 6 + 3, none⟩ (.bool false)).setCell ⟨gs, i.toNat * 6 + 4, none⟩ (.int .i64 0)).setCell ⟨gs, i.toNat * 6 + 5, none⟩ (.int .i64 0)).heap[k]? = w.heap[k]? := fun k hk hkr => HZ2.block k hk hkr
    clear HZ2 hne x0 x1 x2 x3 x4 x5 y0 y1 y2 y3 y4 y5 v0 v1 v2 v3 v4 v5 hc0 hc1
    generalize (((((w.setCell ⟨gs, i.toNat * 6, none⟩ (.bool false)).setCell ⟨gs, i.toNat * 6 + 1, none⟩ (.int .i64 0)).setCell ⟨gs, i.toNat * 6 + 2, none⟩ (.int .i64 0)).setCell ⟨gs, i.toNat * 6 + 3, none⟩ (.bool false)).setCell ⟨gs, i.toNat * 6 + 4, none⟩ (.int .i64 0)).setCell ⟨gs, i.toNat * 6 + 5, none⟩ (.int .i64 0) = W1 at HZ1 B1 R1 M1 ZB ⊢
    have HZ := Aside0.mk HZ1
    have HB1 := Aside0.mk B1
    have HR1 := Aside0.mk R1
    have HM1 := Aside0.mk M1
    have HL1 := Aside0.mk ZB
    clear HZ1 R1 M1 ZB
    have hc1 : W1.cell? ⟨g, 1, none⟩ = some (.slice A1 F.length c1) := (blk_cell B1 1).trans rfl
    have hz1 := blk_frozen B1 1
    have zg := World.block_lt_of_cell? W1 _ hc1
    clear B1
    go_wp2_with ((with_reducible refine gate_builtin (b := .append) (xs := #[.tmp 15, .tmp 17]) rfl ?_); at_builtin; refine Kd.R_append (Kd.int .i64) (w0 := w) base rfl (.tmp 15) (.tmp 17) 41 3 (.int .i64 0) 8 rfl Try.underlying41 info3 rfl (by decide) (by omega) (.slice A1 F.length c1) F i [.int .i64 i] (fun _ => True) (fun _ => False) rfl rfl rfl (fun _ hk => hk.elim) (fun _ _ => trivial) HR1.out HL1.out (Nat.le_trans hgb (Nat.le_of_lt zg)) (by have := HS.out; omega) ?_; intro v1 W2 ho hb hgr hat; clear hc1 hz1 zg; have HO := Aside0.mk ho; have HL2 := Aside0.mk hb; have HGR := Aside0.mk hgr; obtain ⟨A2, c2, rfl⟩ := Kd.R_slice ho; clear ho hb hgr hat; have HB2 := Aside0.mk (blk_grown HB1.out HGR.out (Kd.R_ne HR1.out HB1.out (by decide))); have hc1 : W2.cell? ⟨g, 1, none⟩ = some (.slice A1 F.length c1) := (blk_cell HB2.out 1).trans rfl; have hz1 := blk_frozen HB2.out 1)
    have e1 : (F ++ [i]).length = F.length + 1 := by simp
    have HO' := HO.out
    rw [e1] at HO'
    have B3 : (W2.setCell ⟨g, 1, none⟩ (.slice A2 (F.length + 1) c2)).heap[g]? = some (.cells #[.slice (some ⟨gs, 0, none⟩) S.length c0, .slice A2 (F.length + 1) c2] 51 (0, 0)) := blk_put HB2.out 1 (.slice A2 (F.length + 1) c2) rfl
    have hl : (S.set i.toNat z46).length = S.length := List.length_set
    have S1 := Kd.R_set (Kd.R_over' HZ.out (Kd.R_typed HR1.out) (by decide) HGR.out) HB2.out (by decide) 1 (.slice A2 (F.length + 1) c2)
    have S2 := Kd.R_set HO' HB2.out (by decide) 1 (.slice A2 (F.length + 1) c2)
    have L3 := HL2.out.setCell (p := ⟨g, 1, none⟩) hgb (.slice A2 (F.length + 1) c2)
    have M3 : ∀ k, k < w.heap.size → k ≠ g → some k ≠ (Value.slice (some ⟨gs, 0, none⟩) S.length c0).ownBlock → some k ≠ (Value.slice A1 F.length c1).ownBlock → (W2.setCell ⟨g, 1, none⟩ (.slice A2 (F.length + 1) c2)).heap[k]? = w.heap[k]? := fun k hk hkg h1 h2 => (Below.heap_setCell W2 ⟨g, 1, none⟩ _ k hkg).trans ((HGR.out.block k (Nat.lt_of_lt_of_le hk HL1.out.size) h2).trans (HM1.out k hk h1))
    rw [hl] at S1
    rw [e1, hl]
    clear hc1 hz1
    generalize W2.setCell ⟨g, 1, none⟩ (.slice A2 (F.length + 1) c2) = W3 at B3 S1 S2 L3 M3 ⊢
    go_end0
    exact ⟨rfl, A2, c2, B3, S1, S2, L3, M3⟩
   ·rw [if_neg hs] at hf
    exact absurd hf (by simp)
  ·rw [if_neg hk1] at hf
   exact absurd hf (by simp)
 ·rw [if_neg hk] at hf
  exact absurd hf (by simp)
theorem z_own_same (A : Option Addr) (n m c : Nat) : (Value.slice A n c).ownBlock = (Value.slice A m c).ownBlock := by
 cases A <;> rfl
theorem z_three_size (w : World) (o o' o'' : Obj) : (((w.alloc o).alloc o').alloc o'').heap.size = w.heap.size + 3 := by
 have e1 : (w.alloc o).heap.size = w.heap.size + 1 := Array.size_push _
 have e2 : ((w.alloc o).alloc o').heap.size = w.heap.size + 2 := (Array.size_push _).trans (by rw [e1])
 exact (Array.size_push _).trans (by rw [e2])
theorem z_lt_alloc_ (w : World) (o : Obj) : w.heap.size < (w.alloc o).heap.size := by
 have e1 : (w.alloc o).heap.size = w.heap.size + 1 := Array.size_push _
 omega
def impl_leave.f (k : Nat) (l0_0 : List (S46)) (l0_1 : List Int) (a1 : Int) (a2 : Int) (a3 : Bool) : Option ((List (S46)) × List Int × Bool × Int × Int × Bool × Int × Int × Int) :=
 (impl_cloneTable.f k l0_0 l0_1).bind fun c => (impl_FindHandle.f k l0_0 l0_1 a1 a2).bind fun q =>
  if q.2.2.2.2.2.2 = 0 then (if (a3 && !q.2.2.2.1) = true then some (c.1, c.2, false, 0, 0, false, 0, 0, 6) else (if q.2.2.2.2.1 = 0 then ((impl_Table_drop.f c.1 c.2 a1).bind fun d => some (d.1, d.2, q.1, q.2.1, q.2.2.1, q.2.2.2.1, q.2.2.2.2.1, q.2.2.2.2.2.1, 0)) else some (c.1, c.2, false, 0, 0, false, 0, 0, 4))) else some (c.1, c.2, false, 0, 0, false, 0, 0, q.2.2.2.2.2.2)
set_option maxHeartbeats 4000000 in
set_option maxRecDepth 100000 in
theorem impl_leave.calls (k : Nat) (A0_0 : Option Addr) (c0_0 : Nat) (l0_0 : List (S46)) (A0_1 : Option Addr) (c0_1 : Nat) (l0_1 : List Int) (a1 : Int) (a2 : Int) (a3 : Bool) (r1 : List (S46)) (r2 : List Int) (r3 : Bool) (r4 : Int) (r5 : Int) (r6 : Bool) (r7 : Int) (r8 : Int) (r9 : Int) (w : World) (hr0_0 : Kd.C k46 w A0_0 l0_0.length l0_0) (hc0_0 : l0_0.length ≤ c0_0) (hr0_1 : Kd.C (Kd.int .i64) w A0_1 l0_1.length l0_1) (hc0_1 : l0_1.length ≤ c0_1) (h : impl_leave.f k l0_0 l0_1 a1 a2 a3 = some (r1, r2, r3, r4, r5, r6, r7, r8, r9)) :
  Calls Try.prog 85 #[.agg #[.slice A0_0 l0_0.length c0_0, .slice A0_1 l0_1.length c0_1], .int .i64 a1, .int .i64 a2, .bool a3] w fun e w' => ∃ v0_ v1_ : Value, e = .returned (.tuple #[.agg #[v0_, v1_], .agg #[.bool r3, .int .i64 r4, .int .i64 r5, .bool r6, .int .i64 r7, .int .i64 r8], .int .i64 r9]) ∧ Kd.R k46 46 w' w.heap.size (fun _ => True) v0_ r1 ∧ Kd.R (Kd.int .i64) 3 w' w.heap.size (fun _ => True) v1_ r2 ∧ Below w.heap.size w w' := by
 have H0 := Aside0.mk hr0_0
 have H1 := Aside0.mk hr0_1
 have C0 := Aside0.mk hc0_0
 have C1 := Aside0.mk hc0_1
 clear hr0_0 hr0_1 hc0_0 hc0_1
 unfold impl_leave.f at h
 replace h := Option.bind_eq_some_iff.mp h
 obtain ⟨⟨S1, F1⟩, hc, h⟩ := h
 replace h := Option.bind_eq_some_iff.mp h
 obtain ⟨⟨q1, q2, q3, q4, q5, q6, q7⟩, hq, h⟩ := h
 have HC := Aside0.mk hc
 have HQ := Aside0.mk hq
 dsimp only at h
 have HH := Aside0.mk h
 clear hc hq h
 go_enter Try.func85, Try.ntmps85
 go_upto_region 2 with (go_at_call 73; refine (impl_cloneTable.calls k _ c0_0 l0_0 _ c0_1 l0_1 S1 F1 _ (Kd.C_below H0.out (below_alloc (below_alloc (below_alloc (Below.refl _ _) _) _) _)) C0.out (Kd.C_below H1.out (below_alloc (below_alloc (below_alloc (Below.refl _ _) _) _) _)) C1.out HC.out).mono ?_; rintro e w1 ⟨v0, v1, rfl, x0, x1, hb⟩; obtain ⟨y0, z_0, rfl⟩ := Kd.R_slice x0; obtain ⟨y1, z_1, rfl⟩ := Kd.R_slice x1; obtain ⟨b0, b1, b2, hb2, hsz⟩ := z_three_behind hb; clear hb; have X0 := Aside0.mk x0; have X1 := Aside0.mk x1; have B0 := Aside0.mk b0; have B1 := Aside0.mk b1; have B2 := Aside0.mk b2; have HB := Aside0.mk hb2; have HS := Aside0.mk hsz; clear x0 x1 b0 b1 b2 hb2 hsz)
 obtain ⟨W, hW⟩ : ∃ W, W = w1.alloc (.cells #[.slice y0 S1.length z_0, .slice y1 F1.length z_1] 51 (0, 0)) := ⟨_, rfl⟩
 obtain ⟨g, hg⟩ : ∃ g, g = w1.heap.size := ⟨_, rfl⟩
 have T0 : Aside0 (W.heap[w.heap.size]? = some (.cells #[.slice A0_0 l0_0.length c0_0, .slice A0_1 l0_1.length c0_1] 51 (0, 0))) := Aside0.mk (by rw [hW]; exact blk_alloc B0.out _)
 have T1 : Aside0 (W.heap[w.heap.size + 1]? = some (.cells #[.slice none 0 0, .slice none 0 0] 51 (0, 0))) := Aside0.mk (by rw [hW]; exact blk_alloc B1.out _)
 have T2 : Aside0 (W.heap[w.heap.size + 2]? = some (.cells #[.bool false, .int .i64 0, .int .i64 0, .bool false, .int .i64 0, .int .i64 0] 46 (0, 0))) := Aside0.mk (by rw [hW]; exact blk_alloc B2.out _)
 have T3 : Aside0 (W.heap[g]? = some (.cells #[.slice y0 S1.length z_0, .slice y1 F1.length z_1] 51 (0, 0))) := Aside0.mk (by rw [hW, hg]; exact blk_new w1 _)
 have K0 : Aside0 (Kd.R k46 46 W w.heap.size (fun k_ => k_ ≠ w.heap.size + 2) (.slice y0 S1.length z_0) S1) := Aside0.mk (by rw [hW]; exact Kd.R_lower (Kd.R_alloc (Kd.R_mono (Kd.R_bound X0.out) (fun k_ hk => by have := hk.2.1; have := z_three_size w (.cells #[.slice A0_0 l0_0.length c0_0, .slice A0_1 l0_1.length c0_1] 51 (0, 0)) (.cells #[.slice none 0 0, .slice none 0 0] 51 (0, 0)) (.cells #[.bool false, .int .i64 0, .int .i64 0, .bool false, .int .i64 0, .int .i64 0] 46 (0, 0)); omega)) _) (below_size (below_alloc (below_alloc (below_alloc (Below.refl _ _) _) _) _)))
 have K1 : Aside0 (Kd.R (Kd.int .i64) 3 W w.heap.size (fun _ => True) (.slice y1 F1.length z_1) F1) := Aside0.mk (by rw [hW]; exact Kd.R_lower (Kd.R_alloc X1.out _) (below_size (below_alloc (below_alloc (below_alloc (Below.refl _ _) _) _) _)))
 have L : Aside0 (Below w.heap.size w W) := Aside0.mk (by rw [hW]; exact below_alloc HB.out _)
 have GG : Aside0 (w.heap.size + 3 ≤ g ∧ g < W.heap.size) := Aside0.mk (by rw [hg, hW]; exact ⟨HS.out, z_lt_alloc_ w1 _⟩)
 rw [← hW, ← hg]
 clear hW hg X0 X1 B0 B1 B2 HB HS w1
 have m0 : W.cell? ⟨w.heap.size, 0, none⟩ = some (.slice A0_0 l0_0.length c0_0) := (blk_cell T0.out 0).trans rfl
 have m1 : W.cell? ⟨w.heap.size, 1, none⟩ = some (.slice A0_1 l0_1.length c0_1) := (blk_cell T0.out 1).trans rfl
 go_upto_region 3 with (go_at_call 27; refine (impl_FindHandle.calls k _ c0_0 l0_0 _ c0_1 l0_1 a1 a2 q1 q2 q3 q4 q5 q6 q7 _ (Kd.C_below H0.out L.out) C0.out (Kd.C_below H1.out L.out) C1.out HQ.out).mono ?_; rintro e w2 ⟨rfl, hb⟩; have HW := Aside0.mk hb; clear hb m0 m1)
 obtain ⟨p, hp⟩ : ∃ p, p = w2.heap.size := ⟨_, rfl⟩
 obtain ⟨W3, hW⟩ : ∃ W3, W3 = w2.alloc (.cells #[.bool q1, .int .i64 q2, .int .i64 q3, .bool q4, .int .i64 q5, .int .i64 q6] 46 (0, 0)) := ⟨_, rfl⟩
 have U1 : Aside0 (W3.heap[w.heap.size + 1]? = some (.cells #[.slice none 0 0, .slice none 0 0] 51 (0, 0))) := Aside0.mk (by rw [hW]; exact blk_alloc (blk_below T1.out HW.out) _)
 have U2 : Aside0 (W3.heap[w.heap.size + 2]? = some (.cells #[.bool false, .int .i64 0, .int .i64 0, .bool false, .int .i64 0, .int .i64 0] 46 (0, 0))) := Aside0.mk (by rw [hW]; exact blk_alloc (blk_below T2.out HW.out) _)
 have U3 : Aside0 (W3.heap[g]? = some (.cells #[.slice y0 S1.length z_0, .slice y1 F1.length z_1] 51 (0, 0))) := Aside0.mk (by rw [hW]; exact blk_alloc (blk_below T3.out HW.out) _)
 have U4 : Aside0 (W3.heap[p]? = some (.cells #[.bool q1, .int .i64 q2, .int .i64 q3, .bool q4, .int .i64 q5, .int .i64 q6] 46 (0, 0))) := Aside0.mk (by rw [hW, hp]; exact blk_new w2 _)
 have E0 : Aside0 (Kd.R k46 46 W3 w.heap.size (fun k_ => k_ ≠ w.heap.size + 2 ∧ k_ ≠ p) (.slice y0 S1.length z_0) S1) := Aside0.mk (by rw [hW, hp]; exact Kd.R_alloc (Kd.R_mono (Kd.R_bound (Kd.R_below K0.out HW.out)) (fun k_ hk => ⟨hk.1, by have := hk.2.2.1; omega⟩)) _)
 have E1 : Aside0 (Kd.R (Kd.int .i64) 3 W3 w.heap.size (fun _ => True) (.slice y1 F1.length z_1) F1) := Aside0.mk (by rw [hW]; exact Kd.R_alloc (Kd.R_below K1.out HW.out) _)
 have L3 : Aside0 (Below w.heap.size w W3) := Aside0.mk (by rw [hW]; exact below_alloc (below_step L.out HW.out) _)
 have PP : Aside0 (w.heap.size + 3 ≤ g ∧ g < p) := Aside0.mk (by rw [hp]; exact ⟨GG.out.1, Nat.lt_of_lt_of_le GG.out.2 HW.out.size⟩)
 rw [← hW, ← hp]
 clear hW hp T0 T1 T2 T3 K0 K1 L GG HW W w2 H0 H1 C0 C1 HC HQ
 have n0 : W3.cell? ⟨w.heap.size + 1, 0, none⟩ = some (.slice none 0 0) := (blk_cell U1.out 0).trans rfl
 have n1 : W3.cell? ⟨w.heap.size + 1, 1, none⟩ = some (.slice none 0 0) := (blk_cell U1.out 1).trans rfl
 have nf0 := blk_frozen U1.out 0
 have nf1 := blk_frozen U1.out 1
 have z0 : W3.cell? ⟨w.heap.size + 2, 0, none⟩ = some (.bool false) := (blk_cell U2.out 0).trans rfl
 have z1 : W3.cell? ⟨w.heap.size + 2, 1, none⟩ = some (.int .i64 0) := (blk_cell U2.out 1).trans rfl
 have z2 : W3.cell? ⟨w.heap.size + 2, 2, none⟩ = some (.int .i64 0) := (blk_cell U2.out 2).trans rfl
 have z3 : W3.cell? ⟨w.heap.size + 2, 3, none⟩ = some (.bool false) := (blk_cell U2.out 3).trans rfl
 have z4 : W3.cell? ⟨w.heap.size + 2, 4, none⟩ = some (.int .i64 0) := (blk_cell U2.out 4).trans rfl
 have z5 : W3.cell? ⟨w.heap.size + 2, 5, none⟩ = some (.int .i64 0) := (blk_cell U2.out 5).trans rfl
 have zf0 := blk_frozen U2.out 0
 have zf1 := blk_frozen U2.out 1
 have zf2 := blk_frozen U2.out 2
 have zf3 := blk_frozen U2.out 3
 have zf4 := blk_frozen U2.out 4
 have zf5 := blk_frozen U2.out 5
 have g0 : W3.cell? ⟨g, 0, none⟩ = some (.slice y0 S1.length z_0) := (blk_cell U3.out 0).trans rfl
 have g1 : W3.cell? ⟨g, 1, none⟩ = some (.slice y1 F1.length z_1) := (blk_cell U3.out 1).trans rfl
 have h0 : W3.cell? ⟨p, 0, none⟩ = some (.bool q1) := (blk_cell U4.out 0).trans rfl
 have h1 : W3.cell? ⟨p, 1, none⟩ = some (.int .i64 q2) := (blk_cell U4.out 1).trans rfl
 have h2 : W3.cell? ⟨p, 2, none⟩ = some (.int .i64 q3) := (blk_cell U4.out 2).trans rfl
 have h3 : W3.cell? ⟨p, 3, none⟩ = some (.bool q4) := (blk_cell U4.out 3).trans rfl
 have h4 : W3.cell? ⟨p, 4, none⟩ = some (.int .i64 q5) := (blk_cell U4.out 4).trans rfl
 have h5 : W3.cell? ⟨p, 5, none⟩ = some (.int .i64 q6) := (blk_cell U4.out 5).trans rfl
 have h := HH.out
 clear HH
 by_cases hc : q7 = 0
 ·rw [if_pos hc] at h
  have d1 : (q7 != 0) = false := bne_eq_false_iff_eq.mpr hc
  have HC0 := Lib.hid hc
  clear hc
  by_cases hm : (a3 && !q4) = true
  ·rw [if_pos hm] at h
   simp only [Option.some.injEq, Prod.mk.injEq] at h
   obtain ⟨rfl, rfl, rfl, rfl, rfl, rfl, rfl, rfl, rfl⟩ := h
   simp only [Bool.and_eq_true, Bool.not_eq_true'] at hm
   obtain ⟨rfl, rfl⟩ := hm
   go_wp2
   have G1 : ((W3.setCell ⟨w.heap.size + 1, 0, none⟩ (Value.slice y0 S1.length z_0)).setCell ⟨w.heap.size + 1, 1, none⟩ (Value.slice y1 F1.length z_1)).heap[w.heap.size + 1]? = some (.cells #[Value.slice y0 S1.length z_0, Value.slice y1 F1.length z_1] 51 (0, 0)) := blk_put (blk_put U1.out 0 _ rfl) 1 _ rfl
   have G2 : ((W3.setCell ⟨w.heap.size + 1, 0, none⟩ (Value.slice y0 S1.length z_0)).setCell ⟨w.heap.size + 1, 1, none⟩ (Value.slice y1 F1.length z_1)).heap[w.heap.size + 2]? = some (.cells #[.bool false, .int .i64 0, .int .i64 0, .bool false, .int .i64 0, .int .i64 0] 46 (0, 0)) := blk_far (p := ⟨w.heap.size + 1, 1, none⟩) (blk_far (p := ⟨w.heap.size + 1, 0, none⟩) U2.out (by show w.heap.size + 2 ≠ w.heap.size + 1; omega) _) (by show w.heap.size + 2 ≠ w.heap.size + 1; omega) _
   have Y0 := Kd.R_set (Kd.R_set E0.out U1.out (by decide) 0 (Value.slice y0 S1.length z_0)) (blk_put U1.out 0 (Value.slice y0 S1.length z_0) rfl) (by decide) 1 (Value.slice y1 F1.length z_1)
   have Y1 := Kd.R_set (Kd.R_set E1.out U1.out (by decide) 0 (Value.slice y0 S1.length z_0)) (blk_put U1.out 0 (Value.slice y0 S1.length z_0) rfl) (by decide) 1 (Value.slice y1 F1.length z_1)
   have YL := (L3.out.setCell (p := ⟨w.heap.size + 1, 0, none⟩) (Nat.le_add_right _ _) (Value.slice y0 S1.length z_0)).setCell (p := ⟨w.heap.size + 1, 1, none⟩) (Nat.le_add_right _ _) (Value.slice y1 F1.length z_1)
   generalize ((W3.setCell ⟨w.heap.size + 1, 0, none⟩ (Value.slice y0 S1.length z_0)).setCell ⟨w.heap.size + 1, 1, none⟩ (Value.slice y1 F1.length z_1)) = V1 at G1 G2 Y0 Y1 YL ⊢
   have G1' := (blk_far (p := ⟨w.heap.size + 2, 5, none⟩) (blk_far (p := ⟨w.heap.size + 2, 4, none⟩) (blk_far (p := ⟨w.heap.size + 2, 3, none⟩) (blk_far (p := ⟨w.heap.size + 2, 2, none⟩) (blk_far (p := ⟨w.heap.size + 2, 1, none⟩) (blk_far (p := ⟨w.heap.size + 2, 0, none⟩) G1 (by show w.heap.size + 1 ≠ w.heap.size + 2; omega) (.bool false)) (by show w.heap.size + 1 ≠ w.heap.size + 2; omega) (.int .i64 0)) (by show w.heap.size + 1 ≠ w.heap.size + 2; omega) (.int .i64 0)) (by show w.heap.size + 1 ≠ w.heap.size + 2; omega) (.bool false)) (by show w.heap.size + 1 ≠ w.heap.size + 2; omega) (.int .i64 0)) (by show w.heap.size + 1 ≠ w.heap.size + 2; omega) (.int .i64 0))
   have G2' : ((((((V1.setCell ⟨w.heap.size + 2, 0, none⟩ (.bool false)).setCell ⟨w.heap.size + 2, 1, none⟩ (.int .i64 0)).setCell ⟨w.heap.size + 2, 2, none⟩ (.int .i64 0)).setCell ⟨w.heap.size + 2, 3, none⟩ (.bool false)).setCell ⟨w.heap.size + 2, 4, none⟩ (.int .i64 0)).setCell ⟨w.heap.size + 2, 5, none⟩ (.int .i64 0)).heap[w.heap.size + 2]? = some (.cells #[.bool false, .int .i64 0, .int .i64 0, .bool false, .int .i64 0, .int .i64 0] 46 (0, 0)) := z_blk_six G2
   have Y0' := Kd.R_mono (Kd.R_far (p := ⟨w.heap.size + 2, 5, none⟩) (Kd.R_far (p := ⟨w.heap.size + 2, 4, none⟩) (Kd.R_far (p := ⟨w.heap.size + 2, 3, none⟩) (Kd.R_far (p := ⟨w.heap.size + 2, 2, none⟩) (Kd.R_far (p := ⟨w.heap.size + 2, 1, none⟩) (Kd.R_far (p := ⟨w.heap.size + 2, 0, none⟩) Y0 (fun _ hk => hk.1) (.bool false)) (fun _ hk => hk.1) (.int .i64 0)) (fun _ hk => hk.1) (.int .i64 0)) (fun _ hk => hk.1) (.bool false)) (fun _ hk => hk.1) (.int .i64 0)) (fun _ hk => hk.1) (.int .i64 0)) (ok' := fun _ => True) (fun _ _ => trivial)
   replace Y1 := Kd.R_types Y1 G2 (by decide)
   have Y1' := Kd.R_mono (Kd.R_far (p := ⟨w.heap.size + 2, 5, none⟩) (Kd.R_far (p := ⟨w.heap.size + 2, 4, none⟩) (Kd.R_far (p := ⟨w.heap.size + 2, 3, none⟩) (Kd.R_far (p := ⟨w.heap.size + 2, 2, none⟩) (Kd.R_far (p := ⟨w.heap.size + 2, 1, none⟩) (Kd.R_far (p := ⟨w.heap.size + 2, 0, none⟩) Y1 (fun _ hk => hk.2) (.bool false)) (fun _ hk => hk.2) (.int .i64 0)) (fun _ hk => hk.2) (.int .i64 0)) (fun _ hk => hk.2) (.bool false)) (fun _ hk => hk.2) (.int .i64 0)) (fun _ hk => hk.2) (.int .i64 0)) (ok' := fun _ => True) (fun _ _ => trivial)
   have YL' := ((((((YL.setCell (p := ⟨w.heap.size + 2, 0, none⟩) (Nat.le_add_right _ _) (.bool false)).setCell (p := ⟨w.heap.size + 2, 1, none⟩) (Nat.le_add_right _ _) (.int .i64 0)).setCell (p := ⟨w.heap.size + 2, 2, none⟩) (Nat.le_add_right _ _) (.int .i64 0)).setCell (p := ⟨w.heap.size + 2, 3, none⟩) (Nat.le_add_right _ _) (.bool false)).setCell (p := ⟨w.heap.size + 2, 4, none⟩) (Nat.le_add_right _ _) (.int .i64 0)).setCell (p := ⟨w.heap.size + 2, 5, none⟩) (Nat.le_add_right _ _) (.int .i64 0))
   clear G1 G2 Y0 Y1 YL
   generalize ((((((V1.setCell ⟨w.heap.size + 2, 0, none⟩ (.bool false)).setCell ⟨w.heap.size + 2, 1, none⟩ (.int .i64 0)).setCell ⟨w.heap.size + 2, 2, none⟩ (.int .i64 0)).setCell ⟨w.heap.size + 2, 3, none⟩ (.bool false)).setCell ⟨w.heap.size + 2, 4, none⟩ (.int .i64 0)).setCell ⟨w.heap.size + 2, 5, none⟩ (.int .i64 0)) = V2 at G1' G2' Y0' Y1' YL' ⊢
   exact bodyPost_ret (results_list (rs := [.cell 8 51, .cell 9 46, .tmp 10]) rfl (by simp) (.cell (w.heap.size + 1) 51 #[Value.slice y0 S1.length z_0, Value.slice y1 F1.length z_1] (0, 0) _ rfl G1' Try.underlying51 rfl (by kernel_rfl) (.cell (w.heap.size + 2) 46 #[.bool false, .int .i64 0, .int .i64 0, .bool false, .int .i64 0, .int .i64 0] (0, 0) _ rfl G2' Try.underlying46 rfl (by kernel_rfl) (.tmp .nil)))) rfl ⟨_, _, rfl, Y0', Y1', YL'⟩
  ·rw [if_neg hm] at h
   by_cases hl : q5 = 0
   ·rw [if_pos hl] at h
    have d2 : (q5 != 0) = false := bne_eq_false_iff_eq.mpr hl
    have HL0 := Lib.hid hl
    clear hl
    replace h := Option.bind_eq_some_iff.mp h
    obtain ⟨⟨d_1, d_2⟩, hd, h⟩ := h
    have HD := Aside0.mk hd
    clear hd
    simp only [Option.some.injEq, Prod.mk.injEq] at h
    obtain ⟨rfl, rfl, rfl, rfl, rfl, rfl, rfl, rfl, rfl⟩ := h
    cases a3 <;> cases q4 <;> first | (exact absurd rfl hm) | skip
    all_goals clear hm
    all_goals go_upto_region 10 with (go_at_call 105; clear n0 n1 nf0 nf1 z0 z1 z2 z3 z4 z5 zf0 zf1 zf2 zf3 zf4 zf5 g0 g1 h0 h1 h2 h3 h4 h5; refine (impl_Table_drop.calls g w.heap.size y0 y1 z_0 z_1 S1 F1 a1 d_1 d_2 _ U3.out (Nat.le_trans (Nat.le_add_right _ _) PP.out.1) (Kd.R_mono E0.out (fun _ _ => trivial)) E1.out HD.out).mono ?_; rintro e w5 ⟨rfl, A1', c1', t3, x0, x1, hb, hfr⟩; have V3 := Aside0.mk t3; have X0 := Aside0.mk x0; have X1 := Aside0.mk x1; have HB5 := Aside0.mk hb; have V1 := Aside0.mk ((hfr _ (blk_lt U1.out) (by have := PP.out; omega) (Kd.R_ne E0.out U1.out (by decide)) (Kd.R_ne E1.out U1.out (by decide))).trans U1.out); have V2 := Aside0.mk ((hfr _ (blk_lt U2.out) (by have := PP.out; omega) (fun e_ => (E0.out.1 _ e_.symm).1 rfl) (Kd.R_ne E1.out U2.out (by decide))).trans U2.out); have V4 := Aside0.mk ((hfr _ (blk_lt U4.out) (by have := PP.out; omega) (fun e_ => (E0.out.1 _ e_.symm).2 rfl) (Kd.R_ne E1.out U4.out (by decide))).trans U4.out); clear t3 x0 x1 hb hfr)
    ·have X0' := Kd.R_reok (ok := fun k_ => k_ ≠ w.heap.size + 2 ∧ k_ ≠ p) rfl X0.out (fun k_ e_ => E0.out.1 k_ ((z_own_same y0 _ _ z_0).trans e_))
     have C1 := blk_drew V1.out
     have C2 := blk_drew V2.out
     have C3 := blk_drew V3.out
     have C4 := blk_drew V4.out
     have Q0 := Kd.R_drew X0'
     have Q1 := Kd.R_drew X1.out
     have QL := z_below_drew (z_below_trans L3.out HB5.out)
     have hpp := PP.out
     refine start_ (n := 5) (S := fun w' => w'.cell? ⟨g, 0, none⟩ = some (Value.slice y0 d_1.length z_0) ∧ w'.cell? ⟨g, 1, none⟩ = some (Value.slice A1' d_2.length c1') ∧ w'.cell? ⟨p, 0, none⟩ = some (.bool q1) ∧ w'.cell? ⟨p, 1, none⟩ = some (.int .i64 q2) ∧ w'.cell? ⟨p, 2, none⟩ = some (.int .i64 q3) ∧ w'.cell? ⟨p, 3, none⟩ = some (.bool false) ∧ w'.cell? ⟨p, 4, none⟩ = some (.int .i64 q5) ∧ w'.cell? ⟨p, 5, none⟩ = some (.int .i64 q6)) (ds := []) #[false, false, false, false, false] (by kernel_rfl) rfl rfl ⟨(blk_cell C3 0).trans rfl, (blk_cell C3 1).trans rfl, (blk_cell C4 0).trans rfl, (blk_cell C4 1).trans rfl, (blk_cell C4 2).trans rfl, (blk_cell C4 3).trans rfl, (blk_cell C4 4).trans rfl, (blk_cell C4 5).trans rfl⟩ (fun hHeld => ?_)
     generalize w5.drew = w6 at C1 C2 C3 C4 Q0 Q1 QL hHeld ⊢
     refine take_ (i := 0) (N := some 46) (v := ?_) (a' := ?_) #[true, false, false, false, false] rfl rfl (by kernel_rfl) (fun _ _ _ h => h) (Or.inl ⟨by rfl, ?_⟩) hHeld ?_ ?_
     rotate_left
     ·rintro w' ⟨s0, s1, s2, s3, s4, s5, s6, s7⟩
      go_simp
      with_reducible rfl
     rotate_left
     ·simp only [Act.put, List.setIfInBounds_toArray, List.set_cons_zero, List.set_cons_succ, i64_w, i32_w]
      rfl
     refine take_ (i := 1) (N := some 47) (v := ?_) (a' := ?_) #[true, true, false, false, false] rfl rfl (by kernel_rfl) (fun _ _ _ h => h) (Or.inl ⟨by rfl, ?_⟩) hHeld ?_ ?_
     rotate_left
     ·rintro w' ⟨s0, s1, s2, s3, s4, s5, s6, s7⟩
      go_simp
      with_reducible rfl
     rotate_left
     ·simp only [Act.put, List.setIfInBounds_toArray, List.set_cons_zero, List.set_cons_succ, i64_w, i32_w]
      rfl
     refine one_ (i := 2) (N := none) #[true, true, true, false, false] rfl rfl (by kernel_rfl) (by decide) (fun K hK => ?_)
     have n0 : w6.cell? ⟨w.heap.size + 1, 0, none⟩ = some (.slice none 0 0) := (blk_cell C1 0).trans rfl
     have nf0 := blk_frozen C1 0
     have n1 : w6.cell? ⟨w.heap.size + 1, 1, none⟩ = some (.slice none 0 0) := (blk_cell C1 1).trans rfl
     have nf1 := blk_frozen C1 1
     refine skip_ (w1 := ((w6.setCell ⟨w.heap.size + 1, 0, none⟩ (Value.slice y0 d_1.length z_0)).setCell ⟨w.heap.size + 1, 1, none⟩ (Value.slice A1' d_2.length c1'))) (by rfl) rfl ?_ ?_
     ·go_simp
     have G1 : ((w6.setCell ⟨w.heap.size + 1, 0, none⟩ (Value.slice y0 d_1.length z_0)).setCell ⟨w.heap.size + 1, 1, none⟩ (Value.slice A1' d_2.length c1')).heap[w.heap.size + 1]? = some (.cells #[Value.slice y0 d_1.length z_0, Value.slice A1' d_2.length c1'] 51 (0, 0)) := blk_put (blk_put C1 0 _ rfl) 1 _ rfl
     have G2 := blk_far (p := ⟨w.heap.size + 1, 1, none⟩) (blk_far (p := ⟨w.heap.size + 1, 0, none⟩) C2 (by show w.heap.size + 2 ≠ w.heap.size + 1; omega) (Value.slice y0 d_1.length z_0)) (by show w.heap.size + 2 ≠ w.heap.size + 1; omega) (Value.slice A1' d_2.length c1')
     have G3 := blk_far (p := ⟨w.heap.size + 1, 1, none⟩) (blk_far (p := ⟨w.heap.size + 1, 0, none⟩) C3 (by show g ≠ w.heap.size + 1; omega) (Value.slice y0 d_1.length z_0)) (by show g ≠ w.heap.size + 1; omega) (Value.slice A1' d_2.length c1')
     have G4 := blk_far (p := ⟨w.heap.size + 1, 1, none⟩) (blk_far (p := ⟨w.heap.size + 1, 0, none⟩) C4 (by show p ≠ w.heap.size + 1; omega) (Value.slice y0 d_1.length z_0)) (by show p ≠ w.heap.size + 1; omega) (Value.slice A1' d_2.length c1')
     have Y0 := Kd.R_set (Kd.R_set Q0 C1 (by decide) 0 (Value.slice y0 d_1.length z_0)) (blk_put C1 0 (Value.slice y0 d_1.length z_0) rfl) (by decide) 1 (Value.slice A1' d_2.length c1')
     have Y1 := Kd.R_set (Kd.R_set Q1 C1 (by decide) 0 (Value.slice y0 d_1.length z_0)) (blk_put C1 0 (Value.slice y0 d_1.length z_0) rfl) (by decide) 1 (Value.slice A1' d_2.length c1')
     have YL := (QL.setCell (p := ⟨w.heap.size + 1, 0, none⟩) (Nat.le_add_right _ _) (Value.slice y0 d_1.length z_0)).setCell (p := ⟨w.heap.size + 1, 1, none⟩) (Nat.le_add_right _ _) (Value.slice A1' d_2.length c1')
     clear n0 n1 nf0 nf1 C1 C2 C3 C4 Q0 Q1 QL hHeld
     generalize ((w6.setCell ⟨w.heap.size + 1, 0, none⟩ (Value.slice y0 d_1.length z_0)).setCell ⟨w.heap.size + 1, 1, none⟩ (Value.slice A1' d_2.length c1')) = w7 at G1 G2 G3 G4 Y0 Y1 YL ⊢
     refine hK.out _ _ ⟨(blk_cell G3 0).trans rfl, (blk_cell G3 1).trans rfl, (blk_cell G4 0).trans rfl, (blk_cell G4 1).trans rfl, (blk_cell G4 2).trans rfl, (blk_cell G4 3).trans rfl, (blk_cell G4 4).trans rfl, (blk_cell G4 5).trans rfl⟩ (fun hHeld => ?_)
     clear hK K
     refine one_ (i := 3) (N := none) #[true, true, true, true, false] rfl rfl (by kernel_rfl) (by decide) (fun K hK => ?_)
     have z0 : w7.cell? ⟨w.heap.size + 2, 0, none⟩ = some (.bool false) := (blk_cell G2 0).trans rfl
     have zf0 := blk_frozen G2 0
     have z1 : w7.cell? ⟨w.heap.size + 2, 1, none⟩ = some (.int .i64 0) := (blk_cell G2 1).trans rfl
     have zf1 := blk_frozen G2 1
     have z2 : w7.cell? ⟨w.heap.size + 2, 2, none⟩ = some (.int .i64 0) := (blk_cell G2 2).trans rfl
     have zf2 := blk_frozen G2 2
     have z3 : w7.cell? ⟨w.heap.size + 2, 3, none⟩ = some (.bool false) := (blk_cell G2 3).trans rfl
     have zf3 := blk_frozen G2 3
     have z4 : w7.cell? ⟨w.heap.size + 2, 4, none⟩ = some (.int .i64 0) := (blk_cell G2 4).trans rfl
     have zf4 := blk_frozen G2 4
     have z5 : w7.cell? ⟨w.heap.size + 2, 5, none⟩ = some (.int .i64 0) := (blk_cell G2 5).trans rfl
     have zf5 := blk_frozen G2 5
     refine skip_ (w1 := ((((((w7.setCell ⟨w.heap.size + 2, 0, none⟩ (.bool q1)).setCell ⟨w.heap.size + 2, 1, none⟩ (.int .i64 q2)).setCell ⟨w.heap.size + 2, 2, none⟩ (.int .i64 q3)).setCell ⟨w.heap.size + 2, 3, none⟩ (.bool false)).setCell ⟨w.heap.size + 2, 4, none⟩ (.int .i64 q5)).setCell ⟨w.heap.size + 2, 5, none⟩ (.int .i64 q6))) (by rfl) rfl ?_ ?_
     ·go_simp
     have G1' := (blk_far (p := ⟨w.heap.size + 2, 5, none⟩) (blk_far (p := ⟨w.heap.size + 2, 4, none⟩) (blk_far (p := ⟨w.heap.size + 2, 3, none⟩) (blk_far (p := ⟨w.heap.size + 2, 2, none⟩) (blk_far (p := ⟨w.heap.size + 2, 1, none⟩) (blk_far (p := ⟨w.heap.size + 2, 0, none⟩) G1 (by show w.heap.size + 1 ≠ w.heap.size + 2; omega) (.bool q1)) (by show w.heap.size + 1 ≠ w.heap.size + 2; omega) (.int .i64 q2)) (by show w.heap.size + 1 ≠ w.heap.size + 2; omega) (.int .i64 q3)) (by show w.heap.size + 1 ≠ w.heap.size + 2; omega) (.bool false)) (by show w.heap.size + 1 ≠ w.heap.size + 2; omega) (.int .i64 q5)) (by show w.heap.size + 1 ≠ w.heap.size + 2; omega) (.int .i64 q6))
     have G3' := (blk_far (p := ⟨w.heap.size + 2, 5, none⟩) (blk_far (p := ⟨w.heap.size + 2, 4, none⟩) (blk_far (p := ⟨w.heap.size + 2, 3, none⟩) (blk_far (p := ⟨w.heap.size + 2, 2, none⟩) (blk_far (p := ⟨w.heap.size + 2, 1, none⟩) (blk_far (p := ⟨w.heap.size + 2, 0, none⟩) G3 (by show g ≠ w.heap.size + 2; omega) (.bool q1)) (by show g ≠ w.heap.size + 2; omega) (.int .i64 q2)) (by show g ≠ w.heap.size + 2; omega) (.int .i64 q3)) (by show g ≠ w.heap.size + 2; omega) (.bool false)) (by show g ≠ w.heap.size + 2; omega) (.int .i64 q5)) (by show g ≠ w.heap.size + 2; omega) (.int .i64 q6))
     have G4' := (blk_far (p := ⟨w.heap.size + 2, 5, none⟩) (blk_far (p := ⟨w.heap.size + 2, 4, none⟩) (blk_far (p := ⟨w.heap.size + 2, 3, none⟩) (blk_far (p := ⟨w.heap.size + 2, 2, none⟩) (blk_far (p := ⟨w.heap.size + 2, 1, none⟩) (blk_far (p := ⟨w.heap.size + 2, 0, none⟩) G4 (by show p ≠ w.heap.size + 2; omega) (.bool q1)) (by show p ≠ w.heap.size + 2; omega) (.int .i64 q2)) (by show p ≠ w.heap.size + 2; omega) (.int .i64 q3)) (by show p ≠ w.heap.size + 2; omega) (.bool false)) (by show p ≠ w.heap.size + 2; omega) (.int .i64 q5)) (by show p ≠ w.heap.size + 2; omega) (.int .i64 q6))
     have G2' : ((((((w7.setCell ⟨w.heap.size + 2, 0, none⟩ (.bool q1)).setCell ⟨w.heap.size + 2, 1, none⟩ (.int .i64 q2)).setCell ⟨w.heap.size + 2, 2, none⟩ (.int .i64 q3)).setCell ⟨w.heap.size + 2, 3, none⟩ (.bool false)).setCell ⟨w.heap.size + 2, 4, none⟩ (.int .i64 q5)).setCell ⟨w.heap.size + 2, 5, none⟩ (.int .i64 q6)).heap[w.heap.size + 2]? = some (.cells #[.bool q1, .int .i64 q2, .int .i64 q3, .bool false, .int .i64 q5, .int .i64 q6] 46 (0, 0)) := z_blk_six G2
     have Y0' := Kd.R_mono (Kd.R_far (p := ⟨w.heap.size + 2, 5, none⟩) (Kd.R_far (p := ⟨w.heap.size + 2, 4, none⟩) (Kd.R_far (p := ⟨w.heap.size + 2, 3, none⟩) (Kd.R_far (p := ⟨w.heap.size + 2, 2, none⟩) (Kd.R_far (p := ⟨w.heap.size + 2, 1, none⟩) (Kd.R_far (p := ⟨w.heap.size + 2, 0, none⟩) Y0 (fun _ hk => hk.1) (.bool q1)) (fun _ hk => hk.1) (.int .i64 q2)) (fun _ hk => hk.1) (.int .i64 q3)) (fun _ hk => hk.1) (.bool false)) (fun _ hk => hk.1) (.int .i64 q5)) (fun _ hk => hk.1) (.int .i64 q6)) (ok' := fun _ => True) (fun _ _ => trivial)
     replace Y1 := Kd.R_types Y1 G2 (by decide)
     have Y1' := Kd.R_mono (Kd.R_far (p := ⟨w.heap.size + 2, 5, none⟩) (Kd.R_far (p := ⟨w.heap.size + 2, 4, none⟩) (Kd.R_far (p := ⟨w.heap.size + 2, 3, none⟩) (Kd.R_far (p := ⟨w.heap.size + 2, 2, none⟩) (Kd.R_far (p := ⟨w.heap.size + 2, 1, none⟩) (Kd.R_far (p := ⟨w.heap.size + 2, 0, none⟩) Y1 (fun _ hk => hk.2) (.bool q1)) (fun _ hk => hk.2) (.int .i64 q2)) (fun _ hk => hk.2) (.int .i64 q3)) (fun _ hk => hk.2) (.bool false)) (fun _ hk => hk.2) (.int .i64 q5)) (fun _ hk => hk.2) (.int .i64 q6)) (ok' := fun _ => True) (fun _ _ => trivial)
     have YL' := ((((((YL.setCell (p := ⟨w.heap.size + 2, 0, none⟩) (Nat.le_add_right _ _) (.bool q1)).setCell (p := ⟨w.heap.size + 2, 1, none⟩) (Nat.le_add_right _ _) (.int .i64 q2)).setCell (p := ⟨w.heap.size + 2, 2, none⟩) (Nat.le_add_right _ _) (.int .i64 q3)).setCell (p := ⟨w.heap.size + 2, 3, none⟩) (Nat.le_add_right _ _) (.bool false)).setCell (p := ⟨w.heap.size + 2, 4, none⟩) (Nat.le_add_right _ _) (.int .i64 q5)).setCell (p := ⟨w.heap.size + 2, 5, none⟩) (Nat.le_add_right _ _) (.int .i64 q6))
     clear G1 G2 G3 G4 Y0 Y1 YL hHeld z0 zf0 z1 zf1 z2 zf2 z3 zf3 z4 zf4 z5 zf5
     generalize ((((((w7.setCell ⟨w.heap.size + 2, 0, none⟩ (.bool q1)).setCell ⟨w.heap.size + 2, 1, none⟩ (.int .i64 q2)).setCell ⟨w.heap.size + 2, 2, none⟩ (.int .i64 q3)).setCell ⟨w.heap.size + 2, 3, none⟩ (.bool false)).setCell ⟨w.heap.size + 2, 4, none⟩ (.int .i64 q5)).setCell ⟨w.heap.size + 2, 5, none⟩ (.int .i64 q6)) = w8 at G1' G2' G3' G4' Y0' Y1' YL' ⊢
     refine hK.out _ _ ⟨(blk_cell G3' 0).trans rfl, (blk_cell G3' 1).trans rfl, (blk_cell G4' 0).trans rfl, (blk_cell G4' 1).trans rfl, (blk_cell G4' 2).trans rfl, (blk_cell G4' 3).trans rfl, (blk_cell G4' 4).trans rfl, (blk_cell G4' 5).trans rfl⟩ (fun hHeld => ?_)
     clear hK K hHeld
     refine pure_ (i := 4) (N := some 10) (v := ?_) (a' := ?_) #[true, true, true, true, true] rfl rfl (by kernel_rfl) (fun _ _ _ h => h) (Or.inl ⟨by rfl, ?_⟩) ?_ ?_
     rotate_left
     ·intro w'
      go_simp
      with_reducible rfl
     rotate_left
     ·simp only [Act.put, List.setIfInBounds_toArray, List.set_cons_zero, List.set_cons_succ, i64_w, i32_w]
      rfl
     refine done_ (by kernel_rfl) ?_
     go_wp2
     exact bodyPost_ret (results_list (rs := [.cell 8 51, .cell 9 46, .tmp 10]) rfl (by simp) (.cell (w.heap.size + 1) 51 #[Value.slice y0 d_1.length z_0, Value.slice A1' d_2.length c1'] (0, 0) _ rfl G1' Try.underlying51 rfl (by kernel_rfl) (.cell (w.heap.size + 2) 46 #[.bool q1, .int .i64 q2, .int .i64 q3, .bool false, .int .i64 q5, .int .i64 q6] (0, 0) _ rfl G2' Try.underlying46 rfl (by kernel_rfl) (.tmp .nil)))) rfl ⟨_, _, rfl, Y0', Y1', YL'⟩
    ·have X0' := Kd.R_reok (ok := fun k_ => k_ ≠ w.heap.size + 2 ∧ k_ ≠ p) rfl X0.out (fun k_ e_ => E0.out.1 k_ ((z_own_same y0 _ _ z_0).trans e_))
     have C1 := blk_drew V1.out
     have C2 := blk_drew V2.out
     have C3 := blk_drew V3.out
     have C4 := blk_drew V4.out
     have Q0 := Kd.R_drew X0'
     have Q1 := Kd.R_drew X1.out
     have QL := z_below_drew (z_below_trans L3.out HB5.out)
     have hpp := PP.out
     refine start_ (n := 5) (S := fun w' => w'.cell? ⟨g, 0, none⟩ = some (Value.slice y0 d_1.length z_0) ∧ w'.cell? ⟨g, 1, none⟩ = some (Value.slice A1' d_2.length c1') ∧ w'.cell? ⟨p, 0, none⟩ = some (.bool q1) ∧ w'.cell? ⟨p, 1, none⟩ = some (.int .i64 q2) ∧ w'.cell? ⟨p, 2, none⟩ = some (.int .i64 q3) ∧ w'.cell? ⟨p, 3, none⟩ = some (.bool true) ∧ w'.cell? ⟨p, 4, none⟩ = some (.int .i64 q5) ∧ w'.cell? ⟨p, 5, none⟩ = some (.int .i64 q6)) (ds := []) #[false, false, false, false, false] (by kernel_rfl) rfl rfl ⟨(blk_cell C3 0).trans rfl, (blk_cell C3 1).trans rfl, (blk_cell C4 0).trans rfl, (blk_cell C4 1).trans rfl, (blk_cell C4 2).trans rfl, (blk_cell C4 3).trans rfl, (blk_cell C4 4).trans rfl, (blk_cell C4 5).trans rfl⟩ (fun hHeld => ?_)
     generalize w5.drew = w6 at C1 C2 C3 C4 Q0 Q1 QL hHeld ⊢
     refine take_ (i := 0) (N := some 46) (v := ?_) (a' := ?_) #[true, false, false, false, false] rfl rfl (by kernel_rfl) (fun _ _ _ h => h) (Or.inl ⟨by rfl, ?_⟩) hHeld ?_ ?_
     rotate_left
     ·rintro w' ⟨s0, s1, s2, s3, s4, s5, s6, s7⟩
      go_simp
      with_reducible rfl
     rotate_left
     ·simp only [Act.put, List.setIfInBounds_toArray, List.set_cons_zero, List.set_cons_succ, i64_w, i32_w]
      rfl
     refine take_ (i := 1) (N := some 47) (v := ?_) (a' := ?_) #[true, true, false, false, false] rfl rfl (by kernel_rfl) (fun _ _ _ h => h) (Or.inl ⟨by rfl, ?_⟩) hHeld ?_ ?_
     rotate_left
     ·rintro w' ⟨s0, s1, s2, s3, s4, s5, s6, s7⟩
      go_simp
      with_reducible rfl
     rotate_left
     ·simp only [Act.put, List.setIfInBounds_toArray, List.set_cons_zero, List.set_cons_succ, i64_w, i32_w]
      rfl
     refine one_ (i := 2) (N := none) #[true, true, true, false, false] rfl rfl (by kernel_rfl) (by decide) (fun K hK => ?_)
     have n0 : w6.cell? ⟨w.heap.size + 1, 0, none⟩ = some (.slice none 0 0) := (blk_cell C1 0).trans rfl
     have nf0 := blk_frozen C1 0
     have n1 : w6.cell? ⟨w.heap.size + 1, 1, none⟩ = some (.slice none 0 0) := (blk_cell C1 1).trans rfl
     have nf1 := blk_frozen C1 1
     refine skip_ (w1 := ((w6.setCell ⟨w.heap.size + 1, 0, none⟩ (Value.slice y0 d_1.length z_0)).setCell ⟨w.heap.size + 1, 1, none⟩ (Value.slice A1' d_2.length c1'))) (by rfl) rfl ?_ ?_
     ·go_simp
     have G1 : ((w6.setCell ⟨w.heap.size + 1, 0, none⟩ (Value.slice y0 d_1.length z_0)).setCell ⟨w.heap.size + 1, 1, none⟩ (Value.slice A1' d_2.length c1')).heap[w.heap.size + 1]? = some (.cells #[Value.slice y0 d_1.length z_0, Value.slice A1' d_2.length c1'] 51 (0, 0)) := blk_put (blk_put C1 0 _ rfl) 1 _ rfl
     have G2 := blk_far (p := ⟨w.heap.size + 1, 1, none⟩) (blk_far (p := ⟨w.heap.size + 1, 0, none⟩) C2 (by show w.heap.size + 2 ≠ w.heap.size + 1; omega) (Value.slice y0 d_1.length z_0)) (by show w.heap.size + 2 ≠ w.heap.size + 1; omega) (Value.slice A1' d_2.length c1')
     have G3 := blk_far (p := ⟨w.heap.size + 1, 1, none⟩) (blk_far (p := ⟨w.heap.size + 1, 0, none⟩) C3 (by show g ≠ w.heap.size + 1; omega) (Value.slice y0 d_1.length z_0)) (by show g ≠ w.heap.size + 1; omega) (Value.slice A1' d_2.length c1')
     have G4 := blk_far (p := ⟨w.heap.size + 1, 1, none⟩) (blk_far (p := ⟨w.heap.size + 1, 0, none⟩) C4 (by show p ≠ w.heap.size + 1; omega) (Value.slice y0 d_1.length z_0)) (by show p ≠ w.heap.size + 1; omega) (Value.slice A1' d_2.length c1')
     have Y0 := Kd.R_set (Kd.R_set Q0 C1 (by decide) 0 (Value.slice y0 d_1.length z_0)) (blk_put C1 0 (Value.slice y0 d_1.length z_0) rfl) (by decide) 1 (Value.slice A1' d_2.length c1')
     have Y1 := Kd.R_set (Kd.R_set Q1 C1 (by decide) 0 (Value.slice y0 d_1.length z_0)) (blk_put C1 0 (Value.slice y0 d_1.length z_0) rfl) (by decide) 1 (Value.slice A1' d_2.length c1')
     have YL := (QL.setCell (p := ⟨w.heap.size + 1, 0, none⟩) (Nat.le_add_right _ _) (Value.slice y0 d_1.length z_0)).setCell (p := ⟨w.heap.size + 1, 1, none⟩) (Nat.le_add_right _ _) (Value.slice A1' d_2.length c1')
     clear n0 n1 nf0 nf1 C1 C2 C3 C4 Q0 Q1 QL hHeld
     generalize ((w6.setCell ⟨w.heap.size + 1, 0, none⟩ (Value.slice y0 d_1.length z_0)).setCell ⟨w.heap.size + 1, 1, none⟩ (Value.slice A1' d_2.length c1')) = w7 at G1 G2 G3 G4 Y0 Y1 YL ⊢
     refine hK.out _ _ ⟨(blk_cell G3 0).trans rfl, (blk_cell G3 1).trans rfl, (blk_cell G4 0).trans rfl, (blk_cell G4 1).trans rfl, (blk_cell G4 2).trans rfl, (blk_cell G4 3).trans rfl, (blk_cell G4 4).trans rfl, (blk_cell G4 5).trans rfl⟩ (fun hHeld => ?_)
     clear hK K
     refine one_ (i := 3) (N := none) #[true, true, true, true, false] rfl rfl (by kernel_rfl) (by decide) (fun K hK => ?_)
     have z0 : w7.cell? ⟨w.heap.size + 2, 0, none⟩ = some (.bool false) := (blk_cell G2 0).trans rfl
     have zf0 := blk_frozen G2 0
     have z1 : w7.cell? ⟨w.heap.size + 2, 1, none⟩ = some (.int .i64 0) := (blk_cell G2 1).trans rfl
     have zf1 := blk_frozen G2 1
     have z2 : w7.cell? ⟨w.heap.size + 2, 2, none⟩ = some (.int .i64 0) := (blk_cell G2 2).trans rfl
     have zf2 := blk_frozen G2 2
     have z3 : w7.cell? ⟨w.heap.size + 2, 3, none⟩ = some (.bool false) := (blk_cell G2 3).trans rfl
     have zf3 := blk_frozen G2 3
     have z4 : w7.cell? ⟨w.heap.size + 2, 4, none⟩ = some (.int .i64 0) := (blk_cell G2 4).trans rfl
     have zf4 := blk_frozen G2 4
     have z5 : w7.cell? ⟨w.heap.size + 2, 5, none⟩ = some (.int .i64 0) := (blk_cell G2 5).trans rfl
     have zf5 := blk_frozen G2 5
     refine skip_ (w1 := ((((((w7.setCell ⟨w.heap.size + 2, 0, none⟩ (.bool q1)).setCell ⟨w.heap.size + 2, 1, none⟩ (.int .i64 q2)).setCell ⟨w.heap.size + 2, 2, none⟩ (.int .i64 q3)).setCell ⟨w.heap.size + 2, 3, none⟩ (.bool true)).setCell ⟨w.heap.size + 2, 4, none⟩ (.int .i64 q5)).setCell ⟨w.heap.size + 2, 5, none⟩ (.int .i64 q6))) (by rfl) rfl ?_ ?_
     ·go_simp
     have G1' := (blk_far (p := ⟨w.heap.size + 2, 5, none⟩) (blk_far (p := ⟨w.heap.size + 2, 4, none⟩) (blk_far (p := ⟨w.heap.size + 2, 3, none⟩) (blk_far (p := ⟨w.heap.size + 2, 2, none⟩) (blk_far (p := ⟨w.heap.size + 2, 1, none⟩) (blk_far (p := ⟨w.heap.size + 2, 0, none⟩) G1 (by show w.heap.size + 1 ≠ w.heap.size + 2; omega) (.bool q1)) (by show w.heap.size + 1 ≠ w.heap.size + 2; omega) (.int .i64 q2)) (by show w.heap.size + 1 ≠ w.heap.size + 2; omega) (.int .i64 q3)) (by show w.heap.size + 1 ≠ w.heap.size + 2; omega) (.bool true)) (by show w.heap.size + 1 ≠ w.heap.size + 2; omega) (.int .i64 q5)) (by show w.heap.size + 1 ≠ w.heap.size + 2; omega) (.int .i64 q6))
     have G3' := (blk_far (p := ⟨w.heap.size + 2, 5, none⟩) (blk_far (p := ⟨w.heap.size + 2, 4, none⟩) (blk_far (p := ⟨w.heap.size + 2, 3, none⟩) (blk_far (p := ⟨w.heap.size + 2, 2, none⟩) (blk_far (p := ⟨w.heap.size + 2, 1, none⟩) (blk_far (p := ⟨w.heap.size + 2, 0, none⟩) G3 (by show g ≠ w.heap.size + 2; omega) (.bool q1)) (by show g ≠ w.heap.size + 2; omega) (.int .i64 q2)) (by show g ≠ w.heap.size + 2; omega) (.int .i64 q3)) (by show g ≠ w.heap.size + 2; omega) (.bool true)) (by show g ≠ w.heap.size + 2; omega) (.int .i64 q5)) (by show g ≠ w.heap.size + 2; omega) (.int .i64 q6))
     have G4' := (blk_far (p := ⟨w.heap.size + 2, 5, none⟩) (blk_far (p := ⟨w.heap.size + 2, 4, none⟩) (blk_far (p := ⟨w.heap.size + 2, 3, none⟩) (blk_far (p := ⟨w.heap.size + 2, 2, none⟩) (blk_far (p := ⟨w.heap.size + 2, 1, none⟩) (blk_far (p := ⟨w.heap.size + 2, 0, none⟩) G4 (by show p ≠ w.heap.size + 2; omega) (.bool q1)) (by show p ≠ w.heap.size + 2; omega) (.int .i64 q2)) (by show p ≠ w.heap.size + 2; omega) (.int .i64 q3)) (by show p ≠ w.heap.size + 2; omega) (.bool true)) (by show p ≠ w.heap.size + 2; omega) (.int .i64 q5)) (by show p ≠ w.heap.size + 2; omega) (.int .i64 q6))
     have G2' : ((((((w7.setCell ⟨w.heap.size + 2, 0, none⟩ (.bool q1)).setCell ⟨w.heap.size + 2, 1, none⟩ (.int .i64 q2)).setCell ⟨w.heap.size + 2, 2, none⟩ (.int .i64 q3)).setCell ⟨w.heap.size + 2, 3, none⟩ (.bool true)).setCell ⟨w.heap.size + 2, 4, none⟩ (.int .i64 q5)).setCell ⟨w.heap.size + 2, 5, none⟩ (.int .i64 q6)).heap[w.heap.size + 2]? = some (.cells #[.bool q1, .int .i64 q2, .int .i64 q3, .bool true, .int .i64 q5, .int .i64 q6] 46 (0, 0)) := z_blk_six G2
     have Y0' := Kd.R_mono (Kd.R_far (p := ⟨w.heap.size + 2, 5, none⟩) (Kd.R_far (p := ⟨w.heap.size + 2, 4, none⟩) (Kd.R_far (p := ⟨w.heap.size + 2, 3, none⟩) (Kd.R_far (p := ⟨w.heap.size + 2, 2, none⟩) (Kd.R_far (p := ⟨w.heap.size + 2, 1, none⟩) (Kd.R_far (p := ⟨w.heap.size + 2, 0, none⟩) Y0 (fun _ hk => hk.1) (.bool q1)) (fun _ hk => hk.1) (.int .i64 q2)) (fun _ hk => hk.1) (.int .i64 q3)) (fun _ hk => hk.1) (.bool true)) (fun _ hk => hk.1) (.int .i64 q5)) (fun _ hk => hk.1) (.int .i64 q6)) (ok' := fun _ => True) (fun _ _ => trivial)
     replace Y1 := Kd.R_types Y1 G2 (by decide)
     have Y1' := Kd.R_mono (Kd.R_far (p := ⟨w.heap.size + 2, 5, none⟩) (Kd.R_far (p := ⟨w.heap.size + 2, 4, none⟩) (Kd.R_far (p := ⟨w.heap.size + 2, 3, none⟩) (Kd.R_far (p := ⟨w.heap.size + 2, 2, none⟩) (Kd.R_far (p := ⟨w.heap.size + 2, 1, none⟩) (Kd.R_far (p := ⟨w.heap.size + 2, 0, none⟩) Y1 (fun _ hk => hk.2) (.bool q1)) (fun _ hk => hk.2) (.int .i64 q2)) (fun _ hk => hk.2) (.int .i64 q3)) (fun _ hk => hk.2) (.bool true)) (fun _ hk => hk.2) (.int .i64 q5)) (fun _ hk => hk.2) (.int .i64 q6)) (ok' := fun _ => True) (fun _ _ => trivial)
     have YL' := ((((((YL.setCell (p := ⟨w.heap.size + 2, 0, none⟩) (Nat.le_add_right _ _) (.bool q1)).setCell (p := ⟨w.heap.size + 2, 1, none⟩) (Nat.le_add_right _ _) (.int .i64 q2)).setCell (p := ⟨w.heap.size + 2, 2, none⟩) (Nat.le_add_right _ _) (.int .i64 q3)).setCell (p := ⟨w.heap.size + 2, 3, none⟩) (Nat.le_add_right _ _) (.bool true)).setCell (p := ⟨w.heap.size + 2, 4, none⟩) (Nat.le_add_right _ _) (.int .i64 q5)).setCell (p := ⟨w.heap.size + 2, 5, none⟩) (Nat.le_add_right _ _) (.int .i64 q6))
     clear G1 G2 G3 G4 Y0 Y1 YL hHeld z0 zf0 z1 zf1 z2 zf2 z3 zf3 z4 zf4 z5 zf5
     generalize ((((((w7.setCell ⟨w.heap.size + 2, 0, none⟩ (.bool q1)).setCell ⟨w.heap.size + 2, 1, none⟩ (.int .i64 q2)).setCell ⟨w.heap.size + 2, 2, none⟩ (.int .i64 q3)).setCell ⟨w.heap.size + 2, 3, none⟩ (.bool true)).setCell ⟨w.heap.size + 2, 4, none⟩ (.int .i64 q5)).setCell ⟨w.heap.size + 2, 5, none⟩ (.int .i64 q6)) = w8 at G1' G2' G3' G4' Y0' Y1' YL' ⊢
     refine hK.out _ _ ⟨(blk_cell G3' 0).trans rfl, (blk_cell G3' 1).trans rfl, (blk_cell G4' 0).trans rfl, (blk_cell G4' 1).trans rfl, (blk_cell G4' 2).trans rfl, (blk_cell G4' 3).trans rfl, (blk_cell G4' 4).trans rfl, (blk_cell G4' 5).trans rfl⟩ (fun hHeld => ?_)
     clear hK K hHeld
     refine pure_ (i := 4) (N := some 10) (v := ?_) (a' := ?_) #[true, true, true, true, true] rfl rfl (by kernel_rfl) (fun _ _ _ h => h) (Or.inl ⟨by rfl, ?_⟩) ?_ ?_
     rotate_left
     ·intro w'
      go_simp
      with_reducible rfl
     rotate_left
     ·simp only [Act.put, List.setIfInBounds_toArray, List.set_cons_zero, List.set_cons_succ, i64_w, i32_w]
      rfl
     refine done_ (by kernel_rfl) ?_
     go_wp2
     exact bodyPost_ret (results_list (rs := [.cell 8 51, .cell 9 46, .tmp 10]) rfl (by simp) (.cell (w.heap.size + 1) 51 #[Value.slice y0 d_1.length z_0, Value.slice A1' d_2.length c1'] (0, 0) _ rfl G1' Try.underlying51 rfl (by kernel_rfl) (.cell (w.heap.size + 2) 46 #[.bool q1, .int .i64 q2, .int .i64 q3, .bool true, .int .i64 q5, .int .i64 q6] (0, 0) _ rfl G2' Try.underlying46 rfl (by kernel_rfl) (.tmp .nil)))) rfl ⟨_, _, rfl, Y0', Y1', YL'⟩
    ·have X0' := Kd.R_reok (ok := fun k_ => k_ ≠ w.heap.size + 2 ∧ k_ ≠ p) rfl X0.out (fun k_ e_ => E0.out.1 k_ ((z_own_same y0 _ _ z_0).trans e_))
     have C1 := blk_drew V1.out
     have C2 := blk_drew V2.out
     have C3 := blk_drew V3.out
     have C4 := blk_drew V4.out
     have Q0 := Kd.R_drew X0'
     have Q1 := Kd.R_drew X1.out
     have QL := z_below_drew (z_below_trans L3.out HB5.out)
     have hpp := PP.out
     refine start_ (n := 5) (S := fun w' => w'.cell? ⟨g, 0, none⟩ = some (Value.slice y0 d_1.length z_0) ∧ w'.cell? ⟨g, 1, none⟩ = some (Value.slice A1' d_2.length c1') ∧ w'.cell? ⟨p, 0, none⟩ = some (.bool q1) ∧ w'.cell? ⟨p, 1, none⟩ = some (.int .i64 q2) ∧ w'.cell? ⟨p, 2, none⟩ = some (.int .i64 q3) ∧ w'.cell? ⟨p, 3, none⟩ = some (.bool true) ∧ w'.cell? ⟨p, 4, none⟩ = some (.int .i64 q5) ∧ w'.cell? ⟨p, 5, none⟩ = some (.int .i64 q6)) (ds := []) #[false, false, false, false, false] (by kernel_rfl) rfl rfl ⟨(blk_cell C3 0).trans rfl, (blk_cell C3 1).trans rfl, (blk_cell C4 0).trans rfl, (blk_cell C4 1).trans rfl, (blk_cell C4 2).trans rfl, (blk_cell C4 3).trans rfl, (blk_cell C4 4).trans rfl, (blk_cell C4 5).trans rfl⟩ (fun hHeld => ?_)
     generalize w5.drew = w6 at C1 C2 C3 C4 Q0 Q1 QL hHeld ⊢
     refine take_ (i := 0) (N := some 46) (v := ?_) (a' := ?_) #[true, false, false, false, false] rfl rfl (by kernel_rfl) (fun _ _ _ h => h) (Or.inl ⟨by rfl, ?_⟩) hHeld ?_ ?_
     rotate_left
     ·rintro w' ⟨s0, s1, s2, s3, s4, s5, s6, s7⟩
      go_simp
      with_reducible rfl
     rotate_left
     ·simp only [Act.put, List.setIfInBounds_toArray, List.set_cons_zero, List.set_cons_succ, i64_w, i32_w]
      rfl
     refine take_ (i := 1) (N := some 47) (v := ?_) (a' := ?_) #[true, true, false, false, false] rfl rfl (by kernel_rfl) (fun _ _ _ h => h) (Or.inl ⟨by rfl, ?_⟩) hHeld ?_ ?_
     rotate_left
     ·rintro w' ⟨s0, s1, s2, s3, s4, s5, s6, s7⟩
      go_simp
      with_reducible rfl
     rotate_left
     ·simp only [Act.put, List.setIfInBounds_toArray, List.set_cons_zero, List.set_cons_succ, i64_w, i32_w]
      rfl
     refine one_ (i := 2) (N := none) #[true, true, true, false, false] rfl rfl (by kernel_rfl) (by decide) (fun K hK => ?_)
     have n0 : w6.cell? ⟨w.heap.size + 1, 0, none⟩ = some (.slice none 0 0) := (blk_cell C1 0).trans rfl
     have nf0 := blk_frozen C1 0
     have n1 : w6.cell? ⟨w.heap.size + 1, 1, none⟩ = some (.slice none 0 0) := (blk_cell C1 1).trans rfl
     have nf1 := blk_frozen C1 1
     refine skip_ (w1 := ((w6.setCell ⟨w.heap.size + 1, 0, none⟩ (Value.slice y0 d_1.length z_0)).setCell ⟨w.heap.size + 1, 1, none⟩ (Value.slice A1' d_2.length c1'))) (by rfl) rfl ?_ ?_
     ·go_simp
     have G1 : ((w6.setCell ⟨w.heap.size + 1, 0, none⟩ (Value.slice y0 d_1.length z_0)).setCell ⟨w.heap.size + 1, 1, none⟩ (Value.slice A1' d_2.length c1')).heap[w.heap.size + 1]? = some (.cells #[Value.slice y0 d_1.length z_0, Value.slice A1' d_2.length c1'] 51 (0, 0)) := blk_put (blk_put C1 0 _ rfl) 1 _ rfl
     have G2 := blk_far (p := ⟨w.heap.size + 1, 1, none⟩) (blk_far (p := ⟨w.heap.size + 1, 0, none⟩) C2 (by show w.heap.size + 2 ≠ w.heap.size + 1; omega) (Value.slice y0 d_1.length z_0)) (by show w.heap.size + 2 ≠ w.heap.size + 1; omega) (Value.slice A1' d_2.length c1')
     have G3 := blk_far (p := ⟨w.heap.size + 1, 1, none⟩) (blk_far (p := ⟨w.heap.size + 1, 0, none⟩) C3 (by show g ≠ w.heap.size + 1; omega) (Value.slice y0 d_1.length z_0)) (by show g ≠ w.heap.size + 1; omega) (Value.slice A1' d_2.length c1')
     have G4 := blk_far (p := ⟨w.heap.size + 1, 1, none⟩) (blk_far (p := ⟨w.heap.size + 1, 0, none⟩) C4 (by show p ≠ w.heap.size + 1; omega) (Value.slice y0 d_1.length z_0)) (by show p ≠ w.heap.size + 1; omega) (Value.slice A1' d_2.length c1')
     have Y0 := Kd.R_set (Kd.R_set Q0 C1 (by decide) 0 (Value.slice y0 d_1.length z_0)) (blk_put C1 0 (Value.slice y0 d_1.length z_0) rfl) (by decide) 1 (Value.slice A1' d_2.length c1')
     have Y1 := Kd.R_set (Kd.R_set Q1 C1 (by decide) 0 (Value.slice y0 d_1.length z_0)) (blk_put C1 0 (Value.slice y0 d_1.length z_0) rfl) (by decide) 1 (Value.slice A1' d_2.length c1')
     have YL := (QL.setCell (p := ⟨w.heap.size + 1, 0, none⟩) (Nat.le_add_right _ _) (Value.slice y0 d_1.length z_0)).setCell (p := ⟨w.heap.size + 1, 1, none⟩) (Nat.le_add_right _ _) (Value.slice A1' d_2.length c1')
     clear n0 n1 nf0 nf1 C1 C2 C3 C4 Q0 Q1 QL hHeld
     generalize ((w6.setCell ⟨w.heap.size + 1, 0, none⟩ (Value.slice y0 d_1.length z_0)).setCell ⟨w.heap.size + 1, 1, none⟩ (Value.slice A1' d_2.length c1')) = w7 at G1 G2 G3 G4 Y0 Y1 YL ⊢
     refine hK.out _ _ ⟨(blk_cell G3 0).trans rfl, (blk_cell G3 1).trans rfl, (blk_cell G4 0).trans rfl, (blk_cell G4 1).trans rfl, (blk_cell G4 2).trans rfl, (blk_cell G4 3).trans rfl, (blk_cell G4 4).trans rfl, (blk_cell G4 5).trans rfl⟩ (fun hHeld => ?_)
     clear hK K
     refine one_ (i := 3) (N := none) #[true, true, true, true, false] rfl rfl (by kernel_rfl) (by decide) (fun K hK => ?_)
     have z0 : w7.cell? ⟨w.heap.size + 2, 0, none⟩ = some (.bool false) := (blk_cell G2 0).trans rfl
     have zf0 := blk_frozen G2 0
     have z1 : w7.cell? ⟨w.heap.size + 2, 1, none⟩ = some (.int .i64 0) := (blk_cell G2 1).trans rfl
     have zf1 := blk_frozen G2 1
     have z2 : w7.cell? ⟨w.heap.size + 2, 2, none⟩ = some (.int .i64 0) := (blk_cell G2 2).trans rfl
     have zf2 := blk_frozen G2 2
     have z3 : w7.cell? ⟨w.heap.size + 2, 3, none⟩ = some (.bool false) := (blk_cell G2 3).trans rfl
     have zf3 := blk_frozen G2 3
     have z4 : w7.cell? ⟨w.heap.size + 2, 4, none⟩ = some (.int .i64 0) := (blk_cell G2 4).trans rfl
     have zf4 := blk_frozen G2 4
     have z5 : w7.cell? ⟨w.heap.size + 2, 5, none⟩ = some (.int .i64 0) := (blk_cell G2 5).trans rfl
     have zf5 := blk_frozen G2 5
     refine skip_ (w1 := ((((((w7.setCell ⟨w.heap.size + 2, 0, none⟩ (.bool q1)).setCell ⟨w.heap.size + 2, 1, none⟩ (.int .i64 q2)).setCell ⟨w.heap.size + 2, 2, none⟩ (.int .i64 q3)).setCell ⟨w.heap.size + 2, 3, none⟩ (.bool true)).setCell ⟨w.heap.size + 2, 4, none⟩ (.int .i64 q5)).setCell ⟨w.heap.size + 2, 5, none⟩ (.int .i64 q6))) (by rfl) rfl ?_ ?_
     ·go_simp
     have G1' := (blk_far (p := ⟨w.heap.size + 2, 5, none⟩) (blk_far (p := ⟨w.heap.size + 2, 4, none⟩) (blk_far (p := ⟨w.heap.size + 2, 3, none⟩) (blk_far (p := ⟨w.heap.size + 2, 2, none⟩) (blk_far (p := ⟨w.heap.size + 2, 1, none⟩) (blk_far (p := ⟨w.heap.size + 2, 0, none⟩) G1 (by show w.heap.size + 1 ≠ w.heap.size + 2; omega) (.bool q1)) (by show w.heap.size + 1 ≠ w.heap.size + 2; omega) (.int .i64 q2)) (by show w.heap.size + 1 ≠ w.heap.size + 2; omega) (.int .i64 q3)) (by show w.heap.size + 1 ≠ w.heap.size + 2; omega) (.bool true)) (by show w.heap.size + 1 ≠ w.heap.size + 2; omega) (.int .i64 q5)) (by show w.heap.size + 1 ≠ w.heap.size + 2; omega) (.int .i64 q6))
     have G3' := (blk_far (p := ⟨w.heap.size + 2, 5, none⟩) (blk_far (p := ⟨w.heap.size + 2, 4, none⟩) (blk_far (p := ⟨w.heap.size + 2, 3, none⟩) (blk_far (p := ⟨w.heap.size + 2, 2, none⟩) (blk_far (p := ⟨w.heap.size + 2, 1, none⟩) (blk_far (p := ⟨w.heap.size + 2, 0, none⟩) G3 (by show g ≠ w.heap.size + 2; omega) (.bool q1)) (by show g ≠ w.heap.size + 2; omega) (.int .i64 q2)) (by show g ≠ w.heap.size + 2; omega) (.int .i64 q3)) (by show g ≠ w.heap.size + 2; omega) (.bool true)) (by show g ≠ w.heap.size + 2; omega) (.int .i64 q5)) (by show g ≠ w.heap.size + 2; omega) (.int .i64 q6))
     have G4' := (blk_far (p := ⟨w.heap.size + 2, 5, none⟩) (blk_far (p := ⟨w.heap.size + 2, 4, none⟩) (blk_far (p := ⟨w.heap.size + 2, 3, none⟩) (blk_far (p := ⟨w.heap.size + 2, 2, none⟩) (blk_far (p := ⟨w.heap.size + 2, 1, none⟩) (blk_far (p := ⟨w.heap.size + 2, 0, none⟩) G4 (by show p ≠ w.heap.size + 2; omega) (.bool q1)) (by show p ≠ w.heap.size + 2; omega) (.int .i64 q2)) (by show p ≠ w.heap.size + 2; omega) (.int .i64 q3)) (by show p ≠ w.heap.size + 2; omega) (.bool true)) (by show p ≠ w.heap.size + 2; omega) (.int .i64 q5)) (by show p ≠ w.heap.size + 2; omega) (.int .i64 q6))
     have G2' : ((((((w7.setCell ⟨w.heap.size + 2, 0, none⟩ (.bool q1)).setCell ⟨w.heap.size + 2, 1, none⟩ (.int .i64 q2)).setCell ⟨w.heap.size + 2, 2, none⟩ (.int .i64 q3)).setCell ⟨w.heap.size + 2, 3, none⟩ (.bool true)).setCell ⟨w.heap.size + 2, 4, none⟩ (.int .i64 q5)).setCell ⟨w.heap.size + 2, 5, none⟩ (.int .i64 q6)).heap[w.heap.size + 2]? = some (.cells #[.bool q1, .int .i64 q2, .int .i64 q3, .bool true, .int .i64 q5, .int .i64 q6] 46 (0, 0)) := z_blk_six G2
     have Y0' := Kd.R_mono (Kd.R_far (p := ⟨w.heap.size + 2, 5, none⟩) (Kd.R_far (p := ⟨w.heap.size + 2, 4, none⟩) (Kd.R_far (p := ⟨w.heap.size + 2, 3, none⟩) (Kd.R_far (p := ⟨w.heap.size + 2, 2, none⟩) (Kd.R_far (p := ⟨w.heap.size + 2, 1, none⟩) (Kd.R_far (p := ⟨w.heap.size + 2, 0, none⟩) Y0 (fun _ hk => hk.1) (.bool q1)) (fun _ hk => hk.1) (.int .i64 q2)) (fun _ hk => hk.1) (.int .i64 q3)) (fun _ hk => hk.1) (.bool true)) (fun _ hk => hk.1) (.int .i64 q5)) (fun _ hk => hk.1) (.int .i64 q6)) (ok' := fun _ => True) (fun _ _ => trivial)
     replace Y1 := Kd.R_types Y1 G2 (by decide)
     have Y1' := Kd.R_mono (Kd.R_far (p := ⟨w.heap.size + 2, 5, none⟩) (Kd.R_far (p := ⟨w.heap.size + 2, 4, none⟩) (Kd.R_far (p := ⟨w.heap.size + 2, 3, none⟩) (Kd.R_far (p := ⟨w.heap.size + 2, 2, none⟩) (Kd.R_far (p := ⟨w.heap.size + 2, 1, none⟩) (Kd.R_far (p := ⟨w.heap.size + 2, 0, none⟩) Y1 (fun _ hk => hk.2) (.bool q1)) (fun _ hk => hk.2) (.int .i64 q2)) (fun _ hk => hk.2) (.int .i64 q3)) (fun _ hk => hk.2) (.bool true)) (fun _ hk => hk.2) (.int .i64 q5)) (fun _ hk => hk.2) (.int .i64 q6)) (ok' := fun _ => True) (fun _ _ => trivial)
     have YL' := ((((((YL.setCell (p := ⟨w.heap.size + 2, 0, none⟩) (Nat.le_add_right _ _) (.bool q1)).setCell (p := ⟨w.heap.size + 2, 1, none⟩) (Nat.le_add_right _ _) (.int .i64 q2)).setCell (p := ⟨w.heap.size + 2, 2, none⟩) (Nat.le_add_right _ _) (.int .i64 q3)).setCell (p := ⟨w.heap.size + 2, 3, none⟩) (Nat.le_add_right _ _) (.bool true)).setCell (p := ⟨w.heap.size + 2, 4, none⟩) (Nat.le_add_right _ _) (.int .i64 q5)).setCell (p := ⟨w.heap.size + 2, 5, none⟩) (Nat.le_add_right _ _) (.int .i64 q6))
     clear G1 G2 G3 G4 Y0 Y1 YL hHeld z0 zf0 z1 zf1 z2 zf2 z3 zf3 z4 zf4 z5 zf5
     generalize ((((((w7.setCell ⟨w.heap.size + 2, 0, none⟩ (.bool q1)).setCell ⟨w.heap.size + 2, 1, none⟩ (.int .i64 q2)).setCell ⟨w.heap.size + 2, 2, none⟩ (.int .i64 q3)).setCell ⟨w.heap.size + 2, 3, none⟩ (.bool true)).setCell ⟨w.heap.size + 2, 4, none⟩ (.int .i64 q5)).setCell ⟨w.heap.size + 2, 5, none⟩ (.int .i64 q6)) = w8 at G1' G2' G3' G4' Y0' Y1' YL' ⊢
     refine hK.out _ _ ⟨(blk_cell G3' 0).trans rfl, (blk_cell G3' 1).trans rfl, (blk_cell G4' 0).trans rfl, (blk_cell G4' 1).trans rfl, (blk_cell G4' 2).trans rfl, (blk_cell G4' 3).trans rfl, (blk_cell G4' 4).trans rfl, (blk_cell G4' 5).trans rfl⟩ (fun hHeld => ?_)
     clear hK K hHeld
     refine pure_ (i := 4) (N := some 10) (v := ?_) (a' := ?_) #[true, true, true, true, true] rfl rfl (by kernel_rfl) (fun _ _ _ h => h) (Or.inl ⟨by rfl, ?_⟩) ?_ ?_
     rotate_left
     ·intro w'
      go_simp
      with_reducible rfl
     rotate_left
     ·simp only [Act.put, List.setIfInBounds_toArray, List.set_cons_zero, List.set_cons_succ, i64_w, i32_w]
      rfl
     refine done_ (by kernel_rfl) ?_
     go_wp2
     exact bodyPost_ret (results_list (rs := [.cell 8 51, .cell 9 46, .tmp 10]) rfl (by simp) (.cell (w.heap.size + 1) 51 #[Value.slice y0 d_1.length z_0, Value.slice A1' d_2.length c1'] (0, 0) _ rfl G1' Try.underlying51 rfl (by kernel_rfl) (.cell (w.heap.size + 2) 46 #[.bool q1, .int .i64 q2, .int .i64 q3, .bool true, .int .i64 q5, .int .i64 q6] (0, 0) _ rfl G2' Try.underlying46 rfl (by kernel_rfl) (.tmp .nil)))) rfl ⟨_, _, rfl, Y0', Y1', YL'⟩
   ·rw [if_neg hl] at h
    have d2 : (q5 != 0) = true := bne_iff_ne.mpr hl
    clear hl
    simp only [Option.some.injEq, Prod.mk.injEq] at h
    obtain ⟨rfl, rfl, rfl, rfl, rfl, rfl, rfl, rfl, rfl⟩ := h
    cases a3 <;> cases q4 <;> first | (exact absurd rfl hm) | skip
    ·clear hm
     go_wp2
     have G1 : ((W3.setCell ⟨w.heap.size + 1, 0, none⟩ (Value.slice y0 S1.length z_0)).setCell ⟨w.heap.size + 1, 1, none⟩ (Value.slice y1 F1.length z_1)).heap[w.heap.size + 1]? = some (.cells #[Value.slice y0 S1.length z_0, Value.slice y1 F1.length z_1] 51 (0, 0)) := blk_put (blk_put U1.out 0 _ rfl) 1 _ rfl
     have G2 : ((W3.setCell ⟨w.heap.size + 1, 0, none⟩ (Value.slice y0 S1.length z_0)).setCell ⟨w.heap.size + 1, 1, none⟩ (Value.slice y1 F1.length z_1)).heap[w.heap.size + 2]? = some (.cells #[.bool false, .int .i64 0, .int .i64 0, .bool false, .int .i64 0, .int .i64 0] 46 (0, 0)) := blk_far (p := ⟨w.heap.size + 1, 1, none⟩) (blk_far (p := ⟨w.heap.size + 1, 0, none⟩) U2.out (by show w.heap.size + 2 ≠ w.heap.size + 1; omega) _) (by show w.heap.size + 2 ≠ w.heap.size + 1; omega) _
     have Y0 := Kd.R_set (Kd.R_set E0.out U1.out (by decide) 0 (Value.slice y0 S1.length z_0)) (blk_put U1.out 0 (Value.slice y0 S1.length z_0) rfl) (by decide) 1 (Value.slice y1 F1.length z_1)
     have Y1 := Kd.R_set (Kd.R_set E1.out U1.out (by decide) 0 (Value.slice y0 S1.length z_0)) (blk_put U1.out 0 (Value.slice y0 S1.length z_0) rfl) (by decide) 1 (Value.slice y1 F1.length z_1)
     have YL := (L3.out.setCell (p := ⟨w.heap.size + 1, 0, none⟩) (Nat.le_add_right _ _) (Value.slice y0 S1.length z_0)).setCell (p := ⟨w.heap.size + 1, 1, none⟩) (Nat.le_add_right _ _) (Value.slice y1 F1.length z_1)
     generalize ((W3.setCell ⟨w.heap.size + 1, 0, none⟩ (Value.slice y0 S1.length z_0)).setCell ⟨w.heap.size + 1, 1, none⟩ (Value.slice y1 F1.length z_1)) = V1 at G1 G2 Y0 Y1 YL ⊢
     have G1' := (blk_far (p := ⟨w.heap.size + 2, 5, none⟩) (blk_far (p := ⟨w.heap.size + 2, 4, none⟩) (blk_far (p := ⟨w.heap.size + 2, 3, none⟩) (blk_far (p := ⟨w.heap.size + 2, 2, none⟩) (blk_far (p := ⟨w.heap.size + 2, 1, none⟩) (blk_far (p := ⟨w.heap.size + 2, 0, none⟩) G1 (by show w.heap.size + 1 ≠ w.heap.size + 2; omega) (.bool false)) (by show w.heap.size + 1 ≠ w.heap.size + 2; omega) (.int .i64 0)) (by show w.heap.size + 1 ≠ w.heap.size + 2; omega) (.int .i64 0)) (by show w.heap.size + 1 ≠ w.heap.size + 2; omega) (.bool false)) (by show w.heap.size + 1 ≠ w.heap.size + 2; omega) (.int .i64 0)) (by show w.heap.size + 1 ≠ w.heap.size + 2; omega) (.int .i64 0))
     have G2' : ((((((V1.setCell ⟨w.heap.size + 2, 0, none⟩ (.bool false)).setCell ⟨w.heap.size + 2, 1, none⟩ (.int .i64 0)).setCell ⟨w.heap.size + 2, 2, none⟩ (.int .i64 0)).setCell ⟨w.heap.size + 2, 3, none⟩ (.bool false)).setCell ⟨w.heap.size + 2, 4, none⟩ (.int .i64 0)).setCell ⟨w.heap.size + 2, 5, none⟩ (.int .i64 0)).heap[w.heap.size + 2]? = some (.cells #[.bool false, .int .i64 0, .int .i64 0, .bool false, .int .i64 0, .int .i64 0] 46 (0, 0)) := z_blk_six G2
     have Y0' := Kd.R_mono (Kd.R_far (p := ⟨w.heap.size + 2, 5, none⟩) (Kd.R_far (p := ⟨w.heap.size + 2, 4, none⟩) (Kd.R_far (p := ⟨w.heap.size + 2, 3, none⟩) (Kd.R_far (p := ⟨w.heap.size + 2, 2, none⟩) (Kd.R_far (p := ⟨w.heap.size + 2, 1, none⟩) (Kd.R_far (p := ⟨w.heap.size + 2, 0, none⟩) Y0 (fun _ hk => hk.1) (.bool false)) (fun _ hk => hk.1) (.int .i64 0)) (fun _ hk => hk.1) (.int .i64 0)) (fun _ hk => hk.1) (.bool false)) (fun _ hk => hk.1) (.int .i64 0)) (fun _ hk => hk.1) (.int .i64 0)) (ok' := fun _ => True) (fun _ _ => trivial)
     replace Y1 := Kd.R_types Y1 G2 (by decide)
     have Y1' := Kd.R_mono (Kd.R_far (p := ⟨w.heap.size + 2, 5, none⟩) (Kd.R_far (p := ⟨w.heap.size + 2, 4, none⟩) (Kd.R_far (p := ⟨w.heap.size + 2, 3, none⟩) (Kd.R_far (p := ⟨w.heap.size + 2, 2, none⟩) (Kd.R_far (p := ⟨w.heap.size + 2, 1, none⟩) (Kd.R_far (p := ⟨w.heap.size + 2, 0, none⟩) Y1 (fun _ hk => hk.2) (.bool false)) (fun _ hk => hk.2) (.int .i64 0)) (fun _ hk => hk.2) (.int .i64 0)) (fun _ hk => hk.2) (.bool false)) (fun _ hk => hk.2) (.int .i64 0)) (fun _ hk => hk.2) (.int .i64 0)) (ok' := fun _ => True) (fun _ _ => trivial)
     have YL' := ((((((YL.setCell (p := ⟨w.heap.size + 2, 0, none⟩) (Nat.le_add_right _ _) (.bool false)).setCell (p := ⟨w.heap.size + 2, 1, none⟩) (Nat.le_add_right _ _) (.int .i64 0)).setCell (p := ⟨w.heap.size + 2, 2, none⟩) (Nat.le_add_right _ _) (.int .i64 0)).setCell (p := ⟨w.heap.size + 2, 3, none⟩) (Nat.le_add_right _ _) (.bool false)).setCell (p := ⟨w.heap.size + 2, 4, none⟩) (Nat.le_add_right _ _) (.int .i64 0)).setCell (p := ⟨w.heap.size + 2, 5, none⟩) (Nat.le_add_right _ _) (.int .i64 0))
     clear G1 G2 Y0 Y1 YL
     generalize ((((((V1.setCell ⟨w.heap.size + 2, 0, none⟩ (.bool false)).setCell ⟨w.heap.size + 2, 1, none⟩ (.int .i64 0)).setCell ⟨w.heap.size + 2, 2, none⟩ (.int .i64 0)).setCell ⟨w.heap.size + 2, 3, none⟩ (.bool false)).setCell ⟨w.heap.size + 2, 4, none⟩ (.int .i64 0)).setCell ⟨w.heap.size + 2, 5, none⟩ (.int .i64 0)) = V2 at G1' G2' Y0' Y1' YL' ⊢
     exact bodyPost_ret (results_list (rs := [.cell 8 51, .cell 9 46, .tmp 10]) rfl (by simp) (.cell (w.heap.size + 1) 51 #[Value.slice y0 S1.length z_0, Value.slice y1 F1.length z_1] (0, 0) _ rfl G1' Try.underlying51 rfl (by kernel_rfl) (.cell (w.heap.size + 2) 46 #[.bool false, .int .i64 0, .int .i64 0, .bool false, .int .i64 0, .int .i64 0] (0, 0) _ rfl G2' Try.underlying46 rfl (by kernel_rfl) (.tmp .nil)))) rfl ⟨_, _, rfl, Y0', Y1', YL'⟩
    ·clear hm
     go_wp2
     have G1 : ((W3.setCell ⟨w.heap.size + 1, 0, none⟩ (Value.slice y0 S1.length z_0)).setCell ⟨w.heap.size + 1, 1, none⟩ (Value.slice y1 F1.length z_1)).heap[w.heap.size + 1]? = some (.cells #[Value.slice y0 S1.length z_0, Value.slice y1 F1.length z_1] 51 (0, 0)) := blk_put (blk_put U1.out 0 _ rfl) 1 _ rfl
     have G2 : ((W3.setCell ⟨w.heap.size + 1, 0, none⟩ (Value.slice y0 S1.length z_0)).setCell ⟨w.heap.size + 1, 1, none⟩ (Value.slice y1 F1.length z_1)).heap[w.heap.size + 2]? = some (.cells #[.bool false, .int .i64 0, .int .i64 0, .bool false, .int .i64 0, .int .i64 0] 46 (0, 0)) := blk_far (p := ⟨w.heap.size + 1, 1, none⟩) (blk_far (p := ⟨w.heap.size + 1, 0, none⟩) U2.out (by show w.heap.size + 2 ≠ w.heap.size + 1; omega) _) (by show w.heap.size + 2 ≠ w.heap.size + 1; omega) _
     have Y0 := Kd.R_set (Kd.R_set E0.out U1.out (by decide) 0 (Value.slice y0 S1.length z_0)) (blk_put U1.out 0 (Value.slice y0 S1.length z_0) rfl) (by decide) 1 (Value.slice y1 F1.length z_1)
     have Y1 := Kd.R_set (Kd.R_set E1.out U1.out (by decide) 0 (Value.slice y0 S1.length z_0)) (blk_put U1.out 0 (Value.slice y0 S1.length z_0) rfl) (by decide) 1 (Value.slice y1 F1.length z_1)
     have YL := (L3.out.setCell (p := ⟨w.heap.size + 1, 0, none⟩) (Nat.le_add_right _ _) (Value.slice y0 S1.length z_0)).setCell (p := ⟨w.heap.size + 1, 1, none⟩) (Nat.le_add_right _ _) (Value.slice y1 F1.length z_1)
     generalize ((W3.setCell ⟨w.heap.size + 1, 0, none⟩ (Value.slice y0 S1.length z_0)).setCell ⟨w.heap.size + 1, 1, none⟩ (Value.slice y1 F1.length z_1)) = V1 at G1 G2 Y0 Y1 YL ⊢
     have G1' := (blk_far (p := ⟨w.heap.size + 2, 5, none⟩) (blk_far (p := ⟨w.heap.size + 2, 4, none⟩) (blk_far (p := ⟨w.heap.size + 2, 3, none⟩) (blk_far (p := ⟨w.heap.size + 2, 2, none⟩) (blk_far (p := ⟨w.heap.size + 2, 1, none⟩) (blk_far (p := ⟨w.heap.size + 2, 0, none⟩) G1 (by show w.heap.size + 1 ≠ w.heap.size + 2; omega) (.bool false)) (by show w.heap.size + 1 ≠ w.heap.size + 2; omega) (.int .i64 0)) (by show w.heap.size + 1 ≠ w.heap.size + 2; omega) (.int .i64 0)) (by show w.heap.size + 1 ≠ w.heap.size + 2; omega) (.bool false)) (by show w.heap.size + 1 ≠ w.heap.size + 2; omega) (.int .i64 0)) (by show w.heap.size + 1 ≠ w.heap.size + 2; omega) (.int .i64 0))
     have G2' : ((((((V1.setCell ⟨w.heap.size + 2, 0, none⟩ (.bool false)).setCell ⟨w.heap.size + 2, 1, none⟩ (.int .i64 0)).setCell ⟨w.heap.size + 2, 2, none⟩ (.int .i64 0)).setCell ⟨w.heap.size + 2, 3, none⟩ (.bool false)).setCell ⟨w.heap.size + 2, 4, none⟩ (.int .i64 0)).setCell ⟨w.heap.size + 2, 5, none⟩ (.int .i64 0)).heap[w.heap.size + 2]? = some (.cells #[.bool false, .int .i64 0, .int .i64 0, .bool false, .int .i64 0, .int .i64 0] 46 (0, 0)) := z_blk_six G2
     have Y0' := Kd.R_mono (Kd.R_far (p := ⟨w.heap.size + 2, 5, none⟩) (Kd.R_far (p := ⟨w.heap.size + 2, 4, none⟩) (Kd.R_far (p := ⟨w.heap.size + 2, 3, none⟩) (Kd.R_far (p := ⟨w.heap.size + 2, 2, none⟩) (Kd.R_far (p := ⟨w.heap.size + 2, 1, none⟩) (Kd.R_far (p := ⟨w.heap.size + 2, 0, none⟩) Y0 (fun _ hk => hk.1) (.bool false)) (fun _ hk => hk.1) (.int .i64 0)) (fun _ hk => hk.1) (.int .i64 0)) (fun _ hk => hk.1) (.bool false)) (fun _ hk => hk.1) (.int .i64 0)) (fun _ hk => hk.1) (.int .i64 0)) (ok' := fun _ => True) (fun _ _ => trivial)
     replace Y1 := Kd.R_types Y1 G2 (by decide)
     have Y1' := Kd.R_mono (Kd.R_far (p := ⟨w.heap.size + 2, 5, none⟩) (Kd.R_far (p := ⟨w.heap.size + 2, 4, none⟩) (Kd.R_far (p := ⟨w.heap.size + 2, 3, none⟩) (Kd.R_far (p := ⟨w.heap.size + 2, 2, none⟩) (Kd.R_far (p := ⟨w.heap.size + 2, 1, none⟩) (Kd.R_far (p := ⟨w.heap.size + 2, 0, none⟩) Y1 (fun _ hk => hk.2) (.bool false)) (fun _ hk => hk.2) (.int .i64 0)) (fun _ hk => hk.2) (.int .i64 0)) (fun _ hk => hk.2) (.bool false)) (fun _ hk => hk.2) (.int .i64 0)) (fun _ hk => hk.2) (.int .i64 0)) (ok' := fun _ => True) (fun _ _ => trivial)
     have YL' := ((((((YL.setCell (p := ⟨w.heap.size + 2, 0, none⟩) (Nat.le_add_right _ _) (.bool false)).setCell (p := ⟨w.heap.size + 2, 1, none⟩) (Nat.le_add_right _ _) (.int .i64 0)).setCell (p := ⟨w.heap.size + 2, 2, none⟩) (Nat.le_add_right _ _) (.int .i64 0)).setCell (p := ⟨w.heap.size + 2, 3, none⟩) (Nat.le_add_right _ _) (.bool false)).setCell (p := ⟨w.heap.size + 2, 4, none⟩) (Nat.le_add_right _ _) (.int .i64 0)).setCell (p := ⟨w.heap.size + 2, 5, none⟩) (Nat.le_add_right _ _) (.int .i64 0))
     clear G1 G2 Y0 Y1 YL
     generalize ((((((V1.setCell ⟨w.heap.size + 2, 0, none⟩ (.bool false)).setCell ⟨w.heap.size + 2, 1, none⟩ (.int .i64 0)).setCell ⟨w.heap.size + 2, 2, none⟩ (.int .i64 0)).setCell ⟨w.heap.size + 2, 3, none⟩ (.bool false)).setCell ⟨w.heap.size + 2, 4, none⟩ (.int .i64 0)).setCell ⟨w.heap.size + 2, 5, none⟩ (.int .i64 0)) = V2 at G1' G2' Y0' Y1' YL' ⊢
     exact bodyPost_ret (results_list (rs := [.cell 8 51, .cell 9 46, .tmp 10]) rfl (by simp) (.cell (w.heap.size + 1) 51 #[Value.slice y0 S1.length z_0, Value.slice y1 F1.length z_1] (0, 0) _ rfl G1' Try.underlying51 rfl (by kernel_rfl) (.cell (w.heap.size + 2) 46 #[.bool false, .int .i64 0, .int .i64 0, .bool false, .int .i64 0, .int .i64 0] (0, 0) _ rfl G2' Try.underlying46 rfl (by kernel_rfl) (.tmp .nil)))) rfl ⟨_, _, rfl, Y0', Y1', YL'⟩
    ·clear hm
     go_wp2
     have G1 : ((W3.setCell ⟨w.heap.size + 1, 0, none⟩ (Value.slice y0 S1.length z_0)).setCell ⟨w.heap.size + 1, 1, none⟩ (Value.slice y1 F1.length z_1)).heap[w.heap.size + 1]? = some (.cells #[Value.slice y0 S1.length z_0, Value.slice y1 F1.length z_1] 51 (0, 0)) := blk_put (blk_put U1.out 0 _ rfl) 1 _ rfl
     have G2 : ((W3.setCell ⟨w.heap.size + 1, 0, none⟩ (Value.slice y0 S1.length z_0)).setCell ⟨w.heap.size + 1, 1, none⟩ (Value.slice y1 F1.length z_1)).heap[w.heap.size + 2]? = some (.cells #[.bool false, .int .i64 0, .int .i64 0, .bool false, .int .i64 0, .int .i64 0] 46 (0, 0)) := blk_far (p := ⟨w.heap.size + 1, 1, none⟩) (blk_far (p := ⟨w.heap.size + 1, 0, none⟩) U2.out (by show w.heap.size + 2 ≠ w.heap.size + 1; omega) _) (by show w.heap.size + 2 ≠ w.heap.size + 1; omega) _
     have Y0 := Kd.R_set (Kd.R_set E0.out U1.out (by decide) 0 (Value.slice y0 S1.length z_0)) (blk_put U1.out 0 (Value.slice y0 S1.length z_0) rfl) (by decide) 1 (Value.slice y1 F1.length z_1)
     have Y1 := Kd.R_set (Kd.R_set E1.out U1.out (by decide) 0 (Value.slice y0 S1.length z_0)) (blk_put U1.out 0 (Value.slice y0 S1.length z_0) rfl) (by decide) 1 (Value.slice y1 F1.length z_1)
     have YL := (L3.out.setCell (p := ⟨w.heap.size + 1, 0, none⟩) (Nat.le_add_right _ _) (Value.slice y0 S1.length z_0)).setCell (p := ⟨w.heap.size + 1, 1, none⟩) (Nat.le_add_right _ _) (Value.slice y1 F1.length z_1)
     generalize ((W3.setCell ⟨w.heap.size + 1, 0, none⟩ (Value.slice y0 S1.length z_0)).setCell ⟨w.heap.size + 1, 1, none⟩ (Value.slice y1 F1.length z_1)) = V1 at G1 G2 Y0 Y1 YL ⊢
     have G1' := (blk_far (p := ⟨w.heap.size + 2, 5, none⟩) (blk_far (p := ⟨w.heap.size + 2, 4, none⟩) (blk_far (p := ⟨w.heap.size + 2, 3, none⟩) (blk_far (p := ⟨w.heap.size + 2, 2, none⟩) (blk_far (p := ⟨w.heap.size + 2, 1, none⟩) (blk_far (p := ⟨w.heap.size + 2, 0, none⟩) G1 (by show w.heap.size + 1 ≠ w.heap.size + 2; omega) (.bool false)) (by show w.heap.size + 1 ≠ w.heap.size + 2; omega) (.int .i64 0)) (by show w.heap.size + 1 ≠ w.heap.size + 2; omega) (.int .i64 0)) (by show w.heap.size + 1 ≠ w.heap.size + 2; omega) (.bool false)) (by show w.heap.size + 1 ≠ w.heap.size + 2; omega) (.int .i64 0)) (by show w.heap.size + 1 ≠ w.heap.size + 2; omega) (.int .i64 0))
     have G2' : ((((((V1.setCell ⟨w.heap.size + 2, 0, none⟩ (.bool false)).setCell ⟨w.heap.size + 2, 1, none⟩ (.int .i64 0)).setCell ⟨w.heap.size + 2, 2, none⟩ (.int .i64 0)).setCell ⟨w.heap.size + 2, 3, none⟩ (.bool false)).setCell ⟨w.heap.size + 2, 4, none⟩ (.int .i64 0)).setCell ⟨w.heap.size + 2, 5, none⟩ (.int .i64 0)).heap[w.heap.size + 2]? = some (.cells #[.bool false, .int .i64 0, .int .i64 0, .bool false, .int .i64 0, .int .i64 0] 46 (0, 0)) := z_blk_six G2
     have Y0' := Kd.R_mono (Kd.R_far (p := ⟨w.heap.size + 2, 5, none⟩) (Kd.R_far (p := ⟨w.heap.size + 2, 4, none⟩) (Kd.R_far (p := ⟨w.heap.size + 2, 3, none⟩) (Kd.R_far (p := ⟨w.heap.size + 2, 2, none⟩) (Kd.R_far (p := ⟨w.heap.size + 2, 1, none⟩) (Kd.R_far (p := ⟨w.heap.size + 2, 0, none⟩) Y0 (fun _ hk => hk.1) (.bool false)) (fun _ hk => hk.1) (.int .i64 0)) (fun _ hk => hk.1) (.int .i64 0)) (fun _ hk => hk.1) (.bool false)) (fun _ hk => hk.1) (.int .i64 0)) (fun _ hk => hk.1) (.int .i64 0)) (ok' := fun _ => True) (fun _ _ => trivial)
     replace Y1 := Kd.R_types Y1 G2 (by decide)
     have Y1' := Kd.R_mono (Kd.R_far (p := ⟨w.heap.size + 2, 5, none⟩) (Kd.R_far (p := ⟨w.heap.size + 2, 4, none⟩) (Kd.R_far (p := ⟨w.heap.size + 2, 3, none⟩) (Kd.R_far (p := ⟨w.heap.size + 2, 2, none⟩) (Kd.R_far (p := ⟨w.heap.size + 2, 1, none⟩) (Kd.R_far (p := ⟨w.heap.size + 2, 0, none⟩) Y1 (fun _ hk => hk.2) (.bool false)) (fun _ hk => hk.2) (.int .i64 0)) (fun _ hk => hk.2) (.int .i64 0)) (fun _ hk => hk.2) (.bool false)) (fun _ hk => hk.2) (.int .i64 0)) (fun _ hk => hk.2) (.int .i64 0)) (ok' := fun _ => True) (fun _ _ => trivial)
     have YL' := ((((((YL.setCell (p := ⟨w.heap.size + 2, 0, none⟩) (Nat.le_add_right _ _) (.bool false)).setCell (p := ⟨w.heap.size + 2, 1, none⟩) (Nat.le_add_right _ _) (.int .i64 0)).setCell (p := ⟨w.heap.size + 2, 2, none⟩) (Nat.le_add_right _ _) (.int .i64 0)).setCell (p := ⟨w.heap.size + 2, 3, none⟩) (Nat.le_add_right _ _) (.bool false)).setCell (p := ⟨w.heap.size + 2, 4, none⟩) (Nat.le_add_right _ _) (.int .i64 0)).setCell (p := ⟨w.heap.size + 2, 5, none⟩) (Nat.le_add_right _ _) (.int .i64 0))
     clear G1 G2 Y0 Y1 YL
     generalize ((((((V1.setCell ⟨w.heap.size + 2, 0, none⟩ (.bool false)).setCell ⟨w.heap.size + 2, 1, none⟩ (.int .i64 0)).setCell ⟨w.heap.size + 2, 2, none⟩ (.int .i64 0)).setCell ⟨w.heap.size + 2, 3, none⟩ (.bool false)).setCell ⟨w.heap.size + 2, 4, none⟩ (.int .i64 0)).setCell ⟨w.heap.size + 2, 5, none⟩ (.int .i64 0)) = V2 at G1' G2' Y0' Y1' YL' ⊢
     exact bodyPost_ret (results_list (rs := [.cell 8 51, .cell 9 46, .tmp 10]) rfl (by simp) (.cell (w.heap.size + 1) 51 #[Value.slice y0 S1.length z_0, Value.slice y1 F1.length z_1] (0, 0) _ rfl G1' Try.underlying51 rfl (by kernel_rfl) (.cell (w.heap.size + 2) 46 #[.bool false, .int .i64 0, .int .i64 0, .bool false, .int .i64 0, .int .i64 0] (0, 0) _ rfl G2' Try.underlying46 rfl (by kernel_rfl) (.tmp .nil)))) rfl ⟨_, _, rfl, Y0', Y1', YL'⟩
 ·rw [if_neg hc] at h
  have d1 : (q7 != 0) = true := bne_iff_ne.mpr hc
  clear hc
  simp only [Option.some.injEq, Prod.mk.injEq] at h
  obtain ⟨rfl, rfl, rfl, rfl, rfl, rfl, rfl, rfl, rfl⟩ := h
  go_wp2
  have G1 : ((W3.setCell ⟨w.heap.size + 1, 0, none⟩ (Value.slice y0 S1.length z_0)).setCell ⟨w.heap.size + 1, 1, none⟩ (Value.slice y1 F1.length z_1)).heap[w.heap.size + 1]? = some (.cells #[Value.slice y0 S1.length z_0, Value.slice y1 F1.length z_1] 51 (0, 0)) := blk_put (blk_put U1.out 0 _ rfl) 1 _ rfl
  have G2 : ((W3.setCell ⟨w.heap.size + 1, 0, none⟩ (Value.slice y0 S1.length z_0)).setCell ⟨w.heap.size + 1, 1, none⟩ (Value.slice y1 F1.length z_1)).heap[w.heap.size + 2]? = some (.cells #[.bool false, .int .i64 0, .int .i64 0, .bool false, .int .i64 0, .int .i64 0] 46 (0, 0)) := blk_far (p := ⟨w.heap.size + 1, 1, none⟩) (blk_far (p := ⟨w.heap.size + 1, 0, none⟩) U2.out (by show w.heap.size + 2 ≠ w.heap.size + 1; omega) _) (by show w.heap.size + 2 ≠ w.heap.size + 1; omega) _
  have Y0 := Kd.R_set (Kd.R_set E0.out U1.out (by decide) 0 (Value.slice y0 S1.length z_0)) (blk_put U1.out 0 (Value.slice y0 S1.length z_0) rfl) (by decide) 1 (Value.slice y1 F1.length z_1)
  have Y1 := Kd.R_set (Kd.R_set E1.out U1.out (by decide) 0 (Value.slice y0 S1.length z_0)) (blk_put U1.out 0 (Value.slice y0 S1.length z_0) rfl) (by decide) 1 (Value.slice y1 F1.length z_1)
  have YL := (L3.out.setCell (p := ⟨w.heap.size + 1, 0, none⟩) (Nat.le_add_right _ _) (Value.slice y0 S1.length z_0)).setCell (p := ⟨w.heap.size + 1, 1, none⟩) (Nat.le_add_right _ _) (Value.slice y1 F1.length z_1)
  generalize ((W3.setCell ⟨w.heap.size + 1, 0, none⟩ (Value.slice y0 S1.length z_0)).setCell ⟨w.heap.size + 1, 1, none⟩ (Value.slice y1 F1.length z_1)) = V1 at G1 G2 Y0 Y1 YL ⊢
  have G1' := (blk_far (p := ⟨w.heap.size + 2, 5, none⟩) (blk_far (p := ⟨w.heap.size + 2, 4, none⟩) (blk_far (p := ⟨w.heap.size + 2, 3, none⟩) (blk_far (p := ⟨w.heap.size + 2, 2, none⟩) (blk_far (p := ⟨w.heap.size + 2, 1, none⟩) (blk_far (p := ⟨w.heap.size + 2, 0, none⟩) G1 (by show w.heap.size + 1 ≠ w.heap.size + 2; omega) (.bool false)) (by show w.heap.size + 1 ≠ w.heap.size + 2; omega) (.int .i64 0)) (by show w.heap.size + 1 ≠ w.heap.size + 2; omega) (.int .i64 0)) (by show w.heap.size + 1 ≠ w.heap.size + 2; omega) (.bool false)) (by show w.heap.size + 1 ≠ w.heap.size + 2; omega) (.int .i64 0)) (by show w.heap.size + 1 ≠ w.heap.size + 2; omega) (.int .i64 0))
  have G2' : ((((((V1.setCell ⟨w.heap.size + 2, 0, none⟩ (.bool false)).setCell ⟨w.heap.size + 2, 1, none⟩ (.int .i64 0)).setCell ⟨w.heap.size + 2, 2, none⟩ (.int .i64 0)).setCell ⟨w.heap.size + 2, 3, none⟩ (.bool false)).setCell ⟨w.heap.size + 2, 4, none⟩ (.int .i64 0)).setCell ⟨w.heap.size + 2, 5, none⟩ (.int .i64 0)).heap[w.heap.size + 2]? = some (.cells #[.bool false, .int .i64 0, .int .i64 0, .bool false, .int .i64 0, .int .i64 0] 46 (0, 0)) := z_blk_six G2
  have Y0' := Kd.R_mono (Kd.R_far (p := ⟨w.heap.size + 2, 5, none⟩) (Kd.R_far (p := ⟨w.heap.size + 2, 4, none⟩) (Kd.R_far (p := ⟨w.heap.size + 2, 3, none⟩) (Kd.R_far (p := ⟨w.heap.size + 2, 2, none⟩) (Kd.R_far (p := ⟨w.heap.size + 2, 1, none⟩) (Kd.R_far (p := ⟨w.heap.size + 2, 0, none⟩) Y0 (fun _ hk => hk.1) (.bool false)) (fun _ hk => hk.1) (.int .i64 0)) (fun _ hk => hk.1) (.int .i64 0)) (fun _ hk => hk.1) (.bool false)) (fun _ hk => hk.1) (.int .i64 0)) (fun _ hk => hk.1) (.int .i64 0)) (ok' := fun _ => True) (fun _ _ => trivial)
  replace Y1 := Kd.R_types Y1 G2 (by decide)
  have Y1' := Kd.R_mono (Kd.R_far (p := ⟨w.heap.size + 2, 5, none⟩) (Kd.R_far (p := ⟨w.heap.size + 2, 4, none⟩) (Kd.R_far (p := ⟨w.heap.size + 2, 3, none⟩) (Kd.R_far (p := ⟨w.heap.size + 2, 2, none⟩) (Kd.R_far (p := ⟨w.heap.size + 2, 1, none⟩) (Kd.R_far (p := ⟨w.heap.size + 2, 0, none⟩) Y1 (fun _ hk => hk.2) (.bool false)) (fun _ hk => hk.2) (.int .i64 0)) (fun _ hk => hk.2) (.int .i64 0)) (fun _ hk => hk.2) (.bool false)) (fun _ hk => hk.2) (.int .i64 0)) (fun _ hk => hk.2) (.int .i64 0)) (ok' := fun _ => True) (fun _ _ => trivial)
  have YL' := ((((((YL.setCell (p := ⟨w.heap.size + 2, 0, none⟩) (Nat.le_add_right _ _) (.bool false)).setCell (p := ⟨w.heap.size + 2, 1, none⟩) (Nat.le_add_right _ _) (.int .i64 0)).setCell (p := ⟨w.heap.size + 2, 2, none⟩) (Nat.le_add_right _ _) (.int .i64 0)).setCell (p := ⟨w.heap.size + 2, 3, none⟩) (Nat.le_add_right _ _) (.bool false)).setCell (p := ⟨w.heap.size + 2, 4, none⟩) (Nat.le_add_right _ _) (.int .i64 0)).setCell (p := ⟨w.heap.size + 2, 5, none⟩) (Nat.le_add_right _ _) (.int .i64 0))
  clear G1 G2 Y0 Y1 YL
  generalize ((((((V1.setCell ⟨w.heap.size + 2, 0, none⟩ (.bool false)).setCell ⟨w.heap.size + 2, 1, none⟩ (.int .i64 0)).setCell ⟨w.heap.size + 2, 2, none⟩ (.int .i64 0)).setCell ⟨w.heap.size + 2, 3, none⟩ (.bool false)).setCell ⟨w.heap.size + 2, 4, none⟩ (.int .i64 0)).setCell ⟨w.heap.size + 2, 5, none⟩ (.int .i64 0)) = V2 at G1' G2' Y0' Y1' YL' ⊢
  exact bodyPost_ret (results_list (rs := [.cell 8 51, .cell 9 46, .tmp 10]) rfl (by simp) (.cell (w.heap.size + 1) 51 #[Value.slice y0 S1.length z_0, Value.slice y1 F1.length z_1] (0, 0) _ rfl G1' Try.underlying51 rfl (by kernel_rfl) (.cell (w.heap.size + 2) 46 #[.bool false, .int .i64 0, .int .i64 0, .bool false, .int .i64 0, .int .i64 0] (0, 0) _ rfl G2' Try.underlying46 rfl (by kernel_rfl) (.tmp .nil)))) rfl ⟨_, _, rfl, Y0', Y1', YL'⟩

def impl_DropHandle.f (k : Nat) (l0_0 : List (S46)) (l0_1 : List Int) (a1 : Int) (a2 : Int) : Option ((List (S46)) × List Int × Bool × Int × Int × Bool × Int × Int × Int) := (impl_leave.f k l0_0 l0_1 a1 a2 false).bind fun bt598 => (some (bt598.1, bt598.2.1, bt598.2.2.1, bt598.2.2.2.1, bt598.2.2.2.2.1, bt598.2.2.2.2.2.1, bt598.2.2.2.2.2.2.1, bt598.2.2.2.2.2.2.2.1, bt598.2.2.2.2.2.2.2.2))
set_option maxHeartbeats 8000000 in
set_option maxRecDepth 100000 in
theorem impl_DropHandle.calls (k : Nat) (A0_0 : Option Addr) (c0_0 : Nat) (l0_0 : List (S46)) (A0_1 : Option Addr) (c0_1 : Nat) (l0_1 : List Int) (a1 : Int) (a2 : Int) (r1 : List (S46)) (r2 : List Int) (r3 : Bool) (r4 : Int) (r5 : Int) (r6 : Bool) (r7 : Int) (r8 : Int) (r9 : Int) (w : World) (hr0_0 : Kd.C k46 w A0_0 l0_0.length l0_0) (hc0_0 : l0_0.length ≤ c0_0) (hr0_1 : Kd.C (Kd.int .i64) w A0_1 l0_1.length l0_1) (hc0_1 : l0_1.length ≤ c0_1) (h : impl_DropHandle.f k l0_0 l0_1 a1 a2 = some (r1, r2, r3, r4, r5, r6, r7, r8, r9)) :
  Calls Try.prog 41 #[.agg #[.slice A0_0 l0_0.length c0_0, .slice A0_1 l0_1.length c0_1], .int .i64 a1, .int .i64 a2] w fun e w' => ∃ v0_ v1_ : Value, e = .returned (.tuple #[.agg #[v0_, v1_], .agg #[.bool r3, .int .i64 r4, .int .i64 r5, .bool r6, .int .i64 r7, .int .i64 r8], .int .i64 r9]) ∧ Kd.R k46 46 w' w.heap.size (fun _ => True) v0_ r1 ∧ Kd.R (Kd.int .i64) 3 w' w.heap.size (fun _ => True) v1_ r2 ∧ Below w.heap.size w w' := by
 have hu51 := Try.underlying51
 have hu46 := Try.underlying46
 have HR0_0 := Aside0.mk hr0_0
 have HC0_0 := Aside0.mk hc0_0
 clear hr0_0 hc0_0
 have HR0_1 := Aside0.mk hr0_1
 have HC0_1 := Aside0.mk hc0_1
 clear hr0_1 hc0_1
 have HB := Aside0.mk (Below.refl w.heap.size w)
 have H : ((impl_leave.f k l0_0 l0_1 a1 a2 false).bind fun bt598 => (some (bt598.1, bt598.2.1, bt598.2.2.1, bt598.2.2.2.1, bt598.2.2.2.2.1, bt598.2.2.2.2.2.1, bt598.2.2.2.2.2.2.1, bt598.2.2.2.2.2.2.2.1, bt598.2.2.2.2.2.2.2.2))) = some (r1, r2, r3, r4, r5, r6, r7, r8, r9) := h
 clear h
 replace H := Option.bind_eq_some_iff.mp H
 obtain ⟨⟨t598, t601, t604, t605, t606, t607, t608, t609, t610⟩, A40, H⟩ := H
 replace H : (some (t598, t601, t604, t605, t606, t607, t608, t609, t610)) = some (r1, r2, r3, r4, r5, r6, r7, r8, r9) := H
 have A4 := Aside0.mk A40
 clear A40
 simp only [Option.some.injEq, Prod.mk.injEq] at H
 obtain ⟨rfl, rfl, rfl, rfl, rfl, rfl, rfl, rfl, rfl⟩ := H
 go_enter Try.func41, Try.ntmps41
 go_wp2_with (first | ((with_reducible refine gate_dst (N := 3) rfl ?_); refine box_event ?hg (N := 3) ?hd (cs := #[.slice A0_0 l0_0.length c0_0, .slice A0_1 l0_1.length c0_1]) (t := 51) ?hr ?_; (case hd => rfl); (case hg => rfl); (case hr => first | (go_simp; done) | (go_simp; rfl)); intro gb595 hg w5 hbox hb; have n0_ := Aside0.mk (below_step (by repeat (first | (with_reducible first | exact HB.out | apply eA | apply eN | apply eD) | exact HB.out)) hb); have n1_ := Aside0.mk (hbox); have n2_ := Aside0.mk ((by rw [hg]; exact (below_size (by repeat (first | (with_reducible first | exact HB.out | apply eA | apply eN | apply eD) | exact HB.out))) : w.heap.size ≤ gb595)); have n3_ := Aside0.mk ((by rw [hg]; exact (below_size (by repeat (first | (with_reducible first | exact HB.out | apply eA | apply eN | apply eD) | exact HB.out))) : w.heap.size ≤ gb595)); clear HB; have HB := n0_; have BK595 := n1_; have GW595 := n2_; have GE595 := n3_; clear n0_ n1_ n2_ n3_; clear hb hbox hg) | ((with_reducible refine gate_dst (N := 6) rfl ?_); refine box_event ?hg (N := 6) ?hd (cs := #[.slice none 0 0, .slice none 0 0]) (t := 51) ?hr ?_; (case hd => rfl); (case hg => rfl); (case hr => first | (go_simp; done) | (go_simp; rfl)); intro gb596 hg w6 hbox hb; have n0_ := Aside0.mk (blk_below (g := gb595) (o := .cells #[.slice A0_0 l0_0.length c0_0, .slice A0_1 l0_1.length c0_1] 51 (0, 0)) (by (with_reducible repeat first | apply bN | apply bD | apply bA); exact BK595.out) hb); have n1_ := Aside0.mk (below_step (by repeat (first | (with_reducible first | exact HB.out | apply eA | apply eN | apply eD | refine below_set ?_ GE595.out) | exact HB.out)) hb); have n2_ := Aside0.mk (hbox); have n3_ := Aside0.mk ((by rw [hg]; exact (below_size (by repeat (first | (with_reducible first | exact HB.out | apply eA | apply eN | apply eD | refine below_set ?_ GE595.out) | exact HB.out))) : w.heap.size ≤ gb596)); have n4_ := Aside0.mk ((by rw [hg]; exact (below_size (by repeat (first | (with_reducible first | exact HB.out | apply eA | apply eN | apply eD | refine below_set ?_ GE595.out) | exact HB.out))) : w.heap.size ≤ gb596)); have n5_ := Aside0.mk ((by rw [hg]; exact Nat.ne_of_lt (blk_lt (g := gb595) (o := .cells #[.slice A0_0 l0_0.length c0_0, .slice A0_1 l0_1.length c0_1] 51 (0, 0)) (by (with_reducible repeat first | apply bN | apply bD | apply bA); exact BK595.out)) : gb595 ≠ gb596)); have n6_ := Aside0.mk ((by rw [hg]; exact Nat.ne_of_gt (blk_lt (g := gb595) (o := .cells #[.slice A0_0 l0_0.length c0_0, .slice A0_1 l0_1.length c0_1] 51 (0, 0)) (by (with_reducible repeat first | apply bN | apply bD | apply bA); exact BK595.out)) : gb596 ≠ gb595)); clear BK595 HB; have BK595 := n0_; have HB := n1_; have BK596 := n2_; have GW596 := n3_; have GE596 := n4_; have NB595_596 := n5_; have NB596_595 := n6_; clear n0_ n1_ n2_ n3_ n4_ n5_ n6_; clear hb hbox hg) | ((with_reducible refine gate_dst (N := 7) rfl ?_); refine box_event ?hg (N := 7) ?hd (cs := #[.bool false, .int .i64 0, .int .i64 0, .bool false, .int .i64 0, .int .i64 0]) (t := 46) ?hr ?_; (case hd => rfl); (case hg => rfl); (case hr => first | (go_simp; done) | (go_simp; rfl)); intro gb597 hg w7 hbox hb; have n0_ := Aside0.mk (blk_below (g := gb595) (o := .cells #[.slice A0_0 l0_0.length c0_0, .slice A0_1 l0_1.length c0_1] 51 (0, 0)) (by (with_reducible repeat first | apply bN | apply bD | apply bA); exact BK595.out) hb); have n1_ := Aside0.mk (blk_below (g := gb596) (o := .cells #[.slice none 0 0, .slice none 0 0] 51 (0, 0)) (by (with_reducible repeat first | apply bN | apply bD | apply bA); exact BK596.out) hb); have n2_ := Aside0.mk (below_step (by repeat (first | (with_reducible first | exact HB.out | apply eA | apply eN | apply eD | refine below_set ?_ GE595.out | refine below_set ?_ GE596.out) | exact HB.out)) hb); have n3_ := Aside0.mk (hbox); have n4_ := Aside0.mk ((by rw [hg]; exact (below_size (by repeat (first | (with_reducible first | exact HB.out | apply eA | apply eN | apply eD | refine below_set ?_ GE595.out | refine below_set ?_ GE596.out) | exact HB.out))) : w.heap.size ≤ gb597)); have n5_ := Aside0.mk ((by rw [hg]; exact (below_size (by repeat (first | (with_reducible first | exact HB.out | apply eA | apply eN | apply eD | refine below_set ?_ GE595.out | refine below_set ?_ GE596.out) | exact HB.out))) : w.heap.size ≤ gb597)); have n6_ := Aside0.mk ((by rw [hg]; exact Nat.ne_of_lt (blk_lt (g := gb595) (o := .cells #[.slice A0_0 l0_0.length c0_0, .slice A0_1 l0_1.length c0_1] 51 (0, 0)) (by (with_reducible repeat first | apply bN | apply bD | apply bA); exact BK595.out)) : gb595 ≠ gb597)); have n7_ := Aside0.mk ((by rw [hg]; exact Nat.ne_of_gt (blk_lt (g := gb595) (o := .cells #[.slice A0_0 l0_0.length c0_0, .slice A0_1 l0_1.length c0_1] 51 (0, 0)) (by (with_reducible repeat first | apply bN | apply bD | apply bA); exact BK595.out)) : gb597 ≠ gb595)); have n8_ := Aside0.mk ((by rw [hg]; exact Nat.ne_of_lt (blk_lt (g := gb596) (o := .cells #[.slice none 0 0, .slice none 0 0] 51 (0, 0)) (by (with_reducible repeat first | apply bN | apply bD | apply bA); exact BK596.out)) : gb596 ≠ gb597)); have n9_ := Aside0.mk ((by rw [hg]; exact Nat.ne_of_gt (blk_lt (g := gb596) (o := .cells #[.slice none 0 0, .slice none 0 0] 51 (0, 0)) (by (with_reducible repeat first | apply bN | apply bD | apply bA); exact BK596.out)) : gb597 ≠ gb596)); clear BK595 BK596 HB; have BK595 := n0_; have BK596 := n1_; have HB := n2_; have BK597 := n3_; have GW597 := n4_; have GE597 := n5_; have NB595_597 := n6_; have NB597_595 := n7_; have NB596_597 := n8_; have NB597_596 := n9_; clear n0_ n1_ n2_ n3_ n4_ n5_ n6_ n7_ n8_ n9_; clear hb hbox hg; have hnb8 := NB595_596.out; have hnc8 := NB596_595.out; have hnb9 := NB595_597.out; have hnc9 := NB597_595.out; have hcz10_0 : w7.cell? ⟨gb595, 0, none⟩ = some (.slice A0_0 l0_0.length c0_0) := (blk_cell BK595.out 0).trans rfl; have hcz10_1 : w7.cell? ⟨gb595, 1, none⟩ = some (.slice A0_1 l0_1.length c0_1) := (blk_cell BK595.out 1).trans rfl; have hfz10_0 := blk_frozen BK595.out 0; have hfz10_1 := blk_frozen BK595.out 1) | ((with_reducible refine gate_callee (f := 85) rfl ?_); refine goesL_ (some 12) rfl rfl Try.func85 (by kernel_rfl) rfl #[.agg #[.slice A0_0 l0_0.length c0_0, .slice A0_1 l0_1.length c0_1], .int .i64 a1, .int .i64 a2, .bool false] rfl (by (try simp only [List.map_toArray, List.map_cons, List.map_nil]); first | done | rfl | (simp only [List.length_drop, List.length_take]; rfl)) ?_; (with_reducible refine (impl_leave.calls k _ _ l0_0 _ _ l0_1 a1 a2 false t598 t601 t604 t605 t606 t607 t608 t609 t610 _ ?side1 ?side2 ?side3 ?side4 A4.out).mono ?_); (case side1 => repeat (first | exact (Kd.C_below HR0_0.out HB.out) | (with_reducible refine Kd.C_alloc ?_ _) | (with_reducible refine Kd.C_drewN ?_ _) | (with_reducible refine Kd.C_drew ?_))); (case side2 => exact HC0_0.out); (case side3 => repeat (first | exact (Kd.C_below HR0_1.out HB.out) | (with_reducible refine Kd.C_alloc ?_ _) | (with_reducible refine Kd.C_drewN ?_ _) | (with_reducible refine Kd.C_drew ?_))); (case side4 => exact HC0_1.out); rintro e w11 ⟨v599, v602, rfl, ho0, ho1, hb⟩; refine ⟨_, rfl, ?_⟩; have n0_ := Aside0.mk (Kd.R_lower (Kd.R_newB ho0 (g := gb597) (o := .cells #[.bool false, .int .i64 0, .int .i64 0, .bool false, .int .i64 0, .int .i64 0] 46 (0, 0)) (by (with_reducible repeat first | apply bN | apply bD | apply bA); exact BK597.out)) (below_size (by repeat (first | (with_reducible first | exact HB.out | apply eA | apply eN | apply eD | refine below_set ?_ GE595.out | refine below_set ?_ GE596.out | refine below_set ?_ GE597.out) | exact HB.out)))); have n1_ := Aside0.mk (Kd.R_lower ho1 (below_size (by repeat (first | (with_reducible first | exact HB.out | apply eA | apply eN | apply eD | refine below_set ?_ GE595.out | refine below_set ?_ GE596.out | refine below_set ?_ GE597.out) | exact HB.out)))); have n2_ := Aside0.mk (blk_below (g := gb595) (o := .cells #[.slice A0_0 l0_0.length c0_0, .slice A0_1 l0_1.length c0_1] 51 (0, 0)) (by (with_reducible repeat first | apply bN | apply bD | apply bA); exact BK595.out) hb); have n3_ := Aside0.mk (blk_below (g := gb596) (o := .cells #[.slice none 0 0, .slice none 0 0] 51 (0, 0)) (by (with_reducible repeat first | apply bN | apply bD | apply bA); exact BK596.out) hb); have n4_ := Aside0.mk (blk_below (g := gb597) (o := .cells #[.bool false, .int .i64 0, .int .i64 0, .bool false, .int .i64 0, .int .i64 0] 46 (0, 0)) (by (with_reducible repeat first | apply bN | apply bD | apply bA); exact BK597.out) hb); have n5_ := Aside0.mk (below_step (by repeat (first | (with_reducible first | exact HB.out | apply eA | apply eN | apply eD | refine below_set ?_ GE595.out | refine below_set ?_ GE596.out | refine below_set ?_ GE597.out) | exact HB.out)) hb); clear BK595 BK596; clear BK597 HB; have HO600 := n0_; have HO603 := n1_; have BK595 := n2_; have BK596 := n3_; have BK597 := n4_; have HB := n5_; clear n0_ n1_ n2_ n3_ n4_ n5_; (try clear hb); (try clear hb2); (try clear hk); (try clear hi); (try clear ho0); (try clear ho1); obtain ⟨Ao12, co12, eo12⟩ := Kd.R_slice HO600.out; subst eo12; have hnb13 := NB596_597.out; have hnc13 := NB597_596.out; have hcz14_0 : w11.cell? ⟨gb596, 0, none⟩ = some (.slice none 0 0) := (blk_cell BK596.out 0).trans rfl; have hcz14_1 : w11.cell? ⟨gb596, 1, none⟩ = some (.slice none 0 0) := (blk_cell BK596.out 1).trans rfl; have hfz14_0 := blk_frozen BK596.out 0; have hfz14_1 := blk_frozen BK596.out 1; obtain ⟨Ao15, co15, eo15⟩ := Kd.R_slice HO603.out; subst eo15; have hcz16_0 : w11.cell? ⟨gb597, 0, none⟩ = some (.bool false) := (blk_cell BK597.out 0).trans rfl; have hcz16_1 : w11.cell? ⟨gb597, 1, none⟩ = some (.int .i64 0) := (blk_cell BK597.out 1).trans rfl; have hcz16_2 : w11.cell? ⟨gb597, 2, none⟩ = some (.int .i64 0) := (blk_cell BK597.out 2).trans rfl; have hcz16_3 : w11.cell? ⟨gb597, 3, none⟩ = some (.bool false) := (blk_cell BK597.out 3).trans rfl; have hcz16_4 : w11.cell? ⟨gb597, 4, none⟩ = some (.int .i64 0) := (blk_cell BK597.out 4).trans rfl; have hcz16_5 : w11.cell? ⟨gb597, 5, none⟩ = some (.int .i64 0) := (blk_cell BK597.out 5).trans rfl; have hfz16_0 := blk_frozen BK597.out 0; have hfz16_1 := blk_frozen BK597.out 1; have hfz16_2 := blk_frozen BK597.out 2; have hfz16_3 := blk_frozen BK597.out 3; have hfz16_4 := blk_frozen BK597.out 4; have hfz16_5 := blk_frozen BK597.out 5))
 refine bodyPost_ret (results_list (rs := [.cell 6 51, .cell 7 46, .tmp 8]) rfl (by simp) (.cell gb596 51 #[.slice Ao12 t598.length co12, .slice Ao15 t601.length co15] (0, 0) _ rfl (by (with_reducible repeat first | apply bN | apply bD | apply bA); refine blk_far ?_ NB596_597.out _; (with_reducible repeat first | apply bN | apply bD | apply bA); refine blk_far ?_ NB596_597.out _; (with_reducible repeat first | apply bN | apply bD | apply bA); refine blk_far ?_ NB596_597.out _; (with_reducible repeat first | apply bN | apply bD | apply bA); refine blk_far ?_ NB596_597.out _; (with_reducible repeat first | apply bN | apply bD | apply bA); refine blk_far ?_ NB596_597.out _; (with_reducible repeat first | apply bN | apply bD | apply bA); refine blk_far ?_ NB596_597.out _; (with_reducible repeat first | apply bN | apply bD | apply bA); refine blk_put (cs := #[.slice Ao12 t598.length co12, .slice none 0 0]) ?_ 1 _ rfl; (with_reducible repeat first | apply bN | apply bD | apply bA); refine blk_put (cs := #[.slice none 0 0, .slice none 0 0]) ?_ 0 _ rfl; (with_reducible repeat first | apply bN | apply bD | apply bA); exact BK596.out) Try.underlying51 rfl (by kernel_rfl) (.cell gb597 46 #[.bool t604, .int .i64 t605, .int .i64 t606, .bool t607, .int .i64 t608, .int .i64 t609] (0, 0) _ rfl (by (with_reducible repeat first | apply bN | apply bD | apply bA); refine blk_put (cs := #[.bool t604, .int .i64 t605, .int .i64 t606, .bool t607, .int .i64 t608, .int .i64 0]) ?_ 5 _ rfl; (with_reducible repeat first | apply bN | apply bD | apply bA); refine blk_put (cs := #[.bool t604, .int .i64 t605, .int .i64 t606, .bool t607, .int .i64 0, .int .i64 0]) ?_ 4 _ rfl; (with_reducible repeat first | apply bN | apply bD | apply bA); refine blk_put (cs := #[.bool t604, .int .i64 t605, .int .i64 t606, .bool false, .int .i64 0, .int .i64 0]) ?_ 3 _ rfl; (with_reducible repeat first | apply bN | apply bD | apply bA); refine blk_put (cs := #[.bool t604, .int .i64 t605, .int .i64 0, .bool false, .int .i64 0, .int .i64 0]) ?_ 2 _ rfl; (with_reducible repeat first | apply bN | apply bD | apply bA); refine blk_put (cs := #[.bool t604, .int .i64 0, .int .i64 0, .bool false, .int .i64 0, .int .i64 0]) ?_ 1 _ rfl; (with_reducible repeat first | apply bN | apply bD | apply bA); refine blk_put (cs := #[.bool false, .int .i64 0, .int .i64 0, .bool false, .int .i64 0, .int .i64 0]) ?_ 0 _ rfl; (with_reducible repeat first | apply bN | apply bD | apply bA); refine blk_far ?_ NB597_596.out _; (with_reducible repeat first | apply bN | apply bD | apply bA); refine blk_far ?_ NB597_596.out _; (with_reducible repeat first | apply bN | apply bD | apply bA); exact BK597.out) Try.underlying46 rfl (by kernel_rfl) (.tmp .nil)))) rfl ?_
 exact ⟨_, _, by first | rfl | (simp [errW_none, errW_some] <;> rfl) | (simp [*, errW_none, errW_some] <;> rfl), by (with_reducible repeat first | apply Kd.R_alloc | apply Kd.R_drewN | apply Kd.R_drew); exact Kd.R_mono (Kd.R_far (p := ⟨gb597, 5, none⟩) (Kd.R_far (p := ⟨gb597, 4, none⟩) (Kd.R_far (p := ⟨gb597, 3, none⟩) (Kd.R_far (p := ⟨gb597, 2, none⟩) (Kd.R_far (p := ⟨gb597, 1, none⟩) (Kd.R_far (p := ⟨gb597, 0, none⟩) (Kd.R_far (p := ⟨gb596, 1, none⟩) (Kd.R_far (p := ⟨gb596, 0, none⟩) (Kd.R_mono (Kd.R_types HO600.out BK596.out (by decide)) (fun k_ hk => (⟨hk, hk.1.2⟩ : _ ∧ k_ ≠ gb597))) (fun _ hk => hk.1.2) (.slice Ao12 t598.length co12)) (fun _ hk => hk.1.2) (.slice Ao15 t601.length co15)) (fun _ hk => hk.2) (.bool t604)) (fun _ hk => hk.2) (.int .i64 t605)) (fun _ hk => hk.2) (.int .i64 t606)) (fun _ hk => hk.2) (.bool t607)) (fun _ hk => hk.2) (.int .i64 t608)) (fun _ hk => hk.2) (.int .i64 t609)) (fun _ hk => trivial), by (with_reducible repeat first | apply Kd.R_alloc | apply Kd.R_drewN | apply Kd.R_drew); exact Kd.R_mono (Kd.R_far (p := ⟨gb597, 5, none⟩) (Kd.R_far (p := ⟨gb597, 4, none⟩) (Kd.R_far (p := ⟨gb597, 3, none⟩) (Kd.R_far (p := ⟨gb597, 2, none⟩) (Kd.R_far (p := ⟨gb597, 1, none⟩) (Kd.R_far (p := ⟨gb597, 0, none⟩) (Kd.R_far (p := ⟨gb596, 1, none⟩) (Kd.R_far (p := ⟨gb596, 0, none⟩) (Kd.R_types (Kd.R_types HO603.out BK596.out (by decide)) BK597.out (by decide)) (fun _ hk => hk.1.2) (.slice Ao12 t598.length co12)) (fun _ hk => hk.1.2) (.slice Ao15 t601.length co15)) (fun _ hk => hk.2) (.bool t604)) (fun _ hk => hk.2) (.int .i64 t605)) (fun _ hk => hk.2) (.int .i64 t606)) (fun _ hk => hk.2) (.bool t607)) (fun _ hk => hk.2) (.int .i64 t608)) (fun _ hk => hk.2) (.int .i64 t609)) (fun _ hk => trivial), by repeat (first | (with_reducible first | exact HB.out | apply eA | apply eN | apply eD | refine below_set ?_ GE595.out | refine below_set ?_ GE596.out | refine below_set ?_ GE597.out) | exact HB.out)⟩

end Go.Proofs.Ytoomeeoijbkmnaa.PH
