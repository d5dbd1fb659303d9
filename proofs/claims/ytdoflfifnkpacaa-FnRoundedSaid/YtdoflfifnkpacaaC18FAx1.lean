-- Printed by a program of this session (after the kit's print.sh, with contracts of its own beside): Lean checks it.
import Derived.Test.YtdoflfifnkpacaaC18FAx0
namespace Go.Proofs.Ytdoflfifnkpacaa.FA
open Go.RowKit Go.Proofs.YtdoflfifnkpacaaW.PrintWords Go.Proofs.YtdoflfifnkpacaaW.PrintLast Go.Proofs.YtdoflfifnkpacaaW.PrintMore
attribute [local go_sem] max2_int min2_int max_two min_two max_three min_three max_four min_four   -- for this text's walks alone
set_option linter.unusedVariables false
set_option linter.unusedSimpArgs false

def spec_l4Kind.f (a0 : Int) : Option (Int × Int × Bool) := if a0 = 16 then (some (5, 10, true)) else (if a0 = 32 then (some (8, 23, true)) else (some (0, 0, false)))
set_option maxHeartbeats 8000000 in
set_option maxRecDepth 100000 in
theorem spec_l4Kind.calls (a0 : Int) (r1 : Int) (r2 : Int) (r3 : Bool) (w : World) (h : spec_l4Kind.f a0 = some (r1, r2, r3)) :
  Calls Try.prog 63 #[.int .i64 a0] w fun e w' => e = .returned (.tuple #[.agg #[.int .u64 r1, .int .u64 r2], .bool r3]) ∧ Below w.heap.size w w' := by
 have hu109 := Try.underlying109
 have HB := Aside0.mk (Below.refl w.heap.size w)
 have H : (if a0 = 16 then (some (5, 10, true)) else (if a0 = 32 then (some (8, 23, true)) else (some (0, 0, false)))) = some (r1, r2, r3) := h
 clear h
 by_cases c2 : a0 = 16
 ·rw [if_pos c2] at H
  have c2b0 : (a0 == 16) = true := beq_iff_eq.mpr c2
  have c2b1 : (a0 != 16) = false := bne_eq_false_iff_eq.mpr c2
  clear c2
  simp only [Option.some.injEq, Prod.mk.injEq] at H
  obtain ⟨rfl, rfl, rfl⟩ := H
  go_enter Try.func63, Try.ntmps63
  go_wp2_with (first | ((with_reducible refine gate_dst (N := 2) rfl ?_); refine box_event ?hg (N := 2) ?hd (cs := #[.int .u64 0, .int .u64 0]) (t := 109) ?hr ?_; (case hd => rfl); (case hg => rfl); (case hr => first | (go_simp; done) | (go_simp; rfl)); intro gb101 hg w3 hbox hb; have BK101 := Aside0.mk (hbox); have GW101 := Aside0.mk (gs_ hg (eb_ HB.out) : w.heap.size ≤ gb101); have GE101 := GW101; replace HB := eh_ hb; clear hb hbox hg; obtain ⟨_, _, _, _⟩ := zc2_ BK101.out))
  refine bodyPost_ret (results_ct rfl _ _ gb101 109 #[.int .u64 5, .int .u64 10] (0, 0) _ rfl (by (with_reducible repeat first | apply bN | apply bD | apply bA); refine blk_put (cs := #[.int .u64 5, .int .u64 0]) ?_ 1 _ rfl; (with_reducible repeat first | apply bN | apply bD | apply bA); refine blk_put (cs := #[.int .u64 0, .int .u64 0]) ?_ 0 _ rfl; (with_reducible repeat first | apply bN | apply bD | apply bA); exact BK101.out) Try.underlying109 rfl (by kernel_rfl)) rfl ?_
  exact ⟨by first | rfl | (simp [errW_none, errW_some] <;> rfl) | (simp [*, errW_none, errW_some] <;> rfl), es_⟩
 ·rw [if_neg c2] at H
  have c2b0 : (a0 == 16) = false := beq_eq_false_iff_ne.mpr c2
  have c2b1 : (a0 != 16) = true := bne_iff_ne.mpr c2
  by_cases c5 : a0 = 32
  ·rw [if_pos c5] at H
   have c5b0 : (a0 == 32) = true := beq_iff_eq.mpr c5
   have c5b1 : (a0 != 32) = false := bne_eq_false_iff_eq.mpr c5
   clear c5
   simp only [Option.some.injEq, Prod.mk.injEq] at H
   obtain ⟨rfl, rfl, rfl⟩ := H
   go_enter Try.func63, Try.ntmps63
   go_wp2_with (first | ((with_reducible refine gate_dst (N := 2) rfl ?_); refine box_event ?hg (N := 2) ?hd (cs := #[.int .u64 0, .int .u64 0]) (t := 109) ?hr ?_; (case hd => rfl); (case hg => rfl); (case hr => first | (go_simp; done) | (go_simp; rfl)); intro gb101 hg w6 hbox hb; have BK101 := Aside0.mk (hbox); have GW101 := Aside0.mk (gs_ hg (eb_ HB.out) : w.heap.size ≤ gb101); have GE101 := GW101; replace HB := eh_ hb; clear hb hbox hg; obtain ⟨_, _, _, _⟩ := zc2_ BK101.out))
   refine bodyPost_ret (results_ct rfl _ _ gb101 109 #[.int .u64 8, .int .u64 23] (0, 0) _ rfl (by (with_reducible repeat first | apply bN | apply bD | apply bA); refine blk_put (cs := #[.int .u64 8, .int .u64 0]) ?_ 1 _ rfl; (with_reducible repeat first | apply bN | apply bD | apply bA); refine blk_put (cs := #[.int .u64 0, .int .u64 0]) ?_ 0 _ rfl; (with_reducible repeat first | apply bN | apply bD | apply bA); exact BK101.out) Try.underlying109 rfl (by kernel_rfl)) rfl ?_
   exact ⟨by first | rfl | (simp [errW_none, errW_some] <;> rfl) | (simp [*, errW_none, errW_some] <;> rfl), es_⟩
  ·rw [if_neg c5] at H
   have c5b0 : (a0 == 32) = false := beq_eq_false_iff_ne.mpr c5
   have c5b1 : (a0 != 32) = true := bne_iff_ne.mpr c5
   simp only [Option.some.injEq, Prod.mk.injEq] at H
   obtain ⟨rfl, rfl, rfl⟩ := H
   go_enter Try.func63, Try.ntmps63
   go_wp2_with (first | ((with_reducible refine gate_dst (N := 2) rfl ?_); refine box_event ?hg (N := 2) ?hd (cs := #[.int .u64 0, .int .u64 0]) (t := 109) ?hr ?_; (case hd => rfl); (case hg => rfl); (case hr => first | (go_simp; done) | (go_simp; rfl)); intro gb101 hg w8 hbox hb; have BK101 := Aside0.mk (hbox); have GW101 := Aside0.mk (gs_ hg (eb_ HB.out) : w.heap.size ≤ gb101); have GE101 := GW101; replace HB := eh_ hb; clear hb hbox hg; obtain ⟨_, _, _, _⟩ := zc2_ BK101.out))
   refine bodyPost_ret (results_ct rfl _ _ gb101 109 #[.int .u64 0, .int .u64 0] (0, 0) _ rfl (by (with_reducible repeat first | apply bN | apply bD | apply bA); refine blk_put (cs := #[.int .u64 0, .int .u64 0]) ?_ 1 _ rfl; (with_reducible repeat first | apply bN | apply bD | apply bA); refine blk_put (cs := #[.int .u64 0, .int .u64 0]) ?_ 0 _ rfl; (with_reducible repeat first | apply bN | apply bD | apply bA); exact BK101.out) Try.underlying109 rfl (by kernel_rfl)) rfl ?_
   exact ⟨by first | rfl | (simp [errW_none, errW_some] <;> rfl) | (simp [*, errW_none, errW_some] <;> rfl), es_⟩

def spec_l4K_mask.f (a0_0 : Int) (a0_1 : Int) : Option (Int) := if 0 ≤ (IntKind.u64.wrap ((IntKind.u64.wrap (a0_0 + a0_1)) + 1)) then (some (((shl .u32 1 (IntKind.u64.wrap ((IntKind.u64.wrap (a0_0 + a0_1)) + 1))) - 1) % 4294967296)) else (none)
set_option maxHeartbeats 8000000 in
set_option maxRecDepth 100000 in
theorem spec_l4K_mask.calls (a0_0 : Int) (a0_1 : Int) (r : Int) (w : World) (h : spec_l4K_mask.f a0_0 a0_1 = some r) :
  Calls Try.prog 121 #[.agg #[.int .u64 a0_0, .int .u64 a0_1]] w fun e w' => e = .returned (.int .u32 r) ∧ Below w.heap.size w w' := by
 have hu109 := Try.underlying109
 have HB := Aside0.mk (Below.refl w.heap.size w)
 have H : (if 0 ≤ (IntKind.u64.wrap ((IntKind.u64.wrap (a0_0 + a0_1)) + 1)) then (some (((shl .u32 1 (IntKind.u64.wrap ((IntKind.u64.wrap (a0_0 + a0_1)) + 1))) - 1) % 4294967296)) else (none)) = some r := h
 clear h
 obtain ⟨ji2, hji2⟩ : ∃ j_ : Int, (IntKind.u64.wrap ((IntKind.u64.wrap (a0_0 + a0_1)) + 1)) = j_ := ⟨_, rfl⟩
 first | rw [hji2] at H | simp only [hji2] at H
 by_cases c3 : 0 ≤ (ji2)
 ·rw [if_pos c3] at H
  have c3b0 := eq_true c3
  have c3b1 : decide (0 ≤ (ji2)) = true := decide_eq_true c3
  clear c3
  obtain ⟨ji4, hji4⟩ : ∃ j_ : Int, (shl .u32 1 (ji2)) = j_ := ⟨_, rfl⟩
  first | rw [hji4] at H | simp only [hji4] at H
  have hji4_ : (IntKind.u32.wrap (1 * 2 ^ min (ji2).toNat 32)) = ji4 := hji4
  have hji4z : (ji2) ≤ 32 → (IntKind.u32.wrap (1 * 2 ^ (ji2).toNat)) = ji4 := shl_small hji4
  have hji4u : (IntKind.u32.wrap (2 ^ min (ji2).toNat 32)) = ji4 := by have h_ := hji4_; rw [Int.one_mul] at h_; exact h_
  have hji4v : (ji2) ≤ 32 → (IntKind.u32.wrap (2 ^ (ji2).toNat)) = ji4 := fun hle_ => by have h_ := hji4z hle_; rw [Int.one_mul] at h_; exact h_
  obtain rfl := Option.some.inj H
  go_enter Try.func121, Try.ntmps121
  go_wp2_with (first | ((with_reducible refine gate_dst (N := 1) rfl ?_); refine box_event ?hg (N := 1) ?hd (cs := #[.int .u64 a0_0, .int .u64 a0_1]) (t := 109) ?hr ?_; (case hd => rfl); (case hg => rfl); (case hr => first | (go_simp; done) | (go_simp; rfl)); intro gb102 hg w5 hbox hb; have BK102 := Aside0.mk (hbox); have GW102 := Aside0.mk (gs_ hg (eb_ HB.out) : w.heap.size ≤ gb102); have GE102 := GW102; replace HB := eh_ hb; clear hb hbox hg; obtain ⟨_, _, _, _⟩ := zc2_ BK102.out))
  go_ret
  exact ⟨by first | rfl | (simp [errW_none, errW_some] <;> rfl) | (simp only [← hji2, ← hji4]; first | rfl | (simp [errW_none, errW_some] <;> rfl)) | (simp [*, errW_none, errW_some] <;> rfl), es_⟩
 ·rw [if_neg c3] at H
  exact absurd H (by simp)

def spec_l4K_least.f (a0_0 : Int) (a0_1 : Int) : Option (Int) := if 0 ≤ (IntKind.u64.wrap (a0_0 - 1)) then (some (wrap64 ((wrap64 (2 - (shl .i64 1 (IntKind.u64.wrap (a0_0 - 1))))) - (wrap64 (a0_1))))) else (none)
set_option maxHeartbeats 8000000 in
set_option maxRecDepth 100000 in
theorem spec_l4K_least.calls (a0_0 : Int) (a0_1 : Int) (r : Int) (w : World) (h : spec_l4K_least.f a0_0 a0_1 = some r) :
  Calls Try.prog 122 #[.agg #[.int .u64 a0_0, .int .u64 a0_1]] w fun e w' => e = .returned (.int .i64 r) ∧ Below w.heap.size w w' := by
 have hu109 := Try.underlying109
 have HB := Aside0.mk (Below.refl w.heap.size w)
 have H : (if 0 ≤ (IntKind.u64.wrap (a0_0 - 1)) then (some (wrap64 ((wrap64 (2 - (shl .i64 1 (IntKind.u64.wrap (a0_0 - 1))))) - (wrap64 (a0_1))))) else (none)) = some r := h
 clear h
 obtain ⟨ji2, hji2⟩ : ∃ j_ : Int, (IntKind.u64.wrap (a0_0 - 1)) = j_ := ⟨_, rfl⟩
 first | rw [hji2] at H | simp only [hji2] at H
 by_cases c3 : 0 ≤ (ji2)
 ·rw [if_pos c3] at H
  have c3b0 := eq_true c3
  have c3b1 : decide (0 ≤ (ji2)) = true := decide_eq_true c3
  clear c3
  obtain ⟨ji4, hji4⟩ : ∃ j_ : Int, (shl .i64 1 (ji2)) = j_ := ⟨_, rfl⟩
  first | rw [hji4] at H | simp only [hji4] at H
  have hji4_ : (IntKind.i64.wrap (1 * 2 ^ min (ji2).toNat 64)) = ji4 := hji4
  have hji4z : (ji2) ≤ 64 → (IntKind.i64.wrap (1 * 2 ^ (ji2).toNat)) = ji4 := shl_small hji4
  have hji4u : (IntKind.i64.wrap (2 ^ min (ji2).toNat 64)) = ji4 := by have h_ := hji4_; rw [Int.one_mul] at h_; exact h_
  have hji4v : (ji2) ≤ 64 → (IntKind.i64.wrap (2 ^ (ji2).toNat)) = ji4 := fun hle_ => by have h_ := hji4z hle_; rw [Int.one_mul] at h_; exact h_
  have hji4y : (wrap64 (1 * 2 ^ min (ji2).toNat 64)) = ji4 := (i64_w _).symm.trans hji4_
  have hji4x : (ji2) ≤ 64 → (wrap64 (1 * 2 ^ (ji2).toNat)) = ji4 := fun h_ => (i64_w _).symm.trans (hji4z h_)
  obtain rfl := Option.some.inj H
  go_enter Try.func122, Try.ntmps122
  go_wp2_with (first | ((with_reducible refine gate_dst (N := 1) rfl ?_); refine box_event ?hg (N := 1) ?hd (cs := #[.int .u64 a0_0, .int .u64 a0_1]) (t := 109) ?hr ?_; (case hd => rfl); (case hg => rfl); (case hr => first | (go_simp; done) | (go_simp; rfl)); intro gb103 hg w5 hbox hb; have BK103 := Aside0.mk (hbox); have GW103 := Aside0.mk (gs_ hg (eb_ HB.out) : w.heap.size ≤ gb103); have GE103 := GW103; replace HB := eh_ hb; clear hb hbox hg; obtain ⟨_, _, _, _⟩ := zc2_ BK103.out))
  go_ret
  exact ⟨by first | rfl | (simp [errW_none, errW_some] <;> rfl) | (simp only [← hji2, ← hji4]; first | rfl | (simp [errW_none, errW_some] <;> rfl)) | (simp [*, errW_none, errW_some] <;> rfl), es_⟩
 ·rw [if_neg c3] at H
  exact absurd H (by simp)

def spec_l4K_open.f (a0_0 : Int) (a0_1 : Int) (a1 : Int) : Option (Bool × Bool × Bool × Int × Int) := (spec_l4K_mask.f a0_0 a0_1).bind fun t106 => (if 0 ≤ a0_1 then (if 0 ≤ a0_0 then (if 0 ≤ (IntKind.u64.wrap (a0_0 + a0_1)) then (if (Go.bits .and .u32 (shr .u32 (Go.bits .and .u32 a1 t106) a0_1) (((shl .u32 1 a0_0) - 1) % 4294967296)) = (((shl .u32 1 a0_0) - 1) % 4294967296) then (some (((shr .u32 (Go.bits .and .u32 a1 t106) (IntKind.u64.wrap (a0_0 + a0_1))) == 1), ((Go.bits .and .u32 (Go.bits .and .u32 a1 t106) (((shl .u32 1 a0_1) - 1) % 4294967296)) == 0), ((Go.bits .and .u32 (Go.bits .and .u32 a1 t106) (((shl .u32 1 a0_1) - 1) % 4294967296)) != 0), 0, 0)) else (if (Go.bits .and .u32 (shr .u32 (Go.bits .and .u32 a1 t106) a0_1) (((shl .u32 1 a0_0) - 1) % 4294967296)) = 0 then ((spec_l4K_least.f a0_0 a0_1).bind fun t108 => (some (((shr .u32 (Go.bits .and .u32 a1 t106) (IntKind.u64.wrap (a0_0 + a0_1))) == 1), false, false, IntKind.u64.wrap (Go.bits .and .u32 (Go.bits .and .u32 a1 t106) (((shl .u32 1 a0_1) - 1) % 4294967296)), t108))) else ((spec_l4K_least.f a0_0 a0_1).bind fun t109 => (some (((shr .u32 (Go.bits .and .u32 a1 t106) (IntKind.u64.wrap (a0_0 + a0_1))) == 1), false, false, IntKind.u64.wrap (Go.bits .or .u32 (Go.bits .and .u32 (Go.bits .and .u32 a1 t106) (((shl .u32 1 a0_1) - 1) % 4294967296)) (shl .u32 1 a0_1)), wrap64 ((wrap64 (t109 + (wrap64 (Go.bits .and .u32 (shr .u32 (Go.bits .and .u32 a1 t106) a0_1) (((shl .u32 1 a0_0) - 1) % 4294967296))))) - 1)))))) else (none)) else (none)) else (none))
set_option maxHeartbeats 8000000 in
set_option maxRecDepth 100000 in
theorem spec_l4K_open.calls (a0_0 : Int) (a0_1 : Int) (a1 : Int) (r1 : Bool) (r2 : Bool) (r3 : Bool) (r4 : Int) (r5 : Int) (w : World) (h : spec_l4K_open.f a0_0 a0_1 a1 = some (r1, r2, r3, r4, r5)) :
  Calls Try.prog 65 #[.agg #[.int .u64 a0_0, .int .u64 a0_1], .int .u32 a1] w fun e w' => e = .returned (.agg #[.bool r1, .bool r2, .bool r3, .int .u64 r4, .int .i64 r5]) ∧ Below w.heap.size w w' := by
 have hu109 := Try.underlying109
 have hu114 := Try.underlying114
 have HB := Aside0.mk (Below.refl w.heap.size w)
 have H : ((spec_l4K_mask.f a0_0 a0_1).bind fun t106 => (if 0 ≤ a0_1 then (if 0 ≤ a0_0 then (if 0 ≤ (IntKind.u64.wrap (a0_0 + a0_1)) then (if (Go.bits .and .u32 (shr .u32 (Go.bits .and .u32 a1 t106) a0_1) (((shl .u32 1 a0_0) - 1) % 4294967296)) = (((shl .u32 1 a0_0) - 1) % 4294967296) then (some (((shr .u32 (Go.bits .and .u32 a1 t106) (IntKind.u64.wrap (a0_0 + a0_1))) == 1), ((Go.bits .and .u32 (Go.bits .and .u32 a1 t106) (((shl .u32 1 a0_1) - 1) % 4294967296)) == 0), ((Go.bits .and .u32 (Go.bits .and .u32 a1 t106) (((shl .u32 1 a0_1) - 1) % 4294967296)) != 0), 0, 0)) else (if (Go.bits .and .u32 (shr .u32 (Go.bits .and .u32 a1 t106) a0_1) (((shl .u32 1 a0_0) - 1) % 4294967296)) = 0 then ((spec_l4K_least.f a0_0 a0_1).bind fun t108 => (some (((shr .u32 (Go.bits .and .u32 a1 t106) (IntKind.u64.wrap (a0_0 + a0_1))) == 1), false, false, IntKind.u64.wrap (Go.bits .and .u32 (Go.bits .and .u32 a1 t106) (((shl .u32 1 a0_1) - 1) % 4294967296)), t108))) else ((spec_l4K_least.f a0_0 a0_1).bind fun t109 => (some (((shr .u32 (Go.bits .and .u32 a1 t106) (IntKind.u64.wrap (a0_0 + a0_1))) == 1), false, false, IntKind.u64.wrap (Go.bits .or .u32 (Go.bits .and .u32 (Go.bits .and .u32 a1 t106) (((shl .u32 1 a0_1) - 1) % 4294967296)) (shl .u32 1 a0_1)), wrap64 ((wrap64 (t109 + (wrap64 (Go.bits .and .u32 (shr .u32 (Go.bits .and .u32 a1 t106) a0_1) (((shl .u32 1 a0_0) - 1) % 4294967296))))) - 1)))))) else (none)) else (none)) else (none))) = some (r1, r2, r3, r4, r5) := h
 clear h
 replace H := Option.bind_eq_some_iff.mp H
 obtain ⟨t106, A30, H⟩ := H
 try dsimp only at H
 have A3 := Aside0.mk A30
 clear A30
 by_cases c4 : 0 ≤ a0_1
 ·rw [if_pos c4] at H
  have c4b0 := eq_true c4
  have c4b1 : decide (0 ≤ a0_1) = true := decide_eq_true c4
  clear c4
  obtain ⟨ji5, hji5⟩ : ∃ j_ : Int, (shl .u32 1 a0_1) = j_ := ⟨_, rfl⟩
  first | rw [hji5] at H | simp only [hji5] at H
  (try rw [hji5] at A3)
  have hji5_ : (IntKind.u32.wrap (1 * 2 ^ min a0_1.toNat 32)) = ji5 := hji5
  have hji5z : a0_1 ≤ 32 → (IntKind.u32.wrap (1 * 2 ^ a0_1.toNat)) = ji5 := shl_small hji5
  have hji5u : (IntKind.u32.wrap (2 ^ min a0_1.toNat 32)) = ji5 := by have h_ := hji5_; rw [Int.one_mul] at h_; exact h_
  have hji5v : a0_1 ≤ 32 → (IntKind.u32.wrap (2 ^ a0_1.toNat)) = ji5 := fun hle_ => by have h_ := hji5z hle_; rw [Int.one_mul] at h_; exact h_
  have c6b0 := eq_true (of_decide_eq_true (by first | (with_reducible assumption) | assumption) : 0 ≤ a0_1)
  obtain ⟨ji7, hji7⟩ : ∃ j_ : Int, (shr .u32 (Go.bits .and .u32 a1 t106) a0_1) = j_ := ⟨_, rfl⟩
  first | rw [hji7] at H | simp only [hji7] at H
  (try rw [hji7] at A3)
  have hji7_ : ((Go.bits .and .u32 a1 t106) / 2 ^ min a0_1.toNat 32) = ji7 := hji7
  have hji7z : a0_1 ≤ 32 → ((Go.bits .and .u32 a1 t106) / 2 ^ a0_1.toNat) = ji7 := shr_small hji7
  by_cases c8 : 0 ≤ a0_0
  ·rw [if_pos c8] at H
   have c8b0 := eq_true c8
   have c8b1 : decide (0 ≤ a0_0) = true := decide_eq_true c8
   clear c8
   obtain ⟨ji9, hji9⟩ : ∃ j_ : Int, (shl .u32 1 a0_0) = j_ := ⟨_, rfl⟩
   first | rw [hji9] at H | simp only [hji9] at H
   (try rw [hji9] at A3)
   have hji9_ : (IntKind.u32.wrap (1 * 2 ^ min a0_0.toNat 32)) = ji9 := hji9
   have hji9z : a0_0 ≤ 32 → (IntKind.u32.wrap (1 * 2 ^ a0_0.toNat)) = ji9 := shl_small hji9
   have hji9u : (IntKind.u32.wrap (2 ^ min a0_0.toNat 32)) = ji9 := by have h_ := hji9_; rw [Int.one_mul] at h_; exact h_
   have hji9v : a0_0 ≤ 32 → (IntKind.u32.wrap (2 ^ a0_0.toNat)) = ji9 := fun hle_ => by have h_ := hji9z hle_; rw [Int.one_mul] at h_; exact h_
   obtain ⟨ji10, hji10⟩ : ∃ j_ : Int, (IntKind.u64.wrap (a0_0 + a0_1)) = j_ := ⟨_, rfl⟩
   first | rw [hji10] at H | simp only [hji10] at H
   (try rw [hji10] at A3)
   by_cases c11 : 0 ≤ (ji10)
   ·rw [if_pos c11] at H
    have c11b0 := eq_true c11
    have c11b1 : decide (0 ≤ (ji10)) = true := decide_eq_true c11
    clear c11
    obtain ⟨ji12, hji12⟩ : ∃ j_ : Int, (shr .u32 (Go.bits .and .u32 a1 t106) (ji10)) = j_ := ⟨_, rfl⟩
    first | rw [hji12] at H | simp only [hji12] at H
    (try rw [hji12] at A3)
    have hji12_ : ((Go.bits .and .u32 a1 t106) / 2 ^ min (ji10).toNat 32) = ji12 := hji12
    have hji12z : (ji10) ≤ 32 → ((Go.bits .and .u32 a1 t106) / 2 ^ (ji10).toNat) = ji12 := shr_small hji12
    have c13b0 := eq_true (of_decide_eq_true (by first | (with_reducible assumption) | assumption) : 0 ≤ a0_0)
    by_cases c15 : (Go.bits .and .u32 (ji7) (((ji9) - 1) % 4294967296)) = (((ji9) - 1) % 4294967296)
    ·rw [if_pos c15] at H
     have c15b0 : ((Go.bits .and .u32 (ji7) (((ji9) - 1) % 4294967296)) == (((ji9) - 1) % 4294967296)) = true := beq_iff_eq.mpr c15
     have c15b1 : ((Go.bits .and .u32 (ji7) (((ji9) - 1) % 4294967296)) != (((ji9) - 1) % 4294967296)) = false := bne_eq_false_iff_eq.mpr c15
     clear c15
     simp only [Option.some.injEq, Prod.mk.injEq] at H
     obtain ⟨rfl, rfl, rfl, rfl, rfl⟩ := H
     go_enter Try.func65, Try.ntmps65
     go_upto_region 13 with (first | ((with_reducible refine gate_dst (N := 2) rfl ?_); refine box_event ?hg (N := 2) ?hd (cs := #[.int .u64 a0_0, .int .u64 a0_1]) (t := 109) ?hr ?_; (case hd => rfl); (case hg => rfl); (case hr => first | (go_simp; done) | (go_simp; rfl)); intro gb235 hg w16 hbox hb; have BK235 := Aside0.mk (hbox); have GW235 := Aside0.mk (gs_ hg (eb_ HB.out) : w.heap.size ≤ gb235); have GE235 := GW235; replace HB := eh_ hb; clear hb hbox hg) | ((with_reducible refine gate_dst (N := 4) rfl ?_); refine box_event ?hg (N := 4) ?hd (cs := #[.bool false, .bool false, .bool false, .int .u64 0, .int .i64 0]) (t := 114) ?hr ?_; (case hd => rfl); (case hg => rfl); (case hr => first | (go_simp; done) | (go_simp; rfl)); intro gb236 hg w17 hbox hb; have BK236 := Aside0.mk (hbox); have GW236 := Aside0.mk (gs_ hg es_ : w.heap.size ≤ gb236); have GE236 := GW236; have NB235_236 := Aside0.mk ((by rw [hg]; exact Nat.ne_of_lt (blk_lt (g := gb235) (o := .cells #[.int .u64 a0_0, .int .u64 a0_1] 109 (0, 0)) (bk_ BK235.out)) : gb235 ≠ gb236)); have NB236_235 := Aside0.mk ((by rw [hg]; exact Nat.ne_of_gt (blk_lt (g := gb235) (o := .cells #[.int .u64 a0_0, .int .u64 a0_1] 109 (0, 0)) (bk_ BK235.out)) : gb236 ≠ gb235)); replace BK235 := bb_ BK235 hb; replace HB := eh_ hb; clear hb hbox hg; have hnb18 := NB235_236.out; have hnc18 := NB236_235.out; obtain ⟨_, _, _, _⟩ := zc2_ BK235.out) | ((with_reducible refine gate_callee (f := 121) rfl ?_); refine gl_ (some 10) rfl rfl Try.func121 (by kernel_rfl) rfl #[.agg #[.int .u64 a0_0, .int .u64 a0_1]] rfl ?_; (with_reducible refine (spec_l4K_mask.calls a0_0 a0_1 t106 _ A3.out).mono ?_); rintro e w20 ⟨rfl, hb⟩; refine ⟨_, rfl, ?_⟩; replace BK235 := bb_ BK235 hb; replace BK236 := bb_ BK236 hb; replace HB := eh_ hb; (try clear hb); obtain ⟨_, _, _, _⟩ := zc2_ BK235.out) | ((with_reducible refine gate_dst (N := 7) rfl ?_); refine box_event ?hg (N := 7) ?hd (cs := #[.bool false, .bool false, .bool false, .int .u64 0, .int .i64 0]) (t := 114) ?hr ?_; (case hd => rfl); (case hg => rfl); (case hr => first | (go_simp; done) | (go_simp; rfl)); intro gb238 hg w22 hbox hb; have BK238 := Aside0.mk (hbox); have GW238 := Aside0.mk (gs_ hg es_ : w.heap.size ≤ gb238); have GE238 := GW238; have NB235_238 := Aside0.mk ((by rw [hg]; exact Nat.ne_of_lt (blk_lt (g := gb235) (o := .cells #[.int .u64 a0_0, .int .u64 a0_1] 109 (0, 0)) (bk_ BK235.out)) : gb235 ≠ gb238)); have NB238_235 := Aside0.mk ((by rw [hg]; exact Nat.ne_of_gt (blk_lt (g := gb235) (o := .cells #[.int .u64 a0_0, .int .u64 a0_1] 109 (0, 0)) (bk_ BK235.out)) : gb238 ≠ gb235)); have NB236_238 := Aside0.mk ((by rw [hg]; exact Nat.ne_of_lt (blk_lt (g := gb236) (o := .cells #[.bool false, .bool false, .bool false, .int .u64 0, .int .i64 0] 114 (0, 0)) (bk_ BK236.out)) : gb236 ≠ gb238)); have NB238_236 := Aside0.mk ((by rw [hg]; exact Nat.ne_of_gt (blk_lt (g := gb236) (o := .cells #[.bool false, .bool false, .bool false, .int .u64 0, .int .i64 0] 114 (0, 0)) (bk_ BK236.out)) : gb238 ≠ gb236)); replace BK235 := bb_ BK235 hb; replace BK236 := bb_ BK236 hb; replace HB := eh_ hb; clear hb hbox hg; have hnb23 := NB238_235.out; have hnc23 := NB235_238.out; have hnb24 := NB238_236.out; have hnc24 := NB236_238.out; obtain ⟨_, _, _, _, _, _, _, _, _, _⟩ := zc5_ BK238.out; obtain ⟨_, _, _, _⟩ := zc2_ BK235.out; obtain ⟨_, _, _, _, _, _, _, _, _, _⟩ := zc5_ BK236.out))
     have n0_ : Aside0 ((((((((w22.setCell ⟨gb238, 0, none⟩ (.bool ((ji12) == 1))).setCell ⟨gb238, 1, none⟩ (.bool false)).setCell ⟨gb238, 2, none⟩ (.bool false)).setCell ⟨gb238, 3, none⟩ (.int .u64 0)).setCell ⟨gb238, 4, none⟩ (.int .i64 0)).setCell ⟨gb238, 1, none⟩ (.bool ((Go.bits .and .u32 (Go.bits .and .u32 a1 t106) (((ji5) - 1) % 4294967296)) == 0))).setCell ⟨gb238, 2, none⟩ (.bool ((Go.bits .and .u32 (Go.bits .and .u32 a1 t106) (((ji5) - 1) % 4294967296)) != 0))).heap[gb238]? = some (.cells #[.bool ((ji12) == 1), .bool ((Go.bits .and .u32 (Go.bits .and .u32 a1 t106) (((ji5) - 1) % 4294967296)) == 0), .bool ((Go.bits .and .u32 (Go.bits .and .u32 a1 t106) (((ji5) - 1) % 4294967296)) != 0), .int .u64 0, .int .i64 0] 114 (0, 0))) := ⟨by refine blk_put (cs := #[.bool ((ji12) == 1), .bool ((Go.bits .and .u32 (Go.bits .and .u32 a1 t106) (((ji5) - 1) % 4294967296)) == 0), .bool false, .int .u64 0, .int .i64 0]) ?_ 2 _ rfl; refine blk_put (cs := #[.bool ((ji12) == 1), .bool false, .bool false, .int .u64 0, .int .i64 0]) ?_ 1 _ rfl; refine blk_put (cs := #[.bool ((ji12) == 1), .bool false, .bool false, .int .u64 0, .int .i64 0]) ?_ 4 _ rfl; refine blk_put (cs := #[.bool ((ji12) == 1), .bool false, .bool false, .int .u64 0, .int .i64 0]) ?_ 3 _ rfl; refine blk_put (cs := #[.bool ((ji12) == 1), .bool false, .bool false, .int .u64 0, .int .i64 0]) ?_ 2 _ rfl; refine blk_put (cs := #[.bool ((ji12) == 1), .bool false, .bool false, .int .u64 0, .int .i64 0]) ?_ 1 _ rfl; refine blk_put (cs := #[.bool false, .bool false, .bool false, .int .u64 0, .int .i64 0]) ?_ 0 _ rfl; exact BK238.out⟩
     have n1_ : Aside0 ((((((((w22.setCell ⟨gb238, 0, none⟩ (.bool ((ji12) == 1))).setCell ⟨gb238, 1, none⟩ (.bool false)).setCell ⟨gb238, 2, none⟩ (.bool false)).setCell ⟨gb238, 3, none⟩ (.int .u64 0)).setCell ⟨gb238, 4, none⟩ (.int .i64 0)).setCell ⟨gb238, 1, none⟩ (.bool ((Go.bits .and .u32 (Go.bits .and .u32 a1 t106) (((ji5) - 1) % 4294967296)) == 0))).setCell ⟨gb238, 2, none⟩ (.bool ((Go.bits .and .u32 (Go.bits .and .u32 a1 t106) (((ji5) - 1) % 4294967296)) != 0))).heap[gb236]? = some (.cells #[.bool false, .bool false, .bool false, .int .u64 0, .int .i64 0] 114 (0, 0))) := ⟨by refine blk_far ?_ NB236_238.out _; refine blk_far ?_ NB236_238.out _; refine blk_far ?_ NB236_238.out _; refine blk_far ?_ NB236_238.out _; refine blk_far ?_ NB236_238.out _; refine blk_far ?_ NB236_238.out _; refine blk_far ?_ NB236_238.out _; exact BK236.out⟩
     have n2_ : Aside0 (Below w.heap.size w (((((((w22.setCell ⟨gb238, 0, none⟩ (.bool ((ji12) == 1))).setCell ⟨gb238, 1, none⟩ (.bool false)).setCell ⟨gb238, 2, none⟩ (.bool false)).setCell ⟨gb238, 3, none⟩ (.int .u64 0)).setCell ⟨gb238, 4, none⟩ (.int .i64 0)).setCell ⟨gb238, 1, none⟩ (.bool ((Go.bits .and .u32 (Go.bits .and .u32 a1 t106) (((ji5) - 1) % 4294967296)) == 0))).setCell ⟨gb238, 2, none⟩ (.bool ((Go.bits .and .u32 (Go.bits .and .u32 a1 t106) (((ji5) - 1) % 4294967296)) != 0)))) := ⟨by refine below_set ?_ GE238.out; refine below_set ?_ GE238.out; refine below_set ?_ GE238.out; refine below_set ?_ GE238.out; refine below_set ?_ GE238.out; refine below_set ?_ GE238.out; refine below_set ?_ GE238.out; exact HB.out⟩
     clear BK238 BK236 HB
     generalize (((((((w22.setCell ⟨gb238, 0, none⟩ (.bool ((ji12) == 1))).setCell ⟨gb238, 1, none⟩ (.bool false)).setCell ⟨gb238, 2, none⟩ (.bool false)).setCell ⟨gb238, 3, none⟩ (.int .u64 0)).setCell ⟨gb238, 4, none⟩ (.int .i64 0)).setCell ⟨gb238, 1, none⟩ (.bool ((Go.bits .and .u32 (Go.bits .and .u32 a1 t106) (((ji5) - 1) % 4294967296)) == 0))).setCell ⟨gb238, 2, none⟩ (.bool ((Go.bits .and .u32 (Go.bits .and .u32 a1 t106) (((ji5) - 1) % 4294967296)) != 0))) = w99 at n0_ n1_ n2_ ⊢
     generalize hg90 : ((ji12) == 1) = g90 at n0_ ⊢
     generalize hg91 : ((Go.bits .and .u32 (Go.bits .and .u32 a1 t106) (((ji5) - 1) % 4294967296)) == 0) = g91 at n0_ ⊢
     generalize hg92 : ((Go.bits .and .u32 (Go.bits .and .u32 a1 t106) (((ji5) - 1) % 4294967296)) != 0) = g92 at n0_ ⊢
     have BK238 := n0_
     have BK236 := n1_
     have HB := n2_
     clear n0_ n1_ n2_
     have hnb91 := NB238_236.out
     have hnc91 := NB236_238.out
     have hcz98_0 : w99.cell? ⟨gb238, 0, none⟩ = some (.bool g90) := (blk_cell BK238.out 0).trans rfl
     have hfz98_0 := blk_frozen BK238.out 0
     have hcz98_1 : w99.cell? ⟨gb238, 1, none⟩ = some (.bool g91) := (blk_cell BK238.out 1).trans rfl
     have hfz98_1 := blk_frozen BK238.out 1
     have hcz98_2 : w99.cell? ⟨gb238, 2, none⟩ = some (.bool g92) := (blk_cell BK238.out 2).trans rfl
     have hfz98_2 := blk_frozen BK238.out 2
     have hcz98_3 : w99.cell? ⟨gb238, 3, none⟩ = some (.int .u64 0) := (blk_cell BK238.out 3).trans rfl
     have hfz98_3 := blk_frozen BK238.out 3
     have hcz98_4 : w99.cell? ⟨gb238, 4, none⟩ = some (.int .i64 0) := (blk_cell BK238.out 4).trans rfl
     have hfz98_4 := blk_frozen BK238.out 4
     have hcz97_0 : w99.cell? ⟨gb236, 0, none⟩ = some (.bool false) := (blk_cell BK236.out 0).trans rfl
     have hfz97_0 := blk_frozen BK236.out 0
     have hcz97_1 : w99.cell? ⟨gb236, 1, none⟩ = some (.bool false) := (blk_cell BK236.out 1).trans rfl
     have hfz97_1 := blk_frozen BK236.out 1
     have hcz97_2 : w99.cell? ⟨gb236, 2, none⟩ = some (.bool false) := (blk_cell BK236.out 2).trans rfl
     have hfz97_2 := blk_frozen BK236.out 2
     have hcz97_3 : w99.cell? ⟨gb236, 3, none⟩ = some (.int .u64 0) := (blk_cell BK236.out 3).trans rfl
     have hfz97_3 := blk_frozen BK236.out 3
     have hcz97_4 : w99.cell? ⟨gb236, 4, none⟩ = some (.int .i64 0) := (blk_cell BK236.out 4).trans rfl
     have hfz97_4 := blk_frozen BK236.out 4
     go_wp2
     subst hg90
     subst hg91
     subst hg92
     refine bodyPost_ret (results_cell_row rfl _ _ gb236 114 #[.bool ((ji12) == 1), .bool ((Go.bits .and .u32 (Go.bits .and .u32 a1 t106) (((ji5) - 1) % 4294967296)) == 0), .bool ((Go.bits .and .u32 (Go.bits .and .u32 a1 t106) (((ji5) - 1) % 4294967296)) != 0), .int .u64 0, .int .i64 0] (0, 0) _ rfl (by refine blk_put (cs := #[.bool ((ji12) == 1), .bool ((Go.bits .and .u32 (Go.bits .and .u32 a1 t106) (((ji5) - 1) % 4294967296)) == 0), .bool ((Go.bits .and .u32 (Go.bits .and .u32 a1 t106) (((ji5) - 1) % 4294967296)) != 0), .int .u64 0, .int .i64 0]) ?_ 4 _ rfl; refine blk_put (cs := #[.bool ((ji12) == 1), .bool ((Go.bits .and .u32 (Go.bits .and .u32 a1 t106) (((ji5) - 1) % 4294967296)) == 0), .bool ((Go.bits .and .u32 (Go.bits .and .u32 a1 t106) (((ji5) - 1) % 4294967296)) != 0), .int .u64 0, .int .i64 0]) ?_ 3 _ rfl; refine blk_put (cs := #[.bool ((ji12) == 1), .bool ((Go.bits .and .u32 (Go.bits .and .u32 a1 t106) (((ji5) - 1) % 4294967296)) == 0), .bool false, .int .u64 0, .int .i64 0]) ?_ 2 _ rfl; refine blk_put (cs := #[.bool ((ji12) == 1), .bool false, .bool false, .int .u64 0, .int .i64 0]) ?_ 1 _ rfl; refine blk_put (cs := #[.bool false, .bool false, .bool false, .int .u64 0, .int .i64 0]) ?_ 0 _ rfl; exact BK236.out) Try.underlying114 rfl (by kernel_rfl)) rfl ?_
     exact ⟨by first | rfl | (simp [errW_none, errW_some] <;> rfl) | (simp only [← hji5, ← hji7, ← hji9, ← hji10, ← hji12]; first | rfl | (simp [errW_none, errW_some] <;> rfl)) | (simp [*, errW_none, errW_some] <;> rfl), es_⟩
    ·rw [if_neg c15] at H
     have c15b0 : ((Go.bits .and .u32 (ji7) (((ji9) - 1) % 4294967296)) == (((ji9) - 1) % 4294967296)) = false := beq_eq_false_iff_ne.mpr c15
     have c15b1 : ((Go.bits .and .u32 (ji7) (((ji9) - 1) % 4294967296)) != (((ji9) - 1) % 4294967296)) = true := bne_iff_ne.mpr c15
     by_cases c28 : (Go.bits .and .u32 (ji7) (((ji9) - 1) % 4294967296)) = 0
     ·rw [if_pos c28] at H
      have c28b0 : ((Go.bits .and .u32 (ji7) (((ji9) - 1) % 4294967296)) == 0) = true := beq_iff_eq.mpr c28
      have c28b1 : ((Go.bits .and .u32 (ji7) (((ji9) - 1) % 4294967296)) != 0) = false := bne_eq_false_iff_eq.mpr c28
      clear c28
      replace H := Option.bind_eq_some_iff.mp H
      obtain ⟨t108, A290, H⟩ := H
      try dsimp only at H
      have A29 := Aside0.mk A290
      clear A290
      simp only [Option.some.injEq, Prod.mk.injEq] at H
      obtain ⟨rfl, rfl, rfl, rfl, rfl⟩ := H
      go_enter Try.func65, Try.ntmps65
      go_upto_region 13 with (first | ((with_reducible refine gate_dst (N := 2) rfl ?_); refine box_event ?hg (N := 2) ?hd (cs := #[.int .u64 a0_0, .int .u64 a0_1]) (t := 109) ?hr ?_; (case hd => rfl); (case hg => rfl); (case hr => first | (go_simp; done) | (go_simp; rfl)); intro gb235 hg w30 hbox hb; have BK235 := Aside0.mk (hbox); have GW235 := Aside0.mk (gs_ hg (eb_ HB.out) : w.heap.size ≤ gb235); have GE235 := GW235; replace HB := eh_ hb; clear hb hbox hg) | ((with_reducible refine gate_dst (N := 4) rfl ?_); refine box_event ?hg (N := 4) ?hd (cs := #[.bool false, .bool false, .bool false, .int .u64 0, .int .i64 0]) (t := 114) ?hr ?_; (case hd => rfl); (case hg => rfl); (case hr => first | (go_simp; done) | (go_simp; rfl)); intro gb236 hg w31 hbox hb; have BK236 := Aside0.mk (hbox); have GW236 := Aside0.mk (gs_ hg es_ : w.heap.size ≤ gb236); have GE236 := GW236; have NB235_236 := Aside0.mk ((by rw [hg]; exact Nat.ne_of_lt (blk_lt (g := gb235) (o := .cells #[.int .u64 a0_0, .int .u64 a0_1] 109 (0, 0)) (bk_ BK235.out)) : gb235 ≠ gb236)); have NB236_235 := Aside0.mk ((by rw [hg]; exact Nat.ne_of_gt (blk_lt (g := gb235) (o := .cells #[.int .u64 a0_0, .int .u64 a0_1] 109 (0, 0)) (bk_ BK235.out)) : gb236 ≠ gb235)); replace BK235 := bb_ BK235 hb; replace HB := eh_ hb; clear hb hbox hg; have hnb32 := NB235_236.out; have hnc32 := NB236_235.out; obtain ⟨_, _, _, _⟩ := zc2_ BK235.out) | ((with_reducible refine gate_callee (f := 121) rfl ?_); refine gl_ (some 10) rfl rfl Try.func121 (by kernel_rfl) rfl #[.agg #[.int .u64 a0_0, .int .u64 a0_1]] rfl ?_; (with_reducible refine (spec_l4K_mask.calls a0_0 a0_1 t106 _ A3.out).mono ?_); rintro e w34 ⟨rfl, hb⟩; refine ⟨_, rfl, ?_⟩; replace BK235 := bb_ BK235 hb; replace BK236 := bb_ BK236 hb; replace HB := eh_ hb; (try clear hb); obtain ⟨_, _, _, _⟩ := zc2_ BK235.out) | ((with_reducible refine gate_dst (N := 7) rfl ?_); refine box_event ?hg (N := 7) ?hd (cs := #[.bool false, .bool false, .bool false, .int .u64 0, .int .i64 0]) (t := 114) ?hr ?_; (case hd => rfl); (case hg => rfl); (case hr => first | (go_simp; done) | (go_simp; rfl)); intro gb238 hg w36 hbox hb; have BK238 := Aside0.mk (hbox); have GW238 := Aside0.mk (gs_ hg es_ : w.heap.size ≤ gb238); have GE238 := GW238; have NB235_238 := Aside0.mk ((by rw [hg]; exact Nat.ne_of_lt (blk_lt (g := gb235) (o := .cells #[.int .u64 a0_0, .int .u64 a0_1] 109 (0, 0)) (bk_ BK235.out)) : gb235 ≠ gb238)); have NB238_235 := Aside0.mk ((by rw [hg]; exact Nat.ne_of_gt (blk_lt (g := gb235) (o := .cells #[.int .u64 a0_0, .int .u64 a0_1] 109 (0, 0)) (bk_ BK235.out)) : gb238 ≠ gb235)); have NB236_238 := Aside0.mk ((by rw [hg]; exact Nat.ne_of_lt (blk_lt (g := gb236) (o := .cells #[.bool false, .bool false, .bool false, .int .u64 0, .int .i64 0] 114 (0, 0)) (bk_ BK236.out)) : gb236 ≠ gb238)); have NB238_236 := Aside0.mk ((by rw [hg]; exact Nat.ne_of_gt (blk_lt (g := gb236) (o := .cells #[.bool false, .bool false, .bool false, .int .u64 0, .int .i64 0] 114 (0, 0)) (bk_ BK236.out)) : gb238 ≠ gb236)); replace BK235 := bb_ BK235 hb; replace BK236 := bb_ BK236 hb; replace HB := eh_ hb; clear hb hbox hg; have hnb37 := NB238_235.out; have hnc37 := NB235_238.out; have hnb38 := NB238_236.out; have hnc38 := NB236_238.out; obtain ⟨_, _, _, _, _, _, _, _, _, _⟩ := zc5_ BK238.out; obtain ⟨_, _, _, _⟩ := zc2_ BK235.out) | ((with_reducible refine gate_callee (f := 122) rfl ?_); refine gl_ (some 70) rfl rfl Try.func122 (by kernel_rfl) rfl #[.agg #[.int .u64 a0_0, .int .u64 a0_1]] rfl ?_; (with_reducible refine (spec_l4K_least.calls a0_0 a0_1 t108 _ A29.out).mono ?_); rintro e w41 ⟨rfl, hb⟩; refine ⟨_, rfl, ?_⟩; replace BK235 := Aside0.mk (blk_below (g := gb235) (o := .cells #[.int .u64 a0_0, .int .u64 a0_1] 109 (0, 0)) (by (with_reducible repeat first | apply bN | apply bD | apply bA); refine blk_far ?_ NB235_238.out _; (with_reducible repeat first | apply bN | apply bD | apply bA); refine blk_far ?_ NB235_238.out _; (with_reducible repeat first | apply bN | apply bD | apply bA); refine blk_far ?_ NB235_238.out _; (with_reducible repeat first | apply bN | apply bD | apply bA); refine blk_far ?_ NB235_238.out _; (with_reducible repeat first | apply bN | apply bD | apply bA); refine blk_far ?_ NB235_238.out _; (with_reducible repeat first | apply bN | apply bD | apply bA); refine blk_far ?_ NB235_238.out _; (with_reducible repeat first | apply bN | apply bD | apply bA); exact BK235.out) hb); replace BK236 := Aside0.mk (blk_below (g := gb236) (o := .cells #[.bool false, .bool false, .bool false, .int .u64 0, .int .i64 0] 114 (0, 0)) (by (with_reducible repeat first | apply bN | apply bD | apply bA); refine blk_far ?_ NB236_238.out _; (with_reducible repeat first | apply bN | apply bD | apply bA); refine blk_far ?_ NB236_238.out _; (with_reducible repeat first | apply bN | apply bD | apply bA); refine blk_far ?_ NB236_238.out _; (with_reducible repeat first | apply bN | apply bD | apply bA); refine blk_far ?_ NB236_238.out _; (with_reducible repeat first | apply bN | apply bD | apply bA); refine blk_far ?_ NB236_238.out _; (with_reducible repeat first | apply bN | apply bD | apply bA); refine blk_far ?_ NB236_238.out _; (with_reducible repeat first | apply bN | apply bD | apply bA); exact BK236.out) hb); replace BK238 := Aside0.mk (blk_below (g := gb238) (o := .cells #[.bool ((ji12) == 1), .bool false, .bool false, .int .u64 (IntKind.u64.wrap (Go.bits .and .u32 (Go.bits .and .u32 a1 t106) (((ji5) - 1) % 4294967296))), .int .i64 0] 114 (0, 0)) (by (with_reducible repeat first | apply bN | apply bD | apply bA); refine blk_put (cs := #[.bool ((ji12) == 1), .bool false, .bool false, .int .u64 0, .int .i64 0]) ?_ 3 _ rfl; (with_reducible repeat first | apply bN | apply bD | apply bA); refine blk_put (cs := #[.bool ((ji12) == 1), .bool false, .bool false, .int .u64 0, .int .i64 0]) ?_ 4 _ rfl; (with_reducible repeat first | apply bN | apply bD | apply bA); refine blk_put (cs := #[.bool ((ji12) == 1), .bool false, .bool false, .int .u64 0, .int .i64 0]) ?_ 3 _ rfl; (with_reducible repeat first | apply bN | apply bD | apply bA); refine blk_put (cs := #[.bool ((ji12) == 1), .bool false, .bool false, .int .u64 0, .int .i64 0]) ?_ 2 _ rfl; (with_reducible repeat first | apply bN | apply bD | apply bA); refine blk_put (cs := #[.bool ((ji12) == 1), .bool false, .bool false, .int .u64 0, .int .i64 0]) ?_ 1 _ rfl; (with_reducible repeat first | apply bN | apply bD | apply bA); refine blk_put (cs := #[.bool false, .bool false, .bool false, .int .u64 0, .int .i64 0]) ?_ 0 _ rfl; (with_reducible repeat first | apply bN | apply bD | apply bA); exact BK238.out) hb); replace HB := eh_ hb; (try clear hb); obtain ⟨_, _, _, _, _, _, _, _, _, _⟩ := zc5_ BK238.out; obtain ⟨_, _, _, _, _, _, _, _, _, _⟩ := zc5_ BK236.out))
      have n0_ : Aside0 ((w41.setCell ⟨gb238, 4, none⟩ (.int .i64 t108)).heap[gb238]? = some (.cells #[.bool ((ji12) == 1), .bool false, .bool false, .int .u64 (IntKind.u64.wrap (Go.bits .and .u32 (Go.bits .and .u32 a1 t106) (((ji5) - 1) % 4294967296))), .int .i64 t108] 114 (0, 0))) := ⟨by refine blk_put (cs := #[.bool ((ji12) == 1), .bool false, .bool false, .int .u64 (IntKind.u64.wrap (Go.bits .and .u32 (Go.bits .and .u32 a1 t106) (((ji5) - 1) % 4294967296))), .int .i64 0]) ?_ 4 _ rfl; exact BK238.out⟩
      have n1_ : Aside0 ((w41.setCell ⟨gb238, 4, none⟩ (.int .i64 t108)).heap[gb236]? = some (.cells #[.bool false, .bool false, .bool false, .int .u64 0, .int .i64 0] 114 (0, 0))) := ⟨by refine blk_far ?_ NB236_238.out _; exact BK236.out⟩
      have n2_ : Aside0 (Below w.heap.size w (w41.setCell ⟨gb238, 4, none⟩ (.int .i64 t108))) := ⟨by refine below_set ?_ GE238.out; exact HB.out⟩
      clear BK238 BK236 HB
      generalize (w41.setCell ⟨gb238, 4, none⟩ (.int .i64 t108)) = w99 at n0_ n1_ n2_ ⊢
      generalize hg90 : ((ji12) == 1) = g90 at n0_ ⊢
      generalize hg93 : (IntKind.u64.wrap (Go.bits .and .u32 (Go.bits .and .u32 a1 t106) (((ji5) - 1) % 4294967296))) = g93 at n0_ ⊢
      have BK238 := n0_
      have BK236 := n1_
      have HB := n2_
      clear n0_ n1_ n2_
      have hnb91 := NB238_236.out
      have hnc91 := NB236_238.out
      have hcz98_0 : w99.cell? ⟨gb238, 0, none⟩ = some (.bool g90) := (blk_cell BK238.out 0).trans rfl
      have hfz98_0 := blk_frozen BK238.out 0
      have hcz98_1 : w99.cell? ⟨gb238, 1, none⟩ = some (.bool false) := (blk_cell BK238.out 1).trans rfl
      have hfz98_1 := blk_frozen BK238.out 1
      have hcz98_2 : w99.cell? ⟨gb238, 2, none⟩ = some (.bool false) := (blk_cell BK238.out 2).trans rfl
      have hfz98_2 := blk_frozen BK238.out 2
      have hcz98_3 : w99.cell? ⟨gb238, 3, none⟩ = some (.int .u64 g93) := (blk_cell BK238.out 3).trans rfl
      have hfz98_3 := blk_frozen BK238.out 3
      have hcz98_4 : w99.cell? ⟨gb238, 4, none⟩ = some (.int .i64 t108) := (blk_cell BK238.out 4).trans rfl
      have hfz98_4 := blk_frozen BK238.out 4
      have hcz97_0 : w99.cell? ⟨gb236, 0, none⟩ = some (.bool false) := (blk_cell BK236.out 0).trans rfl
      have hfz97_0 := blk_frozen BK236.out 0
      have hcz97_1 : w99.cell? ⟨gb236, 1, none⟩ = some (.bool false) := (blk_cell BK236.out 1).trans rfl
      have hfz97_1 := blk_frozen BK236.out 1
      have hcz97_2 : w99.cell? ⟨gb236, 2, none⟩ = some (.bool false) := (blk_cell BK236.out 2).trans rfl
      have hfz97_2 := blk_frozen BK236.out 2
      have hcz97_3 : w99.cell? ⟨gb236, 3, none⟩ = some (.int .u64 0) := (blk_cell BK236.out 3).trans rfl
      have hfz97_3 := blk_frozen BK236.out 3
      have hcz97_4 : w99.cell? ⟨gb236, 4, none⟩ = some (.int .i64 0) := (blk_cell BK236.out 4).trans rfl
      have hfz97_4 := blk_frozen BK236.out 4
      go_wp2
      subst hg90
      subst hg93
      refine bodyPost_ret (results_cell_row rfl _ _ gb236 114 #[.bool ((ji12) == 1), .bool false, .bool false, .int .u64 (IntKind.u64.wrap (Go.bits .and .u32 (Go.bits .and .u32 a1 t106) (((ji5) - 1) % 4294967296))), .int .i64 t108] (0, 0) _ rfl (by refine blk_put (cs := #[.bool ((ji12) == 1), .bool false, .bool false, .int .u64 (IntKind.u64.wrap (Go.bits .and .u32 (Go.bits .and .u32 a1 t106) (((ji5) - 1) % 4294967296))), .int .i64 0]) ?_ 4 _ rfl; refine blk_put (cs := #[.bool ((ji12) == 1), .bool false, .bool false, .int .u64 0, .int .i64 0]) ?_ 3 _ rfl; refine blk_put (cs := #[.bool ((ji12) == 1), .bool false, .bool false, .int .u64 0, .int .i64 0]) ?_ 2 _ rfl; refine blk_put (cs := #[.bool ((ji12) == 1), .bool false, .bool false, .int .u64 0, .int .i64 0]) ?_ 1 _ rfl; refine blk_put (cs := #[.bool false, .bool false, .bool false, .int .u64 0, .int .i64 0]) ?_ 0 _ rfl; exact BK236.out) Try.underlying114 rfl (by kernel_rfl)) rfl ?_
      exact ⟨by first | rfl | (simp [errW_none, errW_some] <;> rfl) | (simp only [← hji5, ← hji7, ← hji9, ← hji10, ← hji12]; first | rfl | (simp [errW_none, errW_some] <;> rfl)) | (simp [*, errW_none, errW_some] <;> rfl), es_⟩
     ·rw [if_neg c28] at H
      have c28b0 : ((Go.bits .and .u32 (ji7) (((ji9) - 1) % 4294967296)) == 0) = false := beq_eq_false_iff_ne.mpr c28
      have c28b1 : ((Go.bits .and .u32 (ji7) (((ji9) - 1) % 4294967296)) != 0) = true := bne_iff_ne.mpr c28
      have c44b0 := eq_true (of_decide_eq_true (by first | (with_reducible assumption) | assumption) : 0 ≤ a0_1)
      replace H := Option.bind_eq_some_iff.mp H
      obtain ⟨t109, A460, H⟩ := H
      try dsimp only at H
      have A46 := Aside0.mk A460
      clear A460
      simp only [Option.some.injEq, Prod.mk.injEq] at H
      obtain ⟨rfl, rfl, rfl, rfl, rfl⟩ := H
      go_enter Try.func65, Try.ntmps65
      go_upto_region 13 with (first | ((with_reducible refine gate_dst (N := 2) rfl ?_); refine box_event ?hg (N := 2) ?hd (cs := #[.int .u64 a0_0, .int .u64 a0_1]) (t := 109) ?hr ?_; (case hd => rfl); (case hg => rfl); (case hr => first | (go_simp; done) | (go_simp; rfl)); intro gb235 hg w47 hbox hb; have BK235 := Aside0.mk (hbox); have GW235 := Aside0.mk (gs_ hg (eb_ HB.out) : w.heap.size ≤ gb235); have GE235 := GW235; replace HB := eh_ hb; clear hb hbox hg) | ((with_reducible refine gate_dst (N := 4) rfl ?_); refine box_event ?hg (N := 4) ?hd (cs := #[.bool false, .bool false, .bool false, .int .u64 0, .int .i64 0]) (t := 114) ?hr ?_; (case hd => rfl); (case hg => rfl); (case hr => first | (go_simp; done) | (go_simp; rfl)); intro gb236 hg w48 hbox hb; have BK236 := Aside0.mk (hbox); have GW236 := Aside0.mk (gs_ hg es_ : w.heap.size ≤ gb236); have GE236 := GW236; have NB235_236 := Aside0.mk ((by rw [hg]; exact Nat.ne_of_lt (blk_lt (g := gb235) (o := .cells #[.int .u64 a0_0, .int .u64 a0_1] 109 (0, 0)) (bk_ BK235.out)) : gb235 ≠ gb236)); have NB236_235 := Aside0.mk ((by rw [hg]; exact Nat.ne_of_gt (blk_lt (g := gb235) (o := .cells #[.int .u64 a0_0, .int .u64 a0_1] 109 (0, 0)) (bk_ BK235.out)) : gb236 ≠ gb235)); replace BK235 := bb_ BK235 hb; replace HB := eh_ hb; clear hb hbox hg; have hnb49 := NB235_236.out; have hnc49 := NB236_235.out; obtain ⟨_, _, _, _⟩ := zc2_ BK235.out) | ((with_reducible refine gate_callee (f := 121) rfl ?_); refine gl_ (some 10) rfl rfl Try.func121 (by kernel_rfl) rfl #[.agg #[.int .u64 a0_0, .int .u64 a0_1]] rfl ?_; (with_reducible refine (spec_l4K_mask.calls a0_0 a0_1 t106 _ A3.out).mono ?_); rintro e w51 ⟨rfl, hb⟩; refine ⟨_, rfl, ?_⟩; replace BK235 := bb_ BK235 hb; replace BK236 := bb_ BK236 hb; replace HB := eh_ hb; (try clear hb); obtain ⟨_, _, _, _⟩ := zc2_ BK235.out) | ((with_reducible refine gate_dst (N := 7) rfl ?_); refine box_event ?hg (N := 7) ?hd (cs := #[.bool false, .bool false, .bool false, .int .u64 0, .int .i64 0]) (t := 114) ?hr ?_; (case hd => rfl); (case hg => rfl); (case hr => first | (go_simp; done) | (go_simp; rfl)); intro gb238 hg w53 hbox hb; have BK238 := Aside0.mk (hbox); have GW238 := Aside0.mk (gs_ hg es_ : w.heap.size ≤ gb238); have GE238 := GW238; have NB235_238 := Aside0.mk ((by rw [hg]; exact Nat.ne_of_lt (blk_lt (g := gb235) (o := .cells #[.int .u64 a0_0, .int .u64 a0_1] 109 (0, 0)) (bk_ BK235.out)) : gb235 ≠ gb238)); have NB238_235 := Aside0.mk ((by rw [hg]; exact Nat.ne_of_gt (blk_lt (g := gb235) (o := .cells #[.int .u64 a0_0, .int .u64 a0_1] 109 (0, 0)) (bk_ BK235.out)) : gb238 ≠ gb235)); have NB236_238 := Aside0.mk ((by rw [hg]; exact Nat.ne_of_lt (blk_lt (g := gb236) (o := .cells #[.bool false, .bool false, .bool false, .int .u64 0, .int .i64 0] 114 (0, 0)) (bk_ BK236.out)) : gb236 ≠ gb238)); have NB238_236 := Aside0.mk ((by rw [hg]; exact Nat.ne_of_gt (blk_lt (g := gb236) (o := .cells #[.bool false, .bool false, .bool false, .int .u64 0, .int .i64 0] 114 (0, 0)) (bk_ BK236.out)) : gb238 ≠ gb236)); replace BK235 := bb_ BK235 hb; replace BK236 := bb_ BK236 hb; replace HB := eh_ hb; clear hb hbox hg; have hnb54 := NB238_235.out; have hnc54 := NB235_238.out; have hnb55 := NB238_236.out; have hnc55 := NB236_238.out; obtain ⟨_, _, _, _, _, _, _, _, _, _⟩ := zc5_ BK238.out; obtain ⟨_, _, _, _⟩ := zc2_ BK235.out) | ((with_reducible refine gate_callee (f := 122) rfl ?_); refine gl_ (some 44) rfl rfl Try.func122 (by kernel_rfl) rfl #[.agg #[.int .u64 a0_0, .int .u64 a0_1]] rfl ?_; (with_reducible refine (spec_l4K_least.calls a0_0 a0_1 t109 _ A46.out).mono ?_); rintro e w58 ⟨rfl, hb⟩; refine ⟨_, rfl, ?_⟩; replace BK235 := Aside0.mk (blk_below (g := gb235) (o := .cells #[.int .u64 a0_0, .int .u64 a0_1] 109 (0, 0)) (by (with_reducible repeat first | apply bN | apply bD | apply bA); refine blk_far ?_ NB235_238.out _; (with_reducible repeat first | apply bN | apply bD | apply bA); refine blk_far ?_ NB235_238.out _; (with_reducible repeat first | apply bN | apply bD | apply bA); refine blk_far ?_ NB235_238.out _; (with_reducible repeat first | apply bN | apply bD | apply bA); refine blk_far ?_ NB235_238.out _; (with_reducible repeat first | apply bN | apply bD | apply bA); refine blk_far ?_ NB235_238.out _; (with_reducible repeat first | apply bN | apply bD | apply bA); refine blk_far ?_ NB235_238.out _; (with_reducible repeat first | apply bN | apply bD | apply bA); exact BK235.out) hb); replace BK236 := Aside0.mk (blk_below (g := gb236) (o := .cells #[.bool false, .bool false, .bool false, .int .u64 0, .int .i64 0] 114 (0, 0)) (by (with_reducible repeat first | apply bN | apply bD | apply bA); refine blk_far ?_ NB236_238.out _; (with_reducible repeat first | apply bN | apply bD | apply bA); refine blk_far ?_ NB236_238.out _; (with_reducible repeat first | apply bN | apply bD | apply bA); refine blk_far ?_ NB236_238.out _; (with_reducible repeat first | apply bN | apply bD | apply bA); refine blk_far ?_ NB236_238.out _; (with_reducible repeat first | apply bN | apply bD | apply bA); refine blk_far ?_ NB236_238.out _; (with_reducible repeat first | apply bN | apply bD | apply bA); refine blk_far ?_ NB236_238.out _; (with_reducible repeat first | apply bN | apply bD | apply bA); exact BK236.out) hb); replace BK238 := Aside0.mk (blk_below (g := gb238) (o := .cells #[.bool ((ji12) == 1), .bool false, .bool false, .int .u64 (IntKind.u64.wrap (Go.bits .or .u32 (Go.bits .and .u32 (Go.bits .and .u32 a1 t106) (((ji5) - 1) % 4294967296)) (ji5))), .int .i64 0] 114 (0, 0)) (by (with_reducible repeat first | apply bN | apply bD | apply bA); refine blk_put (cs := #[.bool ((ji12) == 1), .bool false, .bool false, .int .u64 0, .int .i64 0]) ?_ 3 _ rfl; (with_reducible repeat first | apply bN | apply bD | apply bA); refine blk_put (cs := #[.bool ((ji12) == 1), .bool false, .bool false, .int .u64 0, .int .i64 0]) ?_ 4 _ rfl; (with_reducible repeat first | apply bN | apply bD | apply bA); refine blk_put (cs := #[.bool ((ji12) == 1), .bool false, .bool false, .int .u64 0, .int .i64 0]) ?_ 3 _ rfl; (with_reducible repeat first | apply bN | apply bD | apply bA); refine blk_put (cs := #[.bool ((ji12) == 1), .bool false, .bool false, .int .u64 0, .int .i64 0]) ?_ 2 _ rfl; (with_reducible repeat first | apply bN | apply bD | apply bA); refine blk_put (cs := #[.bool ((ji12) == 1), .bool false, .bool false, .int .u64 0, .int .i64 0]) ?_ 1 _ rfl; (with_reducible repeat first | apply bN | apply bD | apply bA); refine blk_put (cs := #[.bool false, .bool false, .bool false, .int .u64 0, .int .i64 0]) ?_ 0 _ rfl; (with_reducible repeat first | apply bN | apply bD | apply bA); exact BK238.out) hb); replace HB := eh_ hb; (try clear hb); obtain ⟨_, _, _, _, _, _, _, _, _, _⟩ := zc5_ BK238.out; obtain ⟨_, _, _, _, _, _, _, _, _, _⟩ := zc5_ BK236.out))
      have n0_ : Aside0 ((w58.setCell ⟨gb238, 4, none⟩ (.int .i64 (wrap64 ((wrap64 (t109 + (wrap64 (Go.bits .and .u32 (ji7) (((ji9) - 1) % 4294967296))))) - 1)))).heap[gb238]? = some (.cells #[.bool ((ji12) == 1), .bool false, .bool false, .int .u64 (IntKind.u64.wrap (Go.bits .or .u32 (Go.bits .and .u32 (Go.bits .and .u32 a1 t106) (((ji5) - 1) % 4294967296)) (ji5))), .int .i64 (wrap64 ((wrap64 (t109 + (wrap64 (Go.bits .and .u32 (ji7) (((ji9) - 1) % 4294967296))))) - 1))] 114 (0, 0))) := ⟨by refine blk_put (cs := #[.bool ((ji12) == 1), .bool false, .bool false, .int .u64 (IntKind.u64.wrap (Go.bits .or .u32 (Go.bits .and .u32 (Go.bits .and .u32 a1 t106) (((ji5) - 1) % 4294967296)) (ji5))), .int .i64 0]) ?_ 4 _ rfl; exact BK238.out⟩
      have n1_ : Aside0 ((w58.setCell ⟨gb238, 4, none⟩ (.int .i64 (wrap64 ((wrap64 (t109 + (wrap64 (Go.bits .and .u32 (ji7) (((ji9) - 1) % 4294967296))))) - 1)))).heap[gb236]? = some (.cells #[.bool false, .bool false, .bool false, .int .u64 0, .int .i64 0] 114 (0, 0))) := ⟨by refine blk_far ?_ NB236_238.out _; exact BK236.out⟩
      have n2_ : Aside0 (Below w.heap.size w (w58.setCell ⟨gb238, 4, none⟩ (.int .i64 (wrap64 ((wrap64 (t109 + (wrap64 (Go.bits .and .u32 (ji7) (((ji9) - 1) % 4294967296))))) - 1))))) := ⟨by refine below_set ?_ GE238.out; exact HB.out⟩
      clear BK238 BK236 HB
      generalize (w58.setCell ⟨gb238, 4, none⟩ (.int .i64 (wrap64 ((wrap64 (t109 + (wrap64 (Go.bits .and .u32 (ji7) (((ji9) - 1) % 4294967296))))) - 1)))) = w99 at n0_ n1_ n2_ ⊢
      generalize hg90 : ((ji12) == 1) = g90 at n0_ ⊢
      generalize hg93 : (IntKind.u64.wrap (Go.bits .or .u32 (Go.bits .and .u32 (Go.bits .and .u32 a1 t106) (((ji5) - 1) % 4294967296)) (ji5))) = g93 at n0_ ⊢
      generalize hg94 : (wrap64 ((wrap64 (t109 + (wrap64 (Go.bits .and .u32 (ji7) (((ji9) - 1) % 4294967296))))) - 1)) = g94 at n0_ ⊢
      have BK238 := n0_
      have BK236 := n1_
      have HB := n2_
      clear n0_ n1_ n2_
      have hnb91 := NB238_236.out
      have hnc91 := NB236_238.out
      have hcz98_0 : w99.cell? ⟨gb238, 0, none⟩ = some (.bool g90) := (blk_cell BK238.out 0).trans rfl
      have hfz98_0 := blk_frozen BK238.out 0
      have hcz98_1 : w99.cell? ⟨gb238, 1, none⟩ = some (.bool false) := (blk_cell BK238.out 1).trans rfl
      have hfz98_1 := blk_frozen BK238.out 1
      have hcz98_2 : w99.cell? ⟨gb238, 2, none⟩ = some (.bool false) := (blk_cell BK238.out 2).trans rfl
      have hfz98_2 := blk_frozen BK238.out 2
      have hcz98_3 : w99.cell? ⟨gb238, 3, none⟩ = some (.int .u64 g93) := (blk_cell BK238.out 3).trans rfl
      have hfz98_3 := blk_frozen BK238.out 3
      have hcz98_4 : w99.cell? ⟨gb238, 4, none⟩ = some (.int .i64 g94) := (blk_cell BK238.out 4).trans rfl
      have hfz98_4 := blk_frozen BK238.out 4
      have hcz97_0 : w99.cell? ⟨gb236, 0, none⟩ = some (.bool false) := (blk_cell BK236.out 0).trans rfl
      have hfz97_0 := blk_frozen BK236.out 0
      have hcz97_1 : w99.cell? ⟨gb236, 1, none⟩ = some (.bool false) := (blk_cell BK236.out 1).trans rfl
      have hfz97_1 := blk_frozen BK236.out 1
      have hcz97_2 : w99.cell? ⟨gb236, 2, none⟩ = some (.bool false) := (blk_cell BK236.out 2).trans rfl
      have hfz97_2 := blk_frozen BK236.out 2
      have hcz97_3 : w99.cell? ⟨gb236, 3, none⟩ = some (.int .u64 0) := (blk_cell BK236.out 3).trans rfl
      have hfz97_3 := blk_frozen BK236.out 3
      have hcz97_4 : w99.cell? ⟨gb236, 4, none⟩ = some (.int .i64 0) := (blk_cell BK236.out 4).trans rfl
      have hfz97_4 := blk_frozen BK236.out 4
      go_wp2
      subst hg90
      subst hg93
      subst hg94
      refine bodyPost_ret (results_cell_row rfl _ _ gb236 114 #[.bool ((ji12) == 1), .bool false, .bool false, .int .u64 (IntKind.u64.wrap (Go.bits .or .u32 (Go.bits .and .u32 (Go.bits .and .u32 a1 t106) (((ji5) - 1) % 4294967296)) (ji5))), .int .i64 (wrap64 ((wrap64 (t109 + (wrap64 (Go.bits .and .u32 (ji7) (((ji9) - 1) % 4294967296))))) - 1))] (0, 0) _ rfl (by refine blk_put (cs := #[.bool ((ji12) == 1), .bool false, .bool false, .int .u64 (IntKind.u64.wrap (Go.bits .or .u32 (Go.bits .and .u32 (Go.bits .and .u32 a1 t106) (((ji5) - 1) % 4294967296)) (ji5))), .int .i64 0]) ?_ 4 _ rfl; refine blk_put (cs := #[.bool ((ji12) == 1), .bool false, .bool false, .int .u64 0, .int .i64 0]) ?_ 3 _ rfl; refine blk_put (cs := #[.bool ((ji12) == 1), .bool false, .bool false, .int .u64 0, .int .i64 0]) ?_ 2 _ rfl; refine blk_put (cs := #[.bool ((ji12) == 1), .bool false, .bool false, .int .u64 0, .int .i64 0]) ?_ 1 _ rfl; refine blk_put (cs := #[.bool false, .bool false, .bool false, .int .u64 0, .int .i64 0]) ?_ 0 _ rfl; exact BK236.out) Try.underlying114 rfl (by kernel_rfl)) rfl ?_
      exact ⟨by first | rfl | (simp [errW_none, errW_some] <;> rfl) | (simp only [← hji5, ← hji7, ← hji9, ← hji10, ← hji12]; first | rfl | (simp [errW_none, errW_some] <;> rfl)) | (simp [*, errW_none, errW_some] <;> rfl), es_⟩
   ·rw [if_neg c11] at H
    exact absurd H (by simp)
  ·rw [if_neg c8] at H
   exact absurd H (by simp)
 ·rw [if_neg c4] at H
  exact absurd H (by simp)

def spec_FloatParts.f (a0 : Int) (a1 : Int) : Option (Bool × Int × Int × Bool) := (spec_l4Kind.f a0).bind fun bt110 => (if bt110.2.2 = true then ((spec_l4K_open.f bt110.1 bt110.2.1 a1).bind fun bt114 => (if bt114.2.1 = true then (some (false, 0, 0, false)) else (if bt114.2.2.1 = true then (some (false, 0, 0, false)) else (some (bt114.1, bt114.2.2.2.1, bt114.2.2.2.2, true))))) else (some (false, 0, 0, false)))
set_option maxHeartbeats 8000000 in
set_option maxRecDepth 100000 in
theorem spec_FloatParts.calls (a0 : Int) (a1 : Int) (r1 : Bool) (r2 : Int) (r3 : Int) (r4 : Bool) (w : World) (h : spec_FloatParts.f a0 a1 = some (r1, r2, r3, r4)) :
  Calls Try.prog 66 #[.int .i64 a0, .int .u32 a1] w fun e w' => e = .returned (.tuple #[.bool r1, .int .u64 r2, .int .i64 r3, .bool r4]) ∧ Below w.heap.size w w' := by
 have hu109 := Try.underlying109
 have hu114 := Try.underlying114
 have HB := Aside0.mk (Below.refl w.heap.size w)
 have H : ((spec_l4Kind.f a0).bind fun bt110 => (if bt110.2.2 = true then ((spec_l4K_open.f bt110.1 bt110.2.1 a1).bind fun bt114 => (if bt114.2.1 = true then (some (false, 0, 0, false)) else (if bt114.2.2.1 = true then (some (false, 0, 0, false)) else (some (bt114.1, bt114.2.2.2.1, bt114.2.2.2.2, true))))) else (some (false, 0, 0, false)))) = some (r1, r2, r3, r4) := h
 clear h
 replace H := Option.bind_eq_some_iff.mp H
 obtain ⟨⟨t110, t111, t112⟩, A30, H⟩ := H
 try dsimp only at H
 have A3 := Aside0.mk A30
 clear A30
 by_cases c4 : t112 = true
 ·subst c4
  have H1 : ((spec_l4K_open.f t110 t111 a1).bind fun bt114 => (if bt114.2.1 = true then (some (false, 0, 0, false)) else (if bt114.2.2.1 = true then (some (false, 0, 0, false)) else (some (bt114.1, bt114.2.2.2.1, bt114.2.2.2.2, true))))) = some (r1, r2, r3, r4) := by rw [if_pos rfl] at H; first | done | exact H
  clear H
  have H := H1
  clear H1
  replace H := Option.bind_eq_some_iff.mp H
  obtain ⟨⟨t114, t115, t116, t117, t118⟩, A50, H⟩ := H
  try dsimp only at H
  have A5 := Aside0.mk A50
  clear A50
  by_cases c6 : t115 = true
  ·subst c6
   have H1 : (some (false, 0, 0, false)) = some (r1, r2, r3, r4) := by rw [if_pos rfl] at H; first | done | exact H
   clear H
   have H := H1
   clear H1
   simp only [Option.some.injEq, Prod.mk.injEq] at H
   obtain ⟨rfl, rfl, rfl, rfl⟩ := H
   go_enter Try.func66, Try.ntmps66
   go_wp2_with (first | (go_at_call 63; (with_reducible refine (spec_l4Kind.calls a0 t110 t111 true _ A3.out).mono ?_); rintro e w7 ⟨rfl, hb⟩; have n0_ := Aside0.mk (below_step (eb_ HB.out) hb); clear HB; have HB := n0_; clear n0_; (try clear hb); (try clear hb2); (try clear hk); (try clear hi)) | ((with_reducible refine gate_dst (N := 8) rfl ?_); refine box_event ?hg (N := 8) ?hd (cs := #[.int .u64 0, .int .u64 0]) (t := 109) ?hr ?_; (case hd => rfl); (case hg => rfl); (case hr => first | (go_simp; done) | (go_simp; rfl)); intro gb113 hg w8 hbox hb; have BK113 := Aside0.mk (hbox); have GW113 := Aside0.mk (gs_ hg (eb_ HB.out) : w.heap.size ≤ gb113); have GE113 := GW113; replace HB := eh_ hb; clear hb hbox hg; obtain ⟨_, _, _, _⟩ := zc2_ BK113.out) | (go_at_call 65; (with_reducible refine (spec_l4K_open.calls t110 t111 a1 t114 true t116 t117 t118 _ A5.out).mono ?_); rintro e w10 ⟨rfl, hb⟩; have n0_ := Aside0.mk (blk_below (g := gb113) (o := .cells #[.int .u64 t110, .int .u64 t111] 109 (0, 0)) (by (with_reducible repeat first | apply bN | apply bD | apply bA); refine blk_put (cs := #[.int .u64 t110, .int .u64 0]) ?_ 1 _ rfl; (with_reducible repeat first | apply bN | apply bD | apply bA); refine blk_put (cs := #[.int .u64 0, .int .u64 0]) ?_ 0 _ rfl; (with_reducible repeat first | apply bN | apply bD | apply bA); exact BK113.out) hb); have n1_ := Aside0.mk (below_step es_ hb); clear BK113 HB; have BK113 := n0_; have HB := n1_; clear n0_ n1_; (try clear hb); (try clear hb2); (try clear hk); (try clear hi)) | ((with_reducible refine gate_dst (N := 10) rfl ?_); refine box_event ?hg (N := 10) ?hd (cs := #[.bool false, .bool false, .bool false, .int .u64 0, .int .i64 0]) (t := 114) ?hr ?_; (case hd => rfl); (case hg => rfl); (case hr => first | (go_simp; done) | (go_simp; rfl)); intro gb119 hg w11 hbox hb; have BK119 := Aside0.mk (hbox); have GW119 := Aside0.mk (gs_ hg es_ : w.heap.size ≤ gb119); have GE119 := GW119; have NB113_119 := Aside0.mk ((by rw [hg]; exact Nat.ne_of_lt (blk_lt (g := gb113) (o := .cells #[.int .u64 t110, .int .u64 t111] 109 (0, 0)) (bk_ BK113.out)) : gb113 ≠ gb119)); have NB119_113 := Aside0.mk ((by rw [hg]; exact Nat.ne_of_gt (blk_lt (g := gb113) (o := .cells #[.int .u64 t110, .int .u64 t111] 109 (0, 0)) (bk_ BK113.out)) : gb119 ≠ gb113)); replace BK113 := bb_ BK113 hb; replace HB := eh_ hb; clear hb hbox hg; have hnb12 := NB119_113.out; have hnc12 := NB113_119.out; obtain ⟨_, _, _, _, _, _, _, _, _, _⟩ := zc5_ BK119.out))
   repeat (go_quiet (first | (go_at_call 63; (with_reducible refine (spec_l4Kind.calls a0 t110 t111 true _ A3.out).mono ?_); rintro e w7 ⟨rfl, hb⟩; have n0_ := Aside0.mk (below_step (eb_ HB.out) hb); clear HB; have HB := n0_; clear n0_; (try clear hb); (try clear hb2); (try clear hk); (try clear hi)) | (go_at_call 65; (with_reducible refine (spec_l4K_open.calls t110 t111 a1 t114 true t116 t117 t118 _ A5.out).mono ?_); rintro e w10 ⟨rfl, hb⟩; have n0_ := Aside0.mk (blk_below (g := gb113) (o := .cells #[.int .u64 t110, .int .u64 t111] 109 (0, 0)) (by (with_reducible repeat first | apply bN | apply bD | apply bA); refine blk_put (cs := #[.int .u64 t110, .int .u64 0]) ?_ 1 _ rfl; (with_reducible repeat first | apply bN | apply bD | apply bA); refine blk_put (cs := #[.int .u64 0, .int .u64 0]) ?_ 0 _ rfl; (with_reducible repeat first | apply bN | apply bD | apply bA); exact BK113.out) hb); have n1_ := Aside0.mk (below_step es_ hb); clear BK113 HB; have BK113 := n0_; have HB := n1_; clear n0_ n1_; (try clear hb); (try clear hb2); (try clear hk); (try clear hi))); try go_wp2_with (first | (go_at_call 63; (with_reducible refine (spec_l4Kind.calls a0 t110 t111 true _ A3.out).mono ?_); rintro e w7 ⟨rfl, hb⟩; have n0_ := Aside0.mk (below_step (eb_ HB.out) hb); clear HB; have HB := n0_; clear n0_; (try clear hb); (try clear hb2); (try clear hk); (try clear hi)) | (go_at_call 65; (with_reducible refine (spec_l4K_open.calls t110 t111 a1 t114 true t116 t117 t118 _ A5.out).mono ?_); rintro e w10 ⟨rfl, hb⟩; have n0_ := Aside0.mk (blk_below (g := gb113) (o := .cells #[.int .u64 t110, .int .u64 t111] 109 (0, 0)) (by (with_reducible repeat first | apply bN | apply bD | apply bA); refine blk_put (cs := #[.int .u64 t110, .int .u64 0]) ?_ 1 _ rfl; (with_reducible repeat first | apply bN | apply bD | apply bA); refine blk_put (cs := #[.int .u64 0, .int .u64 0]) ?_ 0 _ rfl; (with_reducible repeat first | apply bN | apply bD | apply bA); exact BK113.out) hb); have n1_ := Aside0.mk (below_step es_ hb); clear BK113 HB; have BK113 := n0_; have HB := n1_; clear n0_ n1_; (try clear hb); (try clear hb2); (try clear hk); (try clear hi))))
   refine bodyPost_ret (results_list (rs := [.tmp 4, .tmp 5, .tmp 6, .tmp 7]) rfl (by simp) (.tmp (.tmp (.tmp (.tmp .nil))))) rfl ?_
   exact ⟨by first | rfl | (simp [errW_none, errW_some] <;> rfl) | (simp [*, errW_none, errW_some] <;> rfl), es_⟩
  ·replace c6 := Bool.eq_false_iff.mpr c6
   subst c6
   have H1 : (if t116 = true then (some (false, 0, 0, false)) else (some (t114, t117, t118, true))) = some (r1, r2, r3, r4) := by rw [if_neg (show ¬ (false = true) by decide)] at H; first | done | exact H
   clear H
   have H := H1
   clear H1
   by_cases c14 : t116 = true
   ·subst c14
    have H1 : (some (false, 0, 0, false)) = some (r1, r2, r3, r4) := by rw [if_pos rfl] at H; first | done | exact H
    clear H
    have H := H1
    clear H1
    simp only [Option.some.injEq, Prod.mk.injEq] at H
    obtain ⟨rfl, rfl, rfl, rfl⟩ := H
    go_enter Try.func66, Try.ntmps66
    go_wp2_with (first | (go_at_call 63; (with_reducible refine (spec_l4Kind.calls a0 t110 t111 true _ A3.out).mono ?_); rintro e w15 ⟨rfl, hb⟩; have n0_ := Aside0.mk (below_step (eb_ HB.out) hb); clear HB; have HB := n0_; clear n0_; (try clear hb); (try clear hb2); (try clear hk); (try clear hi)) | ((with_reducible refine gate_dst (N := 8) rfl ?_); refine box_event ?hg (N := 8) ?hd (cs := #[.int .u64 0, .int .u64 0]) (t := 109) ?hr ?_; (case hd => rfl); (case hg => rfl); (case hr => first | (go_simp; done) | (go_simp; rfl)); intro gb113 hg w16 hbox hb; have BK113 := Aside0.mk (hbox); have GW113 := Aside0.mk (gs_ hg (eb_ HB.out) : w.heap.size ≤ gb113); have GE113 := GW113; replace HB := eh_ hb; clear hb hbox hg; obtain ⟨_, _, _, _⟩ := zc2_ BK113.out) | (go_at_call 65; (with_reducible refine (spec_l4K_open.calls t110 t111 a1 t114 false true t117 t118 _ A5.out).mono ?_); rintro e w18 ⟨rfl, hb⟩; have n0_ := Aside0.mk (blk_below (g := gb113) (o := .cells #[.int .u64 t110, .int .u64 t111] 109 (0, 0)) (by (with_reducible repeat first | apply bN | apply bD | apply bA); refine blk_put (cs := #[.int .u64 t110, .int .u64 0]) ?_ 1 _ rfl; (with_reducible repeat first | apply bN | apply bD | apply bA); refine blk_put (cs := #[.int .u64 0, .int .u64 0]) ?_ 0 _ rfl; (with_reducible repeat first | apply bN | apply bD | apply bA); exact BK113.out) hb); have n1_ := Aside0.mk (below_step es_ hb); clear BK113 HB; have BK113 := n0_; have HB := n1_; clear n0_ n1_; (try clear hb); (try clear hb2); (try clear hk); (try clear hi)) | ((with_reducible refine gate_dst (N := 10) rfl ?_); refine box_event ?hg (N := 10) ?hd (cs := #[.bool false, .bool false, .bool false, .int .u64 0, .int .i64 0]) (t := 114) ?hr ?_; (case hd => rfl); (case hg => rfl); (case hr => first | (go_simp; done) | (go_simp; rfl)); intro gb119 hg w19 hbox hb; have BK119 := Aside0.mk (hbox); have GW119 := Aside0.mk (gs_ hg es_ : w.heap.size ≤ gb119); have GE119 := GW119; have NB113_119 := Aside0.mk ((by rw [hg]; exact Nat.ne_of_lt (blk_lt (g := gb113) (o := .cells #[.int .u64 t110, .int .u64 t111] 109 (0, 0)) (bk_ BK113.out)) : gb113 ≠ gb119)); have NB119_113 := Aside0.mk ((by rw [hg]; exact Nat.ne_of_gt (blk_lt (g := gb113) (o := .cells #[.int .u64 t110, .int .u64 t111] 109 (0, 0)) (bk_ BK113.out)) : gb119 ≠ gb113)); replace BK113 := bb_ BK113 hb; replace HB := eh_ hb; clear hb hbox hg; have hnb20 := NB119_113.out; have hnc20 := NB113_119.out; obtain ⟨_, _, _, _, _, _, _, _, _, _⟩ := zc5_ BK119.out))
    repeat (go_quiet (first | (go_at_call 63; (with_reducible refine (spec_l4Kind.calls a0 t110 t111 true _ A3.out).mono ?_); rintro e w15 ⟨rfl, hb⟩; have n0_ := Aside0.mk (below_step (eb_ HB.out) hb); clear HB; have HB := n0_; clear n0_; (try clear hb); (try clear hb2); (try clear hk); (try clear hi)) | (go_at_call 65; (with_reducible refine (spec_l4K_open.calls t110 t111 a1 t114 false true t117 t118 _ A5.out).mono ?_); rintro e w18 ⟨rfl, hb⟩; have n0_ := Aside0.mk (blk_below (g := gb113) (o := .cells #[.int .u64 t110, .int .u64 t111] 109 (0, 0)) (by (with_reducible repeat first | apply bN | apply bD | apply bA); refine blk_put (cs := #[.int .u64 t110, .int .u64 0]) ?_ 1 _ rfl; (with_reducible repeat first | apply bN | apply bD | apply bA); refine blk_put (cs := #[.int .u64 0, .int .u64 0]) ?_ 0 _ rfl; (with_reducible repeat first | apply bN | apply bD | apply bA); exact BK113.out) hb); have n1_ := Aside0.mk (below_step es_ hb); clear BK113 HB; have BK113 := n0_; have HB := n1_; clear n0_ n1_; (try clear hb); (try clear hb2); (try clear hk); (try clear hi))); try go_wp2_with (first | (go_at_call 63; (with_reducible refine (spec_l4Kind.calls a0 t110 t111 true _ A3.out).mono ?_); rintro e w15 ⟨rfl, hb⟩; have n0_ := Aside0.mk (below_step (eb_ HB.out) hb); clear HB; have HB := n0_; clear n0_; (try clear hb); (try clear hb2); (try clear hk); (try clear hi)) | (go_at_call 65; (with_reducible refine (spec_l4K_open.calls t110 t111 a1 t114 false true t117 t118 _ A5.out).mono ?_); rintro e w18 ⟨rfl, hb⟩; have n0_ := Aside0.mk (blk_below (g := gb113) (o := .cells #[.int .u64 t110, .int .u64 t111] 109 (0, 0)) (by (with_reducible repeat first | apply bN | apply bD | apply bA); refine blk_put (cs := #[.int .u64 t110, .int .u64 0]) ?_ 1 _ rfl; (with_reducible repeat first | apply bN | apply bD | apply bA); refine blk_put (cs := #[.int .u64 0, .int .u64 0]) ?_ 0 _ rfl; (with_reducible repeat first | apply bN | apply bD | apply bA); exact BK113.out) hb); have n1_ := Aside0.mk (below_step es_ hb); clear BK113 HB; have BK113 := n0_; have HB := n1_; clear n0_ n1_; (try clear hb); (try clear hb2); (try clear hk); (try clear hi))))
    refine bodyPost_ret (results_list (rs := [.tmp 4, .tmp 5, .tmp 6, .tmp 7]) rfl (by simp) (.tmp (.tmp (.tmp (.tmp .nil))))) rfl ?_
    exact ⟨by first | rfl | (simp [errW_none, errW_some] <;> rfl) | (simp [*, errW_none, errW_some] <;> rfl), es_⟩
   ·replace c14 := Bool.eq_false_iff.mpr c14
    subst c14
    have H1 : (some (t114, t117, t118, true)) = some (r1, r2, r3, r4) := by rw [if_neg (show ¬ (false = true) by decide)] at H; first | done | exact H
    clear H
    have H := H1
    clear H1
    simp only [Option.some.injEq, Prod.mk.injEq] at H
    obtain ⟨rfl, rfl, rfl, rfl⟩ := H
    go_enter Try.func66, Try.ntmps66
    go_wp2_with (first | (go_at_call 63; (with_reducible refine (spec_l4Kind.calls a0 t110 t111 true _ A3.out).mono ?_); rintro e w22 ⟨rfl, hb⟩; have n0_ := Aside0.mk (below_step (eb_ HB.out) hb); clear HB; have HB := n0_; clear n0_; (try clear hb); (try clear hb2); (try clear hk); (try clear hi)) | ((with_reducible refine gate_dst (N := 8) rfl ?_); refine box_event ?hg (N := 8) ?hd (cs := #[.int .u64 0, .int .u64 0]) (t := 109) ?hr ?_; (case hd => rfl); (case hg => rfl); (case hr => first | (go_simp; done) | (go_simp; rfl)); intro gb113 hg w23 hbox hb; have BK113 := Aside0.mk (hbox); have GW113 := Aside0.mk (gs_ hg (eb_ HB.out) : w.heap.size ≤ gb113); have GE113 := GW113; replace HB := eh_ hb; clear hb hbox hg; obtain ⟨_, _, _, _⟩ := zc2_ BK113.out) | (go_at_call 65; (with_reducible refine (spec_l4K_open.calls t110 t111 a1 t114 false false t117 t118 _ A5.out).mono ?_); rintro e w25 ⟨rfl, hb⟩; have n0_ := Aside0.mk (blk_below (g := gb113) (o := .cells #[.int .u64 t110, .int .u64 t111] 109 (0, 0)) (by (with_reducible repeat first | apply bN | apply bD | apply bA); refine blk_put (cs := #[.int .u64 t110, .int .u64 0]) ?_ 1 _ rfl; (with_reducible repeat first | apply bN | apply bD | apply bA); refine blk_put (cs := #[.int .u64 0, .int .u64 0]) ?_ 0 _ rfl; (with_reducible repeat first | apply bN | apply bD | apply bA); exact BK113.out) hb); have n1_ := Aside0.mk (below_step es_ hb); clear BK113 HB; have BK113 := n0_; have HB := n1_; clear n0_ n1_; (try clear hb); (try clear hb2); (try clear hk); (try clear hi)) | ((with_reducible refine gate_dst (N := 10) rfl ?_); refine box_event ?hg (N := 10) ?hd (cs := #[.bool false, .bool false, .bool false, .int .u64 0, .int .i64 0]) (t := 114) ?hr ?_; (case hd => rfl); (case hg => rfl); (case hr => first | (go_simp; done) | (go_simp; rfl)); intro gb119 hg w26 hbox hb; have BK119 := Aside0.mk (hbox); have GW119 := Aside0.mk (gs_ hg es_ : w.heap.size ≤ gb119); have GE119 := GW119; have NB113_119 := Aside0.mk ((by rw [hg]; exact Nat.ne_of_lt (blk_lt (g := gb113) (o := .cells #[.int .u64 t110, .int .u64 t111] 109 (0, 0)) (bk_ BK113.out)) : gb113 ≠ gb119)); have NB119_113 := Aside0.mk ((by rw [hg]; exact Nat.ne_of_gt (blk_lt (g := gb113) (o := .cells #[.int .u64 t110, .int .u64 t111] 109 (0, 0)) (bk_ BK113.out)) : gb119 ≠ gb113)); replace BK113 := bb_ BK113 hb; replace HB := eh_ hb; clear hb hbox hg; have hnb27 := NB119_113.out; have hnc27 := NB113_119.out; obtain ⟨_, _, _, _, _, _, _, _, _, _⟩ := zc5_ BK119.out))
    repeat (go_quiet (first | (go_at_call 63; (with_reducible refine (spec_l4Kind.calls a0 t110 t111 true _ A3.out).mono ?_); rintro e w22 ⟨rfl, hb⟩; have n0_ := Aside0.mk (below_step (eb_ HB.out) hb); clear HB; have HB := n0_; clear n0_; (try clear hb); (try clear hb2); (try clear hk); (try clear hi)) | (go_at_call 65; (with_reducible refine (spec_l4K_open.calls t110 t111 a1 t114 false false t117 t118 _ A5.out).mono ?_); rintro e w25 ⟨rfl, hb⟩; have n0_ := Aside0.mk (blk_below (g := gb113) (o := .cells #[.int .u64 t110, .int .u64 t111] 109 (0, 0)) (by (with_reducible repeat first | apply bN | apply bD | apply bA); refine blk_put (cs := #[.int .u64 t110, .int .u64 0]) ?_ 1 _ rfl; (with_reducible repeat first | apply bN | apply bD | apply bA); refine blk_put (cs := #[.int .u64 0, .int .u64 0]) ?_ 0 _ rfl; (with_reducible repeat first | apply bN | apply bD | apply bA); exact BK113.out) hb); have n1_ := Aside0.mk (below_step es_ hb); clear BK113 HB; have BK113 := n0_; have HB := n1_; clear n0_ n1_; (try clear hb); (try clear hb2); (try clear hk); (try clear hi))); try go_wp2_with (first | (go_at_call 63; (with_reducible refine (spec_l4Kind.calls a0 t110 t111 true _ A3.out).mono ?_); rintro e w22 ⟨rfl, hb⟩; have n0_ := Aside0.mk (below_step (eb_ HB.out) hb); clear HB; have HB := n0_; clear n0_; (try clear hb); (try clear hb2); (try clear hk); (try clear hi)) | (go_at_call 65; (with_reducible refine (spec_l4K_open.calls t110 t111 a1 t114 false false t117 t118 _ A5.out).mono ?_); rintro e w25 ⟨rfl, hb⟩; have n0_ := Aside0.mk (blk_below (g := gb113) (o := .cells #[.int .u64 t110, .int .u64 t111] 109 (0, 0)) (by (with_reducible repeat first | apply bN | apply bD | apply bA); refine blk_put (cs := #[.int .u64 t110, .int .u64 0]) ?_ 1 _ rfl; (with_reducible repeat first | apply bN | apply bD | apply bA); refine blk_put (cs := #[.int .u64 0, .int .u64 0]) ?_ 0 _ rfl; (with_reducible repeat first | apply bN | apply bD | apply bA); exact BK113.out) hb); have n1_ := Aside0.mk (below_step es_ hb); clear BK113 HB; have BK113 := n0_; have HB := n1_; clear n0_ n1_; (try clear hb); (try clear hb2); (try clear hk); (try clear hi))))
    refine bodyPost_ret (results_list (rs := [.tmp 4, .tmp 5, .tmp 6, .tmp 7]) rfl (by simp) (.tmp (.tmp (.tmp (.tmp .nil))))) rfl ?_
    exact ⟨by first | rfl | (simp [errW_none, errW_some] <;> rfl) | (simp [*, errW_none, errW_some] <;> rfl), es_⟩
 ·replace c4 := Bool.eq_false_iff.mpr c4
  subst c4
  have H1 : (some (false, 0, 0, false)) = some (r1, r2, r3, r4) := by rw [if_neg (show ¬ (false = true) by decide)] at H; first | done | exact H
  clear H
  have H := H1
  clear H1
  simp only [Option.some.injEq, Prod.mk.injEq] at H
  obtain ⟨rfl, rfl, rfl, rfl⟩ := H
  go_enter Try.func66, Try.ntmps66
  go_wp2_with (first | (go_at_call 63; (with_reducible refine (spec_l4Kind.calls a0 t110 t111 false _ A3.out).mono ?_); rintro e w29 ⟨rfl, hb⟩; have n0_ := Aside0.mk (below_step (eb_ HB.out) hb); clear HB; have HB := n0_; clear n0_; (try clear hb); (try clear hb2); (try clear hk); (try clear hi)) | ((with_reducible refine gate_dst (N := 8) rfl ?_); refine box_event ?hg (N := 8) ?hd (cs := #[.int .u64 0, .int .u64 0]) (t := 109) ?hr ?_; (case hd => rfl); (case hg => rfl); (case hr => first | (go_simp; done) | (go_simp; rfl)); intro gb113 hg w30 hbox hb; have BK113 := Aside0.mk (hbox); have GW113 := Aside0.mk (gs_ hg (eb_ HB.out) : w.heap.size ≤ gb113); have GE113 := GW113; replace HB := eh_ hb; clear hb hbox hg; obtain ⟨_, _, _, _⟩ := zc2_ BK113.out))
  repeat (go_quiet (first | (go_at_call 63; (with_reducible refine (spec_l4Kind.calls a0 t110 t111 false _ A3.out).mono ?_); rintro e w29 ⟨rfl, hb⟩; have n0_ := Aside0.mk (below_step (eb_ HB.out) hb); clear HB; have HB := n0_; clear n0_; (try clear hb); (try clear hb2); (try clear hk); (try clear hi))); try go_wp2_with (first | (go_at_call 63; (with_reducible refine (spec_l4Kind.calls a0 t110 t111 false _ A3.out).mono ?_); rintro e w29 ⟨rfl, hb⟩; have n0_ := Aside0.mk (below_step (eb_ HB.out) hb); clear HB; have HB := n0_; clear n0_; (try clear hb); (try clear hb2); (try clear hk); (try clear hi))))
  refine bodyPost_ret (results_list (rs := [.tmp 4, .tmp 5, .tmp 6, .tmp 7]) rfl (by simp) (.tmp (.tmp (.tmp (.tmp .nil))))) rfl ?_
  exact ⟨by first | rfl | (simp [errW_none, errW_some] <;> rfl) | (simp [*, errW_none, errW_some] <;> rfl), es_⟩

def laws_exact.f (a0 : Int) : Option (Int × Bool) := (spec_FloatParts.f 16 a0).bind fun bt120 => (if bt120.2.2.2 = true then (if 0 ≤ (IntKind.u64.wrap (wrap64 (bt120.2.2.1 + 24))) then (if bt120.1 = true then (some (wrap64 (-(shl .i64 (wrap64 (bt120.2.1)) (IntKind.u64.wrap (wrap64 (bt120.2.2.1 + 24))))), true)) else (some (shl .i64 (wrap64 (bt120.2.1)) (IntKind.u64.wrap (wrap64 (bt120.2.2.1 + 24))), true))) else (none)) else (some (0, false)))
set_option maxHeartbeats 8000000 in
set_option maxRecDepth 100000 in
theorem laws_exact.calls (a0 : Int) (r1 : Int) (r2 : Bool) (w : World) (h : laws_exact.f a0 = some (r1, r2)) :
  Calls Try.prog 14 #[.int .u32 a0] w fun e w' => e = .returned (.tuple #[.int .i64 r1, .bool r2]) ∧ Below w.heap.size w w' := by
 have HB := Aside0.mk (Below.refl w.heap.size w)
 have H : ((spec_FloatParts.f 16 a0).bind fun bt120 => (if bt120.2.2.2 = true then (if 0 ≤ (IntKind.u64.wrap (wrap64 (bt120.2.2.1 + 24))) then (if bt120.1 = true then (some (wrap64 (-(shl .i64 (wrap64 (bt120.2.1)) (IntKind.u64.wrap (wrap64 (bt120.2.2.1 + 24))))), true)) else (some (shl .i64 (wrap64 (bt120.2.1)) (IntKind.u64.wrap (wrap64 (bt120.2.2.1 + 24))), true))) else (none)) else (some (0, false)))) = some (r1, r2) := h
 clear h
 replace H := Option.bind_eq_some_iff.mp H
 obtain ⟨⟨t120, t121, t122, t123⟩, A20, H⟩ := H
 try dsimp only at H
 have A2 := Aside0.mk A20
 clear A20
 by_cases c3 : t123 = true
 ·subst c3
  have H1 : (if 0 ≤ (IntKind.u64.wrap (wrap64 (t122 + 24))) then (if t120 = true then (some (wrap64 (-(shl .i64 (wrap64 (t121)) (IntKind.u64.wrap (wrap64 (t122 + 24))))), true)) else (some (shl .i64 (wrap64 (t121)) (IntKind.u64.wrap (wrap64 (t122 + 24))), true))) else (none)) = some (r1, r2) := by rw [if_pos rfl] at H; first | done | exact H
  clear H
  have H := H1
  clear H1
  obtain ⟨ji4, hji4⟩ : ∃ j_ : Int, (IntKind.u64.wrap (wrap64 (t122 + 24))) = j_ := ⟨_, rfl⟩
  first | rw [hji4] at H | simp only [hji4] at H
  (try rw [hji4] at A2)
  by_cases c5 : 0 ≤ (ji4)
  ·rw [if_pos c5] at H
   have c5b0 := eq_true c5
   have c5b1 : decide (0 ≤ (ji4)) = true := decide_eq_true c5
   clear c5
   obtain ⟨ji6, hji6⟩ : ∃ j_ : Int, (shl .i64 (wrap64 (t121)) (ji4)) = j_ := ⟨_, rfl⟩
   first | rw [hji6] at H | simp only [hji6] at H
   (try rw [hji6] at A2)
   have hji6_ : (IntKind.i64.wrap ((wrap64 (t121)) * 2 ^ min (ji4).toNat 64)) = ji6 := hji6
   have hji6z : (ji4) ≤ 64 → (IntKind.i64.wrap ((wrap64 (t121)) * 2 ^ (ji4).toNat)) = ji6 := shl_small hji6
   have hji6y : (wrap64 ((wrap64 (t121)) * 2 ^ min (ji4).toNat 64)) = ji6 := (i64_w _).symm.trans hji6_
   have hji6x : (ji4) ≤ 64 → (wrap64 ((wrap64 (t121)) * 2 ^ (ji4).toNat)) = ji6 := fun h_ => (i64_w _).symm.trans (hji6z h_)
   by_cases c7 : t120 = true
   ·subst c7
    have H1 : (some (wrap64 (-(ji6)), true)) = some (r1, r2) := by rw [if_pos rfl] at H; first | done | exact H
    clear H
    have H := H1
    clear H1
    simp only [Option.some.injEq, Prod.mk.injEq] at H
    obtain ⟨rfl, rfl⟩ := H
    go_enter Try.func14, Try.ntmps14
    go_wp2_with (first | ((with_reducible refine gate_callee (f := 66) rfl ?_); refine gl_ (some 11) rfl rfl Try.func66 (by kernel_rfl) rfl #[.int .i64 16, .int .u32 a0] rfl ?_; (with_reducible refine (spec_FloatParts.calls 16 a0 true t121 t122 true _ A2.out).mono ?_); rintro e w8 ⟨rfl, hb⟩; refine ⟨_, rfl, ?_⟩; replace HB := eh_ hb; (try clear hb)))
    go_ret2
    exact ⟨by first | rfl | (simp [errW_none, errW_some] <;> rfl) | (simp only [← hji4, ← hji6]; first | rfl | (simp [errW_none, errW_some] <;> rfl)) | (simp [*, errW_none, errW_some] <;> rfl), es_⟩
   ·replace c7 := Bool.eq_false_iff.mpr c7
    subst c7
    have H1 : (some (ji6, true)) = some (r1, r2) := by rw [if_neg (show ¬ (false = true) by decide)] at H; first | done | exact H
    clear H
    have H := H1
    clear H1
    simp only [Option.some.injEq, Prod.mk.injEq] at H
    obtain ⟨rfl, rfl⟩ := H
    go_enter Try.func14, Try.ntmps14
    go_wp2_with (first | ((with_reducible refine gate_callee (f := 66) rfl ?_); refine gl_ (some 11) rfl rfl Try.func66 (by kernel_rfl) rfl #[.int .i64 16, .int .u32 a0] rfl ?_; (with_reducible refine (spec_FloatParts.calls 16 a0 false t121 t122 true _ A2.out).mono ?_); rintro e w9 ⟨rfl, hb⟩; refine ⟨_, rfl, ?_⟩; replace HB := eh_ hb; (try clear hb)))
    go_ret2
    exact ⟨by first | rfl | (simp [errW_none, errW_some] <;> rfl) | (simp only [← hji4, ← hji6]; first | rfl | (simp [errW_none, errW_some] <;> rfl)) | (simp [*, errW_none, errW_some] <;> rfl), es_⟩
  ·rw [if_neg c5] at H
   exact absurd H (by simp)
 ·replace c3 := Bool.eq_false_iff.mpr c3
  subst c3
  have H1 : (some (0, false)) = some (r1, r2) := by rw [if_neg (show ¬ (false = true) by decide)] at H; first | done | exact H
  clear H
  have H := H1
  clear H1
  simp only [Option.some.injEq, Prod.mk.injEq] at H
  obtain ⟨rfl, rfl⟩ := H
  go_enter Try.func14, Try.ntmps14
  go_wp2_with (first | ((with_reducible refine gate_callee (f := 66) rfl ?_); refine gl_ (some 11) rfl rfl Try.func66 (by kernel_rfl) rfl #[.int .i64 16, .int .u32 a0] rfl ?_; (with_reducible refine (spec_FloatParts.calls 16 a0 t120 t121 t122 false _ A2.out).mono ?_); rintro e w10 ⟨rfl, hb⟩; refine ⟨_, rfl, ?_⟩; replace HB := eh_ hb; (try clear hb)))
  go_ret2
  exact ⟨by first | rfl | (simp [errW_none, errW_some] <;> rfl) | (simp [*, errW_none, errW_some] <;> rfl), es_⟩

/-- A state of type 91 at block g of W; what its slices lead to came in by w0. -/
def IsS91 (w0 W : World) (g : Nat) (f0 : List Int) (f1 : Int) (f2 : Int) : Prop := ∃ A0 c0, W.heap[g]? = some (.cells #[.slice A0 f0.length c0, .int .i64 f1, .int .u64 f2] 91 (0, 0)) ∧ w0.heap.size ≤ g ∧ Kd.C (Kd.int .u8) w0 A0 f0.length f0
theorem IsS91.grown {w0 W : World} {g : Nat} {f0 : List Int} {f1 : Int} {f2 : Int} {W1 : World} {row : Option Nat} (h : IsS91 w0 W g f0 f1 f2) (hw : W.grownBy W1 row) (hne : some g ≠ row) : IsS91 w0 W1 g f0 f1 f2 := by
 obtain ⟨A0, c0, hb, hg, hr0⟩ := h
 exact ⟨A0, c0, blk_grown hb hw hne, hg, hr0⟩
theorem IsS91.below {w0 W : World} {g : Nat} {f0 : List Int} {f1 : Int} {f2 : Int} {W1 : World} (h : IsS91 w0 W g f0 f1 f2) (hw : Below W.heap.size W W1) : IsS91 w0 W1 g f0 f1 f2 := h.grown (grown_of_below hw none) (by simp)
theorem IsS91.drewN {w0 W : World} {g : Nat} {f0 : List Int} {f1 : Int} {f2 : Int} (h : IsS91 w0 W g f0 f1 f2) (m : Nat) : IsS91 w0 (W.drewN m) g f0 f1 f2 := h
theorem IsS91.drew {w0 W : World} {g : Nat} {f0 : List Int} {f1 : Int} {f2 : Int} (h : IsS91 w0 W g f0 f1 f2) : IsS91 w0 W.drew g f0 f1 f2 := h
theorem IsS91.apart {w0 W : World} {g : Nat} {f0 : List Int} {f1 : Int} {f2 : Int} {α : Type} {d : Kd α} {e : Nat} {base : Nat} {ok : Nat → Prop} {v : Value} {xs : List α} (h : IsS91 w0 W g f0 f1 f2) (ho : d.R e W base ok v xs) (ht : ∀ q, q ∈ e :: d.E → q ≠ 91) : d.R e W base (fun k => ok k ∧ k ≠ g) v xs := by
 obtain ⟨A0, c0, hb, hg, hr0⟩ := h
 exact Kd.R_types ho hb ht
theorem IsS91.own_ne {w0 W : World} {g : Nat} {f0 : List Int} {f1 : Int} {f2 : Int} {α : Type} {d : Kd α} {e : Nat} {base : Nat} {ok : Nat → Prop} {v : Value} {xs : List α} (h : IsS91 w0 W g f0 f1 f2) (ho : d.R e W base ok v xs) (ht : e ≠ 91) : some g ≠ v.ownBlock := by
 obtain ⟨A0, c0, hb, hg, hr0⟩ := h
 exact Kd.R_ne ho hb ht
theorem IsS91.lt {w0 W : World} {g : Nat} {f0 : List Int} {f1 : Int} {f2 : Int} (h : IsS91 w0 W g f0 f1 f2) : g < W.heap.size := by
 obtain ⟨A0, c0, hb, hg, hr0⟩ := h
 exact blk_lt hb
theorem IsS91.ge {w0 W : World} {g : Nat} {f0 : List Int} {f1 : Int} {f2 : Int} (h : IsS91 w0 W g f0 f1 f2) : w0.heap.size ≤ g := by
 obtain ⟨A0, c0, hb, hg, hr0⟩ := h
 exact hg
theorem IsS91.far {w0 W : World} {g : Nat} {f0 : List Int} {f1 : Int} {f2 : Int} {p : Addr} (h : IsS91 w0 W g f0 f1 f2) (hne : g ≠ p.block) (u : Value) : IsS91 w0 (W.setCell p u) g f0 f1 f2 := by
 obtain ⟨A0, c0, hb, hg, hr0⟩ := h
 exact ⟨A0, c0, blk_far hb hne u, hg, hr0⟩
theorem cellS91_0 {W : World} {g : Nat} {A0 : Option Addr} {c0 : Nat} {f0 : List Int} {f1 : Int} {f2 : Int} (h : W.heap[g]? = some (.cells #[.slice A0 f0.length c0, .int .i64 f1, .int .u64 f2] 91 (0, 0))) : W.cell? ⟨g, 0, none⟩ = some (.slice A0 f0.length c0) := (blk_cell h 0).trans rfl
theorem cellS91_1 {W : World} {g : Nat} {A0 : Option Addr} {c0 : Nat} {f0 : List Int} {f1 : Int} {f2 : Int} (h : W.heap[g]? = some (.cells #[.slice A0 f0.length c0, .int .i64 f1, .int .u64 f2] 91 (0, 0))) : W.cell? ⟨g, 1, none⟩ = some (.int .i64 f1) := (blk_cell h 1).trans rfl
theorem IsS91.set_1 {w0 W : World} {g : Nat} {f0 : List Int} {f1 : Int} {f2 : Int} (h : IsS91 w0 W g f0 f1 f2) (x : Int) : IsS91 w0 (W.setCell ⟨g, 1, none⟩ (.int .i64 x)) g f0 x f2 := by
 obtain ⟨A0, c0, hb, hg, hr0⟩ := h
 exact ⟨A0, c0, by simpa using blk_set hb 1 (.int .i64 x), hg, hr0⟩
theorem cellS91_2 {W : World} {g : Nat} {A0 : Option Addr} {c0 : Nat} {f0 : List Int} {f1 : Int} {f2 : Int} (h : W.heap[g]? = some (.cells #[.slice A0 f0.length c0, .int .i64 f1, .int .u64 f2] 91 (0, 0))) : W.cell? ⟨g, 2, none⟩ = some (.int .u64 f2) := (blk_cell h 2).trans rfl
theorem IsS91.set_2 {w0 W : World} {g : Nat} {f0 : List Int} {f1 : Int} {f2 : Int} (h : IsS91 w0 W g f0 f1 f2) (x : Int) : IsS91 w0 (W.setCell ⟨g, 2, none⟩ (.int .u64 x)) g f0 f1 x := by
 obtain ⟨A0, c0, hb, hg, hr0⟩ := h
 exact ⟨A0, c0, by simpa using blk_set hb 2 (.int .u64 x), hg, hr0⟩

def spec_l1Cur_next.f (s0_0 : List Int) (s0_1 : Int) (s0_2 : Int) : Option (Int × Int × Int) := if s0_1 < (s0_0.length : Int) then (if 0 ≤ s0_1 then (if (wrap64 (s0_1 + 1)) ≤ (s0_0.length : Int) then (some (wrap64 (rd s0_0 s0_1), wrap64 (s0_1 + 1), IntKind.u64.wrap ((IntKind.u64.wrap ((IntKind.u64.wrap (s0_2 * 6364136223846793005)) + (IntKind.u64.wrap (wrap64 (rd s0_0 s0_1))))) + 1442695040888963407))) else (some (wrap64 (Go.bits .and .u64 ((IntKind.u64.wrap ((IntKind.u64.wrap ((IntKind.u64.wrap (s0_2 * 6364136223846793005)) + (IntKind.u64.wrap (wrap64 (rd s0_0 s0_1))))) + 1442695040888963407)) / 1099511627776) 255), wrap64 (s0_1 + 1), IntKind.u64.wrap ((IntKind.u64.wrap ((IntKind.u64.wrap (s0_2 * 6364136223846793005)) + (IntKind.u64.wrap (wrap64 (rd s0_0 s0_1))))) + 1442695040888963407)))) else (none)) else (if (wrap64 (s0_1 + 1)) ≤ (s0_0.length : Int) then (some (0, wrap64 (s0_1 + 1), IntKind.u64.wrap ((IntKind.u64.wrap ((IntKind.u64.wrap (s0_2 * 6364136223846793005)) + 0)) + 1442695040888963407))) else (some (wrap64 (Go.bits .and .u64 ((IntKind.u64.wrap ((IntKind.u64.wrap ((IntKind.u64.wrap (s0_2 * 6364136223846793005)) + 0)) + 1442695040888963407)) / 1099511627776) 255), wrap64 (s0_1 + 1), IntKind.u64.wrap ((IntKind.u64.wrap ((IntKind.u64.wrap (s0_2 * 6364136223846793005)) + 0)) + 1442695040888963407))))
set_option maxHeartbeats 8000000 in
set_option maxRecDepth 100000 in
theorem spec_l1Cur_next.calls (g : Nat) (s0_0 : List Int) (s0_1 : Int) (s0_2 : Int) (r1 : Int) (r2 : Int) (r3 : Int) (w0 w : World) (hI : IsS91 w0 w g s0_0 s0_1 s0_2) (hB : Below w0.heap.size w0 w) (h : spec_l1Cur_next.f s0_0 s0_1 s0_2 = some (r1, r2, r3)) :
  Calls Try.prog 134 #[.pointer (some ⟨g, 0, none⟩)] w fun e w' => e = .returned (.int .i64 r1) ∧ IsS91 w0 w' g s0_0 r2 r3 ∧ Below w0.heap.size w0 w' ∧ KeepBut w w' g none := by
 have HI0 := Aside0.mk hI
 have HK := Aside0.mk (KeepBut.refl w g none)
 have HL := Aside0.mk hB.size
 clear hI
 have HW0 := Aside0.mk hB.size
 have HB := Aside0.mk hB
 clear hB
 have H : (if s0_1 < (s0_0.length : Int) then (if 0 ≤ s0_1 then (if (wrap64 (s0_1 + 1)) ≤ (s0_0.length : Int) then (some (wrap64 (rd s0_0 s0_1), wrap64 (s0_1 + 1), IntKind.u64.wrap ((IntKind.u64.wrap ((IntKind.u64.wrap (s0_2 * 6364136223846793005)) + (IntKind.u64.wrap (wrap64 (rd s0_0 s0_1))))) + 1442695040888963407))) else (some (wrap64 (Go.bits .and .u64 ((IntKind.u64.wrap ((IntKind.u64.wrap ((IntKind.u64.wrap (s0_2 * 6364136223846793005)) + (IntKind.u64.wrap (wrap64 (rd s0_0 s0_1))))) + 1442695040888963407)) / 1099511627776) 255), wrap64 (s0_1 + 1), IntKind.u64.wrap ((IntKind.u64.wrap ((IntKind.u64.wrap (s0_2 * 6364136223846793005)) + (IntKind.u64.wrap (wrap64 (rd s0_0 s0_1))))) + 1442695040888963407)))) else (none)) else (if (wrap64 (s0_1 + 1)) ≤ (s0_0.length : Int) then (some (0, wrap64 (s0_1 + 1), IntKind.u64.wrap ((IntKind.u64.wrap ((IntKind.u64.wrap (s0_2 * 6364136223846793005)) + 0)) + 1442695040888963407))) else (some (wrap64 (Go.bits .and .u64 ((IntKind.u64.wrap ((IntKind.u64.wrap ((IntKind.u64.wrap (s0_2 * 6364136223846793005)) + 0)) + 1442695040888963407)) / 1099511627776) 255), wrap64 (s0_1 + 1), IntKind.u64.wrap ((IntKind.u64.wrap ((IntKind.u64.wrap (s0_2 * 6364136223846793005)) + 0)) + 1442695040888963407))))) = some (r1, r2, r3) := h
 clear h
 by_cases c2 : s0_1 < (s0_0.length : Int)
 ·rw [if_pos c2] at H
  have c2b0 : decide (s0_1 < (s0_0.length : Int)) = true := decide_eq_true c2
  clear c2
  by_cases c3 : 0 ≤ s0_1
  ·rw [if_pos c3] at H
   have c3b0 : decide (0 ≤ s0_1) = true := decide_eq_true c3
   clear c3
   by_cases c4 : (wrap64 (s0_1 + 1)) ≤ (s0_0.length : Int)
   ·rw [if_pos c4] at H
    have c4b0 : decide ((wrap64 (s0_1 + 1)) ≤ (s0_0.length : Int)) = true := decide_eq_true c4
    clear c4
    simp only [Option.some.injEq, Prod.mk.injEq] at H
    obtain ⟨rfl, rfl, rfl⟩ := H
    obtain ⟨ASz5_0, cSz5_0, HGz5, hgz5, HSz5_0⟩ := HI0.out
    have hcz5_0 := cellS91_0 HGz5
    have hcz5_1 := cellS91_1 HGz5
    have hcz5_2 := cellS91_2 HGz5
    have hfz5_1 := blk_frozen HGz5 1
    have hfz5_2 := blk_frozen HGz5 2
    clear HGz5 hgz5
    have p124 : 0 ≤ (s0_1 : Int) := of_decide_eq_true (by first | (with_reducible assumption) | assumption)
    have q124 : s0_1 < (s0_0.length : Int) := of_decide_eq_true (by first | (with_reducible assumption) | assumption)
    obtain ⟨ad124, e124, hx124_0⟩ := Kd.at_int HSz5_0 s0_1 p124 q124
    cases e124
    replace hx124_0 := pw_cell_below HB.out hx124_0
    replace p124 := eq_true p124
    replace q124 := eq_true q124
    go_enter Try.func134, Try.ntmps134
    go_wp2
    repeat (go_quiet (fail); try go_wp2)
    go_ret
    exact ⟨by first | rfl | (simp [errW_none, errW_some] <;> rfl) | (simp [*, errW_none, errW_some] <;> rfl), by (try simp only [Int.add_zero]); repeat (first | (with_reducible first | exact HI0.out | apply IsS91.alloc | apply IsS91.drewN | apply IsS91.drew | apply IsS91.set_1 | apply IsS91.set_2) | exact HI0.out), by repeat (first | (with_reducible first | exact HB.out | apply eA | apply eN | apply eD | refine below_set ?_ (IsS91.ge HI0.out)) | exact HB.out), by repeat (first | (with_reducible first | exact HK.out | apply KeepBut.set_ | apply keep_drewN | apply keep_drew | apply keep_alloc) | exact HK.out)⟩
   ·rw [if_neg c4] at H
    have c4b0 : decide ((wrap64 (s0_1 + 1)) ≤ (s0_0.length : Int)) = false := decide_eq_false c4
    clear c4
    simp only [Option.some.injEq, Prod.mk.injEq] at H
    obtain ⟨rfl, rfl, rfl⟩ := H
    obtain ⟨ASz6_0, cSz6_0, HGz6, hgz6, HSz6_0⟩ := HI0.out
    have hcz6_0 := cellS91_0 HGz6
    have hcz6_1 := cellS91_1 HGz6
    have hcz6_2 := cellS91_2 HGz6
    have hfz6_1 := blk_frozen HGz6 1
    have hfz6_2 := blk_frozen HGz6 2
    clear HGz6 hgz6
    have p124 : 0 ≤ (s0_1 : Int) := of_decide_eq_true (by first | (with_reducible assumption) | assumption)
    have q124 : s0_1 < (s0_0.length : Int) := of_decide_eq_true (by first | (with_reducible assumption) | assumption)
    obtain ⟨ad124, e124, hx124_0⟩ := Kd.at_int HSz6_0 s0_1 p124 q124
    cases e124
    replace hx124_0 := pw_cell_below HB.out hx124_0
    replace p124 := eq_true p124
    replace q124 := eq_true q124
    go_enter Try.func134, Try.ntmps134
    go_wp2
    repeat (go_quiet (fail); try go_wp2)
    go_ret
    exact ⟨by first | rfl | (simp [errW_none, errW_some] <;> rfl) | (simp [*, errW_none, errW_some] <;> rfl), by (try simp only [Int.add_zero]); repeat (first | (with_reducible first | exact HI0.out | apply IsS91.alloc | apply IsS91.drewN | apply IsS91.drew | apply IsS91.set_1 | apply IsS91.set_2) | exact HI0.out), by repeat (first | (with_reducible first | exact HB.out | apply eA | apply eN | apply eD | refine below_set ?_ (IsS91.ge HI0.out)) | exact HB.out), by repeat (first | (with_reducible first | exact HK.out | apply KeepBut.set_ | apply keep_drewN | apply keep_drew | apply keep_alloc) | exact HK.out)⟩
  ·rw [if_neg c3] at H
   exact absurd H (by simp)
 ·rw [if_neg c2] at H
  have c2b0 : decide (s0_1 < (s0_0.length : Int)) = false := decide_eq_false c2
  clear c2
  by_cases c7 : (wrap64 (s0_1 + 1)) ≤ (s0_0.length : Int)
  ·rw [if_pos c7] at H
   have c7b0 : decide ((wrap64 (s0_1 + 1)) ≤ (s0_0.length : Int)) = true := decide_eq_true c7
   clear c7
   simp only [Option.some.injEq, Prod.mk.injEq] at H
   obtain ⟨rfl, rfl, rfl⟩ := H
   obtain ⟨ASz8_0, cSz8_0, HGz8, hgz8, HSz8_0⟩ := HI0.out
   have hcz8_0 := cellS91_0 HGz8
   have hcz8_1 := cellS91_1 HGz8
   have hcz8_2 := cellS91_2 HGz8
   have hfz8_1 := blk_frozen HGz8 1
   have hfz8_2 := blk_frozen HGz8 2
   clear HGz8 hgz8
   go_enter Try.func134, Try.ntmps134
   go_wp2
   repeat (go_quiet (fail); try go_wp2)
   go_ret
   exact ⟨by first | rfl | (simp [errW_none, errW_some] <;> rfl) | (simp [*, errW_none, errW_some] <;> rfl), by (try simp only [Int.add_zero]); repeat (first | (with_reducible first | exact HI0.out | apply IsS91.alloc | apply IsS91.drewN | apply IsS91.drew | apply IsS91.set_1 | apply IsS91.set_2) | exact HI0.out), by repeat (first | (with_reducible first | exact HB.out | apply eA | apply eN | apply eD | refine below_set ?_ (IsS91.ge HI0.out)) | exact HB.out), by repeat (first | (with_reducible first | exact HK.out | apply KeepBut.set_ | apply keep_drewN | apply keep_drew | apply keep_alloc) | exact HK.out)⟩
  ·rw [if_neg c7] at H
   have c7b0 : decide ((wrap64 (s0_1 + 1)) ≤ (s0_0.length : Int)) = false := decide_eq_false c7
   clear c7
   simp only [Option.some.injEq, Prod.mk.injEq] at H
   obtain ⟨rfl, rfl, rfl⟩ := H
   obtain ⟨ASz9_0, cSz9_0, HGz9, hgz9, HSz9_0⟩ := HI0.out
   have hcz9_0 := cellS91_0 HGz9
   have hcz9_1 := cellS91_1 HGz9
   have hcz9_2 := cellS91_2 HGz9
   have hfz9_1 := blk_frozen HGz9 1
   have hfz9_2 := blk_frozen HGz9 2
   clear HGz9 hgz9
   go_enter Try.func134, Try.ntmps134
   go_wp2
   repeat (go_quiet (fail); try go_wp2)
   go_ret
   exact ⟨by first | rfl | (simp [errW_none, errW_some] <;> rfl) | (simp [*, errW_none, errW_some] <;> rfl), by (try simp only [Int.add_zero]); repeat (first | (with_reducible first | exact HI0.out | apply IsS91.alloc | apply IsS91.drewN | apply IsS91.drew | apply IsS91.set_1 | apply IsS91.set_2) | exact HI0.out), by repeat (first | (with_reducible first | exact HB.out | apply eA | apply eN | apply eD | refine below_set ?_ (IsS91.ge HI0.out)) | exact HB.out), by repeat (first | (with_reducible first | exact HK.out | apply KeepBut.set_ | apply keep_drewN | apply keep_drew | apply keep_alloc) | exact HK.out)⟩

def spec_l1Cur_pick.f (s0_0 : List Int) (s0_1 : Int) (s0_2 : Int) (a1 : Int) : Option (Int × Int × Int) := if a1 ≤ 1 then (some (0, s0_1, s0_2)) else ((spec_l1Cur_next.f s0_0 s0_1 s0_2).bind fun bt125 => (if a1 > 200 then ((spec_l1Cur_next.f s0_0 bt125.2.1 bt125.2.2).bind fun bt128 => (if a1 = 0 then (none) else (some (Int.tmod (wrap64 ((wrap64 (bt125.1 * 256)) + bt128.1)) a1, bt128.2.1, bt128.2.2)))) else (if a1 = 0 then (none) else (some (Int.tmod bt125.1 a1, bt125.2.1, bt125.2.2)))))
set_option maxHeartbeats 8000000 in
set_option maxRecDepth 100000 in
theorem spec_l1Cur_pick.calls (g : Nat) (s0_0 : List Int) (s0_1 : Int) (s0_2 : Int) (a1 : Int) (r1 : Int) (r2 : Int) (r3 : Int) (w0 w : World) (hI : IsS91 w0 w g s0_0 s0_1 s0_2) (hB : Below w0.heap.size w0 w) (h : spec_l1Cur_pick.f s0_0 s0_1 s0_2 a1 = some (r1, r2, r3)) :
  Calls Try.prog 87 #[.pointer (some ⟨g, 0, none⟩), .int .i64 a1] w fun e w' => e = .returned (.int .i64 r1) ∧ IsS91 w0 w' g s0_0 r2 r3 ∧ Below w0.heap.size w0 w' ∧ KeepBut w w' g none := by
 have HI0 := Aside0.mk hI
 have HK := Aside0.mk (KeepBut.refl w g none)
 have HL := Aside0.mk hB.size
 clear hI
 have HW0 := Aside0.mk hB.size
 have HB := Aside0.mk hB
 clear hB
 have H : (if a1 ≤ 1 then (some (0, s0_1, s0_2)) else ((spec_l1Cur_next.f s0_0 s0_1 s0_2).bind fun bt125 => (if a1 > 200 then ((spec_l1Cur_next.f s0_0 bt125.2.1 bt125.2.2).bind fun bt128 => (if a1 = 0 then (none) else (some (Int.tmod (wrap64 ((wrap64 (bt125.1 * 256)) + bt128.1)) a1, bt128.2.1, bt128.2.2)))) else (if a1 = 0 then (none) else (some (Int.tmod bt125.1 a1, bt125.2.1, bt125.2.2)))))) = some (r1, r2, r3) := h
 clear h
 by_cases c3 : a1 ≤ 1
 ·rw [if_pos c3] at H
  have c3b0 : decide (a1 ≤ 1) = true := decide_eq_true c3
  clear c3
  simp only [Option.some.injEq, Prod.mk.injEq] at H
  obtain ⟨rfl, rfl, rfl⟩ := H
  go_enter Try.func87, Try.ntmps87
  go_wp2
  go_ret
  exact ⟨by first | rfl | (simp [errW_none, errW_some] <;> rfl) | (simp [*, errW_none, errW_some] <;> rfl), by (try simp only [Int.add_zero]); repeat (first | (with_reducible first | exact HI0.out | apply IsS91.alloc | apply IsS91.drewN | apply IsS91.drew | apply IsS91.set_1 | apply IsS91.set_2) | exact HI0.out), by repeat (first | (with_reducible first | exact HB.out | apply eA | apply eN | apply eD | refine below_set ?_ (IsS91.ge HI0.out)) | exact HB.out), by repeat (first | (with_reducible first | exact HK.out | apply KeepBut.set_ | apply keep_drewN | apply keep_drew | apply keep_alloc) | exact HK.out)⟩
 ·rw [if_neg c3] at H
  have c3b0 : decide (a1 ≤ 1) = false := decide_eq_false c3
  clear c3
  replace H := Option.bind_eq_some_iff.mp H
  obtain ⟨⟨t125, t126, t127⟩, A40, H⟩ := H
  try dsimp only at H
  have A4 := Aside0.mk A40
  clear A40
  by_cases c5 : a1 > 200
  ·rw [if_pos c5] at H
   have c5b0 : decide (200 < a1) = true := decide_eq_true c5
   clear c5
   replace H := Option.bind_eq_some_iff.mp H
   obtain ⟨⟨t128, t129, t130⟩, A60, H⟩ := H
   try dsimp only at H
   have A6 := Aside0.mk A60
   clear A60
   by_cases c7 : a1 = 0
   ·rw [if_pos c7] at H
    exact absurd H (by simp)
   ·rw [if_neg c7] at H
    have c7b0 : (a1 == 0) = false := beq_eq_false_iff_ne.mpr c7
    have c7b1 : (a1 != 0) = true := bne_iff_ne.mpr c7
    simp only [Option.some.injEq, Prod.mk.injEq] at H
    obtain ⟨rfl, rfl, rfl⟩ := H
    go_enter Try.func87, Try.ntmps87
    go_wp2_with (first | ((with_reducible refine gate_callee (f := 134) rfl ?_); refine gl_ (some 9) rfl rfl Try.func134 (by kernel_rfl) rfl #[.pointer (some ⟨g, 0, none⟩)] rfl ?_; (with_reducible refine (spec_l1Cur_next.calls g s0_0 s0_1 s0_2 t125 t126 t127 w0 _ ?side1 ?side2 A4.out).mono ?_); (case side1 => repeat (first | (with_reducible first | exact HI0.out | apply IsS91.alloc | apply IsS91.drewN | apply IsS91.drew | apply IsS91.set_1 | apply IsS91.set_2) | exact HI0.out)); (case side2 => repeat (first | (with_reducible first | exact HB.out | apply eA | apply eN | apply eD | refine below_set ?_ (IsS91.ge HI0.out)) | exact HB.out)); rintro e w8 ⟨rfl, hi, hb, hk⟩; refine ⟨_, rfl, ?_⟩; replace HK := Aside0.mk (KeepBut.trans (by repeat (first | (with_reducible first | exact HK.out | apply KeepBut.set_ | apply keep_drewN | apply keep_drew | apply keep_alloc) | exact HK.out)) hk (.inl rfl)); replace HB := Aside0.mk (hb); replace HI0 := Aside0.mk (hi); (try clear hb); (try clear hk); (try clear hi)) | ((with_reducible refine gate_callee (f := 134) rfl ?_); refine gl_ (some 15) rfl rfl Try.func134 (by kernel_rfl) rfl #[.pointer (some ⟨g, 0, none⟩)] rfl ?_; (with_reducible refine (spec_l1Cur_next.calls g s0_0 t126 t127 t128 t129 t130 w0 _ ?side1 ?side2 A6.out).mono ?_); (case side1 => repeat (first | (with_reducible first | exact HI0.out | apply IsS91.alloc | apply IsS91.drewN | apply IsS91.drew | apply IsS91.set_1 | apply IsS91.set_2) | exact HI0.out)); (case side2 => repeat (first | (with_reducible first | exact HB.out | apply eA | apply eN | apply eD | refine below_set ?_ (IsS91.ge HI0.out)) | exact HB.out)); rintro e w9 ⟨rfl, hi, hb, hk⟩; refine ⟨_, rfl, ?_⟩; replace HK := Aside0.mk (KeepBut.trans (by repeat (first | (with_reducible first | exact HK.out | apply KeepBut.set_ | apply keep_drewN | apply keep_drew | apply keep_alloc) | exact HK.out)) hk (.inl rfl)); replace HB := Aside0.mk (hb); replace HI0 := Aside0.mk (hi); (try clear hb); (try clear hk); (try clear hi)))
    go_ret
    exact ⟨by first | rfl | (simp [errW_none, errW_some] <;> rfl) | (simp [*, errW_none, errW_some] <;> rfl), by (try simp only [Int.add_zero]); repeat (first | (with_reducible first | exact HI0.out | apply IsS91.alloc | apply IsS91.drewN | apply IsS91.drew | apply IsS91.set_1 | apply IsS91.set_2) | exact HI0.out), by repeat (first | (with_reducible first | exact HB.out | apply eA | apply eN | apply eD | refine below_set ?_ (IsS91.ge HI0.out)) | exact HB.out), by repeat (first | (with_reducible first | exact HK.out | apply KeepBut.set_ | apply keep_drewN | apply keep_drew | apply keep_alloc) | exact HK.out)⟩
  ·rw [if_neg c5] at H
   have c5b0 : decide (200 < a1) = false := decide_eq_false c5
   clear c5
   by_cases c10 : a1 = 0
   ·rw [if_pos c10] at H
    exact absurd H (by simp)
   ·rw [if_neg c10] at H
    have c10b0 : (a1 == 0) = false := beq_eq_false_iff_ne.mpr c10
    have c10b1 : (a1 != 0) = true := bne_iff_ne.mpr c10
    simp only [Option.some.injEq, Prod.mk.injEq] at H
    obtain ⟨rfl, rfl, rfl⟩ := H
    go_enter Try.func87, Try.ntmps87
    go_wp2_with (first | ((with_reducible refine gate_callee (f := 134) rfl ?_); refine gl_ (some 9) rfl rfl Try.func134 (by kernel_rfl) rfl #[.pointer (some ⟨g, 0, none⟩)] rfl ?_; (with_reducible refine (spec_l1Cur_next.calls g s0_0 s0_1 s0_2 t125 t126 t127 w0 _ ?side1 ?side2 A4.out).mono ?_); (case side1 => repeat (first | (with_reducible first | exact HI0.out | apply IsS91.alloc | apply IsS91.drewN | apply IsS91.drew | apply IsS91.set_1 | apply IsS91.set_2) | exact HI0.out)); (case side2 => repeat (first | (with_reducible first | exact HB.out | apply eA | apply eN | apply eD | refine below_set ?_ (IsS91.ge HI0.out)) | exact HB.out)); rintro e w11 ⟨rfl, hi, hb, hk⟩; refine ⟨_, rfl, ?_⟩; replace HK := Aside0.mk (KeepBut.trans (by repeat (first | (with_reducible first | exact HK.out | apply KeepBut.set_ | apply keep_drewN | apply keep_drew | apply keep_alloc) | exact HK.out)) hk (.inl rfl)); replace HB := Aside0.mk (hb); replace HI0 := Aside0.mk (hi); (try clear hb); (try clear hk); (try clear hi)))
    go_ret
    exact ⟨by first | rfl | (simp [errW_none, errW_some] <;> rfl) | (simp [*, errW_none, errW_some] <;> rfl), by (try simp only [Int.add_zero]); repeat (first | (with_reducible first | exact HI0.out | apply IsS91.alloc | apply IsS91.drewN | apply IsS91.drew | apply IsS91.set_1 | apply IsS91.set_2) | exact HI0.out), by repeat (first | (with_reducible first | exact HB.out | apply eA | apply eN | apply eD | refine below_set ?_ (IsS91.ge HI0.out)) | exact HB.out), by repeat (first | (with_reducible first | exact HK.out | apply KeepBut.set_ | apply keep_drewN | apply keep_drew | apply keep_alloc) | exact HK.out)⟩

def spec_l1Cur_one.f (s0_0 : List Int) (s0_1 : Int) (s0_2 : Int) (a1 : Int) : Option (Bool × Int × Int) := (spec_l1Cur_pick.f s0_0 s0_1 s0_2 a1).bind fun bt131 => (some ((bt131.1 == 0), bt131.2.1, bt131.2.2))
set_option maxHeartbeats 8000000 in
set_option maxRecDepth 100000 in
theorem spec_l1Cur_one.calls (g : Nat) (s0_0 : List Int) (s0_1 : Int) (s0_2 : Int) (a1 : Int) (r1 : Bool) (r2 : Int) (r3 : Int) (w0 w : World) (hI : IsS91 w0 w g s0_0 s0_1 s0_2) (hB : Below w0.heap.size w0 w) (h : spec_l1Cur_one.f s0_0 s0_1 s0_2 a1 = some (r1, r2, r3)) :
  Calls Try.prog 54 #[.pointer (some ⟨g, 0, none⟩), .int .i64 a1] w fun e w' => e = .returned (.bool r1) ∧ IsS91 w0 w' g s0_0 r2 r3 ∧ Below w0.heap.size w0 w' ∧ KeepBut w w' g none := by
 have HI0 := Aside0.mk hI
 have HK := Aside0.mk (KeepBut.refl w g none)
 have HL := Aside0.mk hB.size
 clear hI
 have HW0 := Aside0.mk hB.size
 have HB := Aside0.mk hB
 clear hB
 have H : ((spec_l1Cur_pick.f s0_0 s0_1 s0_2 a1).bind fun bt131 => (some ((bt131.1 == 0), bt131.2.1, bt131.2.2))) = some (r1, r2, r3) := h
 clear h
 replace H := Option.bind_eq_some_iff.mp H
 obtain ⟨⟨t131, t132, t133⟩, A30, H⟩ := H
 try dsimp only at H
 have A3 := Aside0.mk A30
 clear A30
 simp only [Option.some.injEq, Prod.mk.injEq] at H
 obtain ⟨rfl, rfl, rfl⟩ := H
 go_enter Try.func54, Try.ntmps54
 go_wp2_with (first | ((with_reducible refine gate_callee (f := 87) rfl ?_); refine gl_ (some 7) rfl rfl Try.func87 (by kernel_rfl) rfl #[.pointer (some ⟨g, 0, none⟩), .int .i64 a1] rfl ?_; (with_reducible refine (spec_l1Cur_pick.calls g s0_0 s0_1 s0_2 a1 t131 t132 t133 w0 _ ?side1 ?side2 A3.out).mono ?_); (case side1 => repeat (first | (with_reducible first | exact HI0.out | apply IsS91.alloc | apply IsS91.drewN | apply IsS91.drew | apply IsS91.set_1 | apply IsS91.set_2) | exact HI0.out)); (case side2 => repeat (first | (with_reducible first | exact HB.out | apply eA | apply eN | apply eD | refine below_set ?_ (IsS91.ge HI0.out)) | exact HB.out)); rintro e w4 ⟨rfl, hi, hb, hk⟩; refine ⟨_, rfl, ?_⟩; replace HK := Aside0.mk (KeepBut.trans (by repeat (first | (with_reducible first | exact HK.out | apply KeepBut.set_ | apply keep_drewN | apply keep_drew | apply keep_alloc) | exact HK.out)) hk (.inl rfl)); replace HB := Aside0.mk (hb); replace HI0 := Aside0.mk (hi); (try clear hb); (try clear hk); (try clear hi)))
 go_ret
 exact ⟨by first | rfl | (simp [errW_none, errW_some] <;> rfl) | (simp [*, errW_none, errW_some] <;> rfl), by (try simp only [Int.add_zero]); repeat (first | (with_reducible first | exact HI0.out | apply IsS91.alloc | apply IsS91.drewN | apply IsS91.drew | apply IsS91.set_1 | apply IsS91.set_2) | exact HI0.out), by repeat (first | (with_reducible first | exact HB.out | apply eA | apply eN | apply eD | refine below_set ?_ (IsS91.ge HI0.out)) | exact HB.out), by repeat (first | (with_reducible first | exact HK.out | apply KeepBut.set_ | apply keep_drewN | apply keep_drew | apply keep_alloc) | exact HK.out)⟩

def spec_l1Cur_kind.f (s0_0 : List Int) (s0_1 : Int) (s0_2 : Int) : Option (Int × Int × Int) := (spec_l1Cur_one.f s0_0 s0_1 s0_2 40).bind fun bt134 => (if bt134.1 = true then (some (64, bt134.2.1, bt134.2.2)) else ((spec_l1Cur_pick.f s0_0 bt134.2.1 bt134.2.2 2).bind fun bt137 => (some (wrap64 (16 + (wrap64 (16 * bt137.1))), bt137.2.1, bt137.2.2))))
set_option maxHeartbeats 8000000 in
set_option maxRecDepth 100000 in
theorem spec_l1Cur_kind.calls (g : Nat) (s0_0 : List Int) (s0_1 : Int) (s0_2 : Int) (r1 : Int) (r2 : Int) (r3 : Int) (w0 w : World) (hI : IsS91 w0 w g s0_0 s0_1 s0_2) (hB : Below w0.heap.size w0 w) (h : spec_l1Cur_kind.f s0_0 s0_1 s0_2 = some (r1, r2, r3)) :
  Calls Try.prog 52 #[.pointer (some ⟨g, 0, none⟩)] w fun e w' => e = .returned (.int .i64 r1) ∧ IsS91 w0 w' g s0_0 r2 r3 ∧ Below w0.heap.size w0 w' ∧ KeepBut w w' g none := by
 have HI0 := Aside0.mk hI
 have HK := Aside0.mk (KeepBut.refl w g none)
 have HL := Aside0.mk hB.size
 clear hI
 have HW0 := Aside0.mk hB.size
 have HB := Aside0.mk hB
 clear hB
 have H : ((spec_l1Cur_one.f s0_0 s0_1 s0_2 40).bind fun bt134 => (if bt134.1 = true then (some (64, bt134.2.1, bt134.2.2)) else ((spec_l1Cur_pick.f s0_0 bt134.2.1 bt134.2.2 2).bind fun bt137 => (some (wrap64 (16 + (wrap64 (16 * bt137.1))), bt137.2.1, bt137.2.2))))) = some (r1, r2, r3) := h
 clear h
 replace H := Option.bind_eq_some_iff.mp H
 obtain ⟨⟨t134, t135, t136⟩, A20, H⟩ := H
 try dsimp only at H
 have A2 := Aside0.mk A20
 clear A20
 by_cases c3 : t134 = true
 ·subst c3
  have H1 : (some (64, t135, t136)) = some (r1, r2, r3) := by rw [if_pos rfl] at H; first | done | exact H
  clear H
  have H := H1
  clear H1
  simp only [Option.some.injEq, Prod.mk.injEq] at H
  obtain ⟨rfl, rfl, rfl⟩ := H
  go_enter Try.func52, Try.ntmps52
  go_wp2_with (first | ((with_reducible refine gate_callee (f := 54) rfl ?_); refine gl_ (some 4) rfl rfl Try.func54 (by kernel_rfl) rfl #[.pointer (some ⟨g, 0, none⟩), .int .i64 40] rfl ?_; (with_reducible refine (spec_l1Cur_one.calls g s0_0 s0_1 s0_2 40 true t135 t136 w0 _ ?side1 ?side2 A2.out).mono ?_); (case side1 => repeat (first | (with_reducible first | exact HI0.out | apply IsS91.alloc | apply IsS91.drewN | apply IsS91.drew | apply IsS91.set_1 | apply IsS91.set_2) | exact HI0.out)); (case side2 => repeat (first | (with_reducible first | exact HB.out | apply eA | apply eN | apply eD | refine below_set ?_ (IsS91.ge HI0.out)) | exact HB.out)); rintro e w4 ⟨rfl, hi, hb, hk⟩; refine ⟨_, rfl, ?_⟩; replace HK := Aside0.mk (KeepBut.trans (by repeat (first | (with_reducible first | exact HK.out | apply KeepBut.set_ | apply keep_drewN | apply keep_drew | apply keep_alloc) | exact HK.out)) hk (.inl rfl)); replace HB := Aside0.mk (hb); replace HI0 := Aside0.mk (hi); (try clear hb); (try clear hk); (try clear hi)))
  go_ret
  exact ⟨by first | rfl | (simp [errW_none, errW_some] <;> rfl) | (simp [*, errW_none, errW_some] <;> rfl), by (try simp only [Int.add_zero]); repeat (first | (with_reducible first | exact HI0.out | apply IsS91.alloc | apply IsS91.drewN | apply IsS91.drew | apply IsS91.set_1 | apply IsS91.set_2) | exact HI0.out), by repeat (first | (with_reducible first | exact HB.out | apply eA | apply eN | apply eD | refine below_set ?_ (IsS91.ge HI0.out)) | exact HB.out), by repeat (first | (with_reducible first | exact HK.out | apply KeepBut.set_ | apply keep_drewN | apply keep_drew | apply keep_alloc) | exact HK.out)⟩
 ·replace c3 := Bool.eq_false_iff.mpr c3
  subst c3
  have H1 : ((spec_l1Cur_pick.f s0_0 t135 t136 2).bind fun bt137 => (some (wrap64 (16 + (wrap64 (16 * bt137.1))), bt137.2.1, bt137.2.2))) = some (r1, r2, r3) := by rw [if_neg (show ¬ (false = true) by decide)] at H; first | done | exact H
  clear H
  have H := H1
  clear H1
  replace H := Option.bind_eq_some_iff.mp H
  obtain ⟨⟨t137, t138, t139⟩, A50, H⟩ := H
  try dsimp only at H
  have A5 := Aside0.mk A50
  clear A50
  simp only [Option.some.injEq, Prod.mk.injEq] at H
  obtain ⟨rfl, rfl, rfl⟩ := H
  go_enter Try.func52, Try.ntmps52
  go_wp2_with (first | ((with_reducible refine gate_callee (f := 54) rfl ?_); refine gl_ (some 4) rfl rfl Try.func54 (by kernel_rfl) rfl #[.pointer (some ⟨g, 0, none⟩), .int .i64 40] rfl ?_; (with_reducible refine (spec_l1Cur_one.calls g s0_0 s0_1 s0_2 40 false t135 t136 w0 _ ?side1 ?side2 A2.out).mono ?_); (case side1 => repeat (first | (with_reducible first | exact HI0.out | apply IsS91.alloc | apply IsS91.drewN | apply IsS91.drew | apply IsS91.set_1 | apply IsS91.set_2) | exact HI0.out)); (case side2 => repeat (first | (with_reducible first | exact HB.out | apply eA | apply eN | apply eD | refine below_set ?_ (IsS91.ge HI0.out)) | exact HB.out)); rintro e w6 ⟨rfl, hi, hb, hk⟩; refine ⟨_, rfl, ?_⟩; replace HK := Aside0.mk (KeepBut.trans (by repeat (first | (with_reducible first | exact HK.out | apply KeepBut.set_ | apply keep_drewN | apply keep_drew | apply keep_alloc) | exact HK.out)) hk (.inl rfl)); replace HB := Aside0.mk (hb); replace HI0 := Aside0.mk (hi); (try clear hb); (try clear hk); (try clear hi)) | ((with_reducible refine gate_callee (f := 87) rfl ?_); refine gl_ (some 6) rfl rfl Try.func87 (by kernel_rfl) rfl #[.pointer (some ⟨g, 0, none⟩), .int .i64 2] rfl ?_; (with_reducible refine (spec_l1Cur_pick.calls g s0_0 t135 t136 2 t137 t138 t139 w0 _ ?side1 ?side2 A5.out).mono ?_); (case side1 => repeat (first | (with_reducible first | exact HI0.out | apply IsS91.alloc | apply IsS91.drewN | apply IsS91.drew | apply IsS91.set_1 | apply IsS91.set_2) | exact HI0.out)); (case side2 => repeat (first | (with_reducible first | exact HB.out | apply eA | apply eN | apply eD | refine below_set ?_ (IsS91.ge HI0.out)) | exact HB.out)); rintro e w7 ⟨rfl, hi, hb, hk⟩; refine ⟨_, rfl, ?_⟩; replace HK := Aside0.mk (KeepBut.trans (by repeat (first | (with_reducible first | exact HK.out | apply KeepBut.set_ | apply keep_drewN | apply keep_drew | apply keep_alloc) | exact HK.out)) hk (.inl rfl)); replace HB := Aside0.mk (hb); replace HI0 := Aside0.mk (hi); (try clear hb); (try clear hk); (try clear hi)))
  go_ret
  exact ⟨by first | rfl | (simp [errW_none, errW_some] <;> rfl) | (simp [*, errW_none, errW_some] <;> rfl), by (try simp only [Int.add_zero]); repeat (first | (with_reducible first | exact HI0.out | apply IsS91.alloc | apply IsS91.drewN | apply IsS91.drew | apply IsS91.set_1 | apply IsS91.set_2) | exact HI0.out), by repeat (first | (with_reducible first | exact HB.out | apply eA | apply eN | apply eD | refine below_set ?_ (IsS91.ge HI0.out)) | exact HB.out), by repeat (first | (with_reducible first | exact HK.out | apply KeepBut.set_ | apply keep_drewN | apply keep_drew | apply keep_alloc) | exact HK.out)⟩

def spec_l1Cur_wide.l0 : Nat → Int → Int → List Int → Int → Int → Option (Int × Int × Int)
 | 0, _, _, _, _, _ => none
 | k + 1, x3, x4, x1000, x1001, x1002 => if x4 < 8 then ((spec_l1Cur_next.f x1000 x1001 x1002).bind fun bt140 => (spec_l1Cur_wide.l0 k (Go.bits .or .i64 (wrap64 (x3 * 256)) bt140.1) (wrap64 (x4 + 1)) x1000 bt140.2.1 bt140.2.2)) else (some (x3, x1001, x1002))
def spec_l1Cur_wide.f (k : Nat) (s0_0 : List Int) (s0_1 : Int) (s0_2 : Int) : Option (Int × Int × Int) := spec_l1Cur_wide.l0 k 0 0 s0_0 s0_1 s0_2
set_option maxHeartbeats 8000000 in
set_option maxRecDepth 100000 in
theorem spec_l1Cur_wide.calls (k : Nat) (g : Nat) (s0_0 : List Int) (s0_1 : Int) (s0_2 : Int) (r1 : Int) (r2 : Int) (r3 : Int) (w0 w : World) (hI : IsS91 w0 w g s0_0 s0_1 s0_2) (hB : Below w0.heap.size w0 w) (h : spec_l1Cur_wide.f k s0_0 s0_1 s0_2 = some (r1, r2, r3)) :
  Calls Try.prog 110 #[.pointer (some ⟨g, 0, none⟩)] w fun e w' => e = .returned (.int .i64 r1) ∧ IsS91 w0 w' g s0_0 r2 r3 ∧ Below w0.heap.size w0 w' ∧ KeepBut w w' g none := by
 have HI0 := Aside0.mk hI
 have HK := Aside0.mk (KeepBut.refl w g none)
 have HL := Aside0.mk hB.size
 clear hI
 have HW0 := Aside0.mk hB.size
 have HB := Aside0.mk hB
 clear hB
 have H : (spec_l1Cur_wide.l0 k 0 0 s0_0 s0_1 s0_2) = some (r1, r2, r3) := h
 clear h
 have H' := Aside0.mk H
 clear H
 go_enter Try.func110, Try.ntmps110
 go_wp2
 go_loopg [3, 4] k (fun kq v3 v4 w' => ∃ (x3_1 : Int) (x4_1 : Int) (x1001_1 : Int) (x1002_1 : Int), v3 = .int .i64 x3_1 ∧ v4 = .int .i64 x4_1 ∧ Aside0 (spec_l1Cur_wide.l0 kq x3_1 x4_1 s0_0 x1001_1 x1002_1 = some (r1, r2, r3)) ∧ Aside0 (kq ≤ k) ∧ Aside0 (IsS91 w0 w' g s0_0 x1001_1 x1002_1) ∧ Aside0 (KeepBut w w' g none) ∧ Aside0 (Below w0.heap.size w0 w'))
 case atStart => exact ⟨(0), (0), (s0_1), (s0_2), (by first | rfl | (simp; done) | (simp [*]; done)), (by first | rfl | (simp; done) | (simp [*]; done)), H', ⟨Nat.le_refl _⟩, ⟨by (try simp only [Int.add_zero]); repeat (first | (with_reducible first | exact HI0.out | apply IsS91.alloc | apply IsS91.drewN | apply IsS91.drew | apply IsS91.set_1 | apply IsS91.set_2) | exact HI0.out)⟩, ⟨by repeat (first | (with_reducible first | exact HK.out | apply KeepBut.set_ | apply keep_drewN | apply keep_drew | apply keep_alloc) | exact HK.out)⟩, ⟨by repeat (first | (with_reducible first | exact HB.out | apply eA | apply eN | apply eD | refine below_set ?_ (IsS91.ge HI0.out)) | exact HB.out)⟩⟩
 case round =>
  clear H'
  obtain ⟨x3_1, x4_1, x1001_1, x1002_1, rfl, rfl, HA, HK1, HI0, HK, HB⟩ := hrel
  cases gk with
  | zero => exact absurd HA.out (by simp [spec_l1Cur_wide.l0])
  | succ k1 =>
   have H := HA.out
   clear HA
   simp only [spec_l1Cur_wide.l0] at H
   by_cases c2 : x4_1 < 8
   ·rw [if_pos c2] at H
    have c2b0 : decide (x4_1 < 8) = true := decide_eq_true c2
    clear c2
    replace H := Option.bind_eq_some_iff.mp H
    obtain ⟨⟨t140, t141, t142⟩, A30, H⟩ := H
    try dsimp only at H
    have A3 := Aside0.mk A30
    clear A30
    have H' := Aside0.mk H
    clear H
    go_wp2_with (first | ((with_reducible refine gate_callee (f := 134) rfl ?_); refine gl_ (some 12) rfl rfl Try.func134 (by kernel_rfl) rfl #[.pointer (some ⟨g, 0, none⟩)] rfl ?_; (with_reducible refine (spec_l1Cur_next.calls g s0_0 x1001_1 x1002_1 t140 t141 t142 w0 _ ?side1 ?side2 A3.out).mono ?_); (case side1 => repeat (first | (with_reducible first | exact HI0.out | apply IsS91.alloc | apply IsS91.drewN | apply IsS91.drew | apply IsS91.set_1 | apply IsS91.set_2) | exact HI0.out)); (case side2 => repeat (first | (with_reducible first | exact HB.out | apply eA | apply eN | apply eD | refine below_set ?_ (IsS91.ge HI0.out)) | exact HB.out)); rintro e w4 ⟨rfl, hi, hb, hk⟩; refine ⟨_, rfl, ?_⟩; replace HK := Aside0.mk (KeepBut.trans (by repeat (first | (with_reducible first | exact HK.out | apply KeepBut.set_ | apply keep_drewN | apply keep_drew | apply keep_alloc) | exact HK.out)) hk (.inl rfl)); replace HB := Aside0.mk (hb); replace HI0 := Aside0.mk (hi); (try clear hb); (try clear hk); (try clear hi)))
    go_roundg k1
    case measure => have := HK1.out; omega
    case rel => exact ⟨(Go.bits .or .i64 (wrap64 (x3_1 * 256)) t140), (wrap64 (x4_1 + 1)), (t141), (t142), (by first | rfl | (simp; done) | (simp [*]; done)), (by first | rfl | (simp; done) | (simp [*]; done)), H', ⟨by have := HK1.out; omega⟩, ⟨by (try simp only [Int.add_zero]); repeat (first | (with_reducible first | exact HI0.out | apply IsS91.alloc | apply IsS91.drewN | apply IsS91.drew | apply IsS91.set_1 | apply IsS91.set_2) | exact HI0.out)⟩, ⟨by repeat (first | (with_reducible first | exact HK.out | apply KeepBut.set_ | apply keep_drewN | apply keep_drew | apply keep_alloc) | exact HK.out)⟩, ⟨by repeat (first | (with_reducible first | exact HB.out | apply eA | apply eN | apply eD | refine below_set ?_ (IsS91.ge HI0.out)) | exact HB.out)⟩⟩
   ·rw [if_neg c2] at H
    have c2b0 : decide (x4_1 < 8) = false := decide_eq_false c2
    clear c2
    simp only [Option.some.injEq, Prod.mk.injEq] at H
    obtain ⟨rfl, rfl, rfl⟩ := H
    go_wp2
    go_ret
    exact ⟨by first | rfl | (simp [errW_none, errW_some] <;> rfl) | (simp [*, errW_none, errW_some] <;> rfl), by (try simp only [Int.add_zero]); repeat (first | (with_reducible first | exact HI0.out | apply IsS91.alloc | apply IsS91.drewN | apply IsS91.drew | apply IsS91.set_1 | apply IsS91.set_2) | exact HI0.out), by repeat (first | (with_reducible first | exact HB.out | apply eA | apply eN | apply eD | refine below_set ?_ (IsS91.ge HI0.out)) | exact HB.out), by repeat (first | (with_reducible first | exact HK.out | apply KeepBut.set_ | apply keep_drewN | apply keep_drew | apply keep_alloc) | exact HK.out)⟩

def spec_l1Cur_among.f (s0_0 : List Int) (s0_1 : Int) (s0_2 : Int) (l1 : List Int) : Option (Int × Int × Int) := (spec_l1Cur_pick.f s0_0 s0_1 s0_2 (l1.length : Int)).bind fun bt143 => (if 0 ≤ bt143.1 then (if bt143.1 < (l1.length : Int) then (some (rd l1 bt143.1, bt143.2.1, bt143.2.2)) else (none)) else (none))
set_option maxHeartbeats 8000000 in
set_option maxRecDepth 100000 in
theorem spec_l1Cur_among.calls (g : Nat) (s0_0 : List Int) (s0_1 : Int) (s0_2 : Int) (A1 : Option Addr) (c1 : Nat) (l1 : List Int) (r1 : Int) (r2 : Int) (r3 : Int) (w0 w : World) (hI : IsS91 w0 w g s0_0 s0_1 s0_2) (hB : Below w0.heap.size w0 w) (hr1 : Kd.C (Kd.int .i64) w A1 l1.length l1) (hc1 : l1.length ≤ c1) (hf1 : ∀ ad, A1 = some ad → 0 < l1.length → ad.block ≠ g) (h : spec_l1Cur_among.f s0_0 s0_1 s0_2 l1 = some (r1, r2, r3)) :
  Calls Try.prog 111 #[.pointer (some ⟨g, 0, none⟩), .slice A1 l1.length c1] w fun e w' => e = .returned (.int .i64 r1) ∧ IsS91 w0 w' g s0_0 r2 r3 ∧ Below w0.heap.size w0 w' ∧ KeepBut w w' g none := by
 have HR1 := Aside0.mk hr1
 have HC1 := Aside0.mk hc1
 clear hr1 hc1
 have HI0 := Aside0.mk hI
 have HK := Aside0.mk (KeepBut.refl w g none)
 have HL := Aside0.mk hB.size
 clear hI
 have HW0 := Aside0.mk hB.size
 have HB := Aside0.mk hB
 clear hB
 have H : ((spec_l1Cur_pick.f s0_0 s0_1 s0_2 (l1.length : Int)).bind fun bt143 => (if 0 ≤ bt143.1 then (if bt143.1 < (l1.length : Int) then (some (rd l1 bt143.1, bt143.2.1, bt143.2.2)) else (none)) else (none))) = some (r1, r2, r3) := h
 clear h
 replace H := Option.bind_eq_some_iff.mp H
 obtain ⟨⟨t143, t144, t145⟩, A30, H⟩ := H
 try dsimp only at H
 have A3 := Aside0.mk A30
 clear A30
 by_cases c4 : 0 ≤ t143
 ·rw [if_pos c4] at H
  have c4b0 : decide (0 ≤ t143) = true := decide_eq_true c4
  clear c4
  by_cases c5 : t143 < (l1.length : Int)
  ·rw [if_pos c5] at H
   have c5b0 : decide (t143 < (l1.length : Int)) = true := decide_eq_true c5
   clear c5
   simp only [Option.some.injEq, Prod.mk.injEq] at H
   obtain ⟨rfl, rfl, rfl⟩ := H
   go_enter Try.func111, Try.ntmps111
   go_wp2_with (first | ((with_reducible refine gate_callee (f := 87) rfl ?_); refine gl_ (some 9) rfl rfl Try.func87 (by kernel_rfl) rfl #[.pointer (some ⟨g, 0, none⟩), .int .i64 (l1.length : Int)] rfl ?_; (with_reducible refine (spec_l1Cur_pick.calls g s0_0 s0_1 s0_2 (l1.length : Int) t143 t144 t145 w0 _ ?side1 ?side2 A3.out).mono ?_); (case side1 => repeat (first | (with_reducible first | exact HI0.out | apply IsS91.alloc | apply IsS91.drewN | apply IsS91.drew | apply IsS91.set_1 | apply IsS91.set_2) | exact HI0.out)); (case side2 => repeat (first | (with_reducible first | exact HB.out | apply eA | apply eN | apply eD | refine below_set ?_ (IsS91.ge HI0.out)) | exact HB.out)); rintro e w6 ⟨rfl, hi, hb, hk⟩; refine ⟨_, rfl, ?_⟩; replace HK := Aside0.mk (KeepBut.trans (by repeat (first | (with_reducible first | exact HK.out | apply KeepBut.set_ | apply keep_drewN | apply keep_drew | apply keep_alloc) | exact HK.out)) hk (.inl rfl)); replace HB := Aside0.mk (hb); replace HI0 := Aside0.mk (hi); (try clear hb); (try clear hk); (try clear hi); have p146 : 0 ≤ (t143 : Int) := of_decide_eq_true (by first | (with_reducible assumption) | assumption); have q146 : t143 < (l1.length : Int) := of_decide_eq_true (by first | (with_reducible assumption) | assumption); obtain ⟨ad146, e146, hx146_0⟩ := Kd.at_int HR1.out t143 p146 q146; cases e146; replace hx146_0 := keep_cell HK.out hx146_0 (by first | (rw [add_block]; exact hf1 _ rfl (by omega)) | exact hf1 _ rfl (by omega) | exact hf1 ad146 rfl (by omega)); replace p146 := eq_true p146; replace q146 := eq_true q146))
   go_ret
   exact ⟨by first | rfl | (simp [errW_none, errW_some] <;> rfl) | (simp [*, errW_none, errW_some] <;> rfl), by (try simp only [Int.add_zero]); repeat (first | (with_reducible first | exact HI0.out | apply IsS91.alloc | apply IsS91.drewN | apply IsS91.drew | apply IsS91.set_1 | apply IsS91.set_2) | exact HI0.out), by repeat (first | (with_reducible first | exact HB.out | apply eA | apply eN | apply eD | refine below_set ?_ (IsS91.ge HI0.out)) | exact HB.out), by repeat (first | (with_reducible first | exact HK.out | apply KeepBut.set_ | apply keep_drewN | apply keep_drew | apply keep_alloc) | exact HK.out)⟩
  ·rw [if_neg c5] at H
   exact absurd H (by simp)
 ·rw [if_neg c4] at H
  exact absurd H (by simp)

def spec_l4K_sign.f (a0_0 : Int) (a0_1 : Int) (a1 : Bool) : Option (Int) := if a1 = true then (if 0 ≤ (IntKind.u64.wrap (a0_0 + a0_1)) then (some (shl .u32 1 (IntKind.u64.wrap (a0_0 + a0_1)))) else (none)) else (some 0)
set_option maxHeartbeats 8000000 in
set_option maxRecDepth 100000 in
theorem spec_l4K_sign.calls (a0_0 : Int) (a0_1 : Int) (a1 : Bool) (r : Int) (w : World) (h : spec_l4K_sign.f a0_0 a0_1 a1 = some r) :
  Calls Try.prog 116 #[.agg #[.int .u64 a0_0, .int .u64 a0_1], .bool a1] w fun e w' => e = .returned (.int .u32 r) ∧ Below w.heap.size w w' := by
 have hu109 := Try.underlying109
 have HB := Aside0.mk (Below.refl w.heap.size w)
 have H : (if a1 = true then (if 0 ≤ (IntKind.u64.wrap (a0_0 + a0_1)) then (some (shl .u32 1 (IntKind.u64.wrap (a0_0 + a0_1)))) else (none)) else (some 0)) = some r := h
 clear h
 by_cases c3 : a1 = true
 ·subst c3
  have H1 : (if 0 ≤ (IntKind.u64.wrap (a0_0 + a0_1)) then (some (shl .u32 1 (IntKind.u64.wrap (a0_0 + a0_1)))) else (none)) = some r := by rw [if_pos rfl] at H; first | done | exact H
  clear H
  have H := H1
  clear H1
  obtain ⟨ji4, hji4⟩ : ∃ j_ : Int, (IntKind.u64.wrap (a0_0 + a0_1)) = j_ := ⟨_, rfl⟩
  first | rw [hji4] at H | simp only [hji4] at H
  by_cases c5 : 0 ≤ (ji4)
  ·rw [if_pos c5] at H
   have c5b0 := eq_true c5
   have c5b1 : decide (0 ≤ (ji4)) = true := decide_eq_true c5
   clear c5
   obtain ⟨ji6, hji6⟩ : ∃ j_ : Int, (shl .u32 1 (ji4)) = j_ := ⟨_, rfl⟩
   first | rw [hji6] at H | simp only [hji6] at H
   have hji6_ : (IntKind.u32.wrap (1 * 2 ^ min (ji4).toNat 32)) = ji6 := hji6
   have hji6z : (ji4) ≤ 32 → (IntKind.u32.wrap (1 * 2 ^ (ji4).toNat)) = ji6 := shl_small hji6
   have hji6u : (IntKind.u32.wrap (2 ^ min (ji4).toNat 32)) = ji6 := by have h_ := hji6_; rw [Int.one_mul] at h_; exact h_
   have hji6v : (ji4) ≤ 32 → (IntKind.u32.wrap (2 ^ (ji4).toNat)) = ji6 := fun hle_ => by have h_ := hji6z hle_; rw [Int.one_mul] at h_; exact h_
   obtain rfl := Option.some.inj H
   go_enter Try.func116, Try.ntmps116
   go_wp2_with (first | ((with_reducible refine gate_dst (N := 2) rfl ?_); refine box_event ?hg (N := 2) ?hd (cs := #[.int .u64 a0_0, .int .u64 a0_1]) (t := 109) ?hr ?_; (case hd => rfl); (case hg => rfl); (case hr => first | (go_simp; done) | (go_simp; rfl)); intro gb147 hg w7 hbox hb; have BK147 := Aside0.mk (hbox); have GW147 := Aside0.mk (gs_ hg (eb_ HB.out) : w.heap.size ≤ gb147); have GE147 := GW147; replace HB := eh_ hb; clear hb hbox hg; obtain ⟨_, _, _, _⟩ := zc2_ BK147.out))
   go_ret
   exact ⟨by first | rfl | (simp [errW_none, errW_some] <;> rfl) | (simp only [← hji4, ← hji6]; first | rfl | (simp [errW_none, errW_some] <;> rfl)) | (simp [*, errW_none, errW_some] <;> rfl), es_⟩
  ·rw [if_neg c5] at H
   exact absurd H (by simp)
 ·replace c3 := Bool.eq_false_iff.mpr c3
  subst c3
  have H1 : (some 0) = some r := by rw [if_neg (show ¬ (false = true) by decide)] at H; first | done | exact H
  clear H
  have H := H1
  clear H1
  obtain rfl := Option.some.inj H
  go_enter Try.func116, Try.ntmps116
  go_wp2_with (first | ((with_reducible refine gate_dst (N := 2) rfl ?_); refine box_event ?hg (N := 2) ?hd (cs := #[.int .u64 a0_0, .int .u64 a0_1]) (t := 109) ?hr ?_; (case hd => rfl); (case hg => rfl); (case hr => first | (go_simp; done) | (go_simp; rfl)); intro gb147 hg w9 hbox hb; have BK147 := Aside0.mk (hbox); have GW147 := Aside0.mk (gs_ hg (eb_ HB.out) : w.heap.size ≤ gb147); have GE147 := GW147; replace HB := eh_ hb; clear hb hbox hg))
  go_ret
  exact ⟨by first | rfl | (simp [errW_none, errW_some] <;> rfl) | (simp [*, errW_none, errW_some] <;> rfl), es_⟩

end Go.Proofs.Ytdoflfifnkpacaa.FA
