-- Printed by a program of this session (after the kit's print.sh, with contracts of its own beside): Lean checks it.
import Derived.Test.YtdoflfifnkpacaaC18FAx0
import Derived.Test.YtdoflfifnkpacaaC18FAx4
import Derived.Test.YtdoflfifnkpacaaC18FAx6
namespace Go.Proofs.Ytdoflfifnkpacaa.FA
open Go.RowKit Go.Proofs.YtdoflfifnkpacaaW.PrintWords Go.Proofs.YtdoflfifnkpacaaW.PrintLast Go.Proofs.YtdoflfifnkpacaaW.PrintMore
attribute [local go_sem] max2_int min2_int max_two min_two max_three min_three max_four min_four   -- for this text's walks alone
set_option linter.unusedVariables false
set_option linter.unusedSimpArgs false

mutual
def impl_format_round.j0 : Nat → Bool → Int → Int → Int → Int → Option (Int)
 | 0, _, _, _, _, _ => none
 | k + 1, x1, x11, x12, x211000, x211001 => if 0 ≤ x211000 then (if x12 = (shl .u64 2 x211000) then (impl_format_round.j1 k x1 (wrap64 (x11 + 1)) (shl .u64 1 x211000) x211000 x211001) else (impl_format_round.j1 k x1 x11 x12 x211000 x211001)) else (none)
def impl_format_round.j1 : Nat → Bool → Int → Int → Int → Int → Option (Int)
 | 0, _, _, _, _, _ => none
 | k + 1, x1, x11, x12, x211000, x211001 => if 0 ≤ x211000 then (if x12 < (shl .u64 1 x211000) then ((impl_format_signed.f x211000 x211001 x1 ((x12) % 4294967296)).bind fun t213 => (some t213)) else ((impl_format_top.f x211000 x211001).bind fun t214 => (if (wrap64 ((wrap64 (x11 + x211001)) + x211000)) ≥ (wrap64 (t214)) then ((impl_format_infinite.f x211000 x211001 x1).bind fun t215 => (some t215)) else ((impl_format_signed.f x211000 x211001 x1 (Go.bits .or .u32 (shl .u32 ((wrap64 ((wrap64 (x11 + x211001)) + x211000)) % 4294967296) x211000) ((IntKind.u64.wrap (x12 - (shl .u64 1 x211000))) % 4294967296))).bind fun t216 => (some t216))))) else (none)
end
def impl_format_round.f (k : Nat) (a0_0 : Int) (a0_1 : Int) (a1 : Bool) (a2 : Int) (a3 : Int) (a4 : Bool) : Option (Int) := if a2 = 0 then ((impl_format_signed.f a0_0 a0_1 a1 0).bind fun t211 => (some t211)) else ((bits_Len64.f k a2).bind fun t212 => (if (wrap64 ((mx (wrap64 ((wrap64 ((wrap64 (t212 - 1)) + a3)) - a0_0)) (wrap64 ((wrap64 (1 - a0_1)) - a0_0))) - a3)) > 62 then (impl_format_round.j0 k a1 (mx (wrap64 ((wrap64 ((wrap64 (t212 - 1)) + a3)) - a0_0)) (wrap64 ((wrap64 (1 - a0_1)) - a0_0))) 0 a0_0 a0_1) else (if (wrap64 ((mx (wrap64 ((wrap64 ((wrap64 (t212 - 1)) + a3)) - a0_0)) (wrap64 ((wrap64 (1 - a0_1)) - a0_0))) - a3)) > 0 then (if 0 ≤ (wrap64 ((wrap64 ((mx (wrap64 ((wrap64 ((wrap64 (t212 - 1)) + a3)) - a0_0)) (wrap64 ((wrap64 (1 - a0_1)) - a0_0))) - a3)) - 1)) then (if 0 ≤ (wrap64 ((mx (wrap64 ((wrap64 ((wrap64 (t212 - 1)) + a3)) - a0_0)) (wrap64 ((wrap64 (1 - a0_1)) - a0_0))) - a3)) then (if (Go.bits .and .u64 a2 (IntKind.u64.wrap ((IntKind.u64.wrap (2 * (shl .u64 1 (wrap64 ((wrap64 ((mx (wrap64 ((wrap64 ((wrap64 (t212 - 1)) + a3)) - a0_0)) (wrap64 ((wrap64 (1 - a0_1)) - a0_0))) - a3)) - 1))))) - 1))) > (shl .u64 1 (wrap64 ((wrap64 ((mx (wrap64 ((wrap64 ((wrap64 (t212 - 1)) + a3)) - a0_0)) (wrap64 ((wrap64 (1 - a0_1)) - a0_0))) - a3)) - 1))) then (impl_format_round.j0 k a1 (mx (wrap64 ((wrap64 ((wrap64 (t212 - 1)) + a3)) - a0_0)) (wrap64 ((wrap64 (1 - a0_1)) - a0_0))) (IntKind.u64.wrap ((shr .u64 a2 (wrap64 ((mx (wrap64 ((wrap64 ((wrap64 (t212 - 1)) + a3)) - a0_0)) (wrap64 ((wrap64 (1 - a0_1)) - a0_0))) - a3))) + 1)) a0_0 a0_1) else (if (Go.bits .and .u64 a2 (IntKind.u64.wrap ((IntKind.u64.wrap (2 * (shl .u64 1 (wrap64 ((wrap64 ((mx (wrap64 ((wrap64 ((wrap64 (t212 - 1)) + a3)) - a0_0)) (wrap64 ((wrap64 (1 - a0_1)) - a0_0))) - a3)) - 1))))) - 1))) = (shl .u64 1 (wrap64 ((wrap64 ((mx (wrap64 ((wrap64 ((wrap64 (t212 - 1)) + a3)) - a0_0)) (wrap64 ((wrap64 (1 - a0_1)) - a0_0))) - a3)) - 1))) then (if a4 = true then (impl_format_round.j0 k a1 (mx (wrap64 ((wrap64 ((wrap64 (t212 - 1)) + a3)) - a0_0)) (wrap64 ((wrap64 (1 - a0_1)) - a0_0))) (IntKind.u64.wrap ((shr .u64 a2 (wrap64 ((mx (wrap64 ((wrap64 ((wrap64 (t212 - 1)) + a3)) - a0_0)) (wrap64 ((wrap64 (1 - a0_1)) - a0_0))) - a3))) + 1)) a0_0 a0_1) else (if (Go.bits .and .u64 (shr .u64 a2 (wrap64 ((mx (wrap64 ((wrap64 ((wrap64 (t212 - 1)) + a3)) - a0_0)) (wrap64 ((wrap64 (1 - a0_1)) - a0_0))) - a3))) 1) = 1 then (impl_format_round.j0 k a1 (mx (wrap64 ((wrap64 ((wrap64 (t212 - 1)) + a3)) - a0_0)) (wrap64 ((wrap64 (1 - a0_1)) - a0_0))) (IntKind.u64.wrap ((shr .u64 a2 (wrap64 ((mx (wrap64 ((wrap64 ((wrap64 (t212 - 1)) + a3)) - a0_0)) (wrap64 ((wrap64 (1 - a0_1)) - a0_0))) - a3))) + 1)) a0_0 a0_1) else (impl_format_round.j0 k a1 (mx (wrap64 ((wrap64 ((wrap64 (t212 - 1)) + a3)) - a0_0)) (wrap64 ((wrap64 (1 - a0_1)) - a0_0))) (shr .u64 a2 (wrap64 ((mx (wrap64 ((wrap64 ((wrap64 (t212 - 1)) + a3)) - a0_0)) (wrap64 ((wrap64 (1 - a0_1)) - a0_0))) - a3))) a0_0 a0_1))) else (impl_format_round.j0 k a1 (mx (wrap64 ((wrap64 ((wrap64 (t212 - 1)) + a3)) - a0_0)) (wrap64 ((wrap64 (1 - a0_1)) - a0_0))) (shr .u64 a2 (wrap64 ((mx (wrap64 ((wrap64 ((wrap64 (t212 - 1)) + a3)) - a0_0)) (wrap64 ((wrap64 (1 - a0_1)) - a0_0))) - a3))) a0_0 a0_1))) else (none)) else (none)) else (if 0 ≤ (wrap64 (-(wrap64 ((mx (wrap64 ((wrap64 ((wrap64 (t212 - 1)) + a3)) - a0_0)) (wrap64 ((wrap64 (1 - a0_1)) - a0_0))) - a3)))) then (impl_format_round.j0 k a1 (mx (wrap64 ((wrap64 ((wrap64 (t212 - 1)) + a3)) - a0_0)) (wrap64 ((wrap64 (1 - a0_1)) - a0_0))) (shl .u64 a2 (wrap64 (-(wrap64 ((mx (wrap64 ((wrap64 ((wrap64 (t212 - 1)) + a3)) - a0_0)) (wrap64 ((wrap64 (1 - a0_1)) - a0_0))) - a3))))) a0_0 a0_1) else (none)))))
def impl_format_round.T3 : Bool × List (List Nat × List Nat) := (true, [([], []), ([0], [0]), ([1], [1]), ([], []), ([2, 3], [2, 3]), ([], []), ([5], [5]), ([4, 6], [4, 6]), ([], []), ([8], [8]), ([9], [9]), ([], []), ([11], [11]), ([10, 12], [10, 12]), ([7, 13], [7, 13]), ([14, 1, 0, 1, 2, 3, 4, 5, 6, 7, 8, 9, 10, 11, 12, 13, 14], [14])])
def impl_format_round.B3 : List Nat := [0, 1, 3, 0, 15, 0, 32, 127, 0, 256, 768, 0, 2048, 7936, 16383, 32767]
theorem impl_format_round.tab3 : rtab .any (opsOf Try.f62 3) = impl_format_round.T3 := by kernel_rfl
theorem impl_format_round.bits3 : waitsOk impl_format_round.T3.2 impl_format_round.B3 = true := by kernel_rfl
def impl_format_round.T22 : Bool × List (List Nat × List Nat) := (true, [([], []), ([], []), ([], []), ([2], [2]), ([], []), ([4], [4]), ([3, 5], [3, 5]), ([], []), ([], []), ([8], [8]), ([9], [9]), ([7, 10], [7, 10]), ([11], [11]), ([6, 12], [6, 12]), ([0, 1, 13], [0, 1, 13]), ([14, 14, 0, 1, 2, 3, 4, 5, 6, 7, 8, 9, 10, 11, 12, 13, 14], [14])])
def impl_format_round.B22 : List Nat := [0, 0, 0, 4, 0, 16, 60, 0, 0, 256, 768, 1920, 3968, 8188, 16383, 32767]
theorem impl_format_round.tab22 : rtab .any (opsOf Try.f62 22) = impl_format_round.T22 := by kernel_rfl
theorem impl_format_round.bits22 : waitsOk impl_format_round.T22.2 impl_format_round.B22 = true := by kernel_rfl
set_option maxHeartbeats 8000000 in
set_option maxRecDepth 100000 in
theorem impl_format_round.calls (k : Nat) (a0_0 : Int) (a0_1 : Int) (a1 : Bool) (a2 : Int) (a3 : Int) (a4 : Bool) (r : Int) (w : World) (h : impl_format_round.f k a0_0 a0_1 a1 a2 a3 a4 = some r) :
  Calls Try.prog 62 #[.agg #[.int .i64 a0_0, .int .i64 a0_1], .bool a1, .int .u64 a2, .int .i64 a3, .bool a4] w fun e w' => e = .returned (.int .u32 r) ∧ Below w.heap.size w w' := by
 have hu96 := Try.underlying96
 have HB := Aside0.mk (Below.refl w.heap.size w)
 have H : (if a2 = 0 then ((impl_format_signed.f a0_0 a0_1 a1 0).bind fun t211 => (some t211)) else ((bits_Len64.f k a2).bind fun t212 => (if (wrap64 ((mx (wrap64 ((wrap64 ((wrap64 (t212 - 1)) + a3)) - a0_0)) (wrap64 ((wrap64 (1 - a0_1)) - a0_0))) - a3)) > 62 then (impl_format_round.j0 k a1 (mx (wrap64 ((wrap64 ((wrap64 (t212 - 1)) + a3)) - a0_0)) (wrap64 ((wrap64 (1 - a0_1)) - a0_0))) 0 a0_0 a0_1) else (if (wrap64 ((mx (wrap64 ((wrap64 ((wrap64 (t212 - 1)) + a3)) - a0_0)) (wrap64 ((wrap64 (1 - a0_1)) - a0_0))) - a3)) > 0 then (if 0 ≤ (wrap64 ((wrap64 ((mx (wrap64 ((wrap64 ((wrap64 (t212 - 1)) + a3)) - a0_0)) (wrap64 ((wrap64 (1 - a0_1)) - a0_0))) - a3)) - 1)) then (if 0 ≤ (wrap64 ((mx (wrap64 ((wrap64 ((wrap64 (t212 - 1)) + a3)) - a0_0)) (wrap64 ((wrap64 (1 - a0_1)) - a0_0))) - a3)) then (if (Go.bits .and .u64 a2 (IntKind.u64.wrap ((IntKind.u64.wrap (2 * (shl .u64 1 (wrap64 ((wrap64 ((mx (wrap64 ((wrap64 ((wrap64 (t212 - 1)) + a3)) - a0_0)) (wrap64 ((wrap64 (1 - a0_1)) - a0_0))) - a3)) - 1))))) - 1))) > (shl .u64 1 (wrap64 ((wrap64 ((mx (wrap64 ((wrap64 ((wrap64 (t212 - 1)) + a3)) - a0_0)) (wrap64 ((wrap64 (1 - a0_1)) - a0_0))) - a3)) - 1))) then (impl_format_round.j0 k a1 (mx (wrap64 ((wrap64 ((wrap64 (t212 - 1)) + a3)) - a0_0)) (wrap64 ((wrap64 (1 - a0_1)) - a0_0))) (IntKind.u64.wrap ((shr .u64 a2 (wrap64 ((mx (wrap64 ((wrap64 ((wrap64 (t212 - 1)) + a3)) - a0_0)) (wrap64 ((wrap64 (1 - a0_1)) - a0_0))) - a3))) + 1)) a0_0 a0_1) else (if (Go.bits .and .u64 a2 (IntKind.u64.wrap ((IntKind.u64.wrap (2 * (shl .u64 1 (wrap64 ((wrap64 ((mx (wrap64 ((wrap64 ((wrap64 (t212 - 1)) + a3)) - a0_0)) (wrap64 ((wrap64 (1 - a0_1)) - a0_0))) - a3)) - 1))))) - 1))) = (shl .u64 1 (wrap64 ((wrap64 ((mx (wrap64 ((wrap64 ((wrap64 (t212 - 1)) + a3)) - a0_0)) (wrap64 ((wrap64 (1 - a0_1)) - a0_0))) - a3)) - 1))) then (if a4 = true then (impl_format_round.j0 k a1 (mx (wrap64 ((wrap64 ((wrap64 (t212 - 1)) + a3)) - a0_0)) (wrap64 ((wrap64 (1 - a0_1)) - a0_0))) (IntKind.u64.wrap ((shr .u64 a2 (wrap64 ((mx (wrap64 ((wrap64 ((wrap64 (t212 - 1)) + a3)) - a0_0)) (wrap64 ((wrap64 (1 - a0_1)) - a0_0))) - a3))) + 1)) a0_0 a0_1) else (if (Go.bits .and .u64 (shr .u64 a2 (wrap64 ((mx (wrap64 ((wrap64 ((wrap64 (t212 - 1)) + a3)) - a0_0)) (wrap64 ((wrap64 (1 - a0_1)) - a0_0))) - a3))) 1) = 1 then (impl_format_round.j0 k a1 (mx (wrap64 ((wrap64 ((wrap64 (t212 - 1)) + a3)) - a0_0)) (wrap64 ((wrap64 (1 - a0_1)) - a0_0))) (IntKind.u64.wrap ((shr .u64 a2 (wrap64 ((mx (wrap64 ((wrap64 ((wrap64 (t212 - 1)) + a3)) - a0_0)) (wrap64 ((wrap64 (1 - a0_1)) - a0_0))) - a3))) + 1)) a0_0 a0_1) else (impl_format_round.j0 k a1 (mx (wrap64 ((wrap64 ((wrap64 (t212 - 1)) + a3)) - a0_0)) (wrap64 ((wrap64 (1 - a0_1)) - a0_0))) (shr .u64 a2 (wrap64 ((mx (wrap64 ((wrap64 ((wrap64 (t212 - 1)) + a3)) - a0_0)) (wrap64 ((wrap64 (1 - a0_1)) - a0_0))) - a3))) a0_0 a0_1))) else (impl_format_round.j0 k a1 (mx (wrap64 ((wrap64 ((wrap64 (t212 - 1)) + a3)) - a0_0)) (wrap64 ((wrap64 (1 - a0_1)) - a0_0))) (shr .u64 a2 (wrap64 ((mx (wrap64 ((wrap64 ((wrap64 (t212 - 1)) + a3)) - a0_0)) (wrap64 ((wrap64 (1 - a0_1)) - a0_0))) - a3))) a0_0 a0_1))) else (none)) else (none)) else (if 0 ≤ (wrap64 (-(wrap64 ((mx (wrap64 ((wrap64 ((wrap64 (t212 - 1)) + a3)) - a0_0)) (wrap64 ((wrap64 (1 - a0_1)) - a0_0))) - a3)))) then (impl_format_round.j0 k a1 (mx (wrap64 ((wrap64 ((wrap64 (t212 - 1)) + a3)) - a0_0)) (wrap64 ((wrap64 (1 - a0_1)) - a0_0))) (shl .u64 a2 (wrap64 (-(wrap64 ((mx (wrap64 ((wrap64 ((wrap64 (t212 - 1)) + a3)) - a0_0)) (wrap64 ((wrap64 (1 - a0_1)) - a0_0))) - a3))))) a0_0 a0_1) else (none)))))) = some r := h
 clear h
 by_cases c6 : a2 = 0
 ·rw [if_pos c6] at H
  have c6b0 : (a2 == 0) = true := beq_iff_eq.mpr c6
  have c6b1 : (a2 != 0) = false := bne_eq_false_iff_eq.mpr c6
  clear c6
  replace H := Option.bind_eq_some_iff.mp H
  obtain ⟨t211, A70, H⟩ := H
  try dsimp only at H
  have A7 := Aside0.mk A70
  clear A70
  obtain rfl := Option.some.inj H
  go_enter Try.func62, Try.ntmps62
  go_wp2_with (first | ((with_reducible refine gate_dst (N := 5) rfl ?_); refine box_event ?hg (N := 5) ?hd (cs := #[.int .i64 a0_0, .int .i64 a0_1]) (t := 96) ?hr ?_; (case hd => rfl); (case hg => rfl); (case hr => first | (go_simp; done) | (go_simp; rfl)); intro gb210 hg w8 hbox hb; have BK210 := Aside0.mk (hbox); have GW210 := Aside0.mk (gs_ hg (eb_ HB.out) : w.heap.size ≤ gb210); have GE210 := GW210; replace HB := eh_ hb; clear hb hbox hg; obtain ⟨_, _, _, _⟩ := zc2_ BK210.out) | ((with_reducible refine gate_callee (f := 58) rfl ?_); refine gl_ (some 21) rfl rfl Try.func58 (by kernel_rfl) rfl #[.agg #[.int .i64 a0_0, .int .i64 a0_1], .bool a1, .int .u32 0] rfl ?_; (with_reducible refine (impl_format_signed.calls a0_0 a0_1 a1 0 t211 _ A7.out).mono ?_); rintro e w10 ⟨rfl, hb⟩; refine ⟨_, rfl, ?_⟩; replace BK210 := bb_ BK210 hb; replace HB := eh_ hb; (try clear hb)))
  go_ret
  exact ⟨by first | rfl | (simp [errW_none, errW_some] <;> rfl) | (simp [*, errW_none, errW_some] <;> rfl), es_⟩
 ·rw [if_neg c6] at H
  have c6b0 : (a2 == 0) = false := beq_eq_false_iff_ne.mpr c6
  have c6b1 : (a2 != 0) = true := bne_iff_ne.mpr c6
  replace H := Option.bind_eq_some_iff.mp H
  obtain ⟨t212, A110, H⟩ := H
  try dsimp only at H
  have A11 := Aside0.mk A110
  clear A110
  obtain ⟨ji12, hji12⟩ : ∃ j_ : Int, (mx (wrap64 ((wrap64 ((wrap64 (t212 - 1)) + a3)) - a0_0)) (wrap64 ((wrap64 (1 - a0_1)) - a0_0))) = j_ := ⟨_, rfl⟩
  first | rw [hji12] at H | simp only [hji12] at H
  (try rw [hji12] at A11)
  have hji12_ : (if (wrap64 ((wrap64 ((wrap64 (t212 - 1)) + a3)) - a0_0)) < (wrap64 ((wrap64 (1 - a0_1)) - a0_0)) then (wrap64 ((wrap64 (1 - a0_1)) - a0_0)) else (wrap64 ((wrap64 ((wrap64 (t212 - 1)) + a3)) - a0_0))) = ji12 := hji12
  have HC13 := Aside0.mk H
  clear H
  go_enter Try.func62, Try.ntmps62
  try go_wp2_with (first | ((with_reducible refine gate_dst (N := 5) rfl ?_); refine box_event ?hg (N := 5) ?hd (cs := #[.int .i64 a0_0, .int .i64 a0_1]) (t := 96) ?hr ?_; (case hd => rfl); (case hg => rfl); (case hr => first | (go_simp; done) | (go_simp; rfl)); intro gb210 hg w14 hbox hb; have BK210 := Aside0.mk (hbox); have GW210 := Aside0.mk (gs_ hg (eb_ HB.out) : w.heap.size ≤ gb210); have GE210 := GW210; replace HB := eh_ hb; clear hb hbox hg))
  replace BK210 := Aside0.mk (blk_drew BK210.out)
  replace HB := Aside0.mk (below_drew1 HB.out)
  refine start_ (n := 16) (S := fun w' => w'.cell? ⟨gb210, 0, none⟩ = some (.int .i64 a0_0) ∧ w'.cell? ⟨gb210, 1, none⟩ = some (.int .i64 a0_1)) (ds := []) #[false, false, false, false, false, false, false, false, false, false, false, false, false, false, false, false] (by kernel_rfl) rfl rfl ⟨(blk_cell BK210.out 0).trans rfl, (blk_cell BK210.out 1).trans rfl⟩ (fun hHeld => ?_); refine with_tabW impl_format_round.tab3 impl_format_round.bits3 (fun HT_ HW_ => ?_)
  generalize w14.drew = w15 at BK210 HB hHeld ⊢
  refine pure_ (i := 0) (N := some 22) (v := ?_) (a' := ?_) #[true, false, false, false, false, false, false, false, false, false, false, false, false, false, false, false] rfl rfl (any_of HT_.out (by kernel_rfl)) (fun _ _ _ h => h) (Or.inl ⟨by rfl, ?_⟩) ?_ ?_
  rotate_left
  ·intro w'
   go_simp
   with_reducible rfl
  rotate_left
  ·simp only [Act.put, List.setIfInBounds_toArray, List.set_cons_zero, List.set_cons_succ, i64_w, i32_w]
   rfl
  refine pure_ (i := 3) (N := some 25) (v := ?_) (a' := ?_) #[true, false, false, true, false, false, false, false, false, false, false, false, false, false, false, false] rfl rfl (any_of HT_.out (by kernel_rfl)) (fun _ _ _ h => h) (Or.inl ⟨by rfl, ?_⟩) ?_ ?_
  rotate_left
  ·intro w'
   go_simp
   with_reducible rfl
  rotate_left
  ·simp only [Act.put, List.setIfInBounds_toArray, List.set_cons_zero, List.set_cons_succ, i64_w, i32_w]
   rfl
  refine pure_ (i := 5) (N := some 27) (v := ?_) (a' := ?_) #[true, false, false, true, false, true, false, false, false, false, false, false, false, false, false, false] rfl rfl (any_of HT_.out (by kernel_rfl)) (fun _ _ _ h => h) (Or.inl ⟨by rfl, ?_⟩) ?_ ?_
  rotate_left
  ·intro w'
   go_simp
   with_reducible rfl
  rotate_left
  ·simp only [Act.put, List.setIfInBounds_toArray, List.set_cons_zero, List.set_cons_succ, i64_w, i32_w]
   rfl
  refine pure_ (i := 8) (N := some 30) (v := ?_) (a' := ?_) #[true, false, false, true, false, true, false, false, true, false, false, false, false, false, false, false] rfl rfl (any_of HT_.out (by kernel_rfl)) (fun _ _ _ h => h) (Or.inl ⟨by rfl, ?_⟩) ?_ ?_
  rotate_left
  ·intro w'
   go_simp
   with_reducible rfl
  rotate_left
  ·simp only [Act.put, List.setIfInBounds_toArray, List.set_cons_zero, List.set_cons_succ, i64_w, i32_w]
   rfl
  refine pure_ (i := 11) (N := some 33) (v := ?_) (a' := ?_) #[true, false, false, true, false, true, false, false, true, false, false, true, false, false, false, false] rfl rfl (any_of HT_.out (by kernel_rfl)) (fun _ _ _ h => h) (Or.inl ⟨by rfl, ?_⟩) ?_ ?_
  rotate_left
  ·intro w'
   go_simp
   with_reducible rfl
  rotate_left
  ·simp only [Act.put, List.setIfInBounds_toArray, List.set_cons_zero, List.set_cons_succ, i64_w, i32_w]
   rfl
  refine take_ (i := 6) (N := some 28) (v := ?_) (a' := ?_) #[true, false, false, true, false, true, true, false, true, false, false, true, false, false, false, false] rfl rfl (take_ofW HT_.out HW_.out (by kernel_rfl)) (fun _ _ _ h => h) (Or.inl ⟨by rfl, ?_⟩) hHeld ?_ ?_
  rotate_left
  ·rintro w' ⟨s0, s1⟩
   go_simp
   with_reducible rfl
  rotate_left
  ·simp only [Act.put, List.setIfInBounds_toArray, List.set_cons_zero, List.set_cons_succ, i64_w, i32_w]
   rfl
  refine take_ (i := 9) (N := some 31) (v := ?_) (a' := ?_) #[true, false, false, true, false, true, true, false, true, true, false, true, false, false, false, false] rfl rfl (take_ofW HT_.out HW_.out (by kernel_rfl)) (fun _ _ _ h => h) (Or.inl ⟨by rfl, ?_⟩) hHeld ?_ ?_
  rotate_left
  ·rintro w' ⟨s0, s1⟩
   go_simp
   with_reducible rfl
  rotate_left
  ·simp only [Act.put, List.setIfInBounds_toArray, List.set_cons_zero, List.set_cons_succ, i64_w, i32_w]
   rfl
  refine pure_ (i := 10) (N := some 32) (v := ?_) (a' := ?_) #[true, false, false, true, false, true, true, false, true, true, true, true, false, false, false, false] rfl rfl (any_of HT_.out (by kernel_rfl)) (fun _ _ _ h => h) (Or.inl ⟨by rfl, ?_⟩) ?_ ?_
  rotate_left
  ·intro w'
   go_simp
   with_reducible rfl
  rotate_left
  ·simp only [Act.put, List.setIfInBounds_toArray, List.set_cons_zero, List.set_cons_succ, i64_w, i32_w]
   rfl
  refine take_ (i := 12) (N := some 34) (v := ?_) (a' := ?_) #[true, false, false, true, false, true, true, false, true, true, true, true, true, false, false, false] rfl rfl (take_ofW HT_.out HW_.out (by kernel_rfl)) (fun _ _ _ h => h) (Or.inl ⟨by rfl, ?_⟩) hHeld ?_ ?_
  rotate_left
  ·rintro w' ⟨s0, s1⟩
   go_simp
   with_reducible rfl
  rotate_left
  ·simp only [Act.put, List.setIfInBounds_toArray, List.set_cons_zero, List.set_cons_succ, i64_w, i32_w]
   rfl
  refine pure_ (i := 13) (N := some 35) (v := ?_) (a' := ?_) #[true, false, false, true, false, true, true, false, true, true, true, true, true, true, false, false] rfl rfl (any_of HT_.out (by kernel_rfl)) (fun _ _ _ h => h) (Or.inl ⟨by rfl, ?_⟩) ?_ ?_
  rotate_left
  ·intro w'
   go_simp
   with_reducible rfl
  rotate_left
  ·simp only [Act.put, List.setIfInBounds_toArray, List.set_cons_zero, List.set_cons_succ, i64_w, i32_w]
   rfl
  refine one_ (i := 1) (N := some 23) #[true, true, false, true, false, true, true, false, true, true, true, true, true, true, false, false] rfl rfl (one_of HT_.out (by kernel_rfl)) (by decide) (fun K hK => ?_)
  refine goes_ Try.func60 (by kernel_rfl) rfl #[.int .u64 a2] (by rfl) rfl rfl (by (try simp only [List.map_toArray, List.map_cons, List.map_nil]); first | done | rfl | (simp only [List.length_drop, List.length_take]; rfl)) ?_
  with_reducible refine (bits_Len64.calls k a2 t212 _ A11.out).mono ?_
  rintro e w' ⟨rfl, ⟨nd, rfl⟩⟩
  refine ⟨_, rfl, ?_⟩
  refine hK.out _ _ ⟨(blk_cell BK210.out 0).trans rfl, (blk_cell BK210.out 1).trans rfl⟩ (fun hHeld => ?_)
  clear hK K
  refine norm_ (a' := ?_) ?_ ?_
  rotate_left
  ·show Act.put _ (some 23) _ = _
   simp only [Act.put, List.setIfInBounds_toArray, List.set_cons_zero, List.set_cons_succ, i64_w, i32_w]
   rfl
  refine pure_ (i := 2) (N := some 24) (v := ?_) (a' := ?_) #[true, true, true, true, false, true, true, false, true, true, true, true, true, true, false, false] rfl rfl (any_of HT_.out (by kernel_rfl)) (fun _ _ _ h => h) (Or.inl ⟨by rfl, ?_⟩) ?_ ?_
  rotate_left
  ·intro w'
   go_simp
   with_reducible rfl
  rotate_left
  ·simp only [Act.put, List.setIfInBounds_toArray, List.set_cons_zero, List.set_cons_succ, i64_w, i32_w]
   rfl
  refine pure_ (i := 4) (N := some 26) (v := ?_) (a' := ?_) #[true, true, true, true, true, true, true, false, true, true, true, true, true, true, false, false] rfl rfl (any_of HT_.out (by kernel_rfl)) (fun _ _ _ h => h) (Or.inl ⟨by rfl, ?_⟩) ?_ ?_
  rotate_left
  ·intro w'
   go_simp
   with_reducible rfl
  rotate_left
  ·simp only [Act.put, List.setIfInBounds_toArray, List.set_cons_zero, List.set_cons_succ, i64_w, i32_w]
   rfl
  refine pure_ (i := 7) (N := some 29) (v := ?_) (a' := ?_) #[true, true, true, true, true, true, true, true, true, true, true, true, true, true, false, false] rfl rfl (any_of HT_.out (by kernel_rfl)) (fun _ _ _ h => h) (Or.inl ⟨by rfl, ?_⟩) ?_ ?_
  rotate_left
  ·intro w'
   go_simp
   with_reducible rfl
  rotate_left
  ·simp only [Act.put, List.setIfInBounds_toArray, List.set_cons_zero, List.set_cons_succ, i64_w, i32_w]
   rfl
  refine pure_ (i := 14) (N := some 36) (v := ?_) (a' := ?_) #[true, true, true, true, true, true, true, true, true, true, true, true, true, true, true, false] rfl rfl (any_of HT_.out (by kernel_rfl)) (fun _ _ _ h => h) (Or.inl ⟨by rfl, ?_⟩) ?_ ?_
  rotate_left
  ·intro w'
   go_simp
   with_reducible rfl
  rotate_left
  ·simp only [Act.put, List.setIfInBounds_toArray, List.set_cons_zero, List.set_cons_succ, i64_w, i32_w]
   rfl
  refine pure_ (i := 15) (N := some 11) (v := ?_) (a' := ?_) #[true, true, true, true, true, true, true, true, true, true, true, true, true, true, true, true] rfl rfl (any_of HT_.out (by kernel_rfl)) (fun _ _ _ h => h) (Or.inl ⟨by rfl, ?_⟩) ?_ ?_
  rotate_left
  ·intro w'
   go_simp
   with_reducible rfl
  rotate_left
  ·simp only [Act.put, List.setIfInBounds_toArray, List.set_cons_zero, List.set_cons_succ, i64_w, i32_w]
   rfl
  refine done_ (done_of HT_.out (by kernel_rfl)) ?_
  go_upto_if 42 with (fail)
  go_cut [12] (fun v12 wc => ∃ (kq : Nat) (x12_12 : Int), v12 = .int .u64 x12_12 ∧ Aside0 (impl_format_round.j0 kq a1 ji12 x12_12 a0_0 a0_1 = some r) ∧ Aside0 (kq ≤ k) ∧ Aside0 (wc.heap[gb210]? = some (.cells #[.int .i64 a0_0, .int .i64 a0_1] 96 (0, 0))) ∧ Aside0 (Below w.heap.size w wc))
  case first =>
   have H := HC13.out
   clear HC13
   by_cases c16 : (wrap64 ((ji12) - a3)) > 62
   ·rw [if_pos c16] at H
    have c16b0 : decide (62 < (wrap64 ((ji12) - a3))) = true := decide_eq_true c16
    clear c16
    (first | rw [c16b0] | (simp only [i64_w, i32_w]; rw [c16b0]) | skip)
    have H' := Aside0.mk H
    clear H
    go_wp2
    go_meet
    case rel => exact ⟨_, (0), (by first | rfl | (simp; done) | (simp [*]; done)), H', ⟨by first | omega | exact Nat.le_refl _⟩, ⟨bk_ BK210.out⟩, ⟨es_⟩⟩
   ·rw [if_neg c16] at H
    have c16b0 : decide (62 < (wrap64 ((ji12) - a3))) = false := decide_eq_false c16
    clear c16
    (first | rw [c16b0] | (simp only [i64_w, i32_w]; rw [c16b0]) | skip)
    by_cases c17 : (wrap64 ((ji12) - a3)) > 0
    ·rw [if_pos c17] at H
     have c17b0 : decide (0 < (wrap64 ((ji12) - a3))) = true := decide_eq_true c17
     clear c17
     obtain ⟨ji18, hji18⟩ : ∃ j_ : Int, (wrap64 ((wrap64 ((ji12) - a3)) - 1)) = j_ := ⟨_, rfl⟩
     first | rw [hji18] at H | simp only [hji18] at H
     have hji18w : (IntKind.i64.wrap ((wrap64 ((ji12) - a3)) - 1)) = ji18 := (i64_w _).trans hji18
     by_cases c19 : 0 ≤ (ji18)
     ·rw [if_pos c19] at H
      have c19b0 := eq_true c19
      have c19b1 : decide (0 ≤ (ji18)) = true := decide_eq_true c19
      clear c19
      obtain ⟨ji20, hji20⟩ : ∃ j_ : Int, (shl .u64 1 (ji18)) = j_ := ⟨_, rfl⟩
      first | rw [hji20] at H | simp only [hji20] at H
      have hji20_ : (IntKind.u64.wrap (1 * 2 ^ min (ji18).toNat 64)) = ji20 := hji20
      have hji20z : (ji18) ≤ 64 → (IntKind.u64.wrap (1 * 2 ^ (ji18).toNat)) = ji20 := shl_small hji20
      have hji20u : (IntKind.u64.wrap (2 ^ min (ji18).toNat 64)) = ji20 := by have h_ := hji20_; rw [Int.one_mul] at h_; exact h_
      have hji20v : (ji18) ≤ 64 → (IntKind.u64.wrap (2 ^ (ji18).toNat)) = ji20 := fun hle_ => by have h_ := hji20z hle_; rw [Int.one_mul] at h_; exact h_
      obtain ⟨ji21, hji21⟩ : ∃ j_ : Int, (wrap64 ((ji12) - a3)) = j_ := ⟨_, rfl⟩
      first | rw [hji21] at H | simp only [hji21] at H
      (try rw [hji21] at c16b0)
      (try rw [hji21] at c17b0)
      have hji21w : (IntKind.i64.wrap ((ji12) - a3)) = ji21 := (i64_w _).trans hji21
      (try have hxji21 : (IntKind.i64.wrap ((ji21) - 1)) = ji18 := by rw [← hji21]; exact hji18w)
      (try have hyji21 : (wrap64 ((ji21) - 1)) = ji18 := by rw [← hji21]; exact hji18)
      by_cases c22 : 0 ≤ (ji21)
      ·rw [if_pos c22] at H
       have c22b0 := eq_true c22
       have c22b1 : decide (0 ≤ (ji21)) = true := decide_eq_true c22
       clear c22
       obtain ⟨ji23, hji23⟩ : ∃ j_ : Int, (shr .u64 a2 (ji21)) = j_ := ⟨_, rfl⟩
       first | rw [hji23] at H | simp only [hji23] at H
       have hji23_ : (a2 / 2 ^ min (ji21).toNat 64) = ji23 := hji23
       have hji23z : (ji21) ≤ 64 → (a2 / 2 ^ (ji21).toNat) = ji23 := shr_small hji23
       by_cases c24 : (Go.bits .and .u64 a2 (IntKind.u64.wrap ((IntKind.u64.wrap (2 * (ji20))) - 1))) > (ji20)
       ·rw [if_pos c24] at H
        have c24b0 : decide ((ji20) < (Go.bits .and .u64 a2 (IntKind.u64.wrap ((IntKind.u64.wrap (2 * (ji20))) - 1)))) = true := decide_eq_true c24
        clear c24
        have H' := Aside0.mk H
        clear H
        go_wp2
        go_meet
        case rel => exact ⟨_, (IntKind.u64.wrap ((ji23) + 1)), (by first | rfl | (simp; done) | (simp only [← hji23] <;> (first | rfl | simp)) | (simp [*]; done)), H', ⟨by first | omega | exact Nat.le_refl _⟩, ⟨bk_ BK210.out⟩, ⟨es_⟩⟩
       ·rw [if_neg c24] at H
        have c24b0 : decide ((ji20) < (Go.bits .and .u64 a2 (IntKind.u64.wrap ((IntKind.u64.wrap (2 * (ji20))) - 1)))) = false := decide_eq_false c24
        clear c24
        by_cases c25 : (Go.bits .and .u64 a2 (IntKind.u64.wrap ((IntKind.u64.wrap (2 * (ji20))) - 1))) = (ji20)
        ·rw [if_pos c25] at H
         have c25b0 : ((Go.bits .and .u64 a2 (IntKind.u64.wrap ((IntKind.u64.wrap (2 * (ji20))) - 1))) == (ji20)) = true := beq_iff_eq.mpr c25
         have c25b1 : ((Go.bits .and .u64 a2 (IntKind.u64.wrap ((IntKind.u64.wrap (2 * (ji20))) - 1))) != (ji20)) = false := bne_eq_false_iff_eq.mpr c25
         clear c25
         by_cases c26 : a4 = true
         ·subst c26
          have H1 : (impl_format_round.j0 k a1 ji12 (IntKind.u64.wrap ((ji23) + 1)) a0_0 a0_1) = some r := by rw [if_pos rfl] at H; first | done | exact H
          clear H
          have H := H1
          clear H1
          have H' := Aside0.mk H
          clear H
          go_wp2
          go_meet
          case rel => exact ⟨_, (IntKind.u64.wrap ((ji23) + 1)), (by first | rfl | (simp; done) | (simp only [← hji23] <;> (first | rfl | simp)) | (simp [*]; done)), H', ⟨by first | omega | exact Nat.le_refl _⟩, ⟨bk_ BK210.out⟩, ⟨es_⟩⟩
         ·replace c26 := Bool.eq_false_iff.mpr c26
          subst c26
          have H1 : (if (Go.bits .and .u64 (ji23) 1) = 1 then (impl_format_round.j0 k a1 ji12 (IntKind.u64.wrap ((ji23) + 1)) a0_0 a0_1) else (impl_format_round.j0 k a1 ji12 ji23 a0_0 a0_1)) = some r := by rw [if_neg (show ¬ (false = true) by decide)] at H; first | done | exact H
          clear H
          have H := H1
          clear H1
          by_cases c27 : (Go.bits .and .u64 (ji23) 1) = 1
          ·rw [if_pos c27] at H
           have c27b0 : ((Go.bits .and .u64 (ji23) 1) == 1) = true := beq_iff_eq.mpr c27
           have c27b1 : ((Go.bits .and .u64 (ji23) 1) != 1) = false := bne_eq_false_iff_eq.mpr c27
           clear c27
           have H' := Aside0.mk H
           clear H
           go_wp2
           go_meet
           case rel => exact ⟨_, (IntKind.u64.wrap ((ji23) + 1)), (by first | rfl | (simp; done) | (simp only [← hji23] <;> (first | rfl | simp)) | (simp [*]; done)), H', ⟨by first | omega | exact Nat.le_refl _⟩, ⟨bk_ BK210.out⟩, ⟨es_⟩⟩
          ·rw [if_neg c27] at H
           have c27b0 : ((Go.bits .and .u64 (ji23) 1) == 1) = false := beq_eq_false_iff_ne.mpr c27
           have c27b1 : ((Go.bits .and .u64 (ji23) 1) != 1) = true := bne_iff_ne.mpr c27
           have H' := Aside0.mk H
           clear H
           go_wp2
           go_meet
           case rel => exact ⟨_, (ji23), (by first | rfl | (simp; done) | (simp only [← hji23] <;> (first | rfl | simp)) | (simp [*]; done)), H', ⟨by first | omega | exact Nat.le_refl _⟩, ⟨bk_ BK210.out⟩, ⟨es_⟩⟩
        ·rw [if_neg c25] at H
         have c25b0 : ((Go.bits .and .u64 a2 (IntKind.u64.wrap ((IntKind.u64.wrap (2 * (ji20))) - 1))) == (ji20)) = false := beq_eq_false_iff_ne.mpr c25
         have c25b1 : ((Go.bits .and .u64 a2 (IntKind.u64.wrap ((IntKind.u64.wrap (2 * (ji20))) - 1))) != (ji20)) = true := bne_iff_ne.mpr c25
         have H' := Aside0.mk H
         clear H
         go_wp2
         go_meet
         case rel => exact ⟨_, (ji23), (by first | rfl | (simp; done) | (simp only [← hji23] <;> (first | rfl | simp)) | (simp [*]; done)), H', ⟨by first | omega | exact Nat.le_refl _⟩, ⟨bk_ BK210.out⟩, ⟨es_⟩⟩
      ·rw [if_neg c22] at H
       exact absurd H (by simp)
     ·rw [if_neg c19] at H
      exact absurd H (by simp)
    ·rw [if_neg c17] at H
     have c17b0 : decide (0 < (wrap64 ((ji12) - a3))) = false := decide_eq_false c17
     clear c17
     obtain ⟨ji28, hji28⟩ : ∃ j_ : Int, (wrap64 (-(wrap64 ((ji12) - a3)))) = j_ := ⟨_, rfl⟩
     first | rw [hji28] at H | simp only [hji28] at H
     have hji28w : (IntKind.i64.wrap (-(wrap64 ((ji12) - a3)))) = ji28 := (i64_w _).trans hji28
     by_cases c29 : 0 ≤ (ji28)
     ·rw [if_pos c29] at H
      have c29b0 := eq_true c29
      have c29b1 : decide (0 ≤ (ji28)) = true := decide_eq_true c29
      clear c29
      obtain ⟨ji30, hji30⟩ : ∃ j_ : Int, (shl .u64 a2 (ji28)) = j_ := ⟨_, rfl⟩
      first | rw [hji30] at H | simp only [hji30] at H
      have hji30_ : (IntKind.u64.wrap (a2 * 2 ^ min (ji28).toNat 64)) = ji30 := hji30
      have hji30z : (ji28) ≤ 64 → (IntKind.u64.wrap (a2 * 2 ^ (ji28).toNat)) = ji30 := shl_small hji30
      have H' := Aside0.mk H
      clear H
      go_wp2
      go_meet
      case rel => exact ⟨_, (ji30), (by first | rfl | (simp; done) | (simp only [← hji30] <;> (first | rfl | simp)) | (simp [*]; done)), H', ⟨by first | omega | exact Nat.le_refl _⟩, ⟨bk_ BK210.out⟩, ⟨es_⟩⟩
     ·rw [if_neg c29] at H
      exact absurd H (by simp)
  case rest =>
   clear HC13
   try clear p2
   try clear p6
   obtain ⟨kq, x12_12, rfl, HA, HJ12, BK210, HB⟩ := hcut
   cases kq with
   | zero => exact absurd HA.out (by simp [impl_format_round.j0])
   | succ kj12 =>
    have H := HA.out
    clear HA
    simp only [impl_format_round.j0] at H
    by_cases c31 : 0 ≤ a0_0
    ·rw [if_pos c31] at H
     have c31b0 := eq_true c31
     have c31b1 : decide (0 ≤ a0_0) = true := decide_eq_true c31
     clear c31
     obtain ⟨ji32, hji32⟩ : ∃ j_ : Int, (shl .u64 2 a0_0) = j_ := ⟨_, rfl⟩
     first | rw [hji32] at H | simp only [hji32] at H
     have hji32_ : (IntKind.u64.wrap (2 * 2 ^ min a0_0.toNat 64)) = ji32 := hji32
     have hji32z : a0_0 ≤ 64 → (IntKind.u64.wrap (2 * 2 ^ a0_0.toNat)) = ji32 := shl_small hji32
     have HC33 := Aside0.mk H
     clear H
     obtain ⟨_, _, _, _⟩ := zc2_ BK210.out
     go_upto_if 82 with (fail)
     go_cut [11, 12] (fun v11 v12 wc => ∃ (kq : Nat) (x11_32 : Int) (x12_32 : Int), v11 = .int .i64 x11_32 ∧ v12 = .int .u64 x12_32 ∧ Aside0 (impl_format_round.j1 kq a1 x11_32 x12_32 a0_0 a0_1 = some r) ∧ Aside0 (kq ≤ kj12) ∧ Aside0 (wc.heap[gb210]? = some (.cells #[.int .i64 a0_0, .int .i64 a0_1] 96 (0, 0))) ∧ Aside0 (Below w.heap.size w wc))
     case first =>
      have H := HC33.out
      clear HC33
      by_cases c35 : x12_12 = (ji32)
      ·rw [if_pos c35] at H
       have c35b0 : (x12_12 == (ji32)) = true := beq_iff_eq.mpr c35
       have c35b1 : (x12_12 != (ji32)) = false := bne_eq_false_iff_eq.mpr c35
       clear c35
       (first | rw [c35b0] | (simp only [i64_w, i32_w]; rw [c35b0]) | skip)
       have c36b0 := eq_true (of_decide_eq_true (by first | (with_reducible assumption) | assumption) : 0 ≤ a0_0)
       obtain ⟨ji37, hji37⟩ : ∃ j_ : Int, (shl .u64 1 a0_0) = j_ := ⟨_, rfl⟩
       first | rw [hji37] at H | simp only [hji37] at H
       have hji37_ : (IntKind.u64.wrap (1 * 2 ^ min a0_0.toNat 64)) = ji37 := hji37
       have hji37z : a0_0 ≤ 64 → (IntKind.u64.wrap (1 * 2 ^ a0_0.toNat)) = ji37 := shl_small hji37
       have hji37u : (IntKind.u64.wrap (2 ^ min a0_0.toNat 64)) = ji37 := by have h_ := hji37_; rw [Int.one_mul] at h_; exact h_
       have hji37v : a0_0 ≤ 64 → (IntKind.u64.wrap (2 ^ a0_0.toNat)) = ji37 := fun hle_ => by have h_ := hji37z hle_; rw [Int.one_mul] at h_; exact h_
       have H' := Aside0.mk H
       clear H
       obtain ⟨_, _, _, _⟩ := zc2_ BK210.out
       go_wp2
       go_meet
       case rel => exact ⟨_, (wrap64 (ji12 + 1)), (ji37), (by first | rfl | (simp; done) | (simp only [← hji12] <;> (first | rfl | simp)) | (simp [*]; done)), (by first | rfl | (simp; done) | (simp only [← hji37] <;> (first | rfl | simp)) | (simp [*]; done)), H', ⟨by have := HJ12.out; first | omega | exact Nat.le_refl _⟩, ⟨bk_ BK210.out⟩, ⟨es_⟩⟩
      ·rw [if_neg c35] at H
       have c35b0 : (x12_12 == (ji32)) = false := beq_eq_false_iff_ne.mpr c35
       have c35b1 : (x12_12 != (ji32)) = true := bne_iff_ne.mpr c35
       (first | rw [c35b0] | (simp only [i64_w, i32_w]; rw [c35b0]) | skip)
       have H' := Aside0.mk H
       clear H
       go_wp2
       go_meet
       case rel => exact ⟨_, (ji12), (x12_12), (by first | rfl | (simp; done) | (simp only [← hji12] <;> (first | rfl | simp)) | (simp [*]; done)), (by first | rfl | (simp; done) | (simp [*]; done)), H', ⟨by have := HJ12.out; first | omega | exact Nat.le_refl _⟩, ⟨bk_ BK210.out⟩, ⟨es_⟩⟩
     case rest =>
      clear HC33
      try clear p2
      try clear p6
      try clear p2
      try clear p6
      obtain ⟨kq, x11_32, x12_32, rfl, rfl, HA, HJ32, BK210, HB⟩ := hcut
      cases kq with
      | zero => exact absurd HA.out (by simp [impl_format_round.j1])
      | succ kj32 =>
       have H := HA.out
       clear HA
       simp only [impl_format_round.j1] at H
       by_cases c39 : 0 ≤ a0_0
       ·rw [if_pos c39] at H
        have c39b0 := eq_true c39
        have c39b1 : decide (0 ≤ a0_0) = true := decide_eq_true c39
        clear c39
        obtain ⟨ji40, hji40⟩ : ∃ j_ : Int, (shl .u64 1 a0_0) = j_ := ⟨_, rfl⟩
        first | rw [hji40] at H | simp only [hji40] at H
        have hji40_ : (IntKind.u64.wrap (1 * 2 ^ min a0_0.toNat 64)) = ji40 := hji40
        have hji40z : a0_0 ≤ 64 → (IntKind.u64.wrap (1 * 2 ^ a0_0.toNat)) = ji40 := shl_small hji40
        have hji40u : (IntKind.u64.wrap (2 ^ min a0_0.toNat 64)) = ji40 := by have h_ := hji40_; rw [Int.one_mul] at h_; exact h_
        have hji40v : a0_0 ≤ 64 → (IntKind.u64.wrap (2 ^ a0_0.toNat)) = ji40 := fun hle_ => by have h_ := hji40z hle_; rw [Int.one_mul] at h_; exact h_
        by_cases c41 : x12_32 < (ji40)
        ·rw [if_pos c41] at H
         have c41b0 : decide (x12_32 < (ji40)) = true := decide_eq_true c41
         clear c41
         replace H := Option.bind_eq_some_iff.mp H
         obtain ⟨t213, A420, H⟩ := H
         try dsimp only at H
         have A42 := Aside0.mk A420
         clear A420
         obtain rfl := Option.some.inj H
         obtain ⟨_, _, _, _⟩ := zc2_ BK210.out
         go_wp2_with (first | ((with_reducible refine gate_callee (f := 58) rfl ?_); refine gl_ (some 97) rfl rfl Try.func58 (by kernel_rfl) rfl #[.agg #[.int .i64 a0_0, .int .i64 a0_1], .bool a1, .int .u32 ((x12_32) % 4294967296)] rfl ?_; (with_reducible refine (impl_format_signed.calls a0_0 a0_1 a1 ((x12_32) % 4294967296) t213 _ A42.out).mono ?_); rintro e w44 ⟨rfl, hb⟩; refine ⟨_, rfl, ?_⟩; replace BK210 := bb_ BK210 hb; replace HB := eh_ hb; (try clear hb)))
         go_ret
         exact ⟨by first | rfl | (simp [errW_none, errW_some] <;> rfl) | (simp only [← hji12, ← hji32, ← hji40]; first | rfl | (simp [errW_none, errW_some] <;> rfl)) | (simp [*, errW_none, errW_some] <;> rfl), es_⟩
        ·rw [if_neg c41] at H
         have c41b0 : decide (x12_32 < (ji40)) = false := decide_eq_false c41
         clear c41
         replace H := Option.bind_eq_some_iff.mp H
         obtain ⟨t214, A450, H⟩ := H
         try dsimp only at H
         have A45 := Aside0.mk A450
         clear A450
         by_cases c46 : (wrap64 ((wrap64 (x11_32 + a0_1)) + a0_0)) ≥ (wrap64 (t214))
         ·rw [if_pos c46] at H
          have c46b0 : decide ((wrap64 (t214)) ≤ (wrap64 ((wrap64 (x11_32 + a0_1)) + a0_0))) = true := decide_eq_true c46
          clear c46
          replace H := Option.bind_eq_some_iff.mp H
          obtain ⟨t215, A470, H⟩ := H
          try dsimp only at H
          have A47 := Aside0.mk A470
          clear A470
          obtain rfl := Option.some.inj H
          obtain ⟨_, _, _, _⟩ := zc2_ BK210.out
          go_wp2_with (first | ((with_reducible refine gate_callee (f := 113) rfl ?_); refine gl_ (some 107) rfl rfl Try.func113 (by kernel_rfl) rfl #[.agg #[.int .i64 a0_0, .int .i64 a0_1]] rfl ?_; (with_reducible refine (impl_format_top.calls a0_0 a0_1 t214 _ A45.out).mono ?_); rintro e w49 ⟨rfl, hb⟩; refine ⟨_, rfl, ?_⟩; replace BK210 := bb_ BK210 hb; replace HB := eh_ hb; (try clear hb); obtain ⟨_, _, _, _⟩ := zc2_ BK210.out) | ((with_reducible refine gate_callee (f := 59) rfl ?_); refine gl_ (some 112) rfl rfl Try.func59 (by kernel_rfl) rfl #[.agg #[.int .i64 a0_0, .int .i64 a0_1], .bool a1] rfl ?_; (with_reducible refine (impl_format_infinite.calls a0_0 a0_1 a1 t215 _ A47.out).mono ?_); rintro e w51 ⟨rfl, hb⟩; refine ⟨_, rfl, ?_⟩; replace BK210 := bb_ BK210 hb; replace HB := eh_ hb; (try clear hb)))
          go_ret
          exact ⟨by first | rfl | (simp [errW_none, errW_some] <;> rfl) | (simp only [← hji12, ← hji32, ← hji40]; first | rfl | (simp [errW_none, errW_some] <;> rfl)) | (simp [*, errW_none, errW_some] <;> rfl), es_⟩
         ·rw [if_neg c46] at H
          have c46b0 : decide ((wrap64 (t214)) ≤ (wrap64 ((wrap64 (x11_32 + a0_1)) + a0_0))) = false := decide_eq_false c46
          clear c46
          have c52b0 := eq_true (of_decide_eq_true (by first | (with_reducible assumption) | assumption) : 0 ≤ a0_0)
          obtain ⟨ji53, hji53⟩ : ∃ j_ : Int, (shl .u32 ((wrap64 ((wrap64 (x11_32 + a0_1)) + a0_0)) % 4294967296) a0_0) = j_ := ⟨_, rfl⟩
          first | rw [hji53] at H | simp only [hji53] at H
          (try rw [hji53] at A45)
          have hji53_ : (IntKind.u32.wrap (((wrap64 ((wrap64 (x11_32 + a0_1)) + a0_0)) % 4294967296) * 2 ^ min a0_0.toNat 32)) = ji53 := hji53
          have hji53z : a0_0 ≤ 32 → (IntKind.u32.wrap (((wrap64 ((wrap64 (x11_32 + a0_1)) + a0_0)) % 4294967296) * 2 ^ a0_0.toNat)) = ji53 := shl_small hji53
          have c54b0 := eq_true (of_decide_eq_true (by first | (with_reducible assumption) | assumption) : 0 ≤ a0_0)
          replace H := Option.bind_eq_some_iff.mp H
          obtain ⟨t216, A560, H⟩ := H
          try dsimp only at H
          have A56 := Aside0.mk A560
          clear A560
          obtain rfl := Option.some.inj H
          obtain ⟨_, _, _, _⟩ := zc2_ BK210.out
          try go_wp2_with (first | ((with_reducible refine gate_callee (f := 113) rfl ?_); refine gl_ (some 107) rfl rfl Try.func113 (by kernel_rfl) rfl #[.agg #[.int .i64 a0_0, .int .i64 a0_1]] rfl ?_; (with_reducible refine (impl_format_top.calls a0_0 a0_1 t214 _ A45.out).mono ?_); rintro e w58 ⟨rfl, hb⟩; refine ⟨_, rfl, ?_⟩; replace BK210 := bb_ BK210 hb; replace HB := eh_ hb; (try clear hb)))
          replace BK210 := Aside0.mk (blk_drew BK210.out)
          replace HB := Aside0.mk (below_drew1 HB.out)
          refine start_ (n := 16) (S := fun w' => w'.cell? ⟨gb210, 0, none⟩ = some (.int .i64 a0_0) ∧ w'.cell? ⟨gb210, 1, none⟩ = some (.int .i64 a0_1)) (ds := []) #[false, false, false, false, false, false, false, false, false, false, false, false, false, false, false, false] (by kernel_rfl) rfl rfl ⟨(blk_cell BK210.out 0).trans rfl, (blk_cell BK210.out 1).trans rfl⟩ (fun hHeld => ?_); refine with_tabW impl_format_round.tab22 impl_format_round.bits22 (fun HT_ HW_ => ?_)
          generalize w58.drew = w59 at BK210 HB hHeld ⊢
          refine pure_ (i := 1) (N := some 114) (v := ?_) (a' := ?_) #[false, true, false, false, false, false, false, false, false, false, false, false, false, false, false, false] rfl rfl (any_of HT_.out (by kernel_rfl)) (fun _ _ _ h => h) (Or.inl ⟨by rfl, ?_⟩) ?_ ?_
          rotate_left
          ·intro w'
           go_simp
           with_reducible rfl
          rotate_left
          ·simp only [Act.put, List.setIfInBounds_toArray, List.set_cons_zero, List.set_cons_succ, i64_w, i32_w]
           rfl
          refine pure_ (i := 2) (N := some 115) (v := ?_) (a' := ?_) #[false, true, true, false, false, false, false, false, false, false, false, false, false, false, false, false] rfl rfl (any_of HT_.out (by kernel_rfl)) (fun _ _ _ h => h) (Or.inl ⟨by rfl, ?_⟩) ?_ ?_
          rotate_left
          ·intro w'
           go_simp
           with_reducible rfl
          rotate_left
          ·simp only [Act.put, List.setIfInBounds_toArray, List.set_cons_zero, List.set_cons_succ, i64_w, i32_w]
           rfl
          refine pure_ (i := 3) (N := some 116) (v := ?_) (a' := ?_) #[false, true, true, true, false, false, false, false, false, false, false, false, false, false, false, false] rfl rfl (any_of HT_.out (by kernel_rfl)) (fun _ _ _ h => h) (Or.inl ⟨by rfl, ?_⟩) ?_ ?_
          rotate_left
          ·intro w'
           go_simp
           with_reducible rfl
          rotate_left
          ·simp only [Act.put, List.setIfInBounds_toArray, List.set_cons_zero, List.set_cons_succ, i64_w, i32_w]
           rfl
          refine pure_ (i := 4) (N := some 117) (v := ?_) (a' := ?_) #[false, true, true, true, true, false, false, false, false, false, false, false, false, false, false, false] rfl rfl (any_of HT_.out (by kernel_rfl)) (fun _ _ _ h => h) (Or.inl ⟨by rfl, ?_⟩) ?_ ?_
          rotate_left
          ·intro w'
           go_simp
           with_reducible rfl
          rotate_left
          ·simp only [Act.put, List.setIfInBounds_toArray, List.set_cons_zero, List.set_cons_succ, i64_w, i32_w]
           rfl
          refine pure_ (i := 7) (N := some 120) (v := ?_) (a' := ?_) #[false, true, true, true, true, false, false, true, false, false, false, false, false, false, false, false] rfl rfl (any_of HT_.out (by kernel_rfl)) (fun _ _ _ h => h) (Or.inl ⟨by rfl, ?_⟩) ?_ ?_
          rotate_left
          ·intro w'
           go_simp
           with_reducible rfl
          rotate_left
          ·simp only [Act.put, List.setIfInBounds_toArray, List.set_cons_zero, List.set_cons_succ, i64_w, i32_w]
           rfl
          refine pure_ (i := 8) (N := some 121) (v := ?_) (a' := ?_) #[false, true, true, true, true, false, false, true, true, false, false, false, false, false, false, false] rfl rfl (any_of HT_.out (by kernel_rfl)) (fun _ _ _ h => h) (Or.inl ⟨by rfl, ?_⟩) ?_ ?_
          rotate_left
          ·intro w'
           go_simp
           with_reducible rfl
          rotate_left
          ·simp only [Act.put, List.setIfInBounds_toArray, List.set_cons_zero, List.set_cons_succ, i64_w, i32_w]
           rfl
          refine take_ (i := 0) (N := some 113) (v := ?_) (a' := ?_) #[true, true, true, true, true, false, false, true, true, false, false, false, false, false, false, false] rfl rfl (take_ofW HT_.out HW_.out (by kernel_rfl)) (fun _ _ _ h => h) (Or.inl ⟨by rfl, ?_⟩) hHeld ?_ ?_
          rotate_left
          ·rintro w' ⟨s0, s1⟩
           go_simp
           with_reducible rfl
          rotate_left
          ·simp only [Act.put, List.setIfInBounds_toArray, List.set_cons_zero, List.set_cons_succ, i64_w, i32_w]
           rfl
          refine take_ (i := 5) (N := some 118) (v := ?_) (a' := ?_) #[true, true, true, true, true, true, false, true, true, false, false, false, false, false, false, false] rfl rfl (take_ofW HT_.out HW_.out (by kernel_rfl)) (fun _ _ _ h => h) (Or.inl ⟨by rfl, ?_⟩) hHeld ?_ ?_
          rotate_left
          ·rintro w' ⟨s0, s1⟩
           go_simp
           with_reducible rfl
          rotate_left
          ·simp only [Act.put, List.setIfInBounds_toArray, List.set_cons_zero, List.set_cons_succ, i64_w, i32_w]
           rfl
          refine pure_ (i := 6) (N := some 119) (v := ?_) (a' := ?_) #[true, true, true, true, true, true, true, true, true, false, false, false, false, false, false, false] rfl rfl (any_of HT_.out (by kernel_rfl)) (fun _ _ _ h => h) (Or.inl ⟨by rfl, ?_⟩) ?_ ?_
          rotate_left
          ·intro w'
           go_simp
           with_reducible rfl
          rotate_left
          ·simp only [Act.put, List.setIfInBounds_toArray, List.set_cons_zero, List.set_cons_succ, i64_w, i32_w]
           rfl
          refine take_ (i := 9) (N := some 122) (v := ?_) (a' := ?_) #[true, true, true, true, true, true, true, true, true, true, false, false, false, false, false, false] rfl rfl (take_ofW HT_.out HW_.out (by kernel_rfl)) (fun _ _ _ h => h) (Or.inl ⟨by rfl, ?_⟩) hHeld ?_ ?_
          rotate_left
          ·rintro w' ⟨s0, s1⟩
           go_simp
           with_reducible rfl
          rotate_left
          ·simp only [Act.put, List.setIfInBounds_toArray, List.set_cons_zero, List.set_cons_succ, i64_w, i32_w]
           rfl
          refine pure_ (i := 10) (N := some 123) (v := ?_) (a' := ?_) #[true, true, true, true, true, true, true, true, true, true, true, false, false, false, false, false] rfl rfl (any_of HT_.out (by kernel_rfl)) (fun _ _ _ h => h) (Or.inl ⟨by rfl, ?_⟩) ?_ ?_
          rotate_left
          ·intro w'
           go_simp
           with_reducible rfl
          rotate_left
          ·simp only [Act.put, List.setIfInBounds_toArray, List.set_cons_zero, List.set_cons_succ, i64_w, i32_w]
           rfl
          refine pure_ (i := 11) (N := some 124) (v := ?_) (a' := ?_) #[true, true, true, true, true, true, true, true, true, true, true, true, false, false, false, false] rfl rfl (any_of HT_.out (by kernel_rfl)) (fun _ _ _ h => h) (Or.inl ⟨by rfl, ?_⟩) ?_ ?_
          rotate_left
          ·intro w'
           go_simp
           with_reducible rfl
          rotate_left
          ·simp only [Act.put, List.setIfInBounds_toArray, List.set_cons_zero, List.set_cons_succ, i64_w, i32_w]
           rfl
          refine pure_ (i := 12) (N := some 125) (v := ?_) (a' := ?_) #[true, true, true, true, true, true, true, true, true, true, true, true, true, false, false, false] rfl rfl (any_of HT_.out (by kernel_rfl)) (fun _ _ _ h => h) (Or.inl ⟨by rfl, ?_⟩) ?_ ?_
          rotate_left
          ·intro w'
           go_simp
           with_reducible rfl
          rotate_left
          ·simp only [Act.put, List.setIfInBounds_toArray, List.set_cons_zero, List.set_cons_succ, i64_w, i32_w]
           rfl
          refine pure_ (i := 13) (N := some 126) (v := ?_) (a' := ?_) #[true, true, true, true, true, true, true, true, true, true, true, true, true, true, false, false] rfl rfl (any_of HT_.out (by kernel_rfl)) (fun _ _ _ h => h) (Or.inl ⟨by rfl, ?_⟩) ?_ ?_
          rotate_left
          ·intro w'
           go_simp
           with_reducible rfl
          rotate_left
          ·simp only [Act.put, List.setIfInBounds_toArray, List.set_cons_zero, List.set_cons_succ, i64_w, i32_w]
           rfl
          refine one_ (i := 14) (N := some 127) #[true, true, true, true, true, true, true, true, true, true, true, true, true, true, true, false] rfl rfl (one_of HT_.out (by kernel_rfl)) (by decide) (fun K hK => ?_)
          refine goes_ Try.func58 (by kernel_rfl) rfl #[.agg #[.int .i64 a0_0, .int .i64 a0_1], .bool a1, .int .u32 (Go.bits .or .u32 (ji53) ((IntKind.u64.wrap (x12_32 - (ji40))) % 4294967296))] (by rfl) rfl rfl (by (try simp only [List.map_toArray, List.map_cons, List.map_nil]); first | done | (rw [← hji53_, ← show IntKind.u32.wrap (wrap64 (wrap64 (x11_32 + a0_1) + a0_0)) = (wrap64 (wrap64 (x11_32 + a0_1) + a0_0)) % 4294967296 from by simp [IntKind.wrap, IntKind.bits, IntKind.signed], ← show IntKind.u32.wrap (IntKind.u64.wrap (x12_32 - ji40)) = (IntKind.u64.wrap (x12_32 - ji40)) % 4294967296 from by simp [IntKind.wrap, IntKind.bits, IntKind.signed]]; rfl) | (simp only [hji40, hji53]; rfl) | rfl | (simp only [List.length_drop, List.length_take]; rfl)) ?_
          with_reducible refine (impl_format_signed.calls a0_0 a0_1 a1 (Go.bits .or .u32 (ji53) ((IntKind.u64.wrap (x12_32 - (ji40))) % 4294967296)) t216 _ A56.out).mono ?_
          rintro e w60 ⟨rfl, hb⟩
          refine ⟨_, rfl, ?_⟩
          replace BK210 := bb_ BK210 hb
          replace HB := eh_ hb
          (try clear hb)
          (try clear hb2)
          (try clear hk)
          (try clear hi)
          refine hK.out _ _ ⟨(blk_cell BK210.out 0).trans rfl, (blk_cell BK210.out 1).trans rfl⟩ (fun hHeld => ?_)
          clear hK K
          refine norm_ (a' := ?_) ?_ ?_
          rotate_left
          ·show Act.put _ (some 127) _ = _
           simp only [Act.put, List.setIfInBounds_toArray, List.set_cons_zero, List.set_cons_succ, i64_w, i32_w]
           rfl
          refine pure_ (i := 15) (N := some 10) (v := ?_) (a' := ?_) #[true, true, true, true, true, true, true, true, true, true, true, true, true, true, true, true] rfl rfl (any_of HT_.out (by kernel_rfl)) (fun _ _ _ h => h) (Or.inl ⟨by rfl, ?_⟩) ?_ ?_
          rotate_left
          ·intro w'
           go_simp
           with_reducible rfl
          rotate_left
          ·simp only [Act.put, List.setIfInBounds_toArray, List.set_cons_zero, List.set_cons_succ, i64_w, i32_w]
           rfl
          refine done_ (done_of HT_.out (by kernel_rfl)) ?_
          try go_wp2
          go_ret
          exact ⟨by first | rfl | (simp [errW_none, errW_some] <;> rfl) | (simp only [← hji12, ← hji32, ← hji40, ← hji53]; first | rfl | (simp [errW_none, errW_some] <;> rfl)) | (simp [*, errW_none, errW_some] <;> rfl), es_⟩
       ·rw [if_neg c39] at H
        exact absurd H (by simp)
    ·rw [if_neg c31] at H
     exact absurd H (by simp)

end Go.Proofs.Ytdoflfifnkpacaa.FA
