-- Printed by a program of this session (after the kit's print.sh, with contracts of its own beside): Lean checks it.
import Derived.Test.YtdoflfifnkpacaaC18FAx0
import Derived.Test.YtdoflfifnkpacaaC18FAx1
import Derived.Test.YtdoflfifnkpacaaC18FAx2
namespace Go.Proofs.Ytdoflfifnkpacaa.FA
open Go.RowKit Go.Proofs.YtdoflfifnkpacaaW.PrintWords Go.Proofs.YtdoflfifnkpacaaW.PrintLast Go.Proofs.YtdoflfifnkpacaaW.PrintMore
attribute [local go_sem] max2_int min2_int max_two min_two max_three min_three max_four min_four   -- for this text's walks alone
set_option linter.unusedVariables false
set_option linter.unusedSimpArgs false

mutual
def spec_l4K_round.j0 : Nat → Bool → Int → Int → Bool → Int → Int → Int → Option (Int)
 | 0, _, _, _, _, _, _, _ => none
 | k + 1, x1, x2, x3, x4, x11, x151000, x151001 => if (wrap64 (x11 - x3)) ≤ 0 then (if 0 ≤ (IntKind.u64.wrap (wrap64 (-(wrap64 (x11 - x3))))) then (spec_l4K_round.j1 k x1 (shl .u64 x2 (IntKind.u64.wrap (wrap64 (-(wrap64 (x11 - x3)))))) x11 x151000 x151001) else (none)) else (if (wrap64 (x11 - x3)) < 64 then (if 0 ≤ (IntKind.u64.wrap (wrap64 (x11 - x3))) then (if 0 ≤ (IntKind.u64.wrap (wrap64 ((wrap64 (x11 - x3)) - 1))) then (if (Go.bits .and .u64 x2 (IntKind.u64.wrap ((shl .u64 1 (IntKind.u64.wrap (wrap64 (x11 - x3)))) - 1))) > (shl .u64 1 (IntKind.u64.wrap (wrap64 ((wrap64 (x11 - x3)) - 1)))) then (spec_l4K_round.j1 k x1 (IntKind.u64.wrap ((shr .u64 x2 (IntKind.u64.wrap (wrap64 (x11 - x3)))) + 1)) x11 x151000 x151001) else (if (Go.bits .and .u64 x2 (IntKind.u64.wrap ((shl .u64 1 (IntKind.u64.wrap (wrap64 (x11 - x3)))) - 1))) = (shl .u64 1 (IntKind.u64.wrap (wrap64 ((wrap64 (x11 - x3)) - 1)))) then (if x4 = true then (spec_l4K_round.j1 k x1 (IntKind.u64.wrap ((shr .u64 x2 (IntKind.u64.wrap (wrap64 (x11 - x3)))) + 1)) x11 x151000 x151001) else (if (Go.bits .and .u64 (shr .u64 x2 (IntKind.u64.wrap (wrap64 (x11 - x3)))) 1) = 1 then (spec_l4K_round.j1 k x1 (IntKind.u64.wrap ((shr .u64 x2 (IntKind.u64.wrap (wrap64 (x11 - x3)))) + 1)) x11 x151000 x151001) else (spec_l4K_round.j1 k x1 (shr .u64 x2 (IntKind.u64.wrap (wrap64 (x11 - x3)))) x11 x151000 x151001))) else (spec_l4K_round.j1 k x1 (shr .u64 x2 (IntKind.u64.wrap (wrap64 (x11 - x3)))) x11 x151000 x151001))) else (none)) else (none)) else (if 0 > 1 then (spec_l4K_round.j1 k x1 (0 + 1) x11 x151000 x151001) else (if 0 = 1 then (spec_l4K_round.j1 k x1 (0 + 1) x11 x151000 x151001) else (spec_l4K_round.j1 k x1 0 x11 x151000 x151001))))
def spec_l4K_round.j1 : Nat → Bool → Int → Int → Int → Int → Option (Int)
 | 0, _, _, _, _, _ => none
 | k + 1, x1, x2, x11, x151000, x151001 => if 0 ≤ (IntKind.u64.wrap (x151001 + 1)) then (if x2 = (shl .u64 1 (IntKind.u64.wrap (x151001 + 1))) then (spec_l4K_round.j2 k x1 (x2 / 2) (wrap64 (x11 + 1)) x151000 x151001) else (spec_l4K_round.j2 k x1 x2 x11 x151000 x151001)) else (none)
def spec_l4K_round.j2 : Nat → Bool → Int → Int → Int → Int → Option (Int)
 | 0, _, _, _, _, _ => none
 | k + 1, x1, x2, x11, x151000, x151001 => if 0 ≤ x151001 then (if x2 < (shl .u64 1 x151001) then ((spec_l4K_sign.f x151000 x151001 x1).bind fun t155 => (some (Go.bits .or .u32 t155 ((x2) % 4294967296)))) else ((spec_l4K_least.f x151000 x151001).bind fun t156 => (if 0 ≤ x151000 then (if (wrap64 ((wrap64 (x11 - t156)) + 1)) ≥ (wrap64 ((shl .i64 1 x151000) - 1)) then ((spec_l4K_inf.f x151000 x151001 x1).bind fun t157 => (some t157)) else ((spec_l4K_sign.f x151000 x151001 x1).bind fun t158 => (some (Go.bits .or .u32 (Go.bits .or .u32 t158 (shl .u32 ((wrap64 ((wrap64 (x11 - t156)) + 1)) % 4294967296) x151001)) (Go.bits .and .u32 ((x2) % 4294967296) (((shl .u32 1 x151001) - 1) % 4294967296)))))) else (none)))) else (none)
end
def spec_l4K_round.f (k : Nat) (a0_0 : Int) (a0_1 : Int) (a1 : Bool) (a2 : Int) (a3 : Int) (a4 : Bool) : Option (Int) := if a2 = 0 then ((spec_l4K_sign.f a0_0 a0_1 a1).bind fun t151 => (some t151)) else ((spec_l4Len.f k a2).bind fun t152 => ((spec_l4K_least.f a0_0 a0_1).bind fun t153 => (if (wrap64 ((wrap64 ((wrap64 (a3 + t152)) - (wrap64 (a0_1)))) - 1)) < t153 then ((spec_l4K_least.f a0_0 a0_1).bind fun t154 => (spec_l4K_round.j0 k a1 a2 a3 a4 t154 a0_0 a0_1)) else (spec_l4K_round.j0 k a1 a2 a3 a4 (wrap64 ((wrap64 ((wrap64 (a3 + t152)) - (wrap64 (a0_1)))) - 1)) a0_0 a0_1))))
theorem spec_l4K_round.mono_l : ∀ k, (∀ y0 y1 y2 y3 y4 y5 y6, LeO (spec_l4K_round.j0 k y0 y1 y2 y3 y4 y5 y6) (spec_l4K_round.j0 (k + 1) y0 y1 y2 y3 y4 y5 y6)) ∧ (∀ y0 y1 y2 y3 y4, LeO (spec_l4K_round.j1 k y0 y1 y2 y3 y4) (spec_l4K_round.j1 (k + 1) y0 y1 y2 y3 y4)) ∧ (∀ y0 y1 y2 y3 y4, LeO (spec_l4K_round.j2 k y0 y1 y2 y3 y4) (spec_l4K_round.j2 (k + 1) y0 y1 y2 y3 y4))
 | 0 => ⟨fun _ _ _ _ _ _ _ r h => by simp [spec_l4K_round.j0] at h, fun _ _ _ _ _ r h => by simp [spec_l4K_round.j1] at h, fun _ _ _ _ _ r h => by simp [spec_l4K_round.j2] at h⟩
 | k + 1 => by
  obtain ⟨ih0, ih1, ih2⟩ := spec_l4K_round.mono_l k
  refine ⟨?_, ?_, ?_⟩
  ·intro y0 y1 y2 y3 y4 y5 y6
   unfold spec_l4K_round.j0
   repeat' first
   | (with_reducible exact ih0 _ _ _ _ _ _ _)
   | (with_reducible exact ih1 _ _ _ _ _)
   | (with_reducible exact ih2 _ _ _ _ _)
   | (with_reducible exact spec_l4Len.mono _ _)
   | (with_reducible exact LeO.refl _)
   | (with_reducible exact LeO.none _)
   | (with_reducible refine LeO.ite ?_ ?_)
   | (with_reducible refine LeO.bind ?_ (fun _ => ?_))
   | exact ih0 _ _ _ _ _ _ _
   | exact ih1 _ _ _ _ _
   | exact ih2 _ _ _ _ _
   | exact spec_l4Len.mono _ _
   | exact LeO.none _
   | refine LeO.ite ?_ ?_
   | refine LeO.bind ?_ (fun _ => ?_)
  ·intro y0 y1 y2 y3 y4
   unfold spec_l4K_round.j1
   repeat' first
   | (with_reducible exact ih0 _ _ _ _ _ _ _)
   | (with_reducible exact ih1 _ _ _ _ _)
   | (with_reducible exact ih2 _ _ _ _ _)
   | (with_reducible exact spec_l4Len.mono _ _)
   | (with_reducible exact LeO.refl _)
   | (with_reducible exact LeO.none _)
   | (with_reducible refine LeO.ite ?_ ?_)
   | (with_reducible refine LeO.bind ?_ (fun _ => ?_))
   | exact ih0 _ _ _ _ _ _ _
   | exact ih1 _ _ _ _ _
   | exact ih2 _ _ _ _ _
   | exact spec_l4Len.mono _ _
   | exact LeO.none _
   | refine LeO.ite ?_ ?_
   | refine LeO.bind ?_ (fun _ => ?_)
  ·intro y0 y1 y2 y3 y4
   unfold spec_l4K_round.j2
   repeat' first
   | (with_reducible exact ih0 _ _ _ _ _ _ _)
   | (with_reducible exact ih1 _ _ _ _ _)
   | (with_reducible exact ih2 _ _ _ _ _)
   | (with_reducible exact spec_l4Len.mono _ _)
   | (with_reducible exact LeO.refl _)
   | (with_reducible exact LeO.none _)
   | (with_reducible refine LeO.ite ?_ ?_)
   | (with_reducible refine LeO.bind ?_ (fun _ => ?_))
   | exact ih0 _ _ _ _ _ _ _
   | exact ih1 _ _ _ _ _
   | exact ih2 _ _ _ _ _
   | exact spec_l4Len.mono _ _
   | exact LeO.none _
   | refine LeO.ite ?_ ?_
   | refine LeO.bind ?_ (fun _ => ?_)
theorem spec_l4K_round.mono : ∀ a0 a1 a2 a3 a4 a5 k, LeO (spec_l4K_round.f k a0 a1 a2 a3 a4 a5) (spec_l4K_round.f (k + 1) a0 a1 a2 a3 a4 a5) := by
 intro a0 a1 a2 a3 a4 a5 k
 obtain ⟨ih0, ih1, ih2⟩ := spec_l4K_round.mono_l k
 unfold spec_l4K_round.f
 repeat' first
   | (with_reducible exact ih0 _ _ _ _ _ _ _)
   | (with_reducible exact ih1 _ _ _ _ _)
   | (with_reducible exact ih2 _ _ _ _ _)
   | (with_reducible exact spec_l4Len.mono _ _)
   | (with_reducible exact LeO.refl _)
   | (with_reducible exact LeO.none _)
   | (with_reducible refine LeO.ite ?_ ?_)
   | (with_reducible refine LeO.bind ?_ (fun _ => ?_))
   | exact ih0 _ _ _ _ _ _ _
   | exact ih1 _ _ _ _ _
   | exact ih2 _ _ _ _ _
   | exact spec_l4Len.mono _ _
   | exact LeO.none _
   | refine LeO.ite ?_ ?_
   | refine LeO.bind ?_ (fun _ => ?_)
def spec_l4K_round.T3 : Bool × List (List Nat × List Nat) := (true, [([], []), ([], []), ([1], [1]), ([0, 2], [0, 2]), ([], []), ([4], [4]), ([5], [5]), ([3, 6], [3, 6]), ([7], [7]), ([8, 2, 0, 1, 2, 3, 4, 5, 6, 7, 8], [8])])
def spec_l4K_round.B3 : List Nat := [0, 0, 2, 7, 0, 16, 48, 127, 255, 511]
theorem spec_l4K_round.tab3 : rtab .any (opsOf Try.f120 3) = spec_l4K_round.T3 := by kernel_rfl
theorem spec_l4K_round.bits3 : waitsOk spec_l4K_round.T3.2 spec_l4K_round.B3 = true := by kernel_rfl
def spec_l4K_round.T29 : Bool × List (List Nat × List Nat) := (true, [([], []), ([], []), ([0, 1], [0, 1]), ([], []), ([3], [3]), ([], []), ([5], [5]), ([4, 6], [4, 6]), ([2, 7], [2, 7]), ([], []), ([9], [9]), ([], []), ([11], [11]), ([12], [12]), ([13], [13]), ([10, 14], [10, 14]), ([8, 15], [8, 15]), ([16, 2, 0, 1, 2, 3, 4, 5, 6, 7, 8, 9, 10, 11, 12, 13, 14, 15, 16], [16])])
def spec_l4K_round.B29 : List Nat := [0, 0, 3, 0, 8, 0, 32, 120, 255, 0, 512, 0, 2048, 6144, 14336, 32256, 65535, 131071]
theorem spec_l4K_round.tab29 : rtab .any (opsOf Try.f120 29) = spec_l4K_round.T29 := by kernel_rfl
theorem spec_l4K_round.bits29 : waitsOk spec_l4K_round.T29.2 spec_l4K_round.B29 = true := by kernel_rfl
set_option maxHeartbeats 8000000 in
set_option maxRecDepth 100000 in
theorem spec_l4K_round.calls (k : Nat) (a0_0 : Int) (a0_1 : Int) (a1 : Bool) (a2 : Int) (a3 : Int) (a4 : Bool) (r : Int) (w : World) (h : spec_l4K_round.f k a0_0 a0_1 a1 a2 a3 a4 = some r) :
  Calls Try.prog 120 #[.agg #[.int .u64 a0_0, .int .u64 a0_1], .bool a1, .int .u64 a2, .int .i64 a3, .bool a4] w fun e w' => e = .returned (.int .u32 r) ∧ Below w.heap.size w w' := by
 have hu109 := Try.underlying109
 have HB := Aside0.mk (Below.refl w.heap.size w)
 have H : (if a2 = 0 then ((spec_l4K_sign.f a0_0 a0_1 a1).bind fun t151 => (some t151)) else ((spec_l4Len.f k a2).bind fun t152 => ((spec_l4K_least.f a0_0 a0_1).bind fun t153 => (if (wrap64 ((wrap64 ((wrap64 (a3 + t152)) - (wrap64 (a0_1)))) - 1)) < t153 then ((spec_l4K_least.f a0_0 a0_1).bind fun t154 => (spec_l4K_round.j0 k a1 a2 a3 a4 t154 a0_0 a0_1)) else (spec_l4K_round.j0 k a1 a2 a3 a4 (wrap64 ((wrap64 ((wrap64 (a3 + t152)) - (wrap64 (a0_1)))) - 1)) a0_0 a0_1))))) = some r := h
 clear h
 by_cases c6 : a2 = 0
 ·rw [if_pos c6] at H
  have c6b0 : (a2 == 0) = true := beq_iff_eq.mpr c6
  have c6b1 : (a2 != 0) = false := bne_eq_false_iff_eq.mpr c6
  clear c6
  replace H := Option.bind_eq_some_iff.mp H
  obtain ⟨t151, A70, H⟩ := H
  try dsimp only at H
  have A7 := Aside0.mk A70
  clear A70
  obtain rfl := Option.some.inj H
  go_enter Try.func120, Try.ntmps120
  go_wp2_with (first | ((with_reducible refine gate_dst (N := 5) rfl ?_); refine box_event ?hg (N := 5) ?hd (cs := #[.int .u64 a0_0, .int .u64 a0_1]) (t := 109) ?hr ?_; (case hd => rfl); (case hg => rfl); (case hr => first | (go_simp; done) | (go_simp; rfl)); intro gb150 hg w8 hbox hb; have BK150 := Aside0.mk (hbox); have GW150 := Aside0.mk (gs_ hg (eb_ HB.out) : w.heap.size ≤ gb150); have GE150 := GW150; replace HB := eh_ hb; clear hb hbox hg; obtain ⟨_, _, _, _⟩ := zc2_ BK150.out) | ((with_reducible refine gate_callee (f := 116) rfl ?_); refine gl_ (some 20) rfl rfl Try.func116 (by kernel_rfl) rfl #[.agg #[.int .u64 a0_0, .int .u64 a0_1], .bool a1] rfl ?_; (with_reducible refine (spec_l4K_sign.calls a0_0 a0_1 a1 t151 _ A7.out).mono ?_); rintro e w10 ⟨rfl, hb⟩; refine ⟨_, rfl, ?_⟩; replace BK150 := bb_ BK150 hb; replace HB := eh_ hb; (try clear hb)))
  go_ret
  exact ⟨by first | rfl | (simp [errW_none, errW_some] <;> rfl) | (simp [*, errW_none, errW_some] <;> rfl), es_⟩
 ·rw [if_neg c6] at H
  have c6b0 : (a2 == 0) = false := beq_eq_false_iff_ne.mpr c6
  have c6b1 : (a2 != 0) = true := bne_iff_ne.mpr c6
  replace H := Option.bind_eq_some_iff.mp H
  obtain ⟨t152, A110, H⟩ := H
  try dsimp only at H
  have A11 := Aside0.mk A110
  clear A110
  replace H := Option.bind_eq_some_iff.mp H
  obtain ⟨t153, A120, H⟩ := H
  try dsimp only at H
  have A12 := Aside0.mk A120
  clear A120
  have HC13 := Aside0.mk H
  clear H
  go_enter Try.func120, Try.ntmps120
  try go_wp2_with (first | ((with_reducible refine gate_dst (N := 5) rfl ?_); refine box_event ?hg (N := 5) ?hd (cs := #[.int .u64 a0_0, .int .u64 a0_1]) (t := 109) ?hr ?_; (case hd => rfl); (case hg => rfl); (case hr => first | (go_simp; done) | (go_simp; rfl)); intro gb150 hg w14 hbox hb; have BK150 := Aside0.mk (hbox); have GW150 := Aside0.mk (gs_ hg (eb_ HB.out) : w.heap.size ≤ gb150); have GE150 := GW150; replace HB := eh_ hb; clear hb hbox hg))
  replace BK150 := Aside0.mk (blk_drew BK150.out)
  replace HB := Aside0.mk (below_drew1 HB.out)
  refine start_ (n := 10) (S := fun w' => w'.cell? ⟨gb150, 0, none⟩ = some (.int .u64 a0_0) ∧ w'.cell? ⟨gb150, 1, none⟩ = some (.int .u64 a0_1)) (ds := []) #[false, false, false, false, false, false, false, false, false, false] (by kernel_rfl) rfl rfl ⟨(blk_cell BK150.out 0).trans rfl, (blk_cell BK150.out 1).trans rfl⟩ (fun hHeld => ?_); refine with_tabW spec_l4K_round.tab3 spec_l4K_round.bits3 (fun HT_ HW_ => ?_)
  generalize w14.drew = w15 at BK150 HB hHeld ⊢
  refine pure_ (i := 0) (N := some 21) (v := ?_) (a' := ?_) #[true, false, false, false, false, false, false, false, false, false] rfl rfl (any_of HT_.out (by kernel_rfl)) (fun _ _ _ h => h) (Or.inl ⟨by rfl, ?_⟩) ?_ ?_
  rotate_left
  ·intro w'
   go_simp
   with_reducible rfl
  rotate_left
  ·simp only [Act.put, List.setIfInBounds_toArray, List.set_cons_zero, List.set_cons_succ, i64_w, i32_w]
   rfl
  refine pure_ (i := 1) (N := some 22) (v := ?_) (a' := ?_) #[true, true, false, false, false, false, false, false, false, false] rfl rfl (any_of HT_.out (by kernel_rfl)) (fun _ _ _ h => h) (Or.inl ⟨by rfl, ?_⟩) ?_ ?_
  rotate_left
  ·intro w'
   go_simp
   with_reducible rfl
  rotate_left
  ·simp only [Act.put, List.setIfInBounds_toArray, List.set_cons_zero, List.set_cons_succ, i64_w, i32_w]
   rfl
  refine pure_ (i := 4) (N := some 25) (v := ?_) (a' := ?_) #[true, true, false, false, true, false, false, false, false, false] rfl rfl (any_of HT_.out (by kernel_rfl)) (fun _ _ _ h => h) (Or.inl ⟨by rfl, ?_⟩) ?_ ?_
  rotate_left
  ·intro w'
   go_simp
   with_reducible rfl
  rotate_left
  ·simp only [Act.put, List.setIfInBounds_toArray, List.set_cons_zero, List.set_cons_succ, i64_w, i32_w]
   rfl
  refine take_ (i := 5) (N := some 26) (v := ?_) (a' := ?_) #[true, true, false, false, true, true, false, false, false, false] rfl rfl (take_ofW HT_.out HW_.out (by kernel_rfl)) (fun _ _ _ h => h) (Or.inl ⟨by rfl, ?_⟩) hHeld ?_ ?_
  rotate_left
  ·rintro w' ⟨s0, s1⟩
   go_simp
   with_reducible rfl
  rotate_left
  ·simp only [Act.put, List.setIfInBounds_toArray, List.set_cons_zero, List.set_cons_succ, i64_w, i32_w]
   rfl
  refine pure_ (i := 6) (N := some 27) (v := ?_) (a' := ?_) #[true, true, false, false, true, true, true, false, false, false] rfl rfl (any_of HT_.out (by kernel_rfl)) (fun _ _ _ h => h) (Or.inl ⟨by rfl, ?_⟩) ?_ ?_
  rotate_left
  ·intro w'
   go_simp
   with_reducible rfl
  rotate_left
  ·simp only [Act.put, List.setIfInBounds_toArray, List.set_cons_zero, List.set_cons_succ, i64_w, i32_w]
   rfl
  refine one_ (i := 2) (N := some 23) #[true, true, true, false, true, true, true, false, false, false] rfl rfl (one_of HT_.out (by kernel_rfl)) (by decide) (fun K hK => ?_)
  refine goes_ Try.func118 (by kernel_rfl) rfl #[.int .u64 a2] (by rfl) rfl rfl (by (try simp only [List.map_toArray, List.map_cons, List.map_nil]); first | done | rfl | (simp only [List.length_drop, List.length_take]; rfl)) ?_
  with_reducible refine (spec_l4Len.calls k a2 t152 _ A11.out).mono ?_
  rintro e w' ⟨rfl, ⟨nd, rfl⟩⟩
  refine ⟨_, rfl, ?_⟩
  refine hK.out _ _ ⟨(blk_cell BK150.out 0).trans rfl, (blk_cell BK150.out 1).trans rfl⟩ (fun hHeld => ?_)
  clear hK K
  refine norm_ (a' := ?_) ?_ ?_
  rotate_left
  ·show Act.put _ (some 23) _ = _
   simp only [Act.put, List.setIfInBounds_toArray, List.set_cons_zero, List.set_cons_succ, i64_w, i32_w]
   rfl
  refine pure_ (i := 3) (N := some 24) (v := ?_) (a' := ?_) #[true, true, true, true, true, true, true, false, false, false] rfl rfl (any_of HT_.out (by kernel_rfl)) (fun _ _ _ h => h) (Or.inl ⟨by rfl, ?_⟩) ?_ ?_
  rotate_left
  ·intro w'
   go_simp
   with_reducible rfl
  rotate_left
  ·simp only [Act.put, List.setIfInBounds_toArray, List.set_cons_zero, List.set_cons_succ, i64_w, i32_w]
   rfl
  refine pure_ (i := 7) (N := some 28) (v := ?_) (a' := ?_) #[true, true, true, true, true, true, true, true, false, false] rfl rfl (any_of HT_.out (by kernel_rfl)) (fun _ _ _ h => h) (Or.inl ⟨by rfl, ?_⟩) ?_ ?_
  rotate_left
  ·intro w'
   go_simp
   with_reducible rfl
  rotate_left
  ·simp only [Act.put, List.setIfInBounds_toArray, List.set_cons_zero, List.set_cons_succ, i64_w, i32_w]
   rfl
  refine pure_ (i := 8) (N := some 29) (v := ?_) (a' := ?_) #[true, true, true, true, true, true, true, true, true, false] rfl rfl (any_of HT_.out (by kernel_rfl)) (fun _ _ _ h => h) (Or.inl ⟨by rfl, ?_⟩) ?_ ?_
  rotate_left
  ·intro w'
   go_simp
   with_reducible rfl
  rotate_left
  ·simp only [Act.put, List.setIfInBounds_toArray, List.set_cons_zero, List.set_cons_succ, i64_w, i32_w]
   rfl
  refine pure_ (i := 9) (N := some 11) (v := ?_) (a' := ?_) #[true, true, true, true, true, true, true, true, true, true] rfl rfl (any_of HT_.out (by kernel_rfl)) (fun _ _ _ h => h) (Or.inl ⟨by rfl, ?_⟩) ?_ ?_
  rotate_left
  ·intro w'
   go_simp
   with_reducible rfl
  rotate_left
  ·simp only [Act.put, List.setIfInBounds_toArray, List.set_cons_zero, List.set_cons_succ, i64_w, i32_w]
   rfl
  refine done_ (done_of HT_.out (by kernel_rfl)) ?_
  obtain ⟨_, _, _, _⟩ := zc2_ BK150.out
  go_upto_if 33 with (first | ((with_reducible refine gate_callee (f := 122) rfl ?_); refine gl_ (some 32) rfl rfl Try.func122 (by kernel_rfl) rfl #[.agg #[.int .u64 a0_0, .int .u64 a0_1]] rfl ?_; (with_reducible refine (spec_l4K_least.calls a0_0 a0_1 t153 _ A12.out).mono ?_); rintro e w17 ⟨rfl, hb⟩; refine ⟨_, rfl, ?_⟩; replace BK150 := bb_ BK150 hb; replace HB := eh_ hb; (try clear hb)))
  (try simp only [Act.put, List.setIfInBounds_toArray, List.set_cons_zero, List.set_cons_succ])
  go_cut [11] (fun v11 wc => ∃ (kq : Nat) (x11_12 : Int), v11 = .int .i64 x11_12 ∧ Aside0 (spec_l4K_round.j0 kq a1 a2 a3 a4 x11_12 a0_0 a0_1 = some r) ∧ Aside0 (kq ≤ k) ∧ Aside0 (wc.heap[gb150]? = some (.cells #[.int .u64 a0_0, .int .u64 a0_1] 109 (0, 0))) ∧ Aside0 (Below w.heap.size w wc))
  case first =>
   have H := HC13.out
   clear HC13
   by_cases c18 : (wrap64 ((wrap64 ((wrap64 (a3 + t152)) - (wrap64 (a0_1)))) - 1)) < t153
   ·rw [if_pos c18] at H
    have c18b0 : decide ((wrap64 ((wrap64 ((wrap64 (a3 + t152)) - (wrap64 (a0_1)))) - 1)) < t153) = true := decide_eq_true c18
    clear c18
    (first | rw [c18b0] | (simp only [i64_w, i32_w]; rw [c18b0]) | skip)
    replace H := Option.bind_eq_some_iff.mp H
    obtain ⟨t154, A190, H⟩ := H
    try dsimp only at H
    have A19 := Aside0.mk A190
    clear A190
    have H' := Aside0.mk H
    clear H
    obtain ⟨_, _, _, _⟩ := zc2_ BK150.out
    go_wp2_with (first | ((with_reducible refine gate_callee (f := 122) rfl ?_); refine gl_ (some 35) rfl rfl Try.func122 (by kernel_rfl) rfl #[.agg #[.int .u64 a0_0, .int .u64 a0_1]] rfl ?_; (with_reducible refine (spec_l4K_least.calls a0_0 a0_1 t154 _ A19.out).mono ?_); rintro e w21 ⟨rfl, hb⟩; refine ⟨_, rfl, ?_⟩; replace BK150 := bb_ BK150 hb; replace HB := eh_ hb; (try clear hb)))
    go_meet
    case rel => exact ⟨_, (t154), (by first | rfl | (simp; done) | (simp [*]; done)), H', ⟨by first | omega | exact Nat.le_refl _⟩, ⟨bk_ BK150.out⟩, ⟨es_⟩⟩
   ·rw [if_neg c18] at H
    have c18b0 : decide ((wrap64 ((wrap64 ((wrap64 (a3 + t152)) - (wrap64 (a0_1)))) - 1)) < t153) = false := decide_eq_false c18
    clear c18
    (first | rw [c18b0] | (simp only [i64_w, i32_w]; rw [c18b0]) | skip)
    have H' := Aside0.mk H
    clear H
    go_wp2
    go_meet
    case rel => exact ⟨_, (wrap64 ((wrap64 ((wrap64 (a3 + t152)) - (wrap64 (a0_1)))) - 1)), (by first | rfl | (simp; done) | (simp [*]; done)), H', ⟨by first | omega | exact Nat.le_refl _⟩, ⟨bk_ BK150.out⟩, ⟨es_⟩⟩
  case rest =>
   clear HC13
   try clear p2
   try clear p6
   obtain ⟨kq, x11_12, rfl, HA, HJ12, BK150, HB⟩ := hcut
   cases kq with
   | zero => exact absurd HA.out (by simp [spec_l4K_round.j0])
   | succ kj12 =>
    have H := HA.out
    clear HA
    simp only [spec_l4K_round.j0] at H
    have HC22 := Aside0.mk H
    clear H
    go_upto_if 40 with (fail)
    go_cut [2] (fun v2 wc => ∃ (kq : Nat) (x2_21 : Int), v2 = .int .u64 x2_21 ∧ Aside0 (spec_l4K_round.j1 kq a1 x2_21 x11_12 a0_0 a0_1 = some r) ∧ Aside0 (kq ≤ kj12) ∧ Aside0 (wc.heap[gb150]? = some (.cells #[.int .u64 a0_0, .int .u64 a0_1] 109 (0, 0))) ∧ Aside0 (Below w.heap.size w wc))
    case first =>
     have H := HC22.out
     clear HC22
     by_cases c23 : (wrap64 (x11_12 - a3)) ≤ 0
     ·rw [if_pos c23] at H
      have c23b0 : decide ((wrap64 (x11_12 - a3)) ≤ 0) = true := decide_eq_true c23
      clear c23
      (first | rw [c23b0] | (simp only [i64_w, i32_w]; rw [c23b0]) | skip)
      obtain ⟨ji24, hji24⟩ : ∃ j_ : Int, (IntKind.u64.wrap (wrap64 (-(wrap64 (x11_12 - a3))))) = j_ := ⟨_, rfl⟩
      first | rw [hji24] at H | simp only [hji24] at H
      by_cases c25 : 0 ≤ (ji24)
      ·rw [if_pos c25] at H
       have c25b0 := eq_true c25
       have c25b1 : decide (0 ≤ (ji24)) = true := decide_eq_true c25
       clear c25
       obtain ⟨ji26, hji26⟩ : ∃ j_ : Int, (shl .u64 a2 (ji24)) = j_ := ⟨_, rfl⟩
       first | rw [hji26] at H | simp only [hji26] at H
       have hji26_ : (IntKind.u64.wrap (a2 * 2 ^ min (ji24).toNat 64)) = ji26 := hji26
       have hji26z : (ji24) ≤ 64 → (IntKind.u64.wrap (a2 * 2 ^ (ji24).toNat)) = ji26 := shl_small hji26
       have H' := Aside0.mk H
       clear H
       go_wp2
       go_meet
       case rel => exact ⟨_, (ji26), (by first | rfl | (simp; done) | (simp only [← hji26] <;> (first | rfl | simp)) | (simp [*]; done)), H', ⟨by have := HJ12.out; first | omega | exact Nat.le_refl _⟩, ⟨bk_ BK150.out⟩, ⟨es_⟩⟩
      ·rw [if_neg c25] at H
       exact absurd H (by simp)
     ·rw [if_neg c23] at H
      have c23b0 : decide ((wrap64 (x11_12 - a3)) ≤ 0) = false := decide_eq_false c23
      clear c23
      (first | rw [c23b0] | (simp only [i64_w, i32_w]; rw [c23b0]) | skip)
      by_cases c27 : (wrap64 (x11_12 - a3)) < 64
      ·rw [if_pos c27] at H
       have c27b0 : decide ((wrap64 (x11_12 - a3)) < 64) = true := decide_eq_true c27
       clear c27
       obtain ⟨ji28, hji28⟩ : ∃ j_ : Int, (IntKind.u64.wrap (wrap64 (x11_12 - a3))) = j_ := ⟨_, rfl⟩
       first | rw [hji28] at H | simp only [hji28] at H
       by_cases c29 : 0 ≤ (ji28)
       ·rw [if_pos c29] at H
        have c29b0 := eq_true c29
        have c29b1 : decide (0 ≤ (ji28)) = true := decide_eq_true c29
        clear c29
        obtain ⟨ji30, hji30⟩ : ∃ j_ : Int, (shl .u64 1 (ji28)) = j_ := ⟨_, rfl⟩
        first | rw [hji30] at H | simp only [hji30] at H
        have hji30_ : (IntKind.u64.wrap (1 * 2 ^ min (ji28).toNat 64)) = ji30 := hji30
        have hji30z : (ji28) ≤ 64 → (IntKind.u64.wrap (1 * 2 ^ (ji28).toNat)) = ji30 := shl_small hji30
        have hji30u : (IntKind.u64.wrap (2 ^ min (ji28).toNat 64)) = ji30 := by have h_ := hji30_; rw [Int.one_mul] at h_; exact h_
        have hji30v : (ji28) ≤ 64 → (IntKind.u64.wrap (2 ^ (ji28).toNat)) = ji30 := fun hle_ => by have h_ := hji30z hle_; rw [Int.one_mul] at h_; exact h_
        obtain ⟨ji31, hji31⟩ : ∃ j_ : Int, (IntKind.u64.wrap (wrap64 ((wrap64 (x11_12 - a3)) - 1))) = j_ := ⟨_, rfl⟩
        first | rw [hji31] at H | simp only [hji31] at H
        by_cases c32 : 0 ≤ (ji31)
        ·rw [if_pos c32] at H
         have c32b0 := eq_true c32
         have c32b1 : decide (0 ≤ (ji31)) = true := decide_eq_true c32
         clear c32
         obtain ⟨ji33, hji33⟩ : ∃ j_ : Int, (shl .u64 1 (ji31)) = j_ := ⟨_, rfl⟩
         first | rw [hji33] at H | simp only [hji33] at H
         have hji33_ : (IntKind.u64.wrap (1 * 2 ^ min (ji31).toNat 64)) = ji33 := hji33
         have hji33z : (ji31) ≤ 64 → (IntKind.u64.wrap (1 * 2 ^ (ji31).toNat)) = ji33 := shl_small hji33
         have hji33u : (IntKind.u64.wrap (2 ^ min (ji31).toNat 64)) = ji33 := by have h_ := hji33_; rw [Int.one_mul] at h_; exact h_
         have hji33v : (ji31) ≤ 64 → (IntKind.u64.wrap (2 ^ (ji31).toNat)) = ji33 := fun hle_ => by have h_ := hji33z hle_; rw [Int.one_mul] at h_; exact h_
         have c34b0 := eq_true (of_decide_eq_true (by first | (with_reducible assumption) | assumption) : 0 ≤ (ji28))
         obtain ⟨ji35, hji35⟩ : ∃ j_ : Int, (shr .u64 a2 (ji28)) = j_ := ⟨_, rfl⟩
         first | rw [hji35] at H | simp only [hji35] at H
         have hji35_ : (a2 / 2 ^ min (ji28).toNat 64) = ji35 := hji35
         have hji35z : (ji28) ≤ 64 → (a2 / 2 ^ (ji28).toNat) = ji35 := shr_small hji35
         by_cases c36 : (Go.bits .and .u64 a2 (IntKind.u64.wrap ((ji30) - 1))) > (ji33)
         ·rw [if_pos c36] at H
          have c36b0 : decide ((ji33) < (Go.bits .and .u64 a2 (IntKind.u64.wrap ((ji30) - 1)))) = true := decide_eq_true c36
          clear c36
          have H' := Aside0.mk H
          clear H
          go_wp2
          go_meet
          case rel => exact ⟨_, (IntKind.u64.wrap ((ji35) + 1)), (by first | rfl | (simp; done) | (simp only [← hji35] <;> (first | rfl | simp)) | (simp [*]; done)), H', ⟨by have := HJ12.out; first | omega | exact Nat.le_refl _⟩, ⟨bk_ BK150.out⟩, ⟨es_⟩⟩
         ·rw [if_neg c36] at H
          have c36b0 : decide ((ji33) < (Go.bits .and .u64 a2 (IntKind.u64.wrap ((ji30) - 1)))) = false := decide_eq_false c36
          clear c36
          by_cases c37 : (Go.bits .and .u64 a2 (IntKind.u64.wrap ((ji30) - 1))) = (ji33)
          ·rw [if_pos c37] at H
           have c37b0 : ((Go.bits .and .u64 a2 (IntKind.u64.wrap ((ji30) - 1))) == (ji33)) = true := beq_iff_eq.mpr c37
           have c37b1 : ((Go.bits .and .u64 a2 (IntKind.u64.wrap ((ji30) - 1))) != (ji33)) = false := bne_eq_false_iff_eq.mpr c37
           clear c37
           by_cases c38 : a4 = true
           ·subst c38
            have H1 : (spec_l4K_round.j1 kj12 a1 (IntKind.u64.wrap ((ji35) + 1)) x11_12 a0_0 a0_1) = some r := by rw [if_pos rfl] at H; first | done | exact H
            clear H
            have H := H1
            clear H1
            have H' := Aside0.mk H
            clear H
            go_wp2
            go_meet
            case rel => exact ⟨_, (IntKind.u64.wrap ((ji35) + 1)), (by first | rfl | (simp; done) | (simp only [← hji35] <;> (first | rfl | simp)) | (simp [*]; done)), H', ⟨by have := HJ12.out; first | omega | exact Nat.le_refl _⟩, ⟨bk_ BK150.out⟩, ⟨es_⟩⟩
           ·replace c38 := Bool.eq_false_iff.mpr c38
            subst c38
            have H1 : (if (Go.bits .and .u64 (ji35) 1) = 1 then (spec_l4K_round.j1 kj12 a1 (IntKind.u64.wrap ((ji35) + 1)) x11_12 a0_0 a0_1) else (spec_l4K_round.j1 kj12 a1 ji35 x11_12 a0_0 a0_1)) = some r := by rw [if_neg (show ¬ (false = true) by decide)] at H; first | done | exact H
            clear H
            have H := H1
            clear H1
            by_cases c39 : (Go.bits .and .u64 (ji35) 1) = 1
            ·rw [if_pos c39] at H
             have c39b0 : ((Go.bits .and .u64 (ji35) 1) == 1) = true := beq_iff_eq.mpr c39
             have c39b1 : ((Go.bits .and .u64 (ji35) 1) != 1) = false := bne_eq_false_iff_eq.mpr c39
             clear c39
             have H' := Aside0.mk H
             clear H
             go_wp2
             go_meet
             case rel => exact ⟨_, (IntKind.u64.wrap ((ji35) + 1)), (by first | rfl | (simp; done) | (simp only [← hji35] <;> (first | rfl | simp)) | (simp [*]; done)), H', ⟨by have := HJ12.out; first | omega | exact Nat.le_refl _⟩, ⟨bk_ BK150.out⟩, ⟨es_⟩⟩
            ·rw [if_neg c39] at H
             have c39b0 : ((Go.bits .and .u64 (ji35) 1) == 1) = false := beq_eq_false_iff_ne.mpr c39
             have c39b1 : ((Go.bits .and .u64 (ji35) 1) != 1) = true := bne_iff_ne.mpr c39
             have H' := Aside0.mk H
             clear H
             go_wp2
             go_meet
             case rel => exact ⟨_, (ji35), (by first | rfl | (simp; done) | (simp only [← hji35] <;> (first | rfl | simp)) | (simp [*]; done)), H', ⟨by have := HJ12.out; first | omega | exact Nat.le_refl _⟩, ⟨bk_ BK150.out⟩, ⟨es_⟩⟩
          ·rw [if_neg c37] at H
           have c37b0 : ((Go.bits .and .u64 a2 (IntKind.u64.wrap ((ji30) - 1))) == (ji33)) = false := beq_eq_false_iff_ne.mpr c37
           have c37b1 : ((Go.bits .and .u64 a2 (IntKind.u64.wrap ((ji30) - 1))) != (ji33)) = true := bne_iff_ne.mpr c37
           have H' := Aside0.mk H
           clear H
           go_wp2
           go_meet
           case rel => exact ⟨_, (ji35), (by first | rfl | (simp; done) | (simp only [← hji35] <;> (first | rfl | simp)) | (simp [*]; done)), H', ⟨by have := HJ12.out; first | omega | exact Nat.le_refl _⟩, ⟨bk_ BK150.out⟩, ⟨es_⟩⟩
        ·rw [if_neg c32] at H
         exact absurd H (by simp)
       ·rw [if_neg c29] at H
        exact absurd H (by simp)
      ·rw [if_neg c27] at H
       have c27b0 : decide ((wrap64 (x11_12 - a3)) < 64) = false := decide_eq_false c27
       clear c27
       by_cases c40 : 0 > 1
       ·rw [if_pos c40] at H
        have c40b0 : decide (1 < 0) = true := decide_eq_true c40
        exact absurd c40b0 (by decide)
       ·rw [if_neg c40] at H
        have c40b0 : decide (1 < 0) = false := decide_eq_false c40
        clear c40
        by_cases c41 : 0 = 1
        ·rw [if_pos c41] at H
         have c41b0 : (0 == 1) = true := beq_iff_eq.mpr c41
         exact absurd c41b0 (by decide)
        ·rw [if_neg c41] at H
         have c41b0 : (0 == 1) = false := beq_eq_false_iff_ne.mpr c41
         have c41b1 : (0 != 1) = true := bne_iff_ne.mpr c41
         have H' := Aside0.mk H
         clear H
         go_wp2
         go_meet
         case rel => exact ⟨_, (0), (by first | rfl | (simp; done) | (simp [*]; done)), H', ⟨by have := HJ12.out; first | omega | exact Nat.le_refl _⟩, ⟨bk_ BK150.out⟩, ⟨es_⟩⟩
    case rest =>
     clear HC22
     try clear p2
     try clear p6
     try clear p2
     try clear p6
     obtain ⟨kq, x2_21, rfl, HA, HJ21, BK150, HB⟩ := hcut
     cases kq with
     | zero => exact absurd HA.out (by simp [spec_l4K_round.j1])
     | succ kj21 =>
      have H := HA.out
      clear HA
      simp only [spec_l4K_round.j1] at H
      obtain ⟨ji42, hji42⟩ : ∃ j_ : Int, (IntKind.u64.wrap (a0_1 + 1)) = j_ := ⟨_, rfl⟩
      first | rw [hji42] at H | simp only [hji42] at H
      by_cases c43 : 0 ≤ (ji42)
      ·rw [if_pos c43] at H
       have c43b0 := eq_true c43
       have c43b1 : decide (0 ≤ (ji42)) = true := decide_eq_true c43
       clear c43
       obtain ⟨ji44, hji44⟩ : ∃ j_ : Int, (shl .u64 1 (ji42)) = j_ := ⟨_, rfl⟩
       first | rw [hji44] at H | simp only [hji44] at H
       have hji44_ : (IntKind.u64.wrap (1 * 2 ^ min (ji42).toNat 64)) = ji44 := hji44
       have hji44z : (ji42) ≤ 64 → (IntKind.u64.wrap (1 * 2 ^ (ji42).toNat)) = ji44 := shl_small hji44
       have hji44u : (IntKind.u64.wrap (2 ^ min (ji42).toNat 64)) = ji44 := by have h_ := hji44_; rw [Int.one_mul] at h_; exact h_
       have hji44v : (ji42) ≤ 64 → (IntKind.u64.wrap (2 ^ (ji42).toNat)) = ji44 := fun hle_ => by have h_ := hji44z hle_; rw [Int.one_mul] at h_; exact h_
       have HC45 := Aside0.mk H
       clear H
       obtain ⟨_, _, _, _⟩ := zc2_ BK150.out
       go_upto_if 86 with (fail)
       go_cut [2, 11] (fun v2 v11 wc => ∃ (kq : Nat) (x2_44 : Int) (x11_44 : Int), v2 = .int .u64 x2_44 ∧ v11 = .int .i64 x11_44 ∧ Aside0 (spec_l4K_round.j2 kq a1 x2_44 x11_44 a0_0 a0_1 = some r) ∧ Aside0 (kq ≤ kj21) ∧ Aside0 (wc.heap[gb150]? = some (.cells #[.int .u64 a0_0, .int .u64 a0_1] 109 (0, 0))) ∧ Aside0 (Below w.heap.size w wc))
       case first =>
        have H := HC45.out
        clear HC45
        by_cases c47 : x2_21 = (ji44)
        ·rw [if_pos c47] at H
         have c47b0 : (x2_21 == (ji44)) = true := beq_iff_eq.mpr c47
         have c47b1 : (x2_21 != (ji44)) = false := bne_eq_false_iff_eq.mpr c47
         clear c47
         (first | rw [c47b0] | (simp only [i64_w, i32_w]; rw [c47b0]) | skip)
         have H' := Aside0.mk H
         clear H
         go_wp2
         go_meet
         case rel => exact ⟨_, (x2_21 / 2), (wrap64 (x11_12 + 1)), (by first | rfl | (simp; done) | (simp [*]; done)), (by first | rfl | (simp; done) | (simp [*]; done)), H', ⟨by have := HJ12.out; have := HJ21.out; first | omega | exact Nat.le_refl _⟩, ⟨bk_ BK150.out⟩, ⟨es_⟩⟩
        ·rw [if_neg c47] at H
         have c47b0 : (x2_21 == (ji44)) = false := beq_eq_false_iff_ne.mpr c47
         have c47b1 : (x2_21 != (ji44)) = true := bne_iff_ne.mpr c47
         (first | rw [c47b0] | (simp only [i64_w, i32_w]; rw [c47b0]) | skip)
         have H' := Aside0.mk H
         clear H
         go_wp2
         go_meet
         case rel => exact ⟨_, (x2_21), (x11_12), (by first | rfl | (simp; done) | (simp [*]; done)), (by first | rfl | (simp; done) | (simp [*]; done)), H', ⟨by have := HJ12.out; have := HJ21.out; first | omega | exact Nat.le_refl _⟩, ⟨bk_ BK150.out⟩, ⟨es_⟩⟩
       case rest =>
        clear HC45
        try clear p2
        try clear p6
        try clear p2
        try clear p6
        obtain ⟨kq, x2_44, x11_44, rfl, rfl, HA, HJ44, BK150, HB⟩ := hcut
        cases kq with
        | zero => exact absurd HA.out (by simp [spec_l4K_round.j2])
        | succ kj44 =>
         have H := HA.out
         clear HA
         simp only [spec_l4K_round.j2] at H
         by_cases c48 : 0 ≤ a0_1
         ·rw [if_pos c48] at H
          have c48b0 := eq_true c48
          have c48b1 : decide (0 ≤ a0_1) = true := decide_eq_true c48
          clear c48
          obtain ⟨ji49, hji49⟩ : ∃ j_ : Int, (shl .u64 1 a0_1) = j_ := ⟨_, rfl⟩
          first | rw [hji49] at H | simp only [hji49] at H
          have hji49_ : (IntKind.u64.wrap (1 * 2 ^ min a0_1.toNat 64)) = ji49 := hji49
          have hji49z : a0_1 ≤ 64 → (IntKind.u64.wrap (1 * 2 ^ a0_1.toNat)) = ji49 := shl_small hji49
          have hji49u : (IntKind.u64.wrap (2 ^ min a0_1.toNat 64)) = ji49 := by have h_ := hji49_; rw [Int.one_mul] at h_; exact h_
          have hji49v : a0_1 ≤ 64 → (IntKind.u64.wrap (2 ^ a0_1.toNat)) = ji49 := fun hle_ => by have h_ := hji49z hle_; rw [Int.one_mul] at h_; exact h_
          by_cases c50 : x2_44 < (ji49)
          ·rw [if_pos c50] at H
           have c50b0 : decide (x2_44 < (ji49)) = true := decide_eq_true c50
           clear c50
           replace H := Option.bind_eq_some_iff.mp H
           obtain ⟨t155, A510, H⟩ := H
           try dsimp only at H
           have A51 := Aside0.mk A510
           clear A510
           obtain rfl := Option.some.inj H
           obtain ⟨_, _, _, _⟩ := zc2_ BK150.out
           go_wp2_with (first | ((with_reducible refine gate_callee (f := 116) rfl ?_); refine gl_ (some 98) rfl rfl Try.func116 (by kernel_rfl) rfl #[.agg #[.int .u64 a0_0, .int .u64 a0_1], .bool a1] rfl ?_; (with_reducible refine (spec_l4K_sign.calls a0_0 a0_1 a1 t155 _ A51.out).mono ?_); rintro e w53 ⟨rfl, hb⟩; refine ⟨_, rfl, ?_⟩; replace BK150 := bb_ BK150 hb; replace HB := eh_ hb; (try clear hb)))
           go_ret
           exact ⟨by first | rfl | (simp [errW_none, errW_some] <;> rfl) | (simp only [← hji42, ← hji44, ← hji49]; first | rfl | (simp [errW_none, errW_some] <;> rfl)) | (simp [*, errW_none, errW_some] <;> rfl), es_⟩
          ·rw [if_neg c50] at H
           have c50b0 : decide (x2_44 < (ji49)) = false := decide_eq_false c50
           clear c50
           replace H := Option.bind_eq_some_iff.mp H
           obtain ⟨t156, A540, H⟩ := H
           try dsimp only at H
           have A54 := Aside0.mk A540
           clear A540
           by_cases c55 : 0 ≤ a0_0
           ·rw [if_pos c55] at H
            have c55b0 := eq_true c55
            have c55b1 : decide (0 ≤ a0_0) = true := decide_eq_true c55
            clear c55
            obtain ⟨ji56, hji56⟩ : ∃ j_ : Int, (shl .i64 1 a0_0) = j_ := ⟨_, rfl⟩
            first | rw [hji56] at H | simp only [hji56] at H
            (try rw [hji56] at A54)
            have hji56_ : (IntKind.i64.wrap (1 * 2 ^ min a0_0.toNat 64)) = ji56 := hji56
            have hji56z : a0_0 ≤ 64 → (IntKind.i64.wrap (1 * 2 ^ a0_0.toNat)) = ji56 := shl_small hji56
            have hji56u : (IntKind.i64.wrap (2 ^ min a0_0.toNat 64)) = ji56 := by have h_ := hji56_; rw [Int.one_mul] at h_; exact h_
            have hji56v : a0_0 ≤ 64 → (IntKind.i64.wrap (2 ^ a0_0.toNat)) = ji56 := fun hle_ => by have h_ := hji56z hle_; rw [Int.one_mul] at h_; exact h_
            have hji56y : (wrap64 (1 * 2 ^ min a0_0.toNat 64)) = ji56 := (i64_w _).symm.trans hji56_
            have hji56x : a0_0 ≤ 64 → (wrap64 (1 * 2 ^ a0_0.toNat)) = ji56 := fun h_ => (i64_w _).symm.trans (hji56z h_)
            by_cases c57 : (wrap64 ((wrap64 (x11_44 - t156)) + 1)) ≥ (wrap64 ((ji56) - 1))
            ·rw [if_pos c57] at H
             have c57b0 : decide ((wrap64 ((ji56) - 1)) ≤ (wrap64 ((wrap64 (x11_44 - t156)) + 1))) = true := decide_eq_true c57
             clear c57
             replace H := Option.bind_eq_some_iff.mp H
             obtain ⟨t157, A580, H⟩ := H
             try dsimp only at H
             have A58 := Aside0.mk A580
             clear A580
             obtain rfl := Option.some.inj H
             obtain ⟨_, _, _, _⟩ := zc2_ BK150.out
             go_wp2_with (first | ((with_reducible refine gate_callee (f := 122) rfl ?_); refine gl_ (some 104) rfl rfl Try.func122 (by kernel_rfl) rfl #[.agg #[.int .u64 a0_0, .int .u64 a0_1]] rfl ?_; (with_reducible refine (spec_l4K_least.calls a0_0 a0_1 t156 _ A54.out).mono ?_); rintro e w60 ⟨rfl, hb⟩; refine ⟨_, rfl, ?_⟩; replace BK150 := bb_ BK150 hb; replace HB := eh_ hb; (try clear hb); obtain ⟨_, _, _, _⟩ := zc2_ BK150.out) | ((with_reducible refine gate_callee (f := 115) rfl ?_); refine gl_ (some 115) rfl rfl Try.func115 (by kernel_rfl) rfl #[.agg #[.int .u64 a0_0, .int .u64 a0_1], .bool a1] rfl ?_; (with_reducible refine (spec_l4K_inf.calls a0_0 a0_1 a1 t157 _ A58.out).mono ?_); rintro e w62 ⟨rfl, hb⟩; refine ⟨_, rfl, ?_⟩; replace BK150 := bb_ BK150 hb; replace HB := eh_ hb; (try clear hb)))
             go_ret
             exact ⟨by first | rfl | (simp [errW_none, errW_some] <;> rfl) | (simp only [← hji42, ← hji44, ← hji49, ← hji56]; first | rfl | (simp [errW_none, errW_some] <;> rfl)) | (simp [*, errW_none, errW_some] <;> rfl), es_⟩
            ·rw [if_neg c57] at H
             have c57b0 : decide ((wrap64 ((ji56) - 1)) ≤ (wrap64 ((wrap64 (x11_44 - t156)) + 1))) = false := decide_eq_false c57
             clear c57
             replace H := Option.bind_eq_some_iff.mp H
             obtain ⟨t158, A630, H⟩ := H
             try dsimp only at H
             have A63 := Aside0.mk A630
             clear A630
             have c64b0 := eq_true (of_decide_eq_true (by first | (with_reducible assumption) | assumption) : 0 ≤ a0_1)
             obtain ⟨ji65, hji65⟩ : ∃ j_ : Int, (shl .u32 ((wrap64 ((wrap64 (x11_44 - t156)) + 1)) % 4294967296) a0_1) = j_ := ⟨_, rfl⟩
             first | rw [hji65] at H | simp only [hji65] at H
             (try rw [hji65] at A54)
             (try rw [hji65] at A63)
             have hji65_ : (IntKind.u32.wrap (((wrap64 ((wrap64 (x11_44 - t156)) + 1)) % 4294967296) * 2 ^ min a0_1.toNat 32)) = ji65 := hji65
             have hji65z : a0_1 ≤ 32 → (IntKind.u32.wrap (((wrap64 ((wrap64 (x11_44 - t156)) + 1)) % 4294967296) * 2 ^ a0_1.toNat)) = ji65 := shl_small hji65
             have c66b0 := eq_true (of_decide_eq_true (by first | (with_reducible assumption) | assumption) : 0 ≤ a0_1)
             obtain ⟨ji67, hji67⟩ : ∃ j_ : Int, (shl .u32 1 a0_1) = j_ := ⟨_, rfl⟩
             first | rw [hji67] at H | simp only [hji67] at H
             (try rw [hji67] at A54)
             (try rw [hji67] at A63)
             have hji67_ : (IntKind.u32.wrap (1 * 2 ^ min a0_1.toNat 32)) = ji67 := hji67
             have hji67z : a0_1 ≤ 32 → (IntKind.u32.wrap (1 * 2 ^ a0_1.toNat)) = ji67 := shl_small hji67
             have hji67u : (IntKind.u32.wrap (2 ^ min a0_1.toNat 32)) = ji67 := by have h_ := hji67_; rw [Int.one_mul] at h_; exact h_
             have hji67v : a0_1 ≤ 32 → (IntKind.u32.wrap (2 ^ a0_1.toNat)) = ji67 := fun hle_ => by have h_ := hji67z hle_; rw [Int.one_mul] at h_; exact h_
             obtain rfl := Option.some.inj H
             obtain ⟨_, _, _, _⟩ := zc2_ BK150.out
             try go_wp2_with (first | ((with_reducible refine gate_callee (f := 122) rfl ?_); refine gl_ (some 104) rfl rfl Try.func122 (by kernel_rfl) rfl #[.agg #[.int .u64 a0_0, .int .u64 a0_1]] rfl ?_; (with_reducible refine (spec_l4K_least.calls a0_0 a0_1 t156 _ A54.out).mono ?_); rintro e w69 ⟨rfl, hb⟩; refine ⟨_, rfl, ?_⟩; replace BK150 := bb_ BK150 hb; replace HB := eh_ hb; (try clear hb); obtain ⟨_, _, _, _⟩ := zc2_ BK150.out))
             replace BK150 := Aside0.mk (blk_drew BK150.out)
             replace HB := Aside0.mk (below_drew1 HB.out)
             refine start_ (n := 18) (S := fun w' => w'.cell? ⟨gb150, 0, none⟩ = some (.int .u64 a0_0) ∧ w'.cell? ⟨gb150, 1, none⟩ = some (.int .u64 a0_1)) (ds := []) #[false, false, false, false, false, false, false, false, false, false, false, false, false, false, false, false, false, false] (by kernel_rfl) rfl rfl ⟨(blk_cell BK150.out 0).trans rfl, (blk_cell BK150.out 1).trans rfl⟩ (fun hHeld => ?_); refine with_tabW spec_l4K_round.tab29 spec_l4K_round.bits29 (fun HT_ HW_ => ?_)
             generalize w69.drew = w71 at BK150 HB hHeld ⊢
             refine pure_ (i := 1) (N := some 117) (v := ?_) (a' := ?_) #[false, true, false, false, false, false, false, false, false, false, false, false, false, false, false, false, false, false] rfl rfl (any_of HT_.out (by kernel_rfl)) (fun _ _ _ h => h) (Or.inl ⟨by rfl, ?_⟩) ?_ ?_
             rotate_left
             ·intro w'
              go_simp
              with_reducible rfl
             rotate_left
             ·simp only [Act.put, List.setIfInBounds_toArray, List.set_cons_zero, List.set_cons_succ, i64_w, i32_w]
              rfl
             refine pure_ (i := 3) (N := some 119) (v := ?_) (a' := ?_) #[false, true, false, true, false, false, false, false, false, false, false, false, false, false, false, false, false, false] rfl rfl (any_of HT_.out (by kernel_rfl)) (fun _ _ _ h => h) (Or.inl ⟨by rfl, ?_⟩) ?_ ?_
             rotate_left
             ·intro w'
              go_simp
              with_reducible rfl
             rotate_left
             ·simp only [Act.put, List.setIfInBounds_toArray, List.set_cons_zero, List.set_cons_succ, i64_w, i32_w]
              rfl
             refine pure_ (i := 4) (N := some 120) (v := ?_) (a' := ?_) #[false, true, false, true, true, false, false, false, false, false, false, false, false, false, false, false, false, false] rfl rfl (any_of HT_.out (by kernel_rfl)) (fun _ _ _ h => h) (Or.inl ⟨by rfl, ?_⟩) ?_ ?_
             rotate_left
             ·intro w'
              go_simp
              with_reducible rfl
             rotate_left
             ·simp only [Act.put, List.setIfInBounds_toArray, List.set_cons_zero, List.set_cons_succ, i64_w, i32_w]
              rfl
             refine pure_ (i := 5) (N := some 121) (v := ?_) (a' := ?_) #[false, true, false, true, true, true, false, false, false, false, false, false, false, false, false, false, false, false] rfl rfl (any_of HT_.out (by kernel_rfl)) (fun _ _ _ h => h) (Or.inl ⟨by rfl, ?_⟩) ?_ ?_
             rotate_left
             ·intro w'
              go_simp
              with_reducible rfl
             rotate_left
             ·simp only [Act.put, List.setIfInBounds_toArray, List.set_cons_zero, List.set_cons_succ, i64_w, i32_w]
              rfl
             refine pure_ (i := 9) (N := some 125) (v := ?_) (a' := ?_) #[false, true, false, true, true, true, false, false, false, true, false, false, false, false, false, false, false, false] rfl rfl (any_of HT_.out (by kernel_rfl)) (fun _ _ _ h => h) (Or.inl ⟨by rfl, ?_⟩) ?_ ?_
             rotate_left
             ·intro w'
              go_simp
              with_reducible rfl
             rotate_left
             ·simp only [Act.put, List.setIfInBounds_toArray, List.set_cons_zero, List.set_cons_succ, i64_w, i32_w]
              rfl
             refine pure_ (i := 10) (N := some 126) (v := ?_) (a' := ?_) #[false, true, false, true, true, true, false, false, false, true, true, false, false, false, false, false, false, false] rfl rfl (any_of HT_.out (by kernel_rfl)) (fun _ _ _ h => h) (Or.inl ⟨by rfl, ?_⟩) ?_ ?_
             rotate_left
             ·intro w'
              go_simp
              with_reducible rfl
             rotate_left
             ·simp only [Act.put, List.setIfInBounds_toArray, List.set_cons_zero, List.set_cons_succ, i64_w, i32_w]
              rfl
             refine pure_ (i := 11) (N := some 127) (v := ?_) (a' := ?_) #[false, true, false, true, true, true, false, false, false, true, true, true, false, false, false, false, false, false] rfl rfl (any_of HT_.out (by kernel_rfl)) (fun _ _ _ h => h) (Or.inl ⟨by rfl, ?_⟩) ?_ ?_
             rotate_left
             ·intro w'
              go_simp
              with_reducible rfl
             rotate_left
             ·simp only [Act.put, List.setIfInBounds_toArray, List.set_cons_zero, List.set_cons_succ, i64_w, i32_w]
              rfl
             refine take_ (i := 0) (N := some 116) (v := ?_) (a' := ?_) #[true, true, false, true, true, true, false, false, false, true, true, true, false, false, false, false, false, false] rfl rfl (take_ofW HT_.out HW_.out (by kernel_rfl)) (fun _ _ _ h => h) (Or.inl ⟨by rfl, ?_⟩) hHeld ?_ ?_
             rotate_left
             ·rintro w' ⟨s0, s1⟩
              go_simp
              with_reducible rfl
             rotate_left
             ·simp only [Act.put, List.setIfInBounds_toArray, List.set_cons_zero, List.set_cons_succ, i64_w, i32_w]
              rfl
             refine take_ (i := 6) (N := some 122) (v := ?_) (a' := ?_) #[true, true, false, true, true, true, true, false, false, true, true, true, false, false, false, false, false, false] rfl rfl (take_ofW HT_.out HW_.out (by kernel_rfl)) (fun _ _ _ h => h) (Or.inl ⟨by rfl, ?_⟩) hHeld ?_ ?_
             rotate_left
             ·rintro w' ⟨s0, s1⟩
              go_simp
              with_reducible rfl
             rotate_left
             ·simp only [Act.put, List.setIfInBounds_toArray, List.set_cons_zero, List.set_cons_succ, i64_w, i32_w]
              rfl
             refine pure_ (i := 7) (N := some 123) (v := ?_) (a' := ?_) #[true, true, false, true, true, true, true, true, false, true, true, true, false, false, false, false, false, false] rfl rfl (any_of HT_.out (by kernel_rfl)) (fun _ _ _ h => h) (Or.inl ⟨by rfl, ?_⟩) ?_ ?_
             rotate_left
             ·intro w'
              go_simp
              with_reducible rfl
             rotate_left
             ·simp only [Act.put, List.setIfInBounds_toArray, List.set_cons_zero, List.set_cons_succ, i64_w, i32_w]
              rfl
             refine take_ (i := 12) (N := some 128) (v := ?_) (a' := ?_) #[true, true, false, true, true, true, true, true, false, true, true, true, true, false, false, false, false, false] rfl rfl (take_ofW HT_.out HW_.out (by kernel_rfl)) (fun _ _ _ h => h) (Or.inl ⟨by rfl, ?_⟩) hHeld ?_ ?_
             rotate_left
             ·rintro w' ⟨s0, s1⟩
              go_simp
              with_reducible rfl
             rotate_left
             ·simp only [Act.put, List.setIfInBounds_toArray, List.set_cons_zero, List.set_cons_succ, i64_w, i32_w]
              rfl
             refine pure_ (i := 13) (N := some 129) (v := ?_) (a' := ?_) #[true, true, false, true, true, true, true, true, false, true, true, true, true, true, false, false, false, false] rfl rfl (any_of HT_.out (by kernel_rfl)) (fun _ _ _ h => h) (Or.inl ⟨by rfl, ?_⟩) ?_ ?_
             rotate_left
             ·intro w'
              go_simp
              with_reducible rfl
             rotate_left
             ·simp only [Act.put, List.setIfInBounds_toArray, List.set_cons_zero, List.set_cons_succ, i64_w, i32_w]
              rfl
             refine pure_ (i := 14) (N := some 130) (v := ?_) (a' := ?_) #[true, true, false, true, true, true, true, true, false, true, true, true, true, true, true, false, false, false] rfl rfl (any_of HT_.out (by kernel_rfl)) (fun _ _ _ h => h) (Or.inl ⟨by rfl, ?_⟩) ?_ ?_
             rotate_left
             ·intro w'
              go_simp
              with_reducible rfl
             rotate_left
             ·simp only [Act.put, List.setIfInBounds_toArray, List.set_cons_zero, List.set_cons_succ, i64_w, i32_w]
              rfl
             refine pure_ (i := 15) (N := some 131) (v := ?_) (a' := ?_) #[true, true, false, true, true, true, true, true, false, true, true, true, true, true, true, true, false, false] rfl rfl (any_of HT_.out (by kernel_rfl)) (fun _ _ _ h => h) (Or.inl ⟨by rfl, ?_⟩) ?_ ?_
             rotate_left
             ·intro w'
              go_simp
              with_reducible rfl
             rotate_left
             ·simp only [Act.put, List.setIfInBounds_toArray, List.set_cons_zero, List.set_cons_succ, i64_w, i32_w]
              rfl
             refine one_ (i := 2) (N := some 118) #[true, true, true, true, true, true, true, true, false, true, true, true, true, true, true, true, false, false] rfl rfl (one_of HT_.out (by kernel_rfl)) (by decide) (fun K hK => ?_)
             refine goes_ Try.func116 (by kernel_rfl) rfl #[.agg #[.int .u64 a0_0, .int .u64 a0_1], .bool a1] (by rfl) rfl rfl (by (try simp only [List.map_toArray, List.map_cons, List.map_nil]); first | done | rfl | (simp only [List.length_drop, List.length_take]; rfl)) ?_
             with_reducible refine (spec_l4K_sign.calls a0_0 a0_1 a1 t158 _ A63.out).mono ?_
             rintro e w72 ⟨rfl, hb⟩
             refine ⟨_, rfl, ?_⟩
             replace BK150 := bb_ BK150 hb
             replace HB := eh_ hb
             (try clear hb)
             (try clear hb2)
             (try clear hk)
             (try clear hi)
             refine hK.out _ _ ⟨(blk_cell BK150.out 0).trans rfl, (blk_cell BK150.out 1).trans rfl⟩ (fun hHeld => ?_)
             clear hK K
             refine norm_ (a' := ?_) ?_ ?_
             rotate_left
             ·show Act.put _ (some 118) _ = _
              simp only [Act.put, List.setIfInBounds_toArray, List.set_cons_zero, List.set_cons_succ, i64_w, i32_w]
              rfl
             refine pure_ (i := 8) (N := some 124) (v := ?_) (a' := ?_) #[true, true, true, true, true, true, true, true, true, true, true, true, true, true, true, true, false, false] rfl rfl (any_of HT_.out (by kernel_rfl)) (fun _ _ _ h => h) (Or.inl ⟨by rfl, ?_⟩) ?_ ?_
             rotate_left
             ·intro w'
              go_simp
              with_reducible rfl
             rotate_left
             ·simp only [Act.put, List.setIfInBounds_toArray, List.set_cons_zero, List.set_cons_succ, i64_w, i32_w]
              rfl
             refine pure_ (i := 16) (N := some 132) (v := ?_) (a' := ?_) #[true, true, true, true, true, true, true, true, true, true, true, true, true, true, true, true, true, false] rfl rfl (any_of HT_.out (by kernel_rfl)) (fun _ _ _ h => h) (Or.inl ⟨by rfl, ?_⟩) ?_ ?_
             rotate_left
             ·intro w'
              go_simp
              with_reducible rfl
             rotate_left
             ·simp only [Act.put, List.setIfInBounds_toArray, List.set_cons_zero, List.set_cons_succ, i64_w, i32_w]
              rfl
             refine pure_ (i := 17) (N := some 10) (v := ?_) (a' := ?_) #[true, true, true, true, true, true, true, true, true, true, true, true, true, true, true, true, true, true] rfl rfl (any_of HT_.out (by kernel_rfl)) (fun _ _ _ h => h) (Or.inl ⟨by rfl, ?_⟩) ?_ ?_
             rotate_left
             ·intro w'
              go_simp
              with_reducible rfl
             rotate_left
             ·simp only [Act.put, List.setIfInBounds_toArray, List.set_cons_zero, List.set_cons_succ, i64_w, i32_w]
              rfl
             refine done_ (done_of HT_.out (by kernel_rfl)) ?_
             try go_wp2
             go_ret
             exact ⟨by first | rfl | (simp [errW_none, errW_some] <;> rfl) | (simp only [← hji42, ← hji44, ← hji49, ← hji56, ← hji65, ← hji67]; first | rfl | (simp [errW_none, errW_some] <;> rfl)) | (simp [*, errW_none, errW_some] <;> rfl), es_⟩
           ·rw [if_neg c55] at H
            exact absurd H (by simp)
         ·rw [if_neg c48] at H
          exact absurd H (by simp)
      ·rw [if_neg c43] at H
       exact absurd H (by simp)

end Go.Proofs.Ytdoflfifnkpacaa.FA
