-- Printed by a program of this session (after the kit's print.sh, with contracts of its own beside): Lean checks it.
import Derived.Test.YtdoflfifnkpacaaC18FAx0
import Derived.Test.YtdoflfifnkpacaaC18FAx1
import Derived.Test.YtdoflfifnkpacaaC18FAx16
namespace Go.Proofs.Ytdoflfifnkpacaa.FA
open Go.RowKit Go.Proofs.YtdoflfifnkpacaaW.PrintWords Go.Proofs.YtdoflfifnkpacaaW.PrintLast Go.Proofs.YtdoflfifnkpacaaW.PrintMore
attribute [local go_sem] max2_int min2_int max_two min_two max_three min_three max_four min_four   -- for this text's walks alone
set_option linter.unusedVariables false
set_option linter.unusedSimpArgs false

def spec_FMul.f (k : Nat) (a0 : Int) (a1 : Int) (a2 : Int) : Option (Int) := (spec_l4Kind.f a0).bind fun bt341 => (if bt341.2.2 = true then ((spec_l4K_open.f bt341.1 bt341.2.1 a1).bind fun bt345 => ((spec_l4K_open.f bt341.1 bt341.2.1 a2).bind fun bt350 => ((spec_l4K_product.f k bt341.1 bt341.2.1 bt345.1 bt345.2.1 bt345.2.2.1 bt345.2.2.2.1 bt345.2.2.2.2 bt350.1 bt350.2.1 bt350.2.2.1 bt350.2.2.2.1 bt350.2.2.2.2).bind fun t355 => (some t355)))) else (some 0))
def spec_FMul.T4 : Bool × List (List Nat × List Nat) := (true, [([], []), ([], []), ([], []), ([1, 2], [1, 2]), ([], []), ([], []), ([4, 5, 3], [4, 5]), ([0, 3, 6, 6], [0, 3, 6]), ([7, 7, 0, 1, 2, 3, 4, 5, 6, 7], [7])])
def spec_FMul.B4 : List Nat := [0, 0, 0, 6, 0, 0, 62, 127, 255]
theorem spec_FMul.tab4 : rtab .any (opsOf Try.f28 4) = spec_FMul.T4 := by kernel_rfl
theorem spec_FMul.bits4 : waitsOk spec_FMul.T4.2 spec_FMul.B4 = true := by kernel_rfl
set_option maxHeartbeats 8000000 in
set_option maxRecDepth 100000 in
theorem spec_FMul.calls (k : Nat) (a0 : Int) (a1 : Int) (a2 : Int) (r : Int) (w : World) (h : spec_FMul.f k a0 a1 a2 = some r) :
  Calls Try.prog 28 #[.int .i64 a0, .int .u32 a1, .int .u32 a2] w fun e w' => e = .returned (.int .u32 r) ∧ Below w.heap.size w w' := by
 have hu109 := Try.underlying109
 have HB := Aside0.mk (Below.refl w.heap.size w)
 have H : ((spec_l4Kind.f a0).bind fun bt341 => (if bt341.2.2 = true then ((spec_l4K_open.f bt341.1 bt341.2.1 a1).bind fun bt345 => ((spec_l4K_open.f bt341.1 bt341.2.1 a2).bind fun bt350 => ((spec_l4K_product.f k bt341.1 bt341.2.1 bt345.1 bt345.2.1 bt345.2.2.1 bt345.2.2.2.1 bt345.2.2.2.2 bt350.1 bt350.2.1 bt350.2.2.1 bt350.2.2.2.1 bt350.2.2.2.2).bind fun t355 => (some t355)))) else (some 0))) = some r := h
 clear h
 replace H := Option.bind_eq_some_iff.mp H
 obtain ⟨⟨t341, t342, t343⟩, A40, H⟩ := H
 try dsimp only at H
 have A4 := Aside0.mk A40
 clear A40
 by_cases c5 : t343 = true
 ·subst c5
  have H1 : ((spec_l4K_open.f t341 t342 a1).bind fun bt345 => ((spec_l4K_open.f t341 t342 a2).bind fun bt350 => ((spec_l4K_product.f k t341 t342 bt345.1 bt345.2.1 bt345.2.2.1 bt345.2.2.2.1 bt345.2.2.2.2 bt350.1 bt350.2.1 bt350.2.2.1 bt350.2.2.2.1 bt350.2.2.2.2).bind fun t355 => (some t355)))) = some r := by rw [if_pos rfl] at H; first | done | exact H
  clear H
  have H := H1
  clear H1
  replace H := Option.bind_eq_some_iff.mp H
  obtain ⟨⟨t345, t346, t347, t348, t349⟩, A60, H⟩ := H
  try dsimp only at H
  have A6 := Aside0.mk A60
  clear A60
  replace H := Option.bind_eq_some_iff.mp H
  obtain ⟨⟨t350, t351, t352, t353, t354⟩, A70, H⟩ := H
  try dsimp only at H
  have A7 := Aside0.mk A70
  clear A70
  replace H := Option.bind_eq_some_iff.mp H
  obtain ⟨t355, A80, H⟩ := H
  try dsimp only at H
  have A8 := Aside0.mk A80
  clear A80
  obtain rfl := Option.some.inj H
  go_enter Try.func28, Try.ntmps28
  try go_wp2_with (first | ((with_reducible refine gate_callee (f := 63) rfl ?_); refine gl_ (some 11) rfl rfl Try.func63 (by kernel_rfl) rfl #[.int .i64 a0] rfl ?_; (with_reducible refine (spec_l4Kind.calls a0 t341 t342 true _ A4.out).mono ?_); rintro e w9 ⟨rfl, hb⟩; refine ⟨_, rfl, ?_⟩; replace HB := eh_ hb; (try clear hb)) | ((with_reducible refine gate_dst (N := 7) rfl ?_); refine box_event ?hg (N := 7) ?hd (cs := #[.int .u64 0, .int .u64 0]) (t := 109) ?hr ?_; (case hd => rfl); (case hg => rfl); (case hr => first | (go_simp; done) | (go_simp; rfl)); intro gb344 hg w10 hbox hb; have BK344 := Aside0.mk (hbox); have GW344 := Aside0.mk (gs_ hg (eb_ HB.out) : w.heap.size ≤ gb344); have GE344 := GW344; replace HB := eh_ hb; clear hb hbox hg; obtain ⟨_, _, _, _⟩ := zc2_ BK344.out))
  have n0_ : Aside0 (((w10.setCell ⟨gb344, 0, none⟩ (.int .u64 t341)).setCell ⟨gb344, 1, none⟩ (.int .u64 t342)).heap[gb344]? = some (.cells #[.int .u64 t341, .int .u64 t342] 109 (0, 0))) := ⟨by (with_reducible repeat first | apply bN | apply bD | apply bA); refine blk_put (cs := #[.int .u64 t341, .int .u64 0]) ?_ 1 _ rfl; (with_reducible repeat first | apply bN | apply bD | apply bA); refine blk_put (cs := #[.int .u64 0, .int .u64 0]) ?_ 0 _ rfl; (with_reducible repeat first | apply bN | apply bD | apply bA); exact BK344.out⟩
  have n1_ : Aside0 (Below w.heap.size w ((w10.setCell ⟨gb344, 0, none⟩ (.int .u64 t341)).setCell ⟨gb344, 1, none⟩ (.int .u64 t342))) := ⟨es_⟩
  (try clear BK344)
  (try clear HB)
  generalize ((w10.setCell ⟨gb344, 0, none⟩ (.int .u64 t341)).setCell ⟨gb344, 1, none⟩ (.int .u64 t342)) = w12 at n0_ n1_ ⊢
  have BK344 := n0_
  have HB := n1_
  clear n0_ n1_
  replace BK344 := Aside0.mk (blk_drew BK344.out)
  replace HB := Aside0.mk (below_drew1 HB.out)
  refine start_ (n := 9) (S := fun w' => w'.cell? ⟨gb344, 0, none⟩ = some (.int .u64 t341) ∧ w'.cell? ⟨gb344, 1, none⟩ = some (.int .u64 t342)) (ds := []) #[false, false, false, false, false, false, false, false, false] (by kernel_rfl) rfl rfl ⟨(blk_cell BK344.out 0).trans rfl, (blk_cell BK344.out 1).trans rfl⟩ (fun hHeld => ?_); refine with_tabW spec_FMul.tab4 spec_FMul.bits4 (fun HT_ HW_ => ?_)
  generalize w12.drew = w13 at BK344 HB hHeld ⊢
  refine pure_ (i := 2) (N := some 18) (v := ?_) (a' := ?_) #[false, false, true, false, false, false, false, false, false] rfl rfl (any_of HT_.out (by kernel_rfl)) (fun _ _ _ h => h) (Or.inl ⟨by rfl, ?_⟩) ?_ ?_
  rotate_left
  ·intro w'
   go_simp
   with_reducible rfl
  rotate_left
  ·simp only [Act.put, List.setIfInBounds_toArray, List.set_cons_zero, List.set_cons_succ, i64_w, i32_w]
   rfl
  refine pure_ (i := 5) (N := some 21) (v := ?_) (a' := ?_) #[false, false, true, false, false, true, false, false, false] rfl rfl (any_of HT_.out (by kernel_rfl)) (fun _ _ _ h => h) (Or.inl ⟨by rfl, ?_⟩) ?_ ?_
  rotate_left
  ·intro w'
   go_simp
   with_reducible rfl
  rotate_left
  ·simp only [Act.put, List.setIfInBounds_toArray, List.set_cons_zero, List.set_cons_succ, i64_w, i32_w]
   rfl
  refine take_ (i := 0) (N := some 16) (v := ?_) (a' := ?_) #[true, false, true, false, false, true, false, false, false] rfl rfl (take_ofW HT_.out HW_.out (by kernel_rfl)) (fun _ _ _ h => h) (Or.inl ⟨by rfl, ?_⟩) hHeld ?_ ?_
  rotate_left
  ·rintro w' ⟨s0, s1⟩
   go_simp
   with_reducible rfl
  rotate_left
  ·simp only [Act.put, List.setIfInBounds_toArray, List.set_cons_zero, List.set_cons_succ, i64_w, i32_w]
   rfl
  refine take_ (i := 1) (N := some 17) (v := ?_) (a' := ?_) #[true, true, true, false, false, true, false, false, false] rfl rfl (take_ofW HT_.out HW_.out (by kernel_rfl)) (fun _ _ _ h => h) (Or.inl ⟨by rfl, ?_⟩) hHeld ?_ ?_
  rotate_left
  ·rintro w' ⟨s0, s1⟩
   go_simp
   with_reducible rfl
  rotate_left
  ·simp only [Act.put, List.setIfInBounds_toArray, List.set_cons_zero, List.set_cons_succ, i64_w, i32_w]
   rfl
  refine take_ (i := 4) (N := some 20) (v := ?_) (a' := ?_) #[true, true, true, false, true, true, false, false, false] rfl rfl (take_ofW HT_.out HW_.out (by kernel_rfl)) (fun _ _ _ h => h) (Or.inl ⟨by rfl, ?_⟩) hHeld ?_ ?_
  rotate_left
  ·rintro w' ⟨s0, s1⟩
   go_simp
   with_reducible rfl
  rotate_left
  ·simp only [Act.put, List.setIfInBounds_toArray, List.set_cons_zero, List.set_cons_succ, i64_w, i32_w]
   rfl
  refine one_ (i := 3) (N := some 19) #[true, true, true, true, true, true, false, false, false] rfl rfl (one_of HT_.out (by kernel_rfl)) (by decide) (fun K hK => ?_)
  refine goes_ Try.func65 (by kernel_rfl) rfl #[.agg #[.int .u64 t341, .int .u64 t342], .int .u32 a1] (by rfl) rfl rfl (by (try simp only [List.map_toArray, List.map_cons, List.map_nil]); first | done | rfl | (simp only [List.length_drop, List.length_take]; rfl)) ?_
  with_reducible refine (spec_l4K_open.calls t341 t342 a1 t345 t346 t347 t348 t349 _ A6.out).mono ?_
  rintro e w14 ⟨rfl, hb⟩
  refine ⟨_, rfl, ?_⟩
  replace BK344 := bb_ BK344 hb
  replace HB := eh_ hb
  (try clear hb)
  (try clear hb2)
  (try clear hk)
  (try clear hi)
  refine hK.out _ _ ⟨(blk_cell BK344.out 0).trans rfl, (blk_cell BK344.out 1).trans rfl⟩ (fun hHeld => ?_)
  clear hK K
  refine norm_ (a' := ?_) ?_ ?_
  rotate_left
  ·show Act.put _ (some 19) _ = _
   simp only [Act.put, List.setIfInBounds_toArray, List.set_cons_zero, List.set_cons_succ, i64_w, i32_w]
   rfl
  refine one_ (i := 6) (N := some 22) #[true, true, true, true, true, true, true, false, false] rfl rfl (one_of HT_.out (by kernel_rfl)) (by decide) (fun K hK => ?_)
  refine goes_ Try.func65 (by kernel_rfl) rfl #[.agg #[.int .u64 t341, .int .u64 t342], .int .u32 a2] (by rfl) rfl rfl (by (try simp only [List.map_toArray, List.map_cons, List.map_nil]); first | done | rfl | (simp only [List.length_drop, List.length_take]; rfl)) ?_
  with_reducible refine (spec_l4K_open.calls t341 t342 a2 t350 t351 t352 t353 t354 _ A7.out).mono ?_
  rintro e w15 ⟨rfl, hb⟩
  refine ⟨_, rfl, ?_⟩
  replace BK344 := bb_ BK344 hb
  replace HB := eh_ hb
  (try clear hb)
  (try clear hb2)
  (try clear hk)
  (try clear hi)
  refine hK.out _ _ ⟨(blk_cell BK344.out 0).trans rfl, (blk_cell BK344.out 1).trans rfl⟩ (fun hHeld => ?_)
  clear hK K
  refine norm_ (a' := ?_) ?_ ?_
  rotate_left
  ·show Act.put _ (some 22) _ = _
   simp only [Act.put, List.setIfInBounds_toArray, List.set_cons_zero, List.set_cons_succ, i64_w, i32_w]
   rfl
  refine one_ (i := 7) (N := some 23) #[true, true, true, true, true, true, true, true, false] rfl rfl (one_of HT_.out (by kernel_rfl)) (by decide) (fun K hK => ?_)
  refine goes_ Try.func91 (by kernel_rfl) rfl #[.agg #[.int .u64 t341, .int .u64 t342], .agg #[.bool t345, .bool t346, .bool t347, .int .u64 t348, .int .i64 t349], .agg #[.bool t350, .bool t351, .bool t352, .int .u64 t353, .int .i64 t354]] (by rfl) rfl rfl (by (try simp only [List.map_toArray, List.map_cons, List.map_nil]); first | done | rfl | (simp only [List.length_drop, List.length_take]; rfl)) ?_
  with_reducible refine (spec_l4K_product.calls k t341 t342 t345 t346 t347 t348 t349 t350 t351 t352 t353 t354 t355 _ A8.out).mono ?_
  rintro e w16 ⟨rfl, hb⟩
  refine ⟨_, rfl, ?_⟩
  replace BK344 := bb_ BK344 hb
  replace HB := eh_ hb
  (try clear hb)
  (try clear hb2)
  (try clear hk)
  (try clear hi)
  refine hK.out _ _ ⟨(blk_cell BK344.out 0).trans rfl, (blk_cell BK344.out 1).trans rfl⟩ (fun hHeld => ?_)
  clear hK K
  refine norm_ (a' := ?_) ?_ ?_
  rotate_left
  ·show Act.put _ (some 23) _ = _
   simp only [Act.put, List.setIfInBounds_toArray, List.set_cons_zero, List.set_cons_succ, i64_w, i32_w]
   rfl
  refine pure_ (i := 8) (N := some 6) (v := ?_) (a' := ?_) #[true, true, true, true, true, true, true, true, true] rfl rfl (any_of HT_.out (by kernel_rfl)) (fun _ _ _ h => h) (Or.inl ⟨by rfl, ?_⟩) ?_ ?_
  rotate_left
  ·intro w'
   go_simp
   with_reducible rfl
  rotate_left
  ·simp only [Act.put, List.setIfInBounds_toArray, List.set_cons_zero, List.set_cons_succ, i64_w, i32_w]
   rfl
  refine done_ (done_of HT_.out (by kernel_rfl)) ?_
  try go_wp2
  go_ret
  exact ⟨by first | rfl | (simp [errW_none, errW_some] <;> rfl) | (simp [*, errW_none, errW_some] <;> rfl), es_⟩
 ·replace c5 := Bool.eq_false_iff.mpr c5
  subst c5
  have H1 : (some 0) = some r := by rw [if_neg (show ¬ (false = true) by decide)] at H; first | done | exact H
  clear H
  have H := H1
  clear H1
  obtain rfl := Option.some.inj H
  go_enter Try.func28, Try.ntmps28
  go_wp2_with (first | ((with_reducible refine gate_callee (f := 63) rfl ?_); refine gl_ (some 11) rfl rfl Try.func63 (by kernel_rfl) rfl #[.int .i64 a0] rfl ?_; (with_reducible refine (spec_l4Kind.calls a0 t341 t342 false _ A4.out).mono ?_); rintro e w17 ⟨rfl, hb⟩; refine ⟨_, rfl, ?_⟩; replace HB := eh_ hb; (try clear hb)) | ((with_reducible refine gate_dst (N := 7) rfl ?_); refine box_event ?hg (N := 7) ?hd (cs := #[.int .u64 0, .int .u64 0]) (t := 109) ?hr ?_; (case hd => rfl); (case hg => rfl); (case hr => first | (go_simp; done) | (go_simp; rfl)); intro gb344 hg w18 hbox hb; have BK344 := Aside0.mk (hbox); have GW344 := Aside0.mk (gs_ hg (eb_ HB.out) : w.heap.size ≤ gb344); have GE344 := GW344; replace HB := eh_ hb; clear hb hbox hg; obtain ⟨_, _, _, _⟩ := zc2_ BK344.out))
  go_ret
  exact ⟨by first | rfl | (simp [errW_none, errW_some] <;> rfl) | (simp [*, errW_none, errW_some] <;> rfl), es_⟩

def spec_l4K_full.l0 : Nat → Int → Int → Bool → Bool → Bool → Int → Int → Option (Bool × Bool × Bool × Int × Int)
 | 0, _, _, _, _, _, _, _ => none
 | k + 1, x357000, x357001, x358000, x358001, x358002, x358003, x358004 => if x358003 = 0 then (some (x358000, x358001, x358002, x358003, x358004)) else (if 0 ≤ x357001 then (if x358003 < (shl .u64 1 x357001) then (spec_l4K_full.l0 k x357000 x357001 x358000 x358001 x358002 (IntKind.u64.wrap (x358003 * 2)) (wrap64 (x358004 - 1))) else (some (x358000, x358001, x358002, x358003, x358004))) else (none))
def spec_l4K_full.f (k : Nat) (a0_0 : Int) (a0_1 : Int) (a1_0 : Bool) (a1_1 : Bool) (a1_2 : Bool) (a1_3 : Int) (a1_4 : Int) : Option (Bool × Bool × Bool × Int × Int) := spec_l4K_full.l0 k a0_0 a0_1 a1_0 a1_1 a1_2 a1_3 a1_4
set_option maxHeartbeats 8000000 in
set_option maxRecDepth 100000 in
theorem spec_l4K_full.calls (k : Nat) (a0_0 : Int) (a0_1 : Int) (a1_0 : Bool) (a1_1 : Bool) (a1_2 : Bool) (a1_3 : Int) (a1_4 : Int) (r1 : Bool) (r2 : Bool) (r3 : Bool) (r4 : Int) (r5 : Int) (w : World) (h : spec_l4K_full.f k a0_0 a0_1 a1_0 a1_1 a1_2 a1_3 a1_4 = some (r1, r2, r3, r4, r5)) :
  Calls Try.prog 117 #[.agg #[.int .u64 a0_0, .int .u64 a0_1], .agg #[.bool a1_0, .bool a1_1, .bool a1_2, .int .u64 a1_3, .int .i64 a1_4]] w fun e w' => e = .returned (.agg #[.bool r1, .bool r2, .bool r3, .int .u64 r4, .int .i64 r5]) ∧ Below w.heap.size w w' := by
 have hu109 := Try.underlying109
 have hu114 := Try.underlying114
 have HB := Aside0.mk (Below.refl w.heap.size w)
 have H : (spec_l4K_full.l0 k a0_0 a0_1 a1_0 a1_1 a1_2 a1_3 a1_4) = some (r1, r2, r3, r4, r5) := h
 clear h
 have H' := Aside0.mk H
 clear H
 go_enter Try.func117, Try.ntmps117
 go_wp2_with (first | ((with_reducible refine gate_dst (N := 2) rfl ?_); refine box_event ?hg (N := 2) ?hd (cs := #[.int .u64 a0_0, .int .u64 a0_1]) (t := 109) ?hr ?_; (case hd => rfl); (case hg => rfl); (case hr => first | (go_simp; done) | (go_simp; rfl)); intro gb356 hg w3 hbox hb; have BK356 := Aside0.mk (hbox); have GW356 := Aside0.mk (gs_ hg (eb_ HB.out) : w.heap.size ≤ gb356); have GE356 := GW356; replace HB := eh_ hb; clear hb hbox hg) | ((with_reducible refine gate_dst (N := 3) rfl ?_); refine box_event ?hg (N := 3) ?hd (cs := #[.bool a1_0, .bool a1_1, .bool a1_2, .int .u64 a1_3, .int .i64 a1_4]) (t := 114) ?hr ?_; (case hd => rfl); (case hg => rfl); (case hr => first | (go_simp; done) | (go_simp; rfl)); intro gb357 hg w4 hbox hb; have BK357 := Aside0.mk (hbox); have GW357 := Aside0.mk (gs_ hg es_ : w.heap.size ≤ gb357); have GE357 := GW357; have NB356_357 := Aside0.mk ((by rw [hg]; exact Nat.ne_of_lt (blk_lt (g := gb356) (o := .cells #[.int .u64 a0_0, .int .u64 a0_1] 109 (0, 0)) (bk_ BK356.out)) : gb356 ≠ gb357)); have NB357_356 := Aside0.mk ((by rw [hg]; exact Nat.ne_of_gt (blk_lt (g := gb356) (o := .cells #[.int .u64 a0_0, .int .u64 a0_1] 109 (0, 0)) (bk_ BK356.out)) : gb357 ≠ gb356)); replace BK356 := bb_ BK356 hb; replace HB := eh_ hb; clear hb hbox hg) | ((with_reducible refine gate_dst (N := 4) rfl ?_); refine box_event ?hg (N := 4) ?hd (cs := #[.bool false, .bool false, .bool false, .int .u64 0, .int .i64 0]) (t := 114) ?hr ?_; (case hd => rfl); (case hg => rfl); (case hr => first | (go_simp; done) | (go_simp; rfl)); intro gb358 hg w5 hbox hb; have BK358 := Aside0.mk (hbox); have GW358 := Aside0.mk (gs_ hg es_ : w.heap.size ≤ gb358); have GE358 := GW358; have NB356_358 := Aside0.mk ((by rw [hg]; exact Nat.ne_of_lt (blk_lt (g := gb356) (o := .cells #[.int .u64 a0_0, .int .u64 a0_1] 109 (0, 0)) (bk_ BK356.out)) : gb356 ≠ gb358)); have NB358_356 := Aside0.mk ((by rw [hg]; exact Nat.ne_of_gt (blk_lt (g := gb356) (o := .cells #[.int .u64 a0_0, .int .u64 a0_1] 109 (0, 0)) (bk_ BK356.out)) : gb358 ≠ gb356)); have NB357_358 := Aside0.mk ((by rw [hg]; exact Nat.ne_of_lt (blk_lt (g := gb357) (o := .cells #[.bool a1_0, .bool a1_1, .bool a1_2, .int .u64 a1_3, .int .i64 a1_4] 114 (0, 0)) (bk_ BK357.out)) : gb357 ≠ gb358)); have NB358_357 := Aside0.mk ((by rw [hg]; exact Nat.ne_of_gt (blk_lt (g := gb357) (o := .cells #[.bool a1_0, .bool a1_1, .bool a1_2, .int .u64 a1_3, .int .i64 a1_4] 114 (0, 0)) (bk_ BK357.out)) : gb358 ≠ gb357)); replace BK356 := bb_ BK356 hb; replace BK357 := bb_ BK357 hb; replace HB := eh_ hb; clear hb hbox hg))
 (try simp only [Act.put, List.setIfInBounds_toArray, List.set_cons_zero, List.set_cons_succ])
 go_loopg [] k (fun kq w' => ∃ (x358003_1 : Int) (x358004_1 : Int), Aside0 (spec_l4K_full.l0 kq a0_0 a0_1 a1_0 a1_1 a1_2 x358003_1 x358004_1 = some (r1, r2, r3, r4, r5)) ∧ Aside0 (kq ≤ k) ∧ Aside0 (w'.heap[gb356]? = some (.cells #[.int .u64 a0_0, .int .u64 a0_1] 109 (0, 0))) ∧ Aside0 (w'.heap[gb357]? = some (.cells #[.bool a1_0, .bool a1_1, .bool a1_2, .int .u64 x358003_1, .int .i64 x358004_1] 114 (0, 0))) ∧ Aside0 (w'.heap[gb358]? = some (.cells #[.bool false, .bool false, .bool false, .int .u64 0, .int .i64 0] 114 (0, 0))) ∧ Aside0 (Below w.heap.size w w'))
 case atStart => exact ⟨(a1_3), (a1_4), H', ⟨Nat.le_refl _⟩, ⟨bk_ BK356.out⟩, ⟨bk_ BK357.out⟩, ⟨bk_ BK358.out⟩, ⟨es_⟩⟩
 case round =>
  clear H'
  try clear p2
  obtain ⟨x358003_1, x358004_1, HA, HK1, BK356, BK357, BK358, HB⟩ := hrel
  cases gk with
  | zero => exact absurd HA.out (by simp [spec_l4K_full.l0])
  | succ k1 =>
   have H := HA.out
   clear HA
   simp only [spec_l4K_full.l0] at H
   by_cases c6 : x358003_1 = 0
   ·rw [if_pos c6] at H
    have c6b0 : (x358003_1 == 0) = true := beq_iff_eq.mpr c6
    have c6b1 : (x358003_1 != 0) = false := bne_eq_false_iff_eq.mpr c6
    clear c6
    simp only [Option.some.injEq, Prod.mk.injEq] at H
    obtain ⟨rfl, rfl, rfl, rfl, rfl⟩ := H
    have hnb7 := NB357_356.out
    have hnc7 := NB356_357.out
    have hnb8 := NB357_358.out
    have hnc8 := NB358_357.out
    obtain ⟨_, _, _, _, _, _, _, _, _, _⟩ := zc5_ BK357.out
    have hnb10 := NB358_356.out
    have hnc10 := NB356_358.out
    obtain ⟨_, _, _, _, _, _, _, _, _, _⟩ := zc5_ BK358.out
    go_wp2
    refine bodyPost_ret (results_cell_row rfl _ _ gb358 114 #[.bool a1_0, .bool a1_1, .bool a1_2, .int .u64 x358003_1, .int .i64 x358004_1] (0, 0) _ rfl (by (with_reducible repeat first | apply bN | apply bD | apply bA); refine blk_put (cs := #[.bool a1_0, .bool a1_1, .bool a1_2, .int .u64 x358003_1, .int .i64 0]) ?_ 4 _ rfl; (with_reducible repeat first | apply bN | apply bD | apply bA); refine blk_put (cs := #[.bool a1_0, .bool a1_1, .bool a1_2, .int .u64 0, .int .i64 0]) ?_ 3 _ rfl; (with_reducible repeat first | apply bN | apply bD | apply bA); refine blk_put (cs := #[.bool a1_0, .bool a1_1, .bool false, .int .u64 0, .int .i64 0]) ?_ 2 _ rfl; (with_reducible repeat first | apply bN | apply bD | apply bA); refine blk_put (cs := #[.bool a1_0, .bool false, .bool false, .int .u64 0, .int .i64 0]) ?_ 1 _ rfl; (with_reducible repeat first | apply bN | apply bD | apply bA); refine blk_put (cs := #[.bool false, .bool false, .bool false, .int .u64 0, .int .i64 0]) ?_ 0 _ rfl; (with_reducible repeat first | apply bN | apply bD | apply bA); exact BK358.out) Try.underlying114 rfl (by kernel_rfl)) rfl ?_
    exact ⟨by first | rfl | (simp [errW_none, errW_some] <;> rfl) | (simp [*, errW_none, errW_some] <;> rfl), es_⟩
   ·rw [if_neg c6] at H
    have c6b0 : (x358003_1 == 0) = false := beq_eq_false_iff_ne.mpr c6
    have c6b1 : (x358003_1 != 0) = true := bne_iff_ne.mpr c6
    by_cases c12 : 0 ≤ a0_1
    ·rw [if_pos c12] at H
     have c12b0 := eq_true c12
     have c12b1 : decide (0 ≤ a0_1) = true := decide_eq_true c12
     clear c12
     obtain ⟨ji13, hji13⟩ : ∃ j_ : Int, (shl .u64 1 a0_1) = j_ := ⟨_, rfl⟩
     first | rw [hji13] at H | simp only [hji13] at H
     have hji13_ : (IntKind.u64.wrap (1 * 2 ^ min a0_1.toNat 64)) = ji13 := hji13
     have hji13z : a0_1 ≤ 64 → (IntKind.u64.wrap (1 * 2 ^ a0_1.toNat)) = ji13 := shl_small hji13
     have hji13u : (IntKind.u64.wrap (2 ^ min a0_1.toNat 64)) = ji13 := by have h_ := hji13_; rw [Int.one_mul] at h_; exact h_
     have hji13v : a0_1 ≤ 64 → (IntKind.u64.wrap (2 ^ a0_1.toNat)) = ji13 := fun hle_ => by have h_ := hji13z hle_; rw [Int.one_mul] at h_; exact h_
     by_cases c14 : x358003_1 < (ji13)
     ·rw [if_pos c14] at H
      have c14b0 : decide (x358003_1 < (ji13)) = true := decide_eq_true c14
      clear c14
      have H' := Aside0.mk H
      clear H
      have hnb15 := NB357_356.out
      have hnc15 := NB356_357.out
      have hnb16 := NB357_358.out
      have hnc16 := NB358_357.out
      obtain ⟨_, _, _, _, _, _, _, _, _, _⟩ := zc5_ BK357.out
      have hnb18 := NB356_358.out
      have hnc18 := NB358_356.out
      obtain ⟨_, _, _, _⟩ := zc2_ BK356.out
      go_wp2
      go_roundg k1
      case measure => have := HK1.out; omega
      case rel => exact ⟨(IntKind.u64.wrap (x358003_1 * 2)), (wrap64 (x358004_1 - 1)), H', ⟨by have := HK1.out; omega⟩, ⟨by (with_reducible repeat first | apply bN | apply bD | apply bA); refine blk_far ?_ NB356_357.out _; (with_reducible repeat first | apply bN | apply bD | apply bA); refine blk_far ?_ NB356_357.out _; (with_reducible repeat first | apply bN | apply bD | apply bA); exact BK356.out⟩, ⟨by (with_reducible repeat first | apply bN | apply bD | apply bA); refine blk_put (cs := #[.bool a1_0, .bool a1_1, .bool a1_2, .int .u64 (IntKind.u64.wrap (x358003_1 * 2)), .int .i64 x358004_1]) ?_ 4 _ rfl; (with_reducible repeat first | apply bN | apply bD | apply bA); refine blk_put (cs := #[.bool a1_0, .bool a1_1, .bool a1_2, .int .u64 x358003_1, .int .i64 x358004_1]) ?_ 3 _ rfl; (with_reducible repeat first | apply bN | apply bD | apply bA); exact BK357.out⟩, ⟨by (with_reducible repeat first | apply bN | apply bD | apply bA); refine blk_far ?_ NB358_357.out _; (with_reducible repeat first | apply bN | apply bD | apply bA); refine blk_far ?_ NB358_357.out _; (with_reducible repeat first | apply bN | apply bD | apply bA); exact BK358.out⟩, ⟨es_⟩⟩
     ·rw [if_neg c14] at H
      have c14b0 : decide (x358003_1 < (ji13)) = false := decide_eq_false c14
      clear c14
      simp only [Option.some.injEq, Prod.mk.injEq] at H
      obtain ⟨rfl, rfl, rfl, rfl, rfl⟩ := H
      have hnb20 := NB357_356.out
      have hnc20 := NB356_357.out
      have hnb21 := NB357_358.out
      have hnc21 := NB358_357.out
      obtain ⟨_, _, _, _, _, _, _, _, _, _⟩ := zc5_ BK357.out
      have hnb23 := NB356_358.out
      have hnc23 := NB358_356.out
      obtain ⟨_, _, _, _⟩ := zc2_ BK356.out
      obtain ⟨_, _, _, _, _, _, _, _, _, _⟩ := zc5_ BK358.out
      go_wp2
      refine bodyPost_ret (results_cell_row rfl _ _ gb358 114 #[.bool a1_0, .bool a1_1, .bool a1_2, .int .u64 x358003_1, .int .i64 x358004_1] (0, 0) _ rfl (by (with_reducible repeat first | apply bN | apply bD | apply bA); refine blk_put (cs := #[.bool a1_0, .bool a1_1, .bool a1_2, .int .u64 x358003_1, .int .i64 0]) ?_ 4 _ rfl; (with_reducible repeat first | apply bN | apply bD | apply bA); refine blk_put (cs := #[.bool a1_0, .bool a1_1, .bool a1_2, .int .u64 0, .int .i64 0]) ?_ 3 _ rfl; (with_reducible repeat first | apply bN | apply bD | apply bA); refine blk_put (cs := #[.bool a1_0, .bool a1_1, .bool false, .int .u64 0, .int .i64 0]) ?_ 2 _ rfl; (with_reducible repeat first | apply bN | apply bD | apply bA); refine blk_put (cs := #[.bool a1_0, .bool false, .bool false, .int .u64 0, .int .i64 0]) ?_ 1 _ rfl; (with_reducible repeat first | apply bN | apply bD | apply bA); refine blk_put (cs := #[.bool false, .bool false, .bool false, .int .u64 0, .int .i64 0]) ?_ 0 _ rfl; (with_reducible repeat first | apply bN | apply bD | apply bA); exact BK358.out) Try.underlying114 rfl (by kernel_rfl)) rfl ?_
      exact ⟨by first | rfl | (simp [errW_none, errW_some] <;> rfl) | (simp only [← hji13]; first | rfl | (simp [errW_none, errW_some] <;> rfl)) | (simp [*, errW_none, errW_some] <;> rfl), es_⟩
    ·rw [if_neg c12] at H
     exact absurd H (by simp)

end Go.Proofs.Ytdoflfifnkpacaa.FA
