-- Printed by a program of this session (after the kit's print.sh, with contracts of its own beside): Lean checks it.
import Derived.Test.YtdoflfifnkpacaaC18FAx0
import Derived.Test.YtdoflfifnkpacaaC18FAx1
import Derived.Test.YtdoflfifnkpacaaC18FAx14
namespace Go.Proofs.Ytdoflfifnkpacaa.FA
open Go.RowKit Go.Proofs.YtdoflfifnkpacaaW.PrintWords Go.Proofs.YtdoflfifnkpacaaW.PrintLast Go.Proofs.YtdoflfifnkpacaaW.PrintMore
attribute [local go_sem] max2_int min2_int max_two min_two max_three min_three max_four min_four   -- for this text's walks alone
set_option linter.unusedVariables false
set_option linter.unusedSimpArgs false

def spec_FAdd.f (k : Nat) (a0 : Int) (a1 : Int) (a2 : Int) : Option (Int) := (spec_l4Kind.f a0).bind fun bt304 => (if bt304.2.2 = true then ((spec_l4K_open.f bt304.1 bt304.2.1 a1).bind fun bt308 => ((spec_l4K_open.f bt304.1 bt304.2.1 a2).bind fun bt313 => ((spec_l4K_sum.f k bt304.1 bt304.2.1 bt308.1 bt308.2.1 bt308.2.2.1 bt308.2.2.2.1 bt308.2.2.2.2 bt313.1 bt313.2.1 bt313.2.2.1 bt313.2.2.2.1 bt313.2.2.2.2).bind fun t318 => (some t318)))) else (some 0))
def spec_FAdd.T4 : Bool × List (List Nat × List Nat) := (true, [([], []), ([], []), ([], []), ([1, 2], [1, 2]), ([], []), ([], []), ([4, 5, 3], [4, 5]), ([0, 3, 6, 6], [0, 3, 6]), ([7, 7, 0, 1, 2, 3, 4, 5, 6, 7], [7])])
def spec_FAdd.B4 : List Nat := [0, 0, 0, 6, 0, 0, 62, 127, 255]
theorem spec_FAdd.tab4 : rtab .any (opsOf Try.f26 4) = spec_FAdd.T4 := by kernel_rfl
theorem spec_FAdd.bits4 : waitsOk spec_FAdd.T4.2 spec_FAdd.B4 = true := by kernel_rfl
set_option maxHeartbeats 8000000 in
set_option maxRecDepth 100000 in
theorem spec_FAdd.calls (k : Nat) (a0 : Int) (a1 : Int) (a2 : Int) (r : Int) (w : World) (h : spec_FAdd.f k a0 a1 a2 = some r) :
  Calls Try.prog 26 #[.int .i64 a0, .int .u32 a1, .int .u32 a2] w fun e w' => e = .returned (.int .u32 r) ∧ Below w.heap.size w w' := by
 have hu109 := Try.underlying109
 have HB := Aside0.mk (Below.refl w.heap.size w)
 have H : ((spec_l4Kind.f a0).bind fun bt304 => (if bt304.2.2 = true then ((spec_l4K_open.f bt304.1 bt304.2.1 a1).bind fun bt308 => ((spec_l4K_open.f bt304.1 bt304.2.1 a2).bind fun bt313 => ((spec_l4K_sum.f k bt304.1 bt304.2.1 bt308.1 bt308.2.1 bt308.2.2.1 bt308.2.2.2.1 bt308.2.2.2.2 bt313.1 bt313.2.1 bt313.2.2.1 bt313.2.2.2.1 bt313.2.2.2.2).bind fun t318 => (some t318)))) else (some 0))) = some r := h
 clear h
 replace H := Option.bind_eq_some_iff.mp H
 obtain ⟨⟨t304, t305, t306⟩, A40, H⟩ := H
 try dsimp only at H
 have A4 := Aside0.mk A40
 clear A40
 by_cases c5 : t306 = true
 ·subst c5
  have H1 : ((spec_l4K_open.f t304 t305 a1).bind fun bt308 => ((spec_l4K_open.f t304 t305 a2).bind fun bt313 => ((spec_l4K_sum.f k t304 t305 bt308.1 bt308.2.1 bt308.2.2.1 bt308.2.2.2.1 bt308.2.2.2.2 bt313.1 bt313.2.1 bt313.2.2.1 bt313.2.2.2.1 bt313.2.2.2.2).bind fun t318 => (some t318)))) = some r := by rw [if_pos rfl] at H; first | done | exact H
  clear H
  have H := H1
  clear H1
  replace H := Option.bind_eq_some_iff.mp H
  obtain ⟨⟨t308, t309, t310, t311, t312⟩, A60, H⟩ := H
  try dsimp only at H
  have A6 := Aside0.mk A60
  clear A60
  replace H := Option.bind_eq_some_iff.mp H
  obtain ⟨⟨t313, t314, t315, t316, t317⟩, A70, H⟩ := H
  try dsimp only at H
  have A7 := Aside0.mk A70
  clear A70
  replace H := Option.bind_eq_some_iff.mp H
  obtain ⟨t318, A80, H⟩ := H
  try dsimp only at H
  have A8 := Aside0.mk A80
  clear A80
  obtain rfl := Option.some.inj H
  go_enter Try.func26, Try.ntmps26
  try go_wp2_with (first | ((with_reducible refine gate_callee (f := 63) rfl ?_); refine gl_ (some 11) rfl rfl Try.func63 (by kernel_rfl) rfl #[.int .i64 a0] rfl ?_; (with_reducible refine (spec_l4Kind.calls a0 t304 t305 true _ A4.out).mono ?_); rintro e w9 ⟨rfl, hb⟩; refine ⟨_, rfl, ?_⟩; replace HB := eh_ hb; (try clear hb)) | ((with_reducible refine gate_dst (N := 7) rfl ?_); refine box_event ?hg (N := 7) ?hd (cs := #[.int .u64 0, .int .u64 0]) (t := 109) ?hr ?_; (case hd => rfl); (case hg => rfl); (case hr => first | (go_simp; done) | (go_simp; rfl)); intro gb307 hg w10 hbox hb; have BK307 := Aside0.mk (hbox); have GW307 := Aside0.mk (gs_ hg (eb_ HB.out) : w.heap.size ≤ gb307); have GE307 := GW307; replace HB := eh_ hb; clear hb hbox hg; obtain ⟨_, _, _, _⟩ := zc2_ BK307.out))
  have n0_ : Aside0 (((w10.setCell ⟨gb307, 0, none⟩ (.int .u64 t304)).setCell ⟨gb307, 1, none⟩ (.int .u64 t305)).heap[gb307]? = some (.cells #[.int .u64 t304, .int .u64 t305] 109 (0, 0))) := ⟨by (with_reducible repeat first | apply bN | apply bD | apply bA); refine blk_put (cs := #[.int .u64 t304, .int .u64 0]) ?_ 1 _ rfl; (with_reducible repeat first | apply bN | apply bD | apply bA); refine blk_put (cs := #[.int .u64 0, .int .u64 0]) ?_ 0 _ rfl; (with_reducible repeat first | apply bN | apply bD | apply bA); exact BK307.out⟩
  have n1_ : Aside0 (Below w.heap.size w ((w10.setCell ⟨gb307, 0, none⟩ (.int .u64 t304)).setCell ⟨gb307, 1, none⟩ (.int .u64 t305))) := ⟨es_⟩
  (try clear BK307)
  (try clear HB)
  generalize ((w10.setCell ⟨gb307, 0, none⟩ (.int .u64 t304)).setCell ⟨gb307, 1, none⟩ (.int .u64 t305)) = w12 at n0_ n1_ ⊢
  have BK307 := n0_
  have HB := n1_
  clear n0_ n1_
  replace BK307 := Aside0.mk (blk_drew BK307.out)
  replace HB := Aside0.mk (below_drew1 HB.out)
  refine start_ (n := 9) (S := fun w' => w'.cell? ⟨gb307, 0, none⟩ = some (.int .u64 t304) ∧ w'.cell? ⟨gb307, 1, none⟩ = some (.int .u64 t305)) (ds := []) #[false, false, false, false, false, false, false, false, false] (by kernel_rfl) rfl rfl ⟨(blk_cell BK307.out 0).trans rfl, (blk_cell BK307.out 1).trans rfl⟩ (fun hHeld => ?_); refine with_tabW spec_FAdd.tab4 spec_FAdd.bits4 (fun HT_ HW_ => ?_)
  generalize w12.drew = w13 at BK307 HB hHeld ⊢
  refine pure_ (i := 2) (N := some 18) (v := ?_) (a' := ?_) #[false, false, true, false, false, false, false, false, false] rfl rfl (any_of HT_.out (by kernel_rfl)) (fun _ _ _ h => h) (Or.inl ⟨by rfl, ?_⟩) ?_ ?_
  rotate_left
  ·intro w'
   go_simp
   with_reducible rfl
  rotate_left
  ·simp only [Act.put, List.setIfInBounds_toArray, List.set_cons_zero, List.set_cons_succ, i64_w, i32_w]
   rfl
  refine pure_ (i := 5) (N := some 21) (v := ?_) (a' := ?_) #[false, false, true, false, false, true, false, false, false] rfl rfl (any_of HT_.out (by kernel_rfl)) (fun _ _ _ h => h) (Or.inl ⟨by rfl, ?_⟩) ?_ ?_
  rotate_left
  ·intro w'
   go_simp
   with_reducible rfl
  rotate_left
  ·simp only [Act.put, List.setIfInBounds_toArray, List.set_cons_zero, List.set_cons_succ, i64_w, i32_w]
   rfl
  refine take_ (i := 0) (N := some 16) (v := ?_) (a' := ?_) #[true, false, true, false, false, true, false, false, false] rfl rfl (take_ofW HT_.out HW_.out (by kernel_rfl)) (fun _ _ _ h => h) (Or.inl ⟨by rfl, ?_⟩) hHeld ?_ ?_
  rotate_left
  ·rintro w' ⟨s0, s1⟩
   go_simp
   with_reducible rfl
  rotate_left
  ·simp only [Act.put, List.setIfInBounds_toArray, List.set_cons_zero, List.set_cons_succ, i64_w, i32_w]
   rfl
  refine take_ (i := 1) (N := some 17) (v := ?_) (a' := ?_) #[true, true, true, false, false, true, false, false, false] rfl rfl (take_ofW HT_.out HW_.out (by kernel_rfl)) (fun _ _ _ h => h) (Or.inl ⟨by rfl, ?_⟩) hHeld ?_ ?_
  rotate_left
  ·rintro w' ⟨s0, s1⟩
   go_simp
   with_reducible rfl
  rotate_left
  ·simp only [Act.put, List.setIfInBounds_toArray, List.set_cons_zero, List.set_cons_succ, i64_w, i32_w]
   rfl
  refine take_ (i := 4) (N := some 20) (v := ?_) (a' := ?_) #[true, true, true, false, true, true, false, false, false] rfl rfl (take_ofW HT_.out HW_.out (by kernel_rfl)) (fun _ _ _ h => h) (Or.inl ⟨by rfl, ?_⟩) hHeld ?_ ?_
  rotate_left
  ·rintro w' ⟨s0, s1⟩
   go_simp
   with_reducible rfl
  rotate_left
  ·simp only [Act.put, List.setIfInBounds_toArray, List.set_cons_zero, List.set_cons_succ, i64_w, i32_w]
   rfl
  refine one_ (i := 3) (N := some 19) #[true, true, true, true, true, true, false, false, false] rfl rfl (one_of HT_.out (by kernel_rfl)) (by decide) (fun K hK => ?_)
  refine goes_ Try.func65 (by kernel_rfl) rfl #[.agg #[.int .u64 t304, .int .u64 t305], .int .u32 a1] (by rfl) rfl rfl (by (try simp only [List.map_toArray, List.map_cons, List.map_nil]); first | done | rfl | (simp only [List.length_drop, List.length_take]; rfl)) ?_
  with_reducible refine (spec_l4K_open.calls t304 t305 a1 t308 t309 t310 t311 t312 _ A6.out).mono ?_
  rintro e w14 ⟨rfl, hb⟩
  refine ⟨_, rfl, ?_⟩
  replace BK307 := bb_ BK307 hb
  replace HB := eh_ hb
  (try clear hb)
  (try clear hb2)
  (try clear hk)
  (try clear hi)
  refine hK.out _ _ ⟨(blk_cell BK307.out 0).trans rfl, (blk_cell BK307.out 1).trans rfl⟩ (fun hHeld => ?_)
  clear hK K
  refine norm_ (a' := ?_) ?_ ?_
  rotate_left
  ·show Act.put _ (some 19) _ = _
   simp only [Act.put, List.setIfInBounds_toArray, List.set_cons_zero, List.set_cons_succ, i64_w, i32_w]
   rfl
  refine one_ (i := 6) (N := some 22) #[true, true, true, true, true, true, true, false, false] rfl rfl (one_of HT_.out (by kernel_rfl)) (by decide) (fun K hK => ?_)
  refine goes_ Try.func65 (by kernel_rfl) rfl #[.agg #[.int .u64 t304, .int .u64 t305], .int .u32 a2] (by rfl) rfl rfl (by (try simp only [List.map_toArray, List.map_cons, List.map_nil]); first | done | rfl | (simp only [List.length_drop, List.length_take]; rfl)) ?_
  with_reducible refine (spec_l4K_open.calls t304 t305 a2 t313 t314 t315 t316 t317 _ A7.out).mono ?_
  rintro e w15 ⟨rfl, hb⟩
  refine ⟨_, rfl, ?_⟩
  replace BK307 := bb_ BK307 hb
  replace HB := eh_ hb
  (try clear hb)
  (try clear hb2)
  (try clear hk)
  (try clear hi)
  refine hK.out _ _ ⟨(blk_cell BK307.out 0).trans rfl, (blk_cell BK307.out 1).trans rfl⟩ (fun hHeld => ?_)
  clear hK K
  refine norm_ (a' := ?_) ?_ ?_
  rotate_left
  ·show Act.put _ (some 22) _ = _
   simp only [Act.put, List.setIfInBounds_toArray, List.set_cons_zero, List.set_cons_succ, i64_w, i32_w]
   rfl
  refine one_ (i := 7) (N := some 23) #[true, true, true, true, true, true, true, true, false] rfl rfl (one_of HT_.out (by kernel_rfl)) (by decide) (fun K hK => ?_)
  refine goes_ Try.func90 (by kernel_rfl) rfl #[.agg #[.int .u64 t304, .int .u64 t305], .agg #[.bool t308, .bool t309, .bool t310, .int .u64 t311, .int .i64 t312], .agg #[.bool t313, .bool t314, .bool t315, .int .u64 t316, .int .i64 t317]] (by rfl) rfl rfl (by (try simp only [List.map_toArray, List.map_cons, List.map_nil]); first | done | rfl | (simp only [List.length_drop, List.length_take]; rfl)) ?_
  with_reducible refine (spec_l4K_sum.calls k t304 t305 t308 t309 t310 t311 t312 t313 t314 t315 t316 t317 t318 _ A8.out).mono ?_
  rintro e w16 ⟨rfl, hb⟩
  refine ⟨_, rfl, ?_⟩
  replace BK307 := bb_ BK307 hb
  replace HB := eh_ hb
  (try clear hb)
  (try clear hb2)
  (try clear hk)
  (try clear hi)
  refine hK.out _ _ ⟨(blk_cell BK307.out 0).trans rfl, (blk_cell BK307.out 1).trans rfl⟩ (fun hHeld => ?_)
  clear hK K
  refine norm_ (a' := ?_) ?_ ?_
  rotate_left
  ·show Act.put _ (some 23) _ = _
   simp only [Act.put, List.setIfInBounds_toArray, List.set_cons_zero, List.set_cons_succ, i64_w, i32_w]
   rfl
  refine pure_ (i := 8) (N := some 6) (v := ?_) (a' := ?_) #[true, true, true, true, true, true, true, true, true] rfl rfl (any_of HT_.out (by kernel_rfl)) (fun _ _ _ h => h) (Or.inl ⟨by rfl, ?_⟩) ?_ ?_
  rotate_left
  ·intro w'
   go_simp
   with_reducible rfl
  rotate_left
  ·simp only [Act.put, List.setIfInBounds_toArray, List.set_cons_zero, List.set_cons_succ, i64_w, i32_w]
   rfl
  refine done_ (done_of HT_.out (by kernel_rfl)) ?_
  try go_wp2
  go_ret
  exact ⟨by first | rfl | (simp [errW_none, errW_some] <;> rfl) | (simp [*, errW_none, errW_some] <;> rfl), es_⟩
 ·replace c5 := Bool.eq_false_iff.mpr c5
  subst c5
  have H1 : (some 0) = some r := by rw [if_neg (show ¬ (false = true) by decide)] at H; first | done | exact H
  clear H
  have H := H1
  clear H1
  obtain rfl := Option.some.inj H
  go_enter Try.func26, Try.ntmps26
  go_wp2_with (first | ((with_reducible refine gate_callee (f := 63) rfl ?_); refine gl_ (some 11) rfl rfl Try.func63 (by kernel_rfl) rfl #[.int .i64 a0] rfl ?_; (with_reducible refine (spec_l4Kind.calls a0 t304 t305 false _ A4.out).mono ?_); rintro e w17 ⟨rfl, hb⟩; refine ⟨_, rfl, ?_⟩; replace HB := eh_ hb; (try clear hb)) | ((with_reducible refine gate_dst (N := 7) rfl ?_); refine box_event ?hg (N := 7) ?hd (cs := #[.int .u64 0, .int .u64 0]) (t := 109) ?hr ?_; (case hd => rfl); (case hg => rfl); (case hr => first | (go_simp; done) | (go_simp; rfl)); intro gb307 hg w18 hbox hb; have BK307 := Aside0.mk (hbox); have GW307 := Aside0.mk (gs_ hg (eb_ HB.out) : w.heap.size ≤ gb307); have GE307 := GW307; replace HB := eh_ hb; clear hb hbox hg; obtain ⟨_, _, _, _⟩ := zc2_ BK307.out))
  go_ret
  exact ⟨by first | rfl | (simp [errW_none, errW_some] <;> rfl) | (simp [*, errW_none, errW_some] <;> rfl), es_⟩

def spec_FSub.f (k : Nat) (a0 : Int) (a1 : Int) (a2 : Int) : Option (Int) := (spec_l4Kind.f a0).bind fun bt319 => (if bt319.2.2 = true then ((spec_l4K_open.f bt319.1 bt319.2.1 a2).bind fun bt323 => ((spec_l4K_open.f bt319.1 bt319.2.1 a1).bind fun bt329 => ((spec_l4K_sum.f k bt319.1 bt319.2.1 bt329.1 bt329.2.1 bt329.2.2.1 bt329.2.2.2.1 bt329.2.2.2.2 (!bt323.1) bt323.2.1 bt323.2.2.1 bt323.2.2.2.1 bt323.2.2.2.2).bind fun t334 => (some t334)))) else (some 0))
set_option maxHeartbeats 8000000 in
set_option maxRecDepth 100000 in
theorem spec_FSub.calls (k : Nat) (a0 : Int) (a1 : Int) (a2 : Int) (r : Int) (w : World) (h : spec_FSub.f k a0 a1 a2 = some r) :
  Calls Try.prog 27 #[.int .i64 a0, .int .u32 a1, .int .u32 a2] w fun e w' => e = .returned (.int .u32 r) ∧ Below w.heap.size w w' := by
 have hu109 := Try.underlying109
 have hu114 := Try.underlying114
 have HB := Aside0.mk (Below.refl w.heap.size w)
 have H : ((spec_l4Kind.f a0).bind fun bt319 => (if bt319.2.2 = true then ((spec_l4K_open.f bt319.1 bt319.2.1 a2).bind fun bt323 => ((spec_l4K_open.f bt319.1 bt319.2.1 a1).bind fun bt329 => ((spec_l4K_sum.f k bt319.1 bt319.2.1 bt329.1 bt329.2.1 bt329.2.2.1 bt329.2.2.2.1 bt329.2.2.2.2 (!bt323.1) bt323.2.1 bt323.2.2.1 bt323.2.2.2.1 bt323.2.2.2.2).bind fun t334 => (some t334)))) else (some 0))) = some r := h
 clear h
 replace H := Option.bind_eq_some_iff.mp H
 obtain ⟨⟨t319, t320, t321⟩, A40, H⟩ := H
 try dsimp only at H
 have A4 := Aside0.mk A40
 clear A40
 by_cases c5 : t321 = true
 ·subst c5
  have H1 : ((spec_l4K_open.f t319 t320 a2).bind fun bt323 => ((spec_l4K_open.f t319 t320 a1).bind fun bt329 => ((spec_l4K_sum.f k t319 t320 bt329.1 bt329.2.1 bt329.2.2.1 bt329.2.2.2.1 bt329.2.2.2.2 (!bt323.1) bt323.2.1 bt323.2.2.1 bt323.2.2.2.1 bt323.2.2.2.2).bind fun t334 => (some t334)))) = some r := by rw [if_pos rfl] at H; first | done | exact H
  clear H
  have H := H1
  clear H1
  replace H := Option.bind_eq_some_iff.mp H
  obtain ⟨⟨t323, t324, t325, t326, t327⟩, A60, H⟩ := H
  try dsimp only at H
  have A6 := Aside0.mk A60
  clear A60
  replace H := Option.bind_eq_some_iff.mp H
  obtain ⟨⟨t329, t330, t331, t332, t333⟩, A70, H⟩ := H
  try dsimp only at H
  have A7 := Aside0.mk A70
  clear A70
  replace H := Option.bind_eq_some_iff.mp H
  obtain ⟨t334, A80, H⟩ := H
  try dsimp only at H
  have A8 := Aside0.mk A80
  clear A80
  obtain rfl := Option.some.inj H
  go_enter Try.func27, Try.ntmps27
  try go_wp2_with (first | ((with_reducible refine gate_callee (f := 63) rfl ?_); refine gl_ (some 12) rfl rfl Try.func63 (by kernel_rfl) rfl #[.int .i64 a0] rfl ?_; (with_reducible refine (spec_l4Kind.calls a0 t319 t320 true _ A4.out).mono ?_); rintro e w9 ⟨rfl, hb⟩; refine ⟨_, rfl, ?_⟩; replace HB := eh_ hb; (try clear hb)) | ((with_reducible refine gate_dst (N := 7) rfl ?_); refine box_event ?hg (N := 7) ?hd (cs := #[.int .u64 0, .int .u64 0]) (t := 109) ?hr ?_; (case hd => rfl); (case hg => rfl); (case hr => first | (go_simp; done) | (go_simp; rfl)); intro gb322 hg w10 hbox hb; have BK322 := Aside0.mk (hbox); have GW322 := Aside0.mk (gs_ hg (eb_ HB.out) : w.heap.size ≤ gb322); have GE322 := GW322; replace HB := eh_ hb; clear hb hbox hg; obtain ⟨_, _, _, _⟩ := zc2_ BK322.out) | ((with_reducible refine gate_callee (f := 65) rfl ?_); refine gl_ (some 19) rfl rfl Try.func65 (by kernel_rfl) rfl #[.agg #[.int .u64 t319, .int .u64 t320], .int .u32 a2] rfl ?_; (with_reducible refine (spec_l4K_open.calls t319 t320 a2 t323 t324 t325 t326 t327 _ A6.out).mono ?_); rintro e w12 ⟨rfl, hb⟩; refine ⟨_, rfl, ?_⟩; replace BK322 := Aside0.mk (blk_below (g := gb322) (o := .cells #[.int .u64 t319, .int .u64 t320] 109 (0, 0)) (by (with_reducible repeat first | apply bN | apply bD | apply bA); refine blk_put (cs := #[.int .u64 t319, .int .u64 0]) ?_ 1 _ rfl; (with_reducible repeat first | apply bN | apply bD | apply bA); refine blk_put (cs := #[.int .u64 0, .int .u64 0]) ?_ 0 _ rfl; (with_reducible repeat first | apply bN | apply bD | apply bA); exact BK322.out) hb); replace HB := eh_ hb; (try clear hb)) | ((with_reducible refine gate_dst (N := 9) rfl ?_); refine box_event ?hg (N := 9) ?hd (cs := #[.bool false, .bool false, .bool false, .int .u64 0, .int .i64 0]) (t := 114) ?hr ?_; (case hd => rfl); (case hg => rfl); (case hr => first | (go_simp; done) | (go_simp; rfl)); intro gb328 hg w13 hbox hb; have BK328 := Aside0.mk (hbox); have GW328 := Aside0.mk (gs_ hg es_ : w.heap.size ≤ gb328); have GE328 := GW328; have NB322_328 := Aside0.mk ((by rw [hg]; exact Nat.ne_of_lt (blk_lt (g := gb322) (o := .cells #[.int .u64 t319, .int .u64 t320] 109 (0, 0)) (bk_ BK322.out)) : gb322 ≠ gb328)); have NB328_322 := Aside0.mk ((by rw [hg]; exact Nat.ne_of_gt (blk_lt (g := gb322) (o := .cells #[.int .u64 t319, .int .u64 t320] 109 (0, 0)) (bk_ BK322.out)) : gb328 ≠ gb322)); replace BK322 := bb_ BK322 hb; replace HB := eh_ hb; clear hb hbox hg; have hnb14 := NB328_322.out; have hnc14 := NB322_328.out; obtain ⟨_, _, _, _, _, _, _, _, _, _⟩ := zc5_ BK328.out))
  have n0_ : Aside0 (((((((w13.setCell ⟨gb328, 0, none⟩ (.bool t323)).setCell ⟨gb328, 1, none⟩ (.bool t324)).setCell ⟨gb328, 2, none⟩ (.bool t325)).setCell ⟨gb328, 3, none⟩ (.int .u64 t326)).setCell ⟨gb328, 4, none⟩ (.int .i64 t327)).setCell ⟨gb328, 0, none⟩ (.bool (!t323))).heap[gb322]? = some (.cells #[.int .u64 t319, .int .u64 t320] 109 (0, 0))) := ⟨by (with_reducible repeat first | apply bN | apply bD | apply bA); refine blk_far ?_ NB322_328.out _; (with_reducible repeat first | apply bN | apply bD | apply bA); refine blk_far ?_ NB322_328.out _; (with_reducible repeat first | apply bN | apply bD | apply bA); refine blk_far ?_ NB322_328.out _; (with_reducible repeat first | apply bN | apply bD | apply bA); refine blk_far ?_ NB322_328.out _; (with_reducible repeat first | apply bN | apply bD | apply bA); refine blk_far ?_ NB322_328.out _; (with_reducible repeat first | apply bN | apply bD | apply bA); refine blk_far ?_ NB322_328.out _; (with_reducible repeat first | apply bN | apply bD | apply bA); exact BK322.out⟩
  have n1_ : Aside0 (((((((w13.setCell ⟨gb328, 0, none⟩ (.bool t323)).setCell ⟨gb328, 1, none⟩ (.bool t324)).setCell ⟨gb328, 2, none⟩ (.bool t325)).setCell ⟨gb328, 3, none⟩ (.int .u64 t326)).setCell ⟨gb328, 4, none⟩ (.int .i64 t327)).setCell ⟨gb328, 0, none⟩ (.bool (!t323))).heap[gb328]? = some (.cells #[.bool (!t323), .bool t324, .bool t325, .int .u64 t326, .int .i64 t327] 114 (0, 0))) := ⟨by (with_reducible repeat first | apply bN | apply bD | apply bA); refine blk_put (cs := #[.bool t323, .bool t324, .bool t325, .int .u64 t326, .int .i64 t327]) ?_ 0 _ rfl; (with_reducible repeat first | apply bN | apply bD | apply bA); refine blk_put (cs := #[.bool t323, .bool t324, .bool t325, .int .u64 t326, .int .i64 0]) ?_ 4 _ rfl; (with_reducible repeat first | apply bN | apply bD | apply bA); refine blk_put (cs := #[.bool t323, .bool t324, .bool t325, .int .u64 0, .int .i64 0]) ?_ 3 _ rfl; (with_reducible repeat first | apply bN | apply bD | apply bA); refine blk_put (cs := #[.bool t323, .bool t324, .bool false, .int .u64 0, .int .i64 0]) ?_ 2 _ rfl; (with_reducible repeat first | apply bN | apply bD | apply bA); refine blk_put (cs := #[.bool t323, .bool false, .bool false, .int .u64 0, .int .i64 0]) ?_ 1 _ rfl; (with_reducible repeat first | apply bN | apply bD | apply bA); refine blk_put (cs := #[.bool false, .bool false, .bool false, .int .u64 0, .int .i64 0]) ?_ 0 _ rfl; (with_reducible repeat first | apply bN | apply bD | apply bA); exact BK328.out⟩
  have n2_ : Aside0 (Below w.heap.size w ((((((w13.setCell ⟨gb328, 0, none⟩ (.bool t323)).setCell ⟨gb328, 1, none⟩ (.bool t324)).setCell ⟨gb328, 2, none⟩ (.bool t325)).setCell ⟨gb328, 3, none⟩ (.int .u64 t326)).setCell ⟨gb328, 4, none⟩ (.int .i64 t327)).setCell ⟨gb328, 0, none⟩ (.bool (!t323)))) := ⟨es_⟩
  (try clear BK322)
  (try clear BK328)
  (try clear HB)
  generalize ((((((w13.setCell ⟨gb328, 0, none⟩ (.bool t323)).setCell ⟨gb328, 1, none⟩ (.bool t324)).setCell ⟨gb328, 2, none⟩ (.bool t325)).setCell ⟨gb328, 3, none⟩ (.int .u64 t326)).setCell ⟨gb328, 4, none⟩ (.int .i64 t327)).setCell ⟨gb328, 0, none⟩ (.bool (!t323))) = w16 at n0_ n1_ n2_ ⊢
  have BK322 := n0_
  have BK328 := n1_
  have HB := n2_
  clear n0_ n1_ n2_
  replace BK322 := Aside0.mk (blk_drew BK322.out)
  replace BK328 := Aside0.mk (blk_drew BK328.out)
  replace HB := Aside0.mk (below_drew1 HB.out)
  refine start_ (n := 7) (S := fun w' => w'.cell? ⟨gb322, 0, none⟩ = some (.int .u64 t319) ∧ w'.cell? ⟨gb322, 1, none⟩ = some (.int .u64 t320) ∧ w'.cell? ⟨gb328, 0, none⟩ = some (.bool (!t323)) ∧ w'.cell? ⟨gb328, 1, none⟩ = some (.bool t324) ∧ w'.cell? ⟨gb328, 2, none⟩ = some (.bool t325) ∧ w'.cell? ⟨gb328, 3, none⟩ = some (.int .u64 t326) ∧ w'.cell? ⟨gb328, 4, none⟩ = some (.int .i64 t327)) (ds := []) #[false, false, false, false, false, false, false] (by kernel_rfl) rfl rfl ⟨(blk_cell BK322.out 0).trans rfl, (blk_cell BK322.out 1).trans rfl, (blk_cell BK328.out 0).trans rfl, (blk_cell BK328.out 1).trans rfl, (blk_cell BK328.out 2).trans rfl, (blk_cell BK328.out 3).trans rfl, (blk_cell BK328.out 4).trans rfl⟩ (fun hHeld => ?_)
  generalize w16.drew = w17 at BK322 BK328 HB hHeld ⊢
  refine pure_ (i := 2) (N := some 26) (v := ?_) (a' := ?_) #[false, false, true, false, false, false, false] rfl rfl (by kernel_rfl) (fun _ _ _ h => h) (Or.inl ⟨by rfl, ?_⟩) ?_ ?_
  rotate_left
  ·intro w'
   go_simp
   with_reducible rfl
  rotate_left
  ·simp only [Act.put, List.setIfInBounds_toArray, List.set_cons_zero, List.set_cons_succ, i64_w, i32_w]
   rfl
  refine take_ (i := 0) (N := some 24) (v := ?_) (a' := ?_) #[true, false, true, false, false, false, false] rfl rfl (by kernel_rfl) (fun _ _ _ h => h) (Or.inl ⟨by rfl, ?_⟩) hHeld ?_ ?_
  rotate_left
  ·rintro w' ⟨s0, s1, s2, s3, s4, s5, s6⟩
   go_simp
   with_reducible rfl
  rotate_left
  ·simp only [Act.put, List.setIfInBounds_toArray, List.set_cons_zero, List.set_cons_succ, i64_w, i32_w]
   rfl
  refine take_ (i := 1) (N := some 25) (v := ?_) (a' := ?_) #[true, true, true, false, false, false, false] rfl rfl (by kernel_rfl) (fun _ _ _ h => h) (Or.inl ⟨by rfl, ?_⟩) hHeld ?_ ?_
  rotate_left
  ·rintro w' ⟨s0, s1, s2, s3, s4, s5, s6⟩
   go_simp
   with_reducible rfl
  rotate_left
  ·simp only [Act.put, List.setIfInBounds_toArray, List.set_cons_zero, List.set_cons_succ, i64_w, i32_w]
   rfl
  refine take_ (i := 4) (N := some 28) (v := ?_) (a' := ?_) #[true, true, true, false, true, false, false] rfl rfl (by kernel_rfl) (fun _ _ _ h => h) (Or.inl ⟨by rfl, ?_⟩) hHeld ?_ ?_
  rotate_left
  ·rintro w' ⟨s0, s1, s2, s3, s4, s5, s6⟩
   go_simp
   with_reducible rfl
  rotate_left
  ·simp only [Act.put, List.setIfInBounds_toArray, List.set_cons_zero, List.set_cons_succ, i64_w, i32_w]
   rfl
  refine one_ (i := 3) (N := some 27) #[true, true, true, true, true, false, false] rfl rfl (by kernel_rfl) (by decide) (fun K hK => ?_)
  refine goes_ Try.func65 (by kernel_rfl) rfl #[.agg #[.int .u64 t319, .int .u64 t320], .int .u32 a1] (by rfl) rfl rfl (by (try simp only [List.map_toArray, List.map_cons, List.map_nil]); first | done | rfl | (simp only [List.length_drop, List.length_take]; rfl)) ?_
  with_reducible refine (spec_l4K_open.calls t319 t320 a1 t329 t330 t331 t332 t333 _ A7.out).mono ?_
  rintro e w18 ⟨rfl, hb⟩
  refine ⟨_, rfl, ?_⟩
  replace BK322 := bb_ BK322 hb
  replace BK328 := bb_ BK328 hb
  replace HB := eh_ hb
  (try clear hb)
  (try clear hb2)
  (try clear hk)
  (try clear hi)
  refine hK.out _ _ ⟨(blk_cell BK322.out 0).trans rfl, (blk_cell BK322.out 1).trans rfl, (blk_cell BK328.out 0).trans rfl, (blk_cell BK328.out 1).trans rfl, (blk_cell BK328.out 2).trans rfl, (blk_cell BK328.out 3).trans rfl, (blk_cell BK328.out 4).trans rfl⟩ (fun hHeld => ?_)
  clear hK K
  refine norm_ (a' := ?_) ?_ ?_
  rotate_left
  ·show Act.put _ (some 27) _ = _
   simp only [Act.put, List.setIfInBounds_toArray, List.set_cons_zero, List.set_cons_succ, i64_w, i32_w]
   rfl
  refine one_ (i := 5) (N := some 29) #[true, true, true, true, true, true, false] rfl rfl (by kernel_rfl) (by decide) (fun K hK => ?_)
  refine goes_ Try.func90 (by kernel_rfl) rfl #[.agg #[.int .u64 t319, .int .u64 t320], .agg #[.bool t329, .bool t330, .bool t331, .int .u64 t332, .int .i64 t333], .agg #[.bool (!t323), .bool t324, .bool t325, .int .u64 t326, .int .i64 t327]] (by rfl) rfl rfl (by (try simp only [List.map_toArray, List.map_cons, List.map_nil]); first | done | rfl | (simp only [List.length_drop, List.length_take]; rfl)) ?_
  with_reducible refine (spec_l4K_sum.calls k t319 t320 t329 t330 t331 t332 t333 (!t323) t324 t325 t326 t327 t334 _ A8.out).mono ?_
  rintro e w19 ⟨rfl, hb⟩
  refine ⟨_, rfl, ?_⟩
  replace BK322 := bb_ BK322 hb
  replace BK328 := bb_ BK328 hb
  replace HB := eh_ hb
  (try clear hb)
  (try clear hb2)
  (try clear hk)
  (try clear hi)
  refine hK.out _ _ ⟨(blk_cell BK322.out 0).trans rfl, (blk_cell BK322.out 1).trans rfl, (blk_cell BK328.out 0).trans rfl, (blk_cell BK328.out 1).trans rfl, (blk_cell BK328.out 2).trans rfl, (blk_cell BK328.out 3).trans rfl, (blk_cell BK328.out 4).trans rfl⟩ (fun hHeld => ?_)
  clear hK K
  refine norm_ (a' := ?_) ?_ ?_
  rotate_left
  ·show Act.put _ (some 29) _ = _
   simp only [Act.put, List.setIfInBounds_toArray, List.set_cons_zero, List.set_cons_succ, i64_w, i32_w]
   rfl
  refine pure_ (i := 6) (N := some 6) (v := ?_) (a' := ?_) #[true, true, true, true, true, true, true] rfl rfl (by kernel_rfl) (fun _ _ _ h => h) (Or.inl ⟨by rfl, ?_⟩) ?_ ?_
  rotate_left
  ·intro w'
   go_simp
   with_reducible rfl
  rotate_left
  ·simp only [Act.put, List.setIfInBounds_toArray, List.set_cons_zero, List.set_cons_succ, i64_w, i32_w]
   rfl
  refine done_ (by kernel_rfl) ?_
  try go_wp2
  go_ret
  exact ⟨by first | rfl | (simp [errW_none, errW_some] <;> rfl) | (simp [*, errW_none, errW_some] <;> rfl), es_⟩
 ·replace c5 := Bool.eq_false_iff.mpr c5
  subst c5
  have H1 : (some 0) = some r := by rw [if_neg (show ¬ (false = true) by decide)] at H; first | done | exact H
  clear H
  have H := H1
  clear H1
  obtain rfl := Option.some.inj H
  go_enter Try.func27, Try.ntmps27
  go_wp2_with (first | ((with_reducible refine gate_callee (f := 63) rfl ?_); refine gl_ (some 12) rfl rfl Try.func63 (by kernel_rfl) rfl #[.int .i64 a0] rfl ?_; (with_reducible refine (spec_l4Kind.calls a0 t319 t320 false _ A4.out).mono ?_); rintro e w20 ⟨rfl, hb⟩; refine ⟨_, rfl, ?_⟩; replace HB := eh_ hb; (try clear hb)) | ((with_reducible refine gate_dst (N := 7) rfl ?_); refine box_event ?hg (N := 7) ?hd (cs := #[.int .u64 0, .int .u64 0]) (t := 109) ?hr ?_; (case hd => rfl); (case hg => rfl); (case hr => first | (go_simp; done) | (go_simp; rfl)); intro gb322 hg w21 hbox hb; have BK322 := Aside0.mk (hbox); have GW322 := Aside0.mk (gs_ hg (eb_ HB.out) : w.heap.size ≤ gb322); have GE322 := GW322; replace HB := eh_ hb; clear hb hbox hg; obtain ⟨_, _, _, _⟩ := zc2_ BK322.out))
  go_ret
  exact ⟨by first | rfl | (simp [errW_none, errW_some] <;> rfl) | (simp [*, errW_none, errW_some] <;> rfl), es_⟩

end Go.Proofs.Ytdoflfifnkpacaa.FA
