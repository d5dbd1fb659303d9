-- Printed by a program of this session (after the kit's print.sh, with contracts of its own beside): Lean checks it.
import Derived.Test.YtdoflfifnkpacaaC18FAx0
import Derived.Test.YtdoflfifnkpacaaC18FAx1
import Derived.Test.YtdoflfifnkpacaaC18FAx18
namespace Go.Proofs.Ytdoflfifnkpacaa.FA
open Go.RowKit Go.Proofs.YtdoflfifnkpacaaW.PrintWords Go.Proofs.YtdoflfifnkpacaaW.PrintLast Go.Proofs.YtdoflfifnkpacaaW.PrintMore
attribute [local go_sem] max2_int min2_int max_two min_two max_three min_three max_four min_four   -- for this text's walks alone
set_option linter.unusedVariables false
set_option linter.unusedSimpArgs false

def spec_FDiv.f (k : Nat) (a0 : Int) (a1 : Int) (a2 : Int) : Option (Int) := (spec_l4Kind.f a0).bind fun bt376 => (if bt376.2.2 = true then ((spec_l4K_open.f bt376.1 bt376.2.1 a1).bind fun bt380 => ((spec_l4K_open.f bt376.1 bt376.2.1 a2).bind fun bt385 => ((spec_l4K_quotient.f k bt376.1 bt376.2.1 bt380.1 bt380.2.1 bt380.2.2.1 bt380.2.2.2.1 bt380.2.2.2.2 bt385.1 bt385.2.1 bt385.2.2.1 bt385.2.2.2.1 bt385.2.2.2.2).bind fun t390 => (some t390)))) else (some 0))
def spec_FDiv.T4 : Bool × List (List Nat × List Nat) := (true, [([], []), ([], []), ([], []), ([1, 2], [1, 2]), ([], []), ([], []), ([4, 5, 3], [4, 5]), ([0, 3, 6, 6], [0, 3, 6]), ([7, 7, 0, 1, 2, 3, 4, 5, 6, 7], [7])])
def spec_FDiv.B4 : List Nat := [0, 0, 0, 6, 0, 0, 62, 127, 255]
theorem spec_FDiv.tab4 : rtab .any (opsOf Try.f29 4) = spec_FDiv.T4 := by kernel_rfl
theorem spec_FDiv.bits4 : waitsOk spec_FDiv.T4.2 spec_FDiv.B4 = true := by kernel_rfl
set_option maxHeartbeats 8000000 in
set_option maxRecDepth 100000 in
theorem spec_FDiv.calls (k : Nat) (a0 : Int) (a1 : Int) (a2 : Int) (r : Int) (w : World) (h : spec_FDiv.f k a0 a1 a2 = some r) :
  Calls Try.prog 29 #[.int .i64 a0, .int .u32 a1, .int .u32 a2] w fun e w' => e = .returned (.int .u32 r) ∧ Below w.heap.size w w' := by
 have hu109 := Try.underlying109
 have HB := Aside0.mk (Below.refl w.heap.size w)
 have H : ((spec_l4Kind.f a0).bind fun bt376 => (if bt376.2.2 = true then ((spec_l4K_open.f bt376.1 bt376.2.1 a1).bind fun bt380 => ((spec_l4K_open.f bt376.1 bt376.2.1 a2).bind fun bt385 => ((spec_l4K_quotient.f k bt376.1 bt376.2.1 bt380.1 bt380.2.1 bt380.2.2.1 bt380.2.2.2.1 bt380.2.2.2.2 bt385.1 bt385.2.1 bt385.2.2.1 bt385.2.2.2.1 bt385.2.2.2.2).bind fun t390 => (some t390)))) else (some 0))) = some r := h
 clear h
 replace H := Option.bind_eq_some_iff.mp H
 obtain ⟨⟨t376, t377, t378⟩, A40, H⟩ := H
 try dsimp only at H
 have A4 := Aside0.mk A40
 clear A40
 by_cases c5 : t378 = true
 ·subst c5
  have H1 : ((spec_l4K_open.f t376 t377 a1).bind fun bt380 => ((spec_l4K_open.f t376 t377 a2).bind fun bt385 => ((spec_l4K_quotient.f k t376 t377 bt380.1 bt380.2.1 bt380.2.2.1 bt380.2.2.2.1 bt380.2.2.2.2 bt385.1 bt385.2.1 bt385.2.2.1 bt385.2.2.2.1 bt385.2.2.2.2).bind fun t390 => (some t390)))) = some r := by rw [if_pos rfl] at H; first | done | exact H
  clear H
  have H := H1
  clear H1
  replace H := Option.bind_eq_some_iff.mp H
  obtain ⟨⟨t380, t381, t382, t383, t384⟩, A60, H⟩ := H
  try dsimp only at H
  have A6 := Aside0.mk A60
  clear A60
  replace H := Option.bind_eq_some_iff.mp H
  obtain ⟨⟨t385, t386, t387, t388, t389⟩, A70, H⟩ := H
  try dsimp only at H
  have A7 := Aside0.mk A70
  clear A70
  replace H := Option.bind_eq_some_iff.mp H
  obtain ⟨t390, A80, H⟩ := H
  try dsimp only at H
  have A8 := Aside0.mk A80
  clear A80
  obtain rfl := Option.some.inj H
  go_enter Try.func29, Try.ntmps29
  try go_wp2_with (first | ((with_reducible refine gate_callee (f := 63) rfl ?_); refine gl_ (some 11) rfl rfl Try.func63 (by kernel_rfl) rfl #[.int .i64 a0] rfl ?_; (with_reducible refine (spec_l4Kind.calls a0 t376 t377 true _ A4.out).mono ?_); rintro e w9 ⟨rfl, hb⟩; refine ⟨_, rfl, ?_⟩; replace HB := eh_ hb; (try clear hb)) | ((with_reducible refine gate_dst (N := 7) rfl ?_); refine box_event ?hg (N := 7) ?hd (cs := #[.int .u64 0, .int .u64 0]) (t := 109) ?hr ?_; (case hd => rfl); (case hg => rfl); (case hr => first | (go_simp; done) | (go_simp; rfl)); intro gb379 hg w10 hbox hb; have BK379 := Aside0.mk (hbox); have GW379 := Aside0.mk (gs_ hg (eb_ HB.out) : w.heap.size ≤ gb379); have GE379 := GW379; replace HB := eh_ hb; clear hb hbox hg; obtain ⟨_, _, _, _⟩ := zc2_ BK379.out))
  have n0_ : Aside0 (((w10.setCell ⟨gb379, 0, none⟩ (.int .u64 t376)).setCell ⟨gb379, 1, none⟩ (.int .u64 t377)).heap[gb379]? = some (.cells #[.int .u64 t376, .int .u64 t377] 109 (0, 0))) := ⟨by (with_reducible repeat first | apply bN | apply bD | apply bA); refine blk_put (cs := #[.int .u64 t376, .int .u64 0]) ?_ 1 _ rfl; (with_reducible repeat first | apply bN | apply bD | apply bA); refine blk_put (cs := #[.int .u64 0, .int .u64 0]) ?_ 0 _ rfl; (with_reducible repeat first | apply bN | apply bD | apply bA); exact BK379.out⟩
  have n1_ : Aside0 (Below w.heap.size w ((w10.setCell ⟨gb379, 0, none⟩ (.int .u64 t376)).setCell ⟨gb379, 1, none⟩ (.int .u64 t377))) := ⟨es_⟩
  (try clear BK379)
  (try clear HB)
  generalize ((w10.setCell ⟨gb379, 0, none⟩ (.int .u64 t376)).setCell ⟨gb379, 1, none⟩ (.int .u64 t377)) = w12 at n0_ n1_ ⊢
  have BK379 := n0_
  have HB := n1_
  clear n0_ n1_
  replace BK379 := Aside0.mk (blk_drew BK379.out)
  replace HB := Aside0.mk (below_drew1 HB.out)
  refine start_ (n := 9) (S := fun w' => w'.cell? ⟨gb379, 0, none⟩ = some (.int .u64 t376) ∧ w'.cell? ⟨gb379, 1, none⟩ = some (.int .u64 t377)) (ds := []) #[false, false, false, false, false, false, false, false, false] (by kernel_rfl) rfl rfl ⟨(blk_cell BK379.out 0).trans rfl, (blk_cell BK379.out 1).trans rfl⟩ (fun hHeld => ?_); refine with_tabW spec_FDiv.tab4 spec_FDiv.bits4 (fun HT_ HW_ => ?_)
  generalize w12.drew = w13 at BK379 HB hHeld ⊢
  refine pure_ (i := 2) (N := some 18) (v := ?_) (a' := ?_) #[false, false, true, false, false, false, false, false, false] rfl rfl (any_of HT_.out (by kernel_rfl)) (fun _ _ _ h => h) (Or.inl ⟨by rfl, ?_⟩) ?_ ?_
  rotate_left
  ·intro w'
   go_simp
   with_reducible rfl
  rotate_left
  ·simp only [Act.put, List.setIfInBounds_toArray, List.set_cons_zero, List.set_cons_succ, i64_w, i32_w]
   rfl
  refine pure_ (i := 5) (N := some 21) (v := ?_) (a' := ?_) #[false, false, true, false, false, true, false, false, false] rfl rfl (any_of HT_.out (by kernel_rfl)) (fun _ _ _ h => h) (Or.inl ⟨by rfl, ?_⟩) ?_ ?_
  rotate_left
  ·intro w'
   go_simp
   with_reducible rfl
  rotate_left
  ·simp only [Act.put, List.setIfInBounds_toArray, List.set_cons_zero, List.set_cons_succ, i64_w, i32_w]
   rfl
  refine take_ (i := 0) (N := some 16) (v := ?_) (a' := ?_) #[true, false, true, false, false, true, false, false, false] rfl rfl (take_ofW HT_.out HW_.out (by kernel_rfl)) (fun _ _ _ h => h) (Or.inl ⟨by rfl, ?_⟩) hHeld ?_ ?_
  rotate_left
  ·rintro w' ⟨s0, s1⟩
   go_simp
   with_reducible rfl
  rotate_left
  ·simp only [Act.put, List.setIfInBounds_toArray, List.set_cons_zero, List.set_cons_succ, i64_w, i32_w]
   rfl
  refine take_ (i := 1) (N := some 17) (v := ?_) (a' := ?_) #[true, true, true, false, false, true, false, false, false] rfl rfl (take_ofW HT_.out HW_.out (by kernel_rfl)) (fun _ _ _ h => h) (Or.inl ⟨by rfl, ?_⟩) hHeld ?_ ?_
  rotate_left
  ·rintro w' ⟨s0, s1⟩
   go_simp
   with_reducible rfl
  rotate_left
  ·simp only [Act.put, List.setIfInBounds_toArray, List.set_cons_zero, List.set_cons_succ, i64_w, i32_w]
   rfl
  refine take_ (i := 4) (N := some 20) (v := ?_) (a' := ?_) #[true, true, true, false, true, true, false, false, false] rfl rfl (take_ofW HT_.out HW_.out (by kernel_rfl)) (fun _ _ _ h => h) (Or.inl ⟨by rfl, ?_⟩) hHeld ?_ ?_
  rotate_left
  ·rintro w' ⟨s0, s1⟩
   go_simp
   with_reducible rfl
  rotate_left
  ·simp only [Act.put, List.setIfInBounds_toArray, List.set_cons_zero, List.set_cons_succ, i64_w, i32_w]
   rfl
  refine one_ (i := 3) (N := some 19) #[true, true, true, true, true, true, false, false, false] rfl rfl (one_of HT_.out (by kernel_rfl)) (by decide) (fun K hK => ?_)
  refine goes_ Try.func65 (by kernel_rfl) rfl #[.agg #[.int .u64 t376, .int .u64 t377], .int .u32 a1] (by rfl) rfl rfl (by (try simp only [List.map_toArray, List.map_cons, List.map_nil]); first | done | rfl | (simp only [List.length_drop, List.length_take]; rfl)) ?_
  with_reducible refine (spec_l4K_open.calls t376 t377 a1 t380 t381 t382 t383 t384 _ A6.out).mono ?_
  rintro e w14 ⟨rfl, hb⟩
  refine ⟨_, rfl, ?_⟩
  replace BK379 := bb_ BK379 hb
  replace HB := eh_ hb
  (try clear hb)
  (try clear hb2)
  (try clear hk)
  (try clear hi)
  refine hK.out _ _ ⟨(blk_cell BK379.out 0).trans rfl, (blk_cell BK379.out 1).trans rfl⟩ (fun hHeld => ?_)
  clear hK K
  refine norm_ (a' := ?_) ?_ ?_
  rotate_left
  ·show Act.put _ (some 19) _ = _
   simp only [Act.put, List.setIfInBounds_toArray, List.set_cons_zero, List.set_cons_succ, i64_w, i32_w]
   rfl
  refine one_ (i := 6) (N := some 22) #[true, true, true, true, true, true, true, false, false] rfl rfl (one_of HT_.out (by kernel_rfl)) (by decide) (fun K hK => ?_)
  refine goes_ Try.func65 (by kernel_rfl) rfl #[.agg #[.int .u64 t376, .int .u64 t377], .int .u32 a2] (by rfl) rfl rfl (by (try simp only [List.map_toArray, List.map_cons, List.map_nil]); first | done | rfl | (simp only [List.length_drop, List.length_take]; rfl)) ?_
  with_reducible refine (spec_l4K_open.calls t376 t377 a2 t385 t386 t387 t388 t389 _ A7.out).mono ?_
  rintro e w15 ⟨rfl, hb⟩
  refine ⟨_, rfl, ?_⟩
  replace BK379 := bb_ BK379 hb
  replace HB := eh_ hb
  (try clear hb)
  (try clear hb2)
  (try clear hk)
  (try clear hi)
  refine hK.out _ _ ⟨(blk_cell BK379.out 0).trans rfl, (blk_cell BK379.out 1).trans rfl⟩ (fun hHeld => ?_)
  clear hK K
  refine norm_ (a' := ?_) ?_ ?_
  rotate_left
  ·show Act.put _ (some 22) _ = _
   simp only [Act.put, List.setIfInBounds_toArray, List.set_cons_zero, List.set_cons_succ, i64_w, i32_w]
   rfl
  refine one_ (i := 7) (N := some 23) #[true, true, true, true, true, true, true, true, false] rfl rfl (one_of HT_.out (by kernel_rfl)) (by decide) (fun K hK => ?_)
  refine goes_ Try.func92 (by kernel_rfl) rfl #[.agg #[.int .u64 t376, .int .u64 t377], .agg #[.bool t380, .bool t381, .bool t382, .int .u64 t383, .int .i64 t384], .agg #[.bool t385, .bool t386, .bool t387, .int .u64 t388, .int .i64 t389]] (by rfl) rfl rfl (by (try simp only [List.map_toArray, List.map_cons, List.map_nil]); first | done | rfl | (simp only [List.length_drop, List.length_take]; rfl)) ?_
  with_reducible refine (spec_l4K_quotient.calls k t376 t377 t380 t381 t382 t383 t384 t385 t386 t387 t388 t389 t390 _ A8.out).mono ?_
  rintro e w16 ⟨rfl, hb⟩
  refine ⟨_, rfl, ?_⟩
  replace BK379 := bb_ BK379 hb
  replace HB := eh_ hb
  (try clear hb)
  (try clear hb2)
  (try clear hk)
  (try clear hi)
  refine hK.out _ _ ⟨(blk_cell BK379.out 0).trans rfl, (blk_cell BK379.out 1).trans rfl⟩ (fun hHeld => ?_)
  clear hK K
  refine norm_ (a' := ?_) ?_ ?_
  rotate_left
  ·show Act.put _ (some 23) _ = _
   simp only [Act.put, List.setIfInBounds_toArray, List.set_cons_zero, List.set_cons_succ, i64_w, i32_w]
   rfl
  refine pure_ (i := 8) (N := some 6) (v := ?_) (a' := ?_) #[true, true, true, true, true, true, true, true, true] rfl rfl (any_of HT_.out (by kernel_rfl)) (fun _ _ _ h => h) (Or.inl ⟨by rfl, ?_⟩) ?_ ?_
  rotate_left
  ·intro w'
   go_simp
   with_reducible rfl
  rotate_left
  ·simp only [Act.put, List.setIfInBounds_toArray, List.set_cons_zero, List.set_cons_succ, i64_w, i32_w]
   rfl
  refine done_ (done_of HT_.out (by kernel_rfl)) ?_
  try go_wp2
  go_ret
  exact ⟨by first | rfl | (simp [errW_none, errW_some] <;> rfl) | (simp [*, errW_none, errW_some] <;> rfl), es_⟩
 ·replace c5 := Bool.eq_false_iff.mpr c5
  subst c5
  have H1 : (some 0) = some r := by rw [if_neg (show ¬ (false = true) by decide)] at H; first | done | exact H
  clear H
  have H := H1
  clear H1
  obtain rfl := Option.some.inj H
  go_enter Try.func29, Try.ntmps29
  go_wp2_with (first | ((with_reducible refine gate_callee (f := 63) rfl ?_); refine gl_ (some 11) rfl rfl Try.func63 (by kernel_rfl) rfl #[.int .i64 a0] rfl ?_; (with_reducible refine (spec_l4Kind.calls a0 t376 t377 false _ A4.out).mono ?_); rintro e w17 ⟨rfl, hb⟩; refine ⟨_, rfl, ?_⟩; replace HB := eh_ hb; (try clear hb)) | ((with_reducible refine gate_dst (N := 7) rfl ?_); refine box_event ?hg (N := 7) ?hd (cs := #[.int .u64 0, .int .u64 0]) (t := 109) ?hr ?_; (case hd => rfl); (case hg => rfl); (case hr => first | (go_simp; done) | (go_simp; rfl)); intro gb379 hg w18 hbox hb; have BK379 := Aside0.mk (hbox); have GW379 := Aside0.mk (gs_ hg (eb_ HB.out) : w.heap.size ≤ gb379); have GE379 := GW379; replace HB := eh_ hb; clear hb hbox hg; obtain ⟨_, _, _, _⟩ := zc2_ BK379.out))
  go_ret
  exact ⟨by first | rfl | (simp [errW_none, errW_some] <;> rfl) | (simp [*, errW_none, errW_some] <;> rfl), es_⟩

def laws_size.f (a0 : Int) : Option (Int) := if a0 < 0 then (some (wrap64 (-a0))) else (some a0)
set_option maxHeartbeats 8000000 in
set_option maxRecDepth 100000 in
theorem laws_size.calls (a0 : Int) (r : Int) (w : World) (h : laws_size.f a0 = some r) :
  Calls Try.prog 31 #[.int .i64 a0] w fun e w' => e = .returned (.int .i64 r) ∧ Drawn0 w w' := by
 have H : (if a0 < 0 then (some (wrap64 (-a0))) else (some a0)) = some r := h
 clear h
 by_cases c2 : a0 < 0
 ·rw [if_pos c2] at H
  have c2b0 : decide (a0 < 0) = true := decide_eq_true c2
  clear c2
  obtain rfl := Option.some.inj H
  go_enter Try.func31, Try.ntmps31
  go_wp2
  go_ret
  exact ⟨by first | rfl | (simp; done) | (simp [*]; done), by repeat (first | exact Drawn0.refl _ | apply Drawn0.step)⟩
 ·rw [if_neg c2] at H
  have c2b0 : decide (a0 < 0) = false := decide_eq_false c2
  clear c2
  obtain rfl := Option.some.inj H
  go_enter Try.func31, Try.ntmps31
  go_wp2
  go_ret
  exact ⟨by first | rfl | (simp; done) | (simp [*]; done), by repeat (first | exact Drawn0.refl _ | apply Drawn0.step)⟩

mutual
def laws_near.l0 : Nat → Int → Int → Int → Int → List Int → Int → Int → Option (Bool)
 | 0, _, _, _, _, _, _, _ => none
 | k + 1, x0, x1, x2, x7, x42, x43, x44 => if x44 < x43 then (if 0 ≤ x44 then (if x44 < (x42.length : Int) then (if (wrap64 ((wrap64 (Go.bits .and .u32 x0 32767)) + (rd x42 x44))) < 0 then (laws_near.j1 k x0 x1 x2 x7 (Go.bits .xor .u32 (Go.bits .or .u32 1 (Go.bits .and .u32 x0 32768)) 32768) x42 x43 x44) else (laws_near.j1 k x0 x1 x2 x7 (Go.bits .or .u32 ((wrap64 ((wrap64 (Go.bits .and .u32 x0 32767)) + (rd x42 x44))) % 4294967296) (Go.bits .and .u32 x0 32768)) x42 x43 x44)) else (none)) else (none)) else (some true)
def laws_near.j1 : Nat → Int → Int → Int → Int → Int → List Int → Int → Int → Option (Bool)
 | 0, _, _, _, _, _, _, _, _ => none
 | k + 1, x0, x1, x2, x7, x12, x42, x43, x44 => (laws_exact.f x12).bind fun bt398 => (if bt398.2 = true then ((laws_size.f (wrap64 (x1 - (wrap64 (x7 * x2))))).bind fun t400 => ((laws_size.f (wrap64 (x1 - (wrap64 (bt398.1 * x2))))).bind fun t401 => (if t400 > t401 then (some false) else (if t400 = t401 then (if (Go.bits .and .u32 x0 1) = 1 then (some false) else (laws_near.l0 k x0 x1 x2 x7 x42 x43 (wrap64 (x44 + 1)))) else (laws_near.l0 k x0 x1 x2 x7 x42 x43 (wrap64 (x44 + 1))))))) else (laws_near.l0 k x0 x1 x2 x7 x42 x43 (wrap64 (x44 + 1))))
end
def laws_near.f (k : Nat) (a0 : Int) (a1 : Int) (a2 : Int) : Option (Bool) := (laws_exact.f a0).bind fun bt391 => (if bt391.2 = true then ((some (([(-1), 1] : List Int) : List Int)).bind fun y394 => (laws_near.l0 k a0 a1 a2 bt391.1 y394 (y394.length : Int) 0)) else (if (Go.bits .and .u32 a0 32767) = 31744 then ((laws_size.f a1).bind fun t393 => (if t393 ≥ (wrap64 (1099243192320 * a2)) then (some ((decide (a1 < 0)) == ((a0 / 32768) == 1))) else (some false))) else (some false)))
set_option maxHeartbeats 8000000 in
set_option maxRecDepth 100000 in
theorem laws_near.calls (k : Nat) (a0 : Int) (a1 : Int) (a2 : Int) (r : Bool) (w : World) (h : laws_near.f k a0 a1 a2 = some r) :
  Calls Try.prog 30 #[.int .u32 a0, .int .i64 a1, .int .i64 a2] w fun e w' => e = .returned (.bool r) ∧ Below w.heap.size w w' := by
 have HB := Aside0.mk (Below.refl w.heap.size w)
 have H : ((laws_exact.f a0).bind fun bt391 => (if bt391.2 = true then ((some (([(-1), 1] : List Int) : List Int)).bind fun y394 => (laws_near.l0 k a0 a1 a2 bt391.1 y394 (y394.length : Int) 0)) else (if (Go.bits .and .u32 a0 32767) = 31744 then ((laws_size.f a1).bind fun t393 => (if t393 ≥ (wrap64 (1099243192320 * a2)) then (some ((decide (a1 < 0)) == ((a0 / 32768) == 1))) else (some false))) else (some false)))) = some r := h
 clear h
 replace H := Option.bind_eq_some_iff.mp H
 obtain ⟨⟨t391, t392⟩, A40, H⟩ := H
 try dsimp only at H
 have A4 := Aside0.mk A40
 clear A40
 by_cases c5 : t392 = true
 ·subst c5
  have H1 : ((some (([(-1), 1] : List Int) : List Int)).bind fun y394 => (laws_near.l0 k a0 a1 a2 t391 y394 (y394.length : Int) 0)) = some r := by rw [if_pos rfl] at H; first | done | exact H
  clear H
  have H := H1
  clear H1
  obtain ⟨y394, hy394⟩ : ∃ y_ : List Int, y_ = (([(-1), 1] : List Int)) := ⟨_, rfl⟩
  replace H : (laws_near.l0 k a0 a1 a2 t391 y394 (y394.length : Int) 0) = some r := by first | (rw [hy394]; with_reducible exact H) | (have H2_ := (Option.bind_some _ _).symm.trans H; rw [hy394]; with_reducible exact H2_) | (have H2_ := (Option.bind_some _ _).symm.trans H; with_reducible exact H2_) | with_reducible exact H | (rw [hy394]; exact H) | exact H
  have Ny394 := Aside0.mk hy394
  clear hy394
  have H' := Aside0.mk H
  clear H
  go_enter Try.func30, Try.ntmps30
  go_wp2_with (first | ((with_reducible refine gate_callee (f := 14) rfl ?_); refine gl_ (some 19) rfl rfl Try.func14 (by kernel_rfl) rfl #[.int .u32 a0] rfl ?_; (with_reducible refine (laws_exact.calls a0 t391 true _ A4.out).mono ?_); rintro e w6 ⟨rfl, hb⟩; refine ⟨_, rfl, ?_⟩; replace HB := eh_ hb; (try clear hb)) | ((with_reducible refine gate_dst (N := 42) rfl ?_); refine Kd.R_lit (Kd.int .i64) _ 3 ?hg (N := 42) ?hd (xs := ([(-1), 1] : List Int)) (inner := [.int .i64 (-1), .int .i64 1]) (ok := fun _ => True) (okp := fun _ => True) ?hr ?hp (fun _ hk => hk) trivial (Below.refl _ _) (Nat.le_refl _) (by simp) ?_; (case hd => rfl); (case hg => rfl); (case hr => first | (go_simp; done) | (go_simp; rfl)); (case hp => exact (Reps.one (show Kd.M (Kd.int .i64) _ _ _ (-1) [.int .i64 (-1)] from rfl) (Reps.one (show Kd.M (Kd.int .i64) _ _ _ 1 [.int .i64 1] from rfl) (Reps.none _ _)))); intro v395 w7 ho8 hb hg_ hnew_; clear hg_ hnew_; (first | rw [← Ny394.out] at ho8 | (simp only [Int.reduceToNat] at ho8; rw [← Ny394.out] at ho8)); have HO396 := Aside0.mk (Kd.R_lower ho8 (below_size (eb_ HB.out))); replace HB := eh_ hb; clear hb ho8; obtain ⟨Ao9, co9, eo9⟩ := Kd.R_slice HO396.out; subst eo9))
  go_loopg [44] k (fun kq v44 w' => ∃ (x44_1 : Int), v44 = .int .i64 x44_1 ∧ Aside0 (laws_near.l0 kq a0 a1 a2 t391 y394 (y394.length : Int) x44_1 = some r) ∧ Aside0 (kq ≤ k) ∧ Aside0 (Kd.R (Kd.int .i64) 3 w' w.heap.size (fun _ => True) (.slice Ao9 y394.length co9) y394) ∧ Aside0 (Below w.heap.size w w'))
  case atStart => exact ⟨(0), (by first | rfl | (simp; done) | (simp [*]; done)), H', ⟨Nat.le_refl _⟩, ⟨by (with_reducible repeat first | apply Kd.R_alloc | apply Kd.R_drewN | apply Kd.R_drew); exact HO396.out⟩, ⟨es_⟩⟩
  case round =>
   clear H'
   try clear p2
   try clear p6
   obtain ⟨x44_1, rfl, HA, HK1, HO_42, HB⟩ := hrel
   cases gk with
   | zero => exact absurd HA.out (by simp [laws_near.l0])
   | succ k1 =>
    have H := HA.out
    clear HA
    simp only [laws_near.l0] at H
    by_cases c10 : x44_1 < (y394.length : Int)
    ·rw [if_pos c10] at H
     have c10b0 : decide (x44_1 < (y394.length : Int)) = true := decide_eq_true c10
     clear c10
     by_cases c11 : 0 ≤ x44_1
     ·rw [if_pos c11] at H
      have c11b0 : decide (0 ≤ x44_1) = true := decide_eq_true c11
      clear c11
      by_cases c12 : x44_1 < (y394.length : Int)
      ·rw [if_pos c12] at H
       have c12b0 : decide (x44_1 < (y394.length : Int)) = true := decide_eq_true c12
       clear c12
       have HC13 := Aside0.mk H
       clear H
       have p397 : 0 ≤ (x44_1 : Int) := of_decide_eq_true (by first | (with_reducible assumption) | assumption)
       have q397 : x44_1 < (y394.length : Int) := of_decide_eq_true (by first | (with_reducible assumption) | assumption)
       obtain ⟨ad397, e397, hx397_0⟩ := Kd.at_int (Kd.R_reads' HO_42.out).2.2 x44_1 p397 q397
       cases e397
       replace p397 := eq_true p397
       replace q397 := eq_true q397
       go_upto_if 59 with (fail)
       go_cut [12] (fun v12 wc => ∃ (kq : Nat) (x12_12 : Int), v12 = .int .u32 x12_12 ∧ Aside0 (laws_near.j1 kq a0 a1 a2 t391 x12_12 y394 (y394.length : Int) x44_1 = some r) ∧ Aside0 (kq ≤ k1) ∧ Aside0 (Kd.R (Kd.int .i64) 3 wc w.heap.size (fun _ => True) (.slice (some ad397) y394.length co9) y394) ∧ Aside0 (Below w.heap.size w wc))
       case first =>
        have H := HC13.out
        clear HC13
        by_cases c14 : (wrap64 ((wrap64 (Go.bits .and .u32 a0 32767)) + (rd y394 x44_1))) < 0
        ·rw [if_pos c14] at H
         have c14b0 : decide ((wrap64 ((wrap64 (Go.bits .and .u32 a0 32767)) + (rd y394 x44_1))) < 0) = true := decide_eq_true c14
         clear c14
         (first | rw [c14b0] | (simp only [i64_w, i32_w]; rw [c14b0]) | skip)
         have H' := Aside0.mk H
         clear H
         go_wp2
         go_meet
         case rel => exact ⟨_, (Go.bits .xor .u32 (Go.bits .or .u32 1 (Go.bits .and .u32 a0 32768)) 32768), (by first | rfl | (simp; done) | (simp [*]; done)), H', ⟨by have := HK1.out; first | omega | exact Nat.le_refl _⟩, ⟨by (with_reducible repeat first | apply Kd.R_alloc | apply Kd.R_drewN | apply Kd.R_drew); exact HO_42.out⟩, ⟨es_⟩⟩
        ·rw [if_neg c14] at H
         have c14b0 : decide ((wrap64 ((wrap64 (Go.bits .and .u32 a0 32767)) + (rd y394 x44_1))) < 0) = false := decide_eq_false c14
         clear c14
         (first | rw [c14b0] | (simp only [i64_w, i32_w]; rw [c14b0]) | skip)
         have H' := Aside0.mk H
         clear H
         go_wp2
         go_meet
         case rel => exact ⟨_, (Go.bits .or .u32 ((wrap64 ((wrap64 (Go.bits .and .u32 a0 32767)) + (rd y394 x44_1))) % 4294967296) (Go.bits .and .u32 a0 32768)), (by first | rfl | (simp; done) | (simp [*]; done)), H', ⟨by have := HK1.out; first | omega | exact Nat.le_refl _⟩, ⟨by (with_reducible repeat first | apply Kd.R_alloc | apply Kd.R_drewN | apply Kd.R_drew); exact HO_42.out⟩, ⟨es_⟩⟩
       case rest =>
        clear HC13
        try clear p2
        try clear p3
        try clear q3
        try clear hx3
        try clear p6
        try clear hx397_0
        try clear p2
        try clear p397
        try clear p6
        try clear q397
        obtain ⟨kq, x12_12, rfl, HA, HJ12, HO_42, HB⟩ := hcut
        cases kq with
        | zero => exact absurd HA.out (by simp [laws_near.j1])
        | succ kj12 =>
         have H := HA.out
         clear HA
         simp only [laws_near.j1] at H
         replace H := Option.bind_eq_some_iff.mp H
         obtain ⟨⟨t398, t399⟩, A150, H⟩ := H
         try dsimp only at H
         have A15 := Aside0.mk A150
         clear A150
         by_cases c16 : t399 = true
         ·subst c16
          have H1 : ((laws_size.f (wrap64 (a1 - (wrap64 (t391 * a2))))).bind fun t400 => ((laws_size.f (wrap64 (a1 - (wrap64 (t398 * a2))))).bind fun t401 => (if t400 > t401 then (some false) else (if t400 = t401 then (if (Go.bits .and .u32 a0 1) = 1 then (some false) else (laws_near.l0 kj12 a0 a1 a2 t391 y394 (y394.length : Int) (wrap64 (x44_1 + 1)))) else (laws_near.l0 kj12 a0 a1 a2 t391 y394 (y394.length : Int) (wrap64 (x44_1 + 1))))))) = some r := by rw [if_pos rfl] at H; first | done | exact H
          clear H
          have H := H1
          clear H1
          replace H := Option.bind_eq_some_iff.mp H
          obtain ⟨t400, A170, H⟩ := H
          try dsimp only at H
          have A17 := Aside0.mk A170
          clear A170
          replace H := Option.bind_eq_some_iff.mp H
          obtain ⟨t401, A180, H⟩ := H
          try dsimp only at H
          have A18 := Aside0.mk A180
          clear A180
          by_cases c19 : t400 > t401
          ·rw [if_pos c19] at H
           have c19b0 : decide (t401 < t400) = true := decide_eq_true c19
           clear c19
           obtain rfl := Option.some.inj H
           go_wp2_with (first | ((with_reducible refine gate_callee (f := 14) rfl ?_); refine gl_ (some 66) rfl rfl Try.func14 (by kernel_rfl) rfl #[.int .u32 x12_12] rfl ?_; (with_reducible refine (laws_exact.calls x12_12 t398 true _ A15.out).mono ?_); rintro e w20 ⟨rfl, hb⟩; refine ⟨_, rfl, ?_⟩; replace HO_42 := Aside0.mk (Kd.R_below (by (with_reducible repeat first | apply Kd.R_alloc | apply Kd.R_drewN | apply Kd.R_drew); exact HO_42.out) hb); replace HB := eh_ hb; (try clear hb)) | ((with_reducible refine gate_callee (f := 31) rfl ?_); refine gl_ (some 76) rfl rfl Try.func31 (by kernel_rfl) rfl #[.int .i64 (wrap64 (a1 - (wrap64 (t391 * a2))))] rfl ?_; (with_reducible refine (laws_size.calls (wrap64 (a1 - (wrap64 (t391 * a2)))) t400 _ A17.out).mono ?_); rintro e w' ⟨rfl, ⟨nd, rfl⟩⟩; refine ⟨_, rfl, ?_⟩) | ((with_reducible refine gate_callee (f := 31) rfl ?_); refine gl_ (some 82) rfl rfl Try.func31 (by kernel_rfl) rfl #[.int .i64 (wrap64 (a1 - (wrap64 (t398 * a2))))] rfl ?_; (with_reducible refine (laws_size.calls (wrap64 (a1 - (wrap64 (t398 * a2)))) t401 _ A18.out).mono ?_); rintro e w' ⟨rfl, ⟨nd, rfl⟩⟩; refine ⟨_, rfl, ?_⟩))
           go_ret
           exact ⟨by first | rfl | (simp [errW_none, errW_some] <;> rfl) | (simp [*, errW_none, errW_some] <;> rfl), es_⟩
          ·rw [if_neg c19] at H
           have c19b0 : decide (t401 < t400) = false := decide_eq_false c19
           clear c19
           by_cases c21 : t400 = t401
           ·rw [if_pos c21] at H
            have c21b0 : (t400 == t401) = true := beq_iff_eq.mpr c21
            have c21b1 : (t400 != t401) = false := bne_eq_false_iff_eq.mpr c21
            clear c21
            by_cases c22 : (Go.bits .and .u32 a0 1) = 1
            ·rw [if_pos c22] at H
             have c22b0 : ((Go.bits .and .u32 a0 1) == 1) = true := beq_iff_eq.mpr c22
             have c22b1 : ((Go.bits .and .u32 a0 1) != 1) = false := bne_eq_false_iff_eq.mpr c22
             clear c22
             obtain rfl := Option.some.inj H
             go_wp2_with (first | ((with_reducible refine gate_callee (f := 14) rfl ?_); refine gl_ (some 66) rfl rfl Try.func14 (by kernel_rfl) rfl #[.int .u32 x12_12] rfl ?_; (with_reducible refine (laws_exact.calls x12_12 t398 true _ A15.out).mono ?_); rintro e w23 ⟨rfl, hb⟩; refine ⟨_, rfl, ?_⟩; replace HO_42 := Aside0.mk (Kd.R_below (by (with_reducible repeat first | apply Kd.R_alloc | apply Kd.R_drewN | apply Kd.R_drew); exact HO_42.out) hb); replace HB := eh_ hb; (try clear hb)) | ((with_reducible refine gate_callee (f := 31) rfl ?_); refine gl_ (some 76) rfl rfl Try.func31 (by kernel_rfl) rfl #[.int .i64 (wrap64 (a1 - (wrap64 (t391 * a2))))] rfl ?_; (with_reducible refine (laws_size.calls (wrap64 (a1 - (wrap64 (t391 * a2)))) t400 _ A17.out).mono ?_); rintro e w' ⟨rfl, ⟨nd, rfl⟩⟩; refine ⟨_, rfl, ?_⟩) | ((with_reducible refine gate_callee (f := 31) rfl ?_); refine gl_ (some 82) rfl rfl Try.func31 (by kernel_rfl) rfl #[.int .i64 (wrap64 (a1 - (wrap64 (t398 * a2))))] rfl ?_; (with_reducible refine (laws_size.calls (wrap64 (a1 - (wrap64 (t398 * a2)))) t401 _ A18.out).mono ?_); rintro e w' ⟨rfl, ⟨nd, rfl⟩⟩; refine ⟨_, rfl, ?_⟩))
             go_ret
             exact ⟨by first | rfl | (simp [errW_none, errW_some] <;> rfl) | (simp [*, errW_none, errW_some] <;> rfl), es_⟩
            ·rw [if_neg c22] at H
             have c22b0 : ((Go.bits .and .u32 a0 1) == 1) = false := beq_eq_false_iff_ne.mpr c22
             have c22b1 : ((Go.bits .and .u32 a0 1) != 1) = true := bne_iff_ne.mpr c22
             have H' := Aside0.mk H
             clear H
             go_wp2_with (first | ((with_reducible refine gate_callee (f := 14) rfl ?_); refine gl_ (some 66) rfl rfl Try.func14 (by kernel_rfl) rfl #[.int .u32 x12_12] rfl ?_; (with_reducible refine (laws_exact.calls x12_12 t398 true _ A15.out).mono ?_); rintro e w24 ⟨rfl, hb⟩; refine ⟨_, rfl, ?_⟩; replace HO_42 := Aside0.mk (Kd.R_below (by (with_reducible repeat first | apply Kd.R_alloc | apply Kd.R_drewN | apply Kd.R_drew); exact HO_42.out) hb); replace HB := eh_ hb; (try clear hb)) | ((with_reducible refine gate_callee (f := 31) rfl ?_); refine gl_ (some 76) rfl rfl Try.func31 (by kernel_rfl) rfl #[.int .i64 (wrap64 (a1 - (wrap64 (t391 * a2))))] rfl ?_; (with_reducible refine (laws_size.calls (wrap64 (a1 - (wrap64 (t391 * a2)))) t400 _ A17.out).mono ?_); rintro e w' ⟨rfl, ⟨nd, rfl⟩⟩; refine ⟨_, rfl, ?_⟩) | ((with_reducible refine gate_callee (f := 31) rfl ?_); refine gl_ (some 82) rfl rfl Try.func31 (by kernel_rfl) rfl #[.int .i64 (wrap64 (a1 - (wrap64 (t398 * a2))))] rfl ?_; (with_reducible refine (laws_size.calls (wrap64 (a1 - (wrap64 (t398 * a2)))) t401 _ A18.out).mono ?_); rintro e w' ⟨rfl, ⟨nd, rfl⟩⟩; refine ⟨_, rfl, ?_⟩))
             go_roundg kj12
             case measure => have := HK1.out; have := HJ12.out; omega
             case rel => exact ⟨(wrap64 (x44_1 + 1)), (by first | rfl | (simp; done) | (simp [*]; done)), H', ⟨by have := HK1.out; have := HJ12.out; omega⟩, ⟨by (with_reducible repeat first | apply Kd.R_alloc | apply Kd.R_drewN | apply Kd.R_drew); exact HO_42.out⟩, ⟨es_⟩⟩
           ·rw [if_neg c21] at H
            have c21b0 : (t400 == t401) = false := beq_eq_false_iff_ne.mpr c21
            have c21b1 : (t400 != t401) = true := bne_iff_ne.mpr c21
            have H' := Aside0.mk H
            clear H
            go_wp2_with (first | ((with_reducible refine gate_callee (f := 14) rfl ?_); refine gl_ (some 66) rfl rfl Try.func14 (by kernel_rfl) rfl #[.int .u32 x12_12] rfl ?_; (with_reducible refine (laws_exact.calls x12_12 t398 true _ A15.out).mono ?_); rintro e w25 ⟨rfl, hb⟩; refine ⟨_, rfl, ?_⟩; replace HO_42 := Aside0.mk (Kd.R_below (by (with_reducible repeat first | apply Kd.R_alloc | apply Kd.R_drewN | apply Kd.R_drew); exact HO_42.out) hb); replace HB := eh_ hb; (try clear hb)) | ((with_reducible refine gate_callee (f := 31) rfl ?_); refine gl_ (some 76) rfl rfl Try.func31 (by kernel_rfl) rfl #[.int .i64 (wrap64 (a1 - (wrap64 (t391 * a2))))] rfl ?_; (with_reducible refine (laws_size.calls (wrap64 (a1 - (wrap64 (t391 * a2)))) t400 _ A17.out).mono ?_); rintro e w' ⟨rfl, ⟨nd, rfl⟩⟩; refine ⟨_, rfl, ?_⟩) | ((with_reducible refine gate_callee (f := 31) rfl ?_); refine gl_ (some 82) rfl rfl Try.func31 (by kernel_rfl) rfl #[.int .i64 (wrap64 (a1 - (wrap64 (t398 * a2))))] rfl ?_; (with_reducible refine (laws_size.calls (wrap64 (a1 - (wrap64 (t398 * a2)))) t401 _ A18.out).mono ?_); rintro e w' ⟨rfl, ⟨nd, rfl⟩⟩; refine ⟨_, rfl, ?_⟩))
            go_roundg kj12
            case measure => have := HK1.out; have := HJ12.out; omega
            case rel => exact ⟨(wrap64 (x44_1 + 1)), (by first | rfl | (simp; done) | (simp [*]; done)), H', ⟨by have := HK1.out; have := HJ12.out; omega⟩, ⟨by (with_reducible repeat first | apply Kd.R_alloc | apply Kd.R_drewN | apply Kd.R_drew); exact HO_42.out⟩, ⟨es_⟩⟩
         ·replace c16 := Bool.eq_false_iff.mpr c16
          subst c16
          have H1 : (laws_near.l0 kj12 a0 a1 a2 t391 y394 (y394.length : Int) (wrap64 (x44_1 + 1))) = some r := by rw [if_neg (show ¬ (false = true) by decide)] at H; first | done | exact H
          clear H
          have H := H1
          clear H1
          have H' := Aside0.mk H
          clear H
          go_wp2_with (first | ((with_reducible refine gate_callee (f := 14) rfl ?_); refine gl_ (some 66) rfl rfl Try.func14 (by kernel_rfl) rfl #[.int .u32 x12_12] rfl ?_; (with_reducible refine (laws_exact.calls x12_12 t398 false _ A15.out).mono ?_); rintro e w26 ⟨rfl, hb⟩; refine ⟨_, rfl, ?_⟩; replace HO_42 := Aside0.mk (Kd.R_below (by (with_reducible repeat first | apply Kd.R_alloc | apply Kd.R_drewN | apply Kd.R_drew); exact HO_42.out) hb); replace HB := eh_ hb; (try clear hb)))
          go_roundg kj12
          case measure => have := HK1.out; have := HJ12.out; omega
          case rel => exact ⟨(wrap64 (x44_1 + 1)), (by first | rfl | (simp; done) | (simp [*]; done)), H', ⟨by have := HK1.out; have := HJ12.out; omega⟩, ⟨by (with_reducible repeat first | apply Kd.R_alloc | apply Kd.R_drewN | apply Kd.R_drew); exact HO_42.out⟩, ⟨es_⟩⟩
      ·rw [if_neg c12] at H
       exact absurd H (by simp)
     ·rw [if_neg c11] at H
      exact absurd H (by simp)
    ·rw [if_neg c10] at H
     have c10b0 : decide (x44_1 < (y394.length : Int)) = false := decide_eq_false c10
     clear c10
     obtain rfl := Option.some.inj H
     go_wp2
     go_ret
     exact ⟨by first | rfl | (simp [errW_none, errW_some] <;> rfl) | (simp [*, errW_none, errW_some] <;> rfl), es_⟩
 ·replace c5 := Bool.eq_false_iff.mpr c5
  subst c5
  have H1 : (if (Go.bits .and .u32 a0 32767) = 31744 then ((laws_size.f a1).bind fun t393 => (if t393 ≥ (wrap64 (1099243192320 * a2)) then (some ((decide (a1 < 0)) == ((a0 / 32768) == 1))) else (some false))) else (some false)) = some r := by rw [if_neg (show ¬ (false = true) by decide)] at H; first | done | exact H
  clear H
  have H := H1
  clear H1
  by_cases c27 : (Go.bits .and .u32 a0 32767) = 31744
  ·rw [if_pos c27] at H
   have c27b0 : ((Go.bits .and .u32 a0 32767) == 31744) = true := beq_iff_eq.mpr c27
   have c27b1 : ((Go.bits .and .u32 a0 32767) != 31744) = false := bne_eq_false_iff_eq.mpr c27
   clear c27
   replace H := Option.bind_eq_some_iff.mp H
   obtain ⟨t393, A280, H⟩ := H
   try dsimp only at H
   have A28 := Aside0.mk A280
   clear A280
   by_cases c29 : t393 ≥ (wrap64 (1099243192320 * a2))
   ·rw [if_pos c29] at H
    have c29b0 : decide ((wrap64 (1099243192320 * a2)) ≤ t393) = true := decide_eq_true c29
    clear c29
    obtain rfl := Option.some.inj H
    go_enter Try.func30, Try.ntmps30
    go_wp2_with (first | ((with_reducible refine gate_callee (f := 14) rfl ?_); refine gl_ (some 19) rfl rfl Try.func14 (by kernel_rfl) rfl #[.int .u32 a0] rfl ?_; (with_reducible refine (laws_exact.calls a0 t391 false _ A4.out).mono ?_); rintro e w30 ⟨rfl, hb⟩; refine ⟨_, rfl, ?_⟩; replace HB := eh_ hb; (try clear hb)) | (go_at_call 31; (with_reducible refine (laws_size.calls a1 t393 _ A28.out).mono ?_); rintro e w' ⟨rfl, ⟨nd, rfl⟩⟩))
    go_ret
    exact ⟨by first | rfl | (simp [errW_none, errW_some] <;> rfl) | (simp [*, errW_none, errW_some] <;> rfl), es_⟩
   ·rw [if_neg c29] at H
    have c29b0 : decide ((wrap64 (1099243192320 * a2)) ≤ t393) = false := decide_eq_false c29
    clear c29
    obtain rfl := Option.some.inj H
    go_enter Try.func30, Try.ntmps30
    go_wp2_with (first | ((with_reducible refine gate_callee (f := 14) rfl ?_); refine gl_ (some 19) rfl rfl Try.func14 (by kernel_rfl) rfl #[.int .u32 a0] rfl ?_; (with_reducible refine (laws_exact.calls a0 t391 false _ A4.out).mono ?_); rintro e w31 ⟨rfl, hb⟩; refine ⟨_, rfl, ?_⟩; replace HB := eh_ hb; (try clear hb)) | (go_at_call 31; (with_reducible refine (laws_size.calls a1 t393 _ A28.out).mono ?_); rintro e w' ⟨rfl, ⟨nd, rfl⟩⟩))
    go_ret
    exact ⟨by first | rfl | (simp [errW_none, errW_some] <;> rfl) | (simp [*, errW_none, errW_some] <;> rfl), es_⟩
  ·rw [if_neg c27] at H
   have c27b0 : ((Go.bits .and .u32 a0 32767) == 31744) = false := beq_eq_false_iff_ne.mpr c27
   have c27b1 : ((Go.bits .and .u32 a0 32767) != 31744) = true := bne_iff_ne.mpr c27
   obtain rfl := Option.some.inj H
   go_enter Try.func30, Try.ntmps30
   go_wp2_with (first | ((with_reducible refine gate_callee (f := 14) rfl ?_); refine gl_ (some 19) rfl rfl Try.func14 (by kernel_rfl) rfl #[.int .u32 a0] rfl ?_; (with_reducible refine (laws_exact.calls a0 t391 false _ A4.out).mono ?_); rintro e w32 ⟨rfl, hb⟩; refine ⟨_, rfl, ?_⟩; replace HB := eh_ hb; (try clear hb)))
   go_ret
   exact ⟨by first | rfl | (simp [errW_none, errW_some] <;> rfl) | (simp [*, errW_none, errW_some] <;> rfl), es_⟩

end Go.Proofs.Ytdoflfifnkpacaa.FA
