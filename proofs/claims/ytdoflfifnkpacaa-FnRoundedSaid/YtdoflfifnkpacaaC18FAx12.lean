-- Printed by a program of this session (after the kit's print.sh, with contracts of its own beside): Lean checks it.
import Derived.Test.YtdoflfifnkpacaaC18FAx0
import Derived.Test.YtdoflfifnkpacaaC18FAx4
import Derived.Test.YtdoflfifnkpacaaC18FAx5
import Derived.Test.YtdoflfifnkpacaaC18FAx6
import Derived.Test.YtdoflfifnkpacaaC18FAx7
namespace Go.Proofs.Ytdoflfifnkpacaa.FA
open Go.RowKit Go.Proofs.YtdoflfifnkpacaaW.PrintWords Go.Proofs.YtdoflfifnkpacaaW.PrintLast Go.Proofs.YtdoflfifnkpacaaW.PrintMore
attribute [local go_sem] max2_int min2_int max_two min_two max_three min_three max_four min_four   -- for this text's walks alone
set_option linter.unusedVariables false
set_option linter.unusedSimpArgs false

mutual
def impl_FDiv.j0 : Nat → Bool → Bool → Bool → Int → Int → Bool → Bool → Bool → Int → Int → Bool → Bool → Bool → Int → Int → Option (Int)
 | 0, _, _, _, _, _, _, _, _, _, _, _, _, _, _, _ => none
 | k + 1, x11, x12, x13, x275000, x275001, x286000, x286001, x286002, x286003, x286004, x287000, x287001, x287002, x287003, x287004 => if x286001 = true then (impl_FDiv.j1 k x11 x12 x13 true x275000 x275001 x286000 x286001 x286002 x286003 x286004 x287000 x287001 x287002 x287003 x287004) else (if x287001 = true then (impl_FDiv.j1 k x11 x12 x13 true x275000 x275001 x286000 x286001 x286002 x286003 x286004 x287000 x287001 x287002 x287003 x287004) else (if x286002 = true then (if x287002 = true then (impl_FDiv.j1 k x11 x12 x13 true x275000 x275001 x286000 x286001 x286002 x286003 x286004 x287000 x287001 x287002 x287003 x287004) else (if x12 = true then (impl_FDiv.j1 k x11 x12 x13 x13 x275000 x275001 x286000 x286001 x286002 x286003 x286004 x287000 x287001 x287002 x287003 x287004) else (impl_FDiv.j1 k x11 x12 x13 false x275000 x275001 x286000 x286001 x286002 x286003 x286004 x287000 x287001 x287002 x287003 x287004))) else (if x12 = true then (impl_FDiv.j1 k x11 x12 x13 x13 x275000 x275001 x286000 x286001 x286002 x286003 x286004 x287000 x287001 x287002 x287003 x287004) else (impl_FDiv.j1 k x11 x12 x13 false x275000 x275001 x286000 x286001 x286002 x286003 x286004 x287000 x287001 x287002 x287003 x287004))))
def impl_FDiv.j1 : Nat → Bool → Bool → Bool → Bool → Int → Int → Bool → Bool → Bool → Int → Int → Bool → Bool → Bool → Int → Int → Option (Int)
 | 0, _, _, _, _, _, _, _, _, _, _, _, _, _, _, _, _ => none
 | k + 1, x11, x12, x13, x50, x275000, x275001, x286000, x286001, x286002, x286003, x286004, x287000, x287001, x287002, x287003, x287004 => if x50 = true then ((impl_format_noNumber.f x275000 x275001).bind fun t287 => (some t287)) else (if x286002 = true then (impl_FDiv.j2 k x11 x12 true x275000 x275001 x286000 x286001 x286002 x286003 x286004 x287000 x287001 x287002 x287003 x287004) else (impl_FDiv.j2 k x11 x12 x13 x275000 x275001 x286000 x286001 x286002 x286003 x286004 x287000 x287001 x287002 x287003 x287004))
def impl_FDiv.j2 : Nat → Bool → Bool → Bool → Int → Int → Bool → Bool → Bool → Int → Int → Bool → Bool → Bool → Int → Int → Option (Int)
 | 0, _, _, _, _, _, _, _, _, _, _, _, _, _, _, _ => none
 | k + 1, x11, x12, x73, x275000, x275001, x286000, x286001, x286002, x286003, x286004, x287000, x287001, x287002, x287003, x287004 => if x73 = true then ((impl_format_infinite.f x275000 x275001 x11).bind fun t288 => (some t288)) else (if x287002 = true then (impl_FDiv.j3 k x11 true x275000 x275001 x286000 x286001 x286002 x286003 x286004 x287000 x287001 x287002 x287003 x287004) else (impl_FDiv.j3 k x11 x12 x275000 x275001 x286000 x286001 x286002 x286003 x286004 x287000 x287001 x287002 x287003 x287004))
def impl_FDiv.j3 : Nat → Bool → Bool → Int → Int → Bool → Bool → Bool → Int → Int → Bool → Bool → Bool → Int → Int → Option (Int)
 | 0, _, _, _, _, _, _, _, _, _, _, _, _, _, _ => none
 | k + 1, x11, x82, x275000, x275001, x286000, x286001, x286002, x286003, x286004, x287000, x287001, x287002, x287003, x287004 => if x82 = true then ((impl_format_signed.f x275000 x275001 x11 0).bind fun t289 => (some t289)) else ((bits_Len64.f k x286003).bind fun t290 => (if 0 ≤ (wrap64 (60 - t290)) then (if x287003 = 0 then (none) else ((impl_format_round.f k x275000 x275001 x11 (IntKind.u64.wrap (Int.tdiv (shl .u64 x286003 (wrap64 (60 - t290))) x287003)) (wrap64 ((wrap64 (x286004 - (wrap64 (60 - t290)))) - x287004)) ((Int.tmod (shl .u64 x286003 (wrap64 (60 - t290))) x287003) != 0)).bind fun t291 => (some t291))) else (none)))
end
def impl_FDiv.f (k : Nat) (a0 : Int) (a1 : Int) (a2 : Int) : Option (Int) := (impl_formatOf.f a0).bind fun bt271 => (if bt271.2.2 = true then ((impl_format_open.f bt271.1 bt271.2.1 a1).bind fun bt275 => ((impl_format_open.f bt271.1 bt271.2.1 a2).bind fun bt280 => (if bt275.2.2.1 = true then (if bt280.2.2.1 = true then (impl_FDiv.j0 k (bt275.1 != bt280.1) false false bt271.1 bt271.2.1 bt275.1 bt275.2.1 bt275.2.2.1 bt275.2.2.2.1 bt275.2.2.2.2 bt280.1 bt280.2.1 bt280.2.2.1 bt280.2.2.2.1 bt280.2.2.2.2) else (impl_FDiv.j0 k (bt275.1 != bt280.1) false (bt280.2.2.2.1 == 0) bt271.1 bt271.2.1 bt275.1 bt275.2.1 bt275.2.2.1 bt275.2.2.2.1 bt275.2.2.2.2 bt280.1 bt280.2.1 bt280.2.2.1 bt280.2.2.2.1 bt280.2.2.2.2)) else (if bt280.2.2.1 = true then (impl_FDiv.j0 k (bt275.1 != bt280.1) (bt275.2.2.2.1 == 0) false bt271.1 bt271.2.1 bt275.1 bt275.2.1 bt275.2.2.1 bt275.2.2.2.1 bt275.2.2.2.2 bt280.1 bt280.2.1 bt280.2.2.1 bt280.2.2.2.1 bt280.2.2.2.2) else (impl_FDiv.j0 k (bt275.1 != bt280.1) (bt275.2.2.2.1 == 0) (bt280.2.2.2.1 == 0) bt271.1 bt271.2.1 bt275.1 bt275.2.1 bt275.2.2.1 bt275.2.2.2.1 bt275.2.2.2.2 bt280.1 bt280.2.1 bt280.2.2.1 bt280.2.2.2.1 bt280.2.2.2.2))))) else (some 0))
def impl_FDiv.T4 : Bool × List (List Nat × List Nat) := (true, [([], []), ([], []), ([0, 1], [0, 1]), ([], []), ([], []), ([3, 4, 2], [3, 4]), ([], []), ([], []), ([6, 2, 5, 0, 1, 2, 6, 7], [2, 6]), ([7, 5, 8, 0, 1, 2, 3, 4, 5, 6, 7, 8], [5, 7])])
def impl_FDiv.B4 : List Nat := [0, 0, 3, 0, 0, 31, 0, 0, 255, 511]
theorem impl_FDiv.tab4 : rtab .any (opsOf Try.f25 4) = impl_FDiv.T4 := by kernel_rfl
theorem impl_FDiv.bits4 : waitsOk impl_FDiv.T4.2 impl_FDiv.B4 = true := by kernel_rfl
def impl_FDiv.T6 : Bool × List (List Nat × List Nat) := (true, [([], []), ([0], [0]), ([1], [1]), ([2], [2]), ([3], [3]), ([4, 3], [3, 4]), ([5, 3], [3, 5]), ([3, 6], [3, 6]), ([], []), ([8], [8]), ([9], [9]), ([10, 3], [10]), ([11], [11]), ([12, 11], [11, 12]), ([13, 11], [11, 13]), ([11, 14], [11, 14]), ([7, 11, 0, 1, 2, 3, 4, 5, 6, 7], [7]), ([15, 16, 0, 1, 2, 3, 4, 5, 6, 7, 8, 9, 10, 11, 12, 13, 14, 15, 16], [15])])
def impl_FDiv.B6 : List Nat := [0, 1, 3, 7, 15, 31, 63, 127, 0, 256, 768, 1807, 3855, 7951, 16143, 32527, 4095, 131071]
theorem impl_FDiv.tab6 : rtab .any (opsOf Try.f25 6) = impl_FDiv.T6 := by kernel_rfl
theorem impl_FDiv.bits6 : waitsOk impl_FDiv.T6.2 impl_FDiv.B6 = true := by kernel_rfl
def impl_FDiv.T15 : Bool × List (List Nat × List Nat) := (true, [([], []), ([], []), ([], []), ([], []), ([3], [3]), ([2, 4], [2, 4]), ([], []), ([6], [6]), ([], []), ([7, 8], [7, 8]), ([], []), ([10], [10]), ([9, 11], [9, 11]), ([], []), ([], []), ([14], [14]), ([13, 15], [13, 15]), ([16], [16]), ([0, 1, 5, 12, 17], [0, 1, 5, 12, 17]), ([18, 18, 0, 1, 2, 3, 4, 5, 6, 7, 8, 9, 10, 11, 12, 13, 14, 15, 16, 17, 18], [18])])
def impl_FDiv.B15 : List Nat := [0, 0, 0, 0, 8, 28, 0, 64, 0, 448, 0, 1024, 4032, 0, 0, 16384, 57344, 122880, 262143, 524287]
theorem impl_FDiv.tab15 : rtab .any (opsOf Try.f25 15) = impl_FDiv.T15 := by kernel_rfl
theorem impl_FDiv.bits15 : waitsOk impl_FDiv.T15.2 impl_FDiv.B15 = true := by kernel_rfl
set_option maxHeartbeats 8000000 in
set_option maxRecDepth 100000 in
theorem impl_FDiv.calls (k : Nat) (a0 : Int) (a1 : Int) (a2 : Int) (r : Int) (w : World) (h : impl_FDiv.f k a0 a1 a2 = some r) :
  Calls Try.prog 25 #[.int .i64 a0, .int .u32 a1, .int .u32 a2] w fun e w' => e = .returned (.int .u32 r) ∧ Below w.heap.size w w' := by
 have hu96 := Try.underlying96
 have hu100 := Try.underlying100
 have HB := Aside0.mk (Below.refl w.heap.size w)
 have H : ((impl_formatOf.f a0).bind fun bt271 => (if bt271.2.2 = true then ((impl_format_open.f bt271.1 bt271.2.1 a1).bind fun bt275 => ((impl_format_open.f bt271.1 bt271.2.1 a2).bind fun bt280 => (if bt275.2.2.1 = true then (if bt280.2.2.1 = true then (impl_FDiv.j0 k (bt275.1 != bt280.1) false false bt271.1 bt271.2.1 bt275.1 bt275.2.1 bt275.2.2.1 bt275.2.2.2.1 bt275.2.2.2.2 bt280.1 bt280.2.1 bt280.2.2.1 bt280.2.2.2.1 bt280.2.2.2.2) else (impl_FDiv.j0 k (bt275.1 != bt280.1) false (bt280.2.2.2.1 == 0) bt271.1 bt271.2.1 bt275.1 bt275.2.1 bt275.2.2.1 bt275.2.2.2.1 bt275.2.2.2.2 bt280.1 bt280.2.1 bt280.2.2.1 bt280.2.2.2.1 bt280.2.2.2.2)) else (if bt280.2.2.1 = true then (impl_FDiv.j0 k (bt275.1 != bt280.1) (bt275.2.2.2.1 == 0) false bt271.1 bt271.2.1 bt275.1 bt275.2.1 bt275.2.2.1 bt275.2.2.2.1 bt275.2.2.2.2 bt280.1 bt280.2.1 bt280.2.2.1 bt280.2.2.2.1 bt280.2.2.2.2) else (impl_FDiv.j0 k (bt275.1 != bt280.1) (bt275.2.2.2.1 == 0) (bt280.2.2.2.1 == 0) bt271.1 bt271.2.1 bt275.1 bt275.2.1 bt275.2.2.1 bt275.2.2.2.1 bt275.2.2.2.2 bt280.1 bt280.2.1 bt280.2.2.1 bt280.2.2.2.1 bt280.2.2.2.2))))) else (some 0))) = some r := h
 clear h
 replace H := Option.bind_eq_some_iff.mp H
 obtain ⟨⟨t271, t272, t273⟩, A40, H⟩ := H
 try dsimp only at H
 have A4 := Aside0.mk A40
 clear A40
 by_cases c5 : t273 = true
 ·subst c5
  have H1 : ((impl_format_open.f t271 t272 a1).bind fun bt275 => ((impl_format_open.f t271 t272 a2).bind fun bt280 => (if bt275.2.2.1 = true then (if bt280.2.2.1 = true then (impl_FDiv.j0 k (bt275.1 != bt280.1) false false t271 t272 bt275.1 bt275.2.1 bt275.2.2.1 bt275.2.2.2.1 bt275.2.2.2.2 bt280.1 bt280.2.1 bt280.2.2.1 bt280.2.2.2.1 bt280.2.2.2.2) else (impl_FDiv.j0 k (bt275.1 != bt280.1) false (bt280.2.2.2.1 == 0) t271 t272 bt275.1 bt275.2.1 bt275.2.2.1 bt275.2.2.2.1 bt275.2.2.2.2 bt280.1 bt280.2.1 bt280.2.2.1 bt280.2.2.2.1 bt280.2.2.2.2)) else (if bt280.2.2.1 = true then (impl_FDiv.j0 k (bt275.1 != bt280.1) (bt275.2.2.2.1 == 0) false t271 t272 bt275.1 bt275.2.1 bt275.2.2.1 bt275.2.2.2.1 bt275.2.2.2.2 bt280.1 bt280.2.1 bt280.2.2.1 bt280.2.2.2.1 bt280.2.2.2.2) else (impl_FDiv.j0 k (bt275.1 != bt280.1) (bt275.2.2.2.1 == 0) (bt280.2.2.2.1 == 0) t271 t272 bt275.1 bt275.2.1 bt275.2.2.1 bt275.2.2.2.1 bt275.2.2.2.2 bt280.1 bt280.2.1 bt280.2.2.1 bt280.2.2.2.1 bt280.2.2.2.2))))) = some r := by rw [if_pos rfl] at H; first | done | exact H
  clear H
  have H := H1
  clear H1
  replace H := Option.bind_eq_some_iff.mp H
  obtain ⟨⟨t275, t276, t277, t278, t279⟩, A60, H⟩ := H
  try dsimp only at H
  have A6 := Aside0.mk A60
  clear A60
  replace H := Option.bind_eq_some_iff.mp H
  obtain ⟨⟨t280, t281, t282, t283, t284⟩, A70, H⟩ := H
  try dsimp only at H
  have A7 := Aside0.mk A70
  clear A70
  have HC8 := Aside0.mk H
  clear H
  go_enter Try.func25, Try.ntmps25
  try go_wp2_with (first | ((with_reducible refine gate_callee (f := 55) rfl ?_); refine gl_ (some 18) rfl rfl Try.func55 (by kernel_rfl) rfl #[.int .i64 a0] rfl ?_; (with_reducible refine (impl_formatOf.calls a0 t271 t272 true _ A4.out).mono ?_); rintro e w9 ⟨rfl, hb⟩; refine ⟨_, rfl, ?_⟩; replace HB := eh_ hb; (try clear hb)) | ((with_reducible refine gate_dst (N := 7) rfl ?_); refine box_event ?hg (N := 7) ?hd (cs := #[.int .i64 0, .int .i64 0]) (t := 96) ?hr ?_; (case hd => rfl); (case hg => rfl); (case hr => first | (go_simp; done) | (go_simp; rfl)); intro gb274 hg w10 hbox hb; have BK274 := Aside0.mk (hbox); have GW274 := Aside0.mk (gs_ hg (eb_ HB.out) : w.heap.size ≤ gb274); have GE274 := GW274; replace HB := eh_ hb; clear hb hbox hg; obtain ⟨_, _, _, _⟩ := zc2_ BK274.out))
  have n0_ : Aside0 (((w10.setCell ⟨gb274, 0, none⟩ (.int .i64 t271)).setCell ⟨gb274, 1, none⟩ (.int .i64 t272)).heap[gb274]? = some (.cells #[.int .i64 t271, .int .i64 t272] 96 (0, 0))) := ⟨by (with_reducible repeat first | apply bN | apply bD | apply bA); refine blk_put (cs := #[.int .i64 t271, .int .i64 0]) ?_ 1 _ rfl; (with_reducible repeat first | apply bN | apply bD | apply bA); refine blk_put (cs := #[.int .i64 0, .int .i64 0]) ?_ 0 _ rfl; (with_reducible repeat first | apply bN | apply bD | apply bA); exact BK274.out⟩
  have n1_ : Aside0 (Below w.heap.size w ((w10.setCell ⟨gb274, 0, none⟩ (.int .i64 t271)).setCell ⟨gb274, 1, none⟩ (.int .i64 t272))) := ⟨es_⟩
  (try clear BK274)
  (try clear HB)
  generalize ((w10.setCell ⟨gb274, 0, none⟩ (.int .i64 t271)).setCell ⟨gb274, 1, none⟩ (.int .i64 t272)) = w12 at n0_ n1_ ⊢
  have BK274 := n0_
  have HB := n1_
  clear n0_ n1_
  replace BK274 := Aside0.mk (blk_drew BK274.out)
  replace HB := Aside0.mk (below_drew1 HB.out)
  refine start_ (n := 10) (S := fun w' => True) (ds := []) #[false, false, false, false, false, false, false, false, false, false] (by kernel_rfl) rfl rfl trivial (fun hHeld => ?_); refine with_tabW impl_FDiv.tab4 impl_FDiv.bits4 (fun HT_ HW_ => ?_)
  generalize w12.drew = w13 at BK274 HB hHeld ⊢
  refine pure_ (i := 1) (N := some 24) (v := ?_) (a' := ?_) #[false, true, false, false, false, false, false, false, false, false] rfl rfl (any_of HT_.out (by kernel_rfl)) (fun _ _ _ h => h) (Or.inl ⟨by rfl, ?_⟩) ?_ ?_
  rotate_left
  ·intro w'
   go_simp
   with_reducible rfl
  rotate_left
  ·simp only [Act.put, List.setIfInBounds_toArray, List.set_cons_zero, List.set_cons_succ, i64_w, i32_w]
   rfl
  refine pure_ (i := 4) (N := some 27) (v := ?_) (a' := ?_) #[false, true, false, false, true, false, false, false, false, false] rfl rfl (any_of HT_.out (by kernel_rfl)) (fun _ _ _ h => h) (Or.inl ⟨by rfl, ?_⟩) ?_ ?_
  rotate_left
  ·intro w'
   go_simp
   with_reducible rfl
  rotate_left
  ·simp only [Act.put, List.setIfInBounds_toArray, List.set_cons_zero, List.set_cons_succ, i64_w, i32_w]
   rfl
  refine inv_at [0, 2, 3, 5, 6, 7, 8, 9] (fun a0_ b a w' => ∃ (gb285 : Nat) (gb286 : Nat) (m6_ : Value) (m7_ : Value), a = putSel a0_ b [(0, 23, .agg #[.int .i64 t271, .int .i64 t272]), (2, 25, .agg #[.bool t275, .bool t276, .bool t277, .int .u64 t278, .int .i64 t279]), (3, 26, .agg #[.int .i64 t271, .int .i64 t272]), (5, 28, .agg #[.bool t280, .bool t281, .bool t282, .int .u64 t283, .int .i64 t284]), (6, 9, m6_), (7, 10, m7_)] ∧ (w'.heap[gb274]? = some (.cells #[.int .i64 t271, .int .i64 t272] 96 (0, 0))) ∧ (Below w.heap.size w w') ∧ (b 6 = true → b 7 = true → gb286 ≠ gb285) ∧ (b 6 = true → b 7 = true → gb285 ≠ gb286) ∧ (b 6 = true → b 8 = false → w'.heap[gb285]? = some (.cells #[.bool false, .bool false, .bool false, .int .u64 0, .int .i64 0] 100 (0, 0))) ∧ (b 6 = true → w.heap.size ≤ gb285) ∧ (b 6 = true → w.heap.size ≤ gb285) ∧ (b 6 = true → gb274 ≠ gb285) ∧ (b 6 = true → gb285 ≠ gb274) ∧ (b 7 = true → b 9 = false → w'.heap[gb286]? = some (.cells #[.bool false, .bool false, .bool false, .int .u64 0, .int .i64 0] 100 (0, 0))) ∧ (b 7 = true → w.heap.size ≤ gb286) ∧ (b 7 = true → w.heap.size ≤ gb286) ∧ (b 7 = true → gb274 ≠ gb286) ∧ (b 7 = true → gb286 ≠ gb274) ∧ (b 8 = true → w'.heap[gb285]? = some (.cells #[.bool t275, .bool t276, .bool t277, .int .u64 t278, .int .i64 t279] 100 (0, 0))) ∧ (b 9 = true → w'.heap[gb286]? = some (.cells #[.bool t280, .bool t281, .bool t282, .int .u64 t283, .int .i64 t284] 100 (0, 0))) ∧ (b 6 = true → (m6_ : Value) = .pointer (some ⟨gb285, 0, none⟩)) ∧ (b 7 = true → (m7_ : Value) = .pointer (some ⟨gb286, 0, none⟩))) HT_.out HW_.out (by kernel_rfl) (by kernel_rfl) ?_ ?_ ?_
  ·exact ⟨0, 0, .bool false, .bool false, by simp only [putSel, Bool.false_eq_true, if_false], BK274.out, HB.out, fun h_ => absurd h_ (by decide), fun h_ => absurd h_ (by decide), fun h_ => absurd h_ (by decide), fun h_ => absurd h_ (by decide), fun h_ => absurd h_ (by decide), fun h_ => absurd h_ (by decide), fun h_ => absurd h_ (by decide), fun h_ => absurd h_ (by decide), fun h_ => absurd h_ (by decide), fun h_ => absurd h_ (by decide), fun h_ => absurd h_ (by decide), fun h_ => absurd h_ (by decide), fun h_ => absurd h_ (by decide), fun h_ => absurd h_ (by decide), fun h_ => absurd h_ (by decide), fun h_ => absurd h_ (by decide)⟩
  ·skip
   clear BK274 HB
   refine steps_cons ?_ ?_
   ·rintro b a w' ⟨gb285, gb286, m6_, m7_, ha, Q_BK274, Q_HB, Q_NB286_285, Q_NB285_286, Q_BK285, Q_GW285, Q_GE285, Q_NB274_285, Q_NB285_274, Q_BK286, Q_GW286, Q_GE286, Q_NB274_286, Q_NB286_274, Q_BK285_e8, Q_BK286_e9, Q_X6_, Q_X7_⟩ hb_ hon hoff
    refine ⟨_, rfl, fun K hK => ?_⟩
    have e7 : a.tmps[7]? = some (.pointer (some ⟨gb274, 0, none⟩)) := by rw [ha]; exact (putSel_off rfl).trans rfl
    replace ha := Aside0.mk ha
    have BK274 := Aside0.mk Q_BK274
    have HB := Aside0.mk Q_HB
    have hc0_ : w'.cell? ⟨gb274, 0, none⟩ = some (.int .i64 t271) := (blk_cell BK274.out 0).trans rfl
    have hc1_ : w'.cell? ⟨gb274, 1, none⟩ = some (.int .i64 t272) := (blk_cell BK274.out 1).trans rfl
    refine value_ (w1 := w') (v := .agg #[.int .i64 t271, .int .i64 t272]) (by rfl) rfl ?_ ?_
    ·go_simp
     (try simp only [i64_w])
     try rfl
    refine hK.out _ _ ⟨gb285, gb286, m6_, m7_, (by rw [ha.out]; exact putSel_upk 0 hb_ rfl rfl rfl), Q_BK274, Q_HB, Q_NB286_285, Q_NB285_286, Q_BK285, Q_GW285, Q_GE285, Q_NB274_285, Q_NB285_274, Q_BK286, Q_GW286, Q_GE286, Q_NB274_286, Q_NB286_274, fun h0_ => absurd ((hoff 8 (by kernel_rfl)).symm.trans h0_) (by decide), fun h0_ => absurd ((hoff 9 (by kernel_rfl)).symm.trans h0_) (by decide), Q_X6_, Q_X7_⟩
   refine steps_cons ?_ ?_
   ·rintro b a w' ⟨gb285, gb286, m6_, m7_, ha, Q_BK274, Q_HB, Q_NB286_285, Q_NB285_286, Q_BK285, Q_GW285, Q_GE285, Q_NB274_285, Q_NB285_274, Q_BK286, Q_GW286, Q_GE286, Q_NB274_286, Q_NB286_274, Q_BK285_e8, Q_BK286_e9, Q_X6_, Q_X7_⟩ hb_ hon hoff
    refine ⟨_, rfl, fun K hK => ?_⟩
    have e23 : a.tmps[23]? = some (.agg #[.int .i64 t271, .int .i64 t272]) := by rw [ha]; exact putSel_on (e := (0, 23, .agg #[.int .i64 t271, .int .i64 t272])) 0 rfl rfl (hon 0 (by kernel_rfl)) rfl
    have e24 : a.tmps[24]? = some (.int .u32 a1) := by rw [ha]; exact (putSel_off rfl).trans rfl
    replace ha := Aside0.mk ha
    have BK274 := Aside0.mk Q_BK274
    have HB := Aside0.mk Q_HB
    refine goes_ Try.func56 (by kernel_rfl) rfl #[.agg #[.int .i64 t271, .int .i64 t272], .int .u32 a1] (by rfl) rfl rfl (by first | (simp only [List.map_toArray, List.map_cons, List.map_nil, Act.eval, Array.getD_eq_getD_getElem?, Option.getD_some, e23, e24]; done) | (simp only [List.map_toArray, List.map_cons, List.map_nil, Act.eval, Array.getD_eq_getD_getElem?, Option.getD_some, e23, e24]; rfl)) ?_
    with_reducible refine (impl_format_open.calls t271 t272 a1 t275 t276 t277 t278 t279 _ A6.out).mono ?_
    rintro e w14 ⟨rfl, hb⟩
    refine ⟨_, rfl, ?_⟩
    have n0_ := Aside0.mk (blk_below (bk_ BK274.out) hb)
    have n1_ := Aside0.mk (below_step es_ hb)
    have z_BK285 := fun (h0_ : b 6 = true) (h1_ : b 8 = false) => (show w14.heap[gb285]? = some (.cells #[.bool false, .bool false, .bool false, .int .u64 0, .int .i64 0] 100 (0, 0)) from by first | exact (blk_below (g := gb285) (o := .cells #[.bool false, .bool false, .bool false, .int .u64 0, .int .i64 0] 100 (0, 0)) (by (with_reducible repeat first | apply bN | apply bD | apply bA); exact (Q_BK285 h0_ h1_)) hb))
    have z_BK286 := fun (h0_ : b 7 = true) (h1_ : b 9 = false) => (show w14.heap[gb286]? = some (.cells #[.bool false, .bool false, .bool false, .int .u64 0, .int .i64 0] 100 (0, 0)) from by first | exact (blk_below (g := gb286) (o := .cells #[.bool false, .bool false, .bool false, .int .u64 0, .int .i64 0] 100 (0, 0)) (by (with_reducible repeat first | apply bN | apply bD | apply bA); exact (Q_BK286 h0_ h1_)) hb))
    clear BK274 HB
    have BK274 := n0_
    have HB := n1_
    clear n0_ n1_
    (try clear hb)
    (try clear hb2)
    (try clear hk)
    (try clear hi)
    refine hK.out _ _ ⟨gb285, gb286, m6_, m7_, (by rw [ha.out]; exact putSel_upk 1 hb_ rfl rfl rfl), (bk_ BK274.out), es_, Q_NB286_285, Q_NB285_286, z_BK285, Q_GW285, Q_GE285, Q_NB274_285, Q_NB285_274, z_BK286, Q_GW286, Q_GE286, Q_NB274_286, Q_NB286_274, fun h0_ => absurd ((hoff 8 (by kernel_rfl)).symm.trans h0_) (by decide), fun h0_ => absurd ((hoff 9 (by kernel_rfl)).symm.trans h0_) (by decide), Q_X6_, Q_X7_⟩
   refine steps_cons ?_ ?_
   ·rintro b a w' ⟨gb285, gb286, m6_, m7_, ha, Q_BK274, Q_HB, Q_NB286_285, Q_NB285_286, Q_BK285, Q_GW285, Q_GE285, Q_NB274_285, Q_NB285_274, Q_BK286, Q_GW286, Q_GE286, Q_NB274_286, Q_NB286_274, Q_BK285_e8, Q_BK286_e9, Q_X6_, Q_X7_⟩ hb_ hon hoff
    refine ⟨_, rfl, fun K hK => ?_⟩
    have e7 : a.tmps[7]? = some (.pointer (some ⟨gb274, 0, none⟩)) := by rw [ha]; exact (putSel_off rfl).trans rfl
    replace ha := Aside0.mk ha
    have BK274 := Aside0.mk Q_BK274
    have HB := Aside0.mk Q_HB
    have hc0_ : w'.cell? ⟨gb274, 0, none⟩ = some (.int .i64 t271) := (blk_cell BK274.out 0).trans rfl
    have hc1_ : w'.cell? ⟨gb274, 1, none⟩ = some (.int .i64 t272) := (blk_cell BK274.out 1).trans rfl
    refine value_ (w1 := w') (v := .agg #[.int .i64 t271, .int .i64 t272]) (by rfl) rfl ?_ ?_
    ·go_simp
     (try simp only [i64_w])
     try rfl
    refine hK.out _ _ ⟨gb285, gb286, m6_, m7_, (by rw [ha.out]; exact putSel_upk 2 hb_ rfl rfl rfl), Q_BK274, Q_HB, Q_NB286_285, Q_NB285_286, Q_BK285, Q_GW285, Q_GE285, Q_NB274_285, Q_NB285_274, Q_BK286, Q_GW286, Q_GE286, Q_NB274_286, Q_NB286_274, fun h0_ => absurd ((hoff 8 (by kernel_rfl)).symm.trans h0_) (by decide), fun h0_ => absurd ((hoff 9 (by kernel_rfl)).symm.trans h0_) (by decide), Q_X6_, Q_X7_⟩
   refine steps_cons ?_ ?_
   ·rintro b a w' ⟨gb285, gb286, m6_, m7_, ha, Q_BK274, Q_HB, Q_NB286_285, Q_NB285_286, Q_BK285, Q_GW285, Q_GE285, Q_NB274_285, Q_NB285_274, Q_BK286, Q_GW286, Q_GE286, Q_NB274_286, Q_NB286_274, Q_BK285_e8, Q_BK286_e9, Q_X6_, Q_X7_⟩ hb_ hon hoff
    refine ⟨_, rfl, fun K hK => ?_⟩
    have e26 : a.tmps[26]? = some (.agg #[.int .i64 t271, .int .i64 t272]) := by rw [ha]; exact putSel_on (e := (3, 26, .agg #[.int .i64 t271, .int .i64 t272])) 2 rfl rfl (hon 3 (by kernel_rfl)) rfl
    have e27 : a.tmps[27]? = some (.int .u32 a2) := by rw [ha]; exact (putSel_off rfl).trans rfl
    replace ha := Aside0.mk ha
    have BK274 := Aside0.mk Q_BK274
    have HB := Aside0.mk Q_HB
    refine goes_ Try.func56 (by kernel_rfl) rfl #[.agg #[.int .i64 t271, .int .i64 t272], .int .u32 a2] (by rfl) rfl rfl (by first | (simp only [List.map_toArray, List.map_cons, List.map_nil, Act.eval, Array.getD_eq_getD_getElem?, Option.getD_some, e26, e27]; done) | (simp only [List.map_toArray, List.map_cons, List.map_nil, Act.eval, Array.getD_eq_getD_getElem?, Option.getD_some, e26, e27]; rfl)) ?_
    with_reducible refine (impl_format_open.calls t271 t272 a2 t280 t281 t282 t283 t284 _ A7.out).mono ?_
    rintro e w16 ⟨rfl, hb⟩
    refine ⟨_, rfl, ?_⟩
    have n0_ := Aside0.mk (blk_below (bk_ BK274.out) hb)
    have n1_ := Aside0.mk (below_step es_ hb)
    have z_BK285 := fun (h0_ : b 6 = true) (h1_ : b 8 = false) => (show w16.heap[gb285]? = some (.cells #[.bool false, .bool false, .bool false, .int .u64 0, .int .i64 0] 100 (0, 0)) from by first | exact (blk_below (g := gb285) (o := .cells #[.bool false, .bool false, .bool false, .int .u64 0, .int .i64 0] 100 (0, 0)) (by (with_reducible repeat first | apply bN | apply bD | apply bA); exact (Q_BK285 h0_ h1_)) hb))
    have z_BK286 := fun (h0_ : b 7 = true) (h1_ : b 9 = false) => (show w16.heap[gb286]? = some (.cells #[.bool false, .bool false, .bool false, .int .u64 0, .int .i64 0] 100 (0, 0)) from by first | exact (blk_below (g := gb286) (o := .cells #[.bool false, .bool false, .bool false, .int .u64 0, .int .i64 0] 100 (0, 0)) (by (with_reducible repeat first | apply bN | apply bD | apply bA); exact (Q_BK286 h0_ h1_)) hb))
    clear BK274 HB
    have BK274 := n0_
    have HB := n1_
    clear n0_ n1_
    (try clear hb)
    (try clear hb2)
    (try clear hk)
    (try clear hi)
    refine hK.out _ _ ⟨gb285, gb286, m6_, m7_, (by rw [ha.out]; exact putSel_upk 3 hb_ rfl rfl rfl), (bk_ BK274.out), es_, Q_NB286_285, Q_NB285_286, z_BK285, Q_GW285, Q_GE285, Q_NB274_285, Q_NB285_274, z_BK286, Q_GW286, Q_GE286, Q_NB274_286, Q_NB286_274, fun h0_ => absurd ((hoff 8 (by kernel_rfl)).symm.trans h0_) (by decide), fun h0_ => absurd ((hoff 9 (by kernel_rfl)).symm.trans h0_) (by decide), Q_X6_, Q_X7_⟩
   refine steps_cons ?_ ?_
   ·rintro b a w' ⟨gb285, gb286, m6_, m7_, ha, Q_BK274, Q_HB, Q_NB286_285, Q_NB285_286, Q_BK285, Q_GW285, Q_GE285, Q_NB274_285, Q_NB285_274, Q_BK286, Q_GW286, Q_GE286, Q_NB274_286, Q_NB286_274, Q_BK285_e8, Q_BK286_e9, Q_X6_, Q_X7_⟩ hb_ hon hoff
    refine ⟨_, rfl, fun K hK => ?_⟩
    replace ha := Aside0.mk ha
    have BK274 := Aside0.mk Q_BK274
    have HB := Aside0.mk Q_HB
    refine box_step ?hg (N := 9) ?hd (cs := #[.bool false, .bool false, .bool false, .int .u64 0, .int .i64 0]) (t := 100) ?hr ?_; (case hd => rfl); (case hg => rfl); (case hr => first | (go_simp; done) | (go_simp; rfl))
    intro gb285 hg w14 hbox hb
    have n0_ := Aside0.mk (blk_below (bk_ BK274.out) hb)
    have n1_ := Aside0.mk (below_step es_ hb)
    have n2_ := Aside0.mk (hbox)
    have n3_ := Aside0.mk (gs_ hg es_ : w.heap.size ≤ gb285)
    have n4_ := Aside0.mk (gs_ hg es_ : w.heap.size ≤ gb285)
    have n5_ := Aside0.mk ((by rw [hg]; exact Nat.ne_of_lt (blk_lt (g := gb274) (o := .cells #[.int .i64 t271, .int .i64 t272] 96 (0, 0)) (bk_ BK274.out)) : gb274 ≠ gb285))
    have n6_ := Aside0.mk ((by rw [hg]; exact Nat.ne_of_gt (blk_lt (g := gb274) (o := .cells #[.int .i64 t271, .int .i64 t272] 96 (0, 0)) (bk_ BK274.out)) : gb285 ≠ gb274))
    have z_NB286_285 := fun (h0_ : up b 6 6 = true) (h1_ : up b 6 7 = true) => (show gb286 ≠ gb285 from ((by rw [hg]; exact Nat.ne_of_lt (blk_lt (g := gb286) (o := .cells #[.bool false, .bool false, .bool false, .int .u64 0, .int .i64 0] 100 (0, 0)) (by (with_reducible repeat first | apply bN | apply bD | apply bA); exact (Q_BK286 h1_ (hoff 9 (by kernel_rfl))))) : gb286 ≠ gb285)))
    have z_NB285_286 := fun (h0_ : up b 6 6 = true) (h1_ : up b 6 7 = true) => (show gb285 ≠ gb286 from ((by rw [hg]; exact Nat.ne_of_gt (blk_lt (g := gb286) (o := .cells #[.bool false, .bool false, .bool false, .int .u64 0, .int .i64 0] 100 (0, 0)) (by (with_reducible repeat first | apply bN | apply bD | apply bA); exact (Q_BK286 h1_ (hoff 9 (by kernel_rfl))))) : gb285 ≠ gb286)))
    have z_BK286 := fun (h0_ : b 7 = true) (h1_ : b 9 = false) => (show w14.heap[gb286]? = some (.cells #[.bool false, .bool false, .bool false, .int .u64 0, .int .i64 0] 100 (0, 0)) from by first | exact (blk_below (g := gb286) (o := .cells #[.bool false, .bool false, .bool false, .int .u64 0, .int .i64 0] 100 (0, 0)) (by (with_reducible repeat first | apply bN | apply bD | apply bA); exact (Q_BK286 h0_ h1_)) hb))
    clear BK274 HB
    have BK274 := n0_
    have HB := n1_
    have BK285 := n2_
    have GW285 := n3_
    have GE285 := n4_
    have NB274_285 := n5_
    have NB285_274 := n6_
    clear n0_ n1_ n2_ n3_ n4_ n5_ n6_ hb hbox hg
    refine hK.out _ _ ⟨gb285, gb286, (.pointer (some ⟨gb285, 0, none⟩)), m7_, (by rw [ha.out]; exact putSel_upk 4 hb_ rfl rfl rfl), (bk_ BK274.out), es_, z_NB286_285, z_NB285_286, fun _ _ => (bk_ BK285.out), fun _ => GW285.out, fun _ => GE285.out, fun _ => NB274_285.out, fun _ => NB285_274.out, z_BK286, Q_GW286, Q_GE286, Q_NB274_286, Q_NB286_274, fun h0_ => absurd ((hoff 8 (by kernel_rfl)).symm.trans h0_) (by decide), fun h0_ => absurd ((hoff 9 (by kernel_rfl)).symm.trans h0_) (by decide), fun _ => rfl, Q_X7_⟩
   refine steps_cons ?_ ?_
   ·rintro b a w' ⟨gb285, gb286, m6_, m7_, ha, Q_BK274, Q_HB, Q_NB286_285, Q_NB285_286, Q_BK285, Q_GW285, Q_GE285, Q_NB274_285, Q_NB285_274, Q_BK286, Q_GW286, Q_GE286, Q_NB274_286, Q_NB286_274, Q_BK285_e8, Q_BK286_e9, Q_X6_, Q_X7_⟩ hb_ hon hoff
    refine ⟨_, rfl, fun K hK => ?_⟩
    replace ha := Aside0.mk ha
    have BK274 := Aside0.mk Q_BK274
    have HB := Aside0.mk Q_HB
    refine box_step ?hg (N := 10) ?hd (cs := #[.bool false, .bool false, .bool false, .int .u64 0, .int .i64 0]) (t := 100) ?hr ?_; (case hd => rfl); (case hg => rfl); (case hr => first | (go_simp; done) | (go_simp; rfl))
    intro gb286 hg w14 hbox hb
    have n0_ := Aside0.mk (blk_below (bk_ BK274.out) hb)
    have n1_ := Aside0.mk (below_step es_ hb)
    have n2_ := Aside0.mk (hbox)
    have n3_ := Aside0.mk (gs_ hg es_ : w.heap.size ≤ gb286)
    have n4_ := Aside0.mk (gs_ hg es_ : w.heap.size ≤ gb286)
    have n5_ := Aside0.mk ((by rw [hg]; exact Nat.ne_of_lt (blk_lt (g := gb274) (o := .cells #[.int .i64 t271, .int .i64 t272] 96 (0, 0)) (bk_ BK274.out)) : gb274 ≠ gb286))
    have n6_ := Aside0.mk ((by rw [hg]; exact Nat.ne_of_gt (blk_lt (g := gb274) (o := .cells #[.int .i64 t271, .int .i64 t272] 96 (0, 0)) (bk_ BK274.out)) : gb286 ≠ gb274))
    have z_NB286_285 := fun (h0_ : up b 7 6 = true) (h1_ : up b 7 7 = true) => (show gb286 ≠ gb285 from ((by rw [hg]; exact Nat.ne_of_gt (blk_lt (g := gb285) (o := .cells #[.bool false, .bool false, .bool false, .int .u64 0, .int .i64 0] 100 (0, 0)) (by (with_reducible repeat first | apply bN | apply bD | apply bA); exact (Q_BK285 h0_ (hoff 8 (by kernel_rfl))))) : gb286 ≠ gb285)))
    have z_NB285_286 := fun (h0_ : up b 7 6 = true) (h1_ : up b 7 7 = true) => (show gb285 ≠ gb286 from ((by rw [hg]; exact Nat.ne_of_lt (blk_lt (g := gb285) (o := .cells #[.bool false, .bool false, .bool false, .int .u64 0, .int .i64 0] 100 (0, 0)) (by (with_reducible repeat first | apply bN | apply bD | apply bA); exact (Q_BK285 h0_ (hoff 8 (by kernel_rfl))))) : gb285 ≠ gb286)))
    have z_BK285 := fun (h0_ : b 6 = true) (h1_ : b 8 = false) => (show w14.heap[gb285]? = some (.cells #[.bool false, .bool false, .bool false, .int .u64 0, .int .i64 0] 100 (0, 0)) from by first | exact (blk_below (g := gb285) (o := .cells #[.bool false, .bool false, .bool false, .int .u64 0, .int .i64 0] 100 (0, 0)) (by (with_reducible repeat first | apply bN | apply bD | apply bA); exact (Q_BK285 h0_ h1_)) hb))
    clear BK274 HB
    have BK274 := n0_
    have HB := n1_
    have BK286 := n2_
    have GW286 := n3_
    have GE286 := n4_
    have NB274_286 := n5_
    have NB286_274 := n6_
    clear n0_ n1_ n2_ n3_ n4_ n5_ n6_ hb hbox hg
    refine hK.out _ _ ⟨gb285, gb286, m6_, (.pointer (some ⟨gb286, 0, none⟩)), (by rw [ha.out]; exact putSel_upk 5 hb_ rfl rfl rfl), (bk_ BK274.out), es_, z_NB286_285, z_NB285_286, z_BK285, Q_GW285, Q_GE285, Q_NB274_285, Q_NB285_274, fun _ _ => (bk_ BK286.out), fun _ => GW286.out, fun _ => GE286.out, fun _ => NB274_286.out, fun _ => NB286_274.out, fun h0_ => absurd ((hoff 8 (by kernel_rfl)).symm.trans h0_) (by decide), fun h0_ => absurd ((hoff 9 (by kernel_rfl)).symm.trans h0_) (by decide), Q_X6_, fun _ => rfl⟩
   refine steps_cons ?_ ?_
   ·rintro b a w' ⟨gb285, gb286, m6_, m7_, ha, Q_BK274, Q_HB, Q_NB286_285, Q_NB285_286, Q_BK285, Q_GW285, Q_GE285, Q_NB274_285, Q_NB285_274, Q_BK286, Q_GW286, Q_GE286, Q_NB274_286, Q_NB286_274, Q_BK285_e8, Q_BK286_e9, Q_X6_, Q_X7_⟩ hb_ hon hoff
    refine ⟨_, rfl, fun K hK => ?_⟩
    have e9 : a.tmps[9]? = some (m6_) := by rw [ha]; exact putSel_on (e := (6, 9, m6_)) 4 rfl rfl (hon 6 (by kernel_rfl)) rfl
    rw [Q_X6_ (hon 6 (by kernel_rfl))] at e9
    have e25 : a.tmps[25]? = some (.agg #[.bool t275, .bool t276, .bool t277, .int .u64 t278, .int .i64 t279]) := by rw [ha]; exact putSel_on (e := (2, 25, .agg #[.bool t275, .bool t276, .bool t277, .int .u64 t278, .int .i64 t279])) 1 rfl rfl (hon 2 (by kernel_rfl)) rfl
    replace ha := Aside0.mk ha
    have BK274 := Aside0.mk Q_BK274
    have HB := Aside0.mk Q_HB
    have NB286_285 := Aside0.mk (Q_NB286_285 (hon 6 (by kernel_rfl)) (hon 7 (by kernel_rfl)))
    have NB285_286 := Aside0.mk (Q_NB285_286 (hon 6 (by kernel_rfl)) (hon 7 (by kernel_rfl)))
    have BK285 := Aside0.mk (Q_BK285 (hon 6 (by kernel_rfl)) hb_)
    have GW285 := Aside0.mk (Q_GW285 (hon 6 (by kernel_rfl)))
    have GE285 := Aside0.mk (Q_GE285 (hon 6 (by kernel_rfl)))
    have NB274_285 := Aside0.mk (Q_NB274_285 (hon 6 (by kernel_rfl)))
    have NB285_274 := Aside0.mk (Q_NB285_274 (hon 6 (by kernel_rfl)))
    have BK286 := Aside0.mk (Q_BK286 (hon 7 (by kernel_rfl)) (hoff 9 (by kernel_rfl)))
    have GW286 := Aside0.mk (Q_GW286 (hon 7 (by kernel_rfl)))
    have GE286 := Aside0.mk (Q_GE286 (hon 7 (by kernel_rfl)))
    have NB274_286 := Aside0.mk (Q_NB274_286 (hon 7 (by kernel_rfl)))
    have NB286_274 := Aside0.mk (Q_NB286_274 (hon 7 (by kernel_rfl)))
    have hs19 : w'.cell? ⟨gb285, 0, none⟩ = some (.bool false) := (blk_cell BK285.out 0).trans rfl
    have hfs19 := blk_frozen BK285.out 0
    have hns19_0 := NB274_285.out
    have hns19_2 := NB286_285.out
    have hms19_0 := NB285_274.out
    have hms19_2 := NB285_286.out
    have hs20 : w'.cell? ⟨gb285, 1, none⟩ = some (.bool false) := (blk_cell BK285.out 1).trans rfl
    have hfs20 := blk_frozen BK285.out 1
    have hns20_0 := NB274_285.out
    have hns20_2 := NB286_285.out
    have hms20_0 := NB285_274.out
    have hms20_2 := NB285_286.out
    have hs21 : w'.cell? ⟨gb285, 2, none⟩ = some (.bool false) := (blk_cell BK285.out 2).trans rfl
    have hfs21 := blk_frozen BK285.out 2
    have hns21_0 := NB274_285.out
    have hns21_2 := NB286_285.out
    have hms21_0 := NB285_274.out
    have hms21_2 := NB285_286.out
    have hs22 : w'.cell? ⟨gb285, 3, none⟩ = some (.int .u64 0) := (blk_cell BK285.out 3).trans rfl
    have hfs22 := blk_frozen BK285.out 3
    have hns22_0 := NB274_285.out
    have hns22_2 := NB286_285.out
    have hms22_0 := NB285_274.out
    have hms22_2 := NB285_286.out
    have hs23 : w'.cell? ⟨gb285, 4, none⟩ = some (.int .i64 0) := (blk_cell BK285.out 4).trans rfl
    have hfs23 := blk_frozen BK285.out 4
    have hns23_0 := NB274_285.out
    have hns23_2 := NB286_285.out
    have hms23_0 := NB285_274.out
    have hms23_2 := NB285_286.out
    refine skip_ (w1 := ?_) (by rfl) rfl ?_ ?_
    rotate_left
    ·go_simp
     rfl
    refine hK.out _ _ ⟨gb285, gb286, m6_, m7_, (by rw [ha.out]; exact putSel_none (v := undef) rfl), (by (with_reducible repeat first | apply bN | apply bD | apply bA); refine blk_far ?_ NB274_285.out _; (with_reducible repeat first | apply bN | apply bD | apply bA); refine blk_far ?_ NB274_285.out _; (with_reducible repeat first | apply bN | apply bD | apply bA); refine blk_far ?_ NB274_285.out _; (with_reducible repeat first | apply bN | apply bD | apply bA); refine blk_far ?_ NB274_285.out _; (with_reducible repeat first | apply bN | apply bD | apply bA); refine blk_far ?_ NB274_285.out _; (with_reducible repeat first | apply bN | apply bD | apply bA); exact BK274.out), es_, fun _ _ => NB286_285.out, fun _ _ => NB285_286.out, fun _ h1_ => absurd ((up_self b 8).symm.trans h1_) (by decide), fun _ => GW285.out, fun _ => GE285.out, fun _ => NB274_285.out, fun _ => NB285_274.out, fun _ _ => (by (with_reducible repeat first | apply bN | apply bD | apply bA); refine blk_far ?_ NB286_285.out _; (with_reducible repeat first | apply bN | apply bD | apply bA); refine blk_far ?_ NB286_285.out _; (with_reducible repeat first | apply bN | apply bD | apply bA); refine blk_far ?_ NB286_285.out _; (with_reducible repeat first | apply bN | apply bD | apply bA); refine blk_far ?_ NB286_285.out _; (with_reducible repeat first | apply bN | apply bD | apply bA); refine blk_far ?_ NB286_285.out _; (with_reducible repeat first | apply bN | apply bD | apply bA); exact BK286.out), fun _ => GW286.out, fun _ => GE286.out, fun _ => NB274_286.out, fun _ => NB286_274.out, fun _ => (by (with_reducible repeat first | apply bN | apply bD | apply bA); refine blk_put (cs := #[.bool t275, .bool t276, .bool t277, .int .u64 t278, .int .i64 0]) ?_ 4 _ rfl; (with_reducible repeat first | apply bN | apply bD | apply bA); refine blk_put (cs := #[.bool t275, .bool t276, .bool t277, .int .u64 0, .int .i64 0]) ?_ 3 _ rfl; (with_reducible repeat first | apply bN | apply bD | apply bA); refine blk_put (cs := #[.bool t275, .bool t276, .bool false, .int .u64 0, .int .i64 0]) ?_ 2 _ rfl; (with_reducible repeat first | apply bN | apply bD | apply bA); refine blk_put (cs := #[.bool t275, .bool false, .bool false, .int .u64 0, .int .i64 0]) ?_ 1 _ rfl; (with_reducible repeat first | apply bN | apply bD | apply bA); refine blk_put (cs := #[.bool false, .bool false, .bool false, .int .u64 0, .int .i64 0]) ?_ 0 _ rfl; (with_reducible repeat first | apply bN | apply bD | apply bA); exact BK285.out), fun h0_ => absurd ((hoff 9 (by kernel_rfl)).symm.trans h0_) (by decide), Q_X6_, Q_X7_⟩
   refine steps_cons ?_ ?_
   ·rintro b a w' ⟨gb285, gb286, m6_, m7_, ha, Q_BK274, Q_HB, Q_NB286_285, Q_NB285_286, Q_BK285, Q_GW285, Q_GE285, Q_NB274_285, Q_NB285_274, Q_BK286, Q_GW286, Q_GE286, Q_NB274_286, Q_NB286_274, Q_BK285_e8, Q_BK286_e9, Q_X6_, Q_X7_⟩ hb_ hon hoff
    refine ⟨_, rfl, fun K hK => ?_⟩
    have e10 : a.tmps[10]? = some (m7_) := by rw [ha]; exact putSel_on (e := (7, 10, m7_)) 5 rfl rfl (hon 7 (by kernel_rfl)) rfl
    rw [Q_X7_ (hon 7 (by kernel_rfl))] at e10
    have e28 : a.tmps[28]? = some (.agg #[.bool t280, .bool t281, .bool t282, .int .u64 t283, .int .i64 t284]) := by rw [ha]; exact putSel_on (e := (5, 28, .agg #[.bool t280, .bool t281, .bool t282, .int .u64 t283, .int .i64 t284])) 3 rfl rfl (hon 5 (by kernel_rfl)) rfl
    replace ha := Aside0.mk ha
    have BK274 := Aside0.mk Q_BK274
    have HB := Aside0.mk Q_HB
    have NB286_285 := Aside0.mk (Q_NB286_285 (hon 6 (by kernel_rfl)) (hon 7 (by kernel_rfl)))
    have NB285_286 := Aside0.mk (Q_NB285_286 (hon 6 (by kernel_rfl)) (hon 7 (by kernel_rfl)))
    have GW285 := Aside0.mk (Q_GW285 (hon 6 (by kernel_rfl)))
    have GE285 := Aside0.mk (Q_GE285 (hon 6 (by kernel_rfl)))
    have NB274_285 := Aside0.mk (Q_NB274_285 (hon 6 (by kernel_rfl)))
    have NB285_274 := Aside0.mk (Q_NB285_274 (hon 6 (by kernel_rfl)))
    have BK286 := Aside0.mk (Q_BK286 (hon 7 (by kernel_rfl)) hb_)
    have GW286 := Aside0.mk (Q_GW286 (hon 7 (by kernel_rfl)))
    have GE286 := Aside0.mk (Q_GE286 (hon 7 (by kernel_rfl)))
    have NB274_286 := Aside0.mk (Q_NB274_286 (hon 7 (by kernel_rfl)))
    have NB286_274 := Aside0.mk (Q_NB286_274 (hon 7 (by kernel_rfl)))
    have BK285 := Aside0.mk (Q_BK285_e8 (hon 8 (by kernel_rfl)))
    have hs24 : w'.cell? ⟨gb286, 0, none⟩ = some (.bool false) := (blk_cell BK286.out 0).trans rfl
    have hfs24 := blk_frozen BK286.out 0
    have hns24_0 := NB274_286.out
    have hns24_1 := NB285_286.out
    have hms24_0 := NB286_274.out
    have hms24_1 := NB286_285.out
    have hs25 : w'.cell? ⟨gb286, 1, none⟩ = some (.bool false) := (blk_cell BK286.out 1).trans rfl
    have hfs25 := blk_frozen BK286.out 1
    have hns25_0 := NB274_286.out
    have hns25_1 := NB285_286.out
    have hms25_0 := NB286_274.out
    have hms25_1 := NB286_285.out
    have hs26 : w'.cell? ⟨gb286, 2, none⟩ = some (.bool false) := (blk_cell BK286.out 2).trans rfl
    have hfs26 := blk_frozen BK286.out 2
    have hns26_0 := NB274_286.out
    have hns26_1 := NB285_286.out
    have hms26_0 := NB286_274.out
    have hms26_1 := NB286_285.out
    have hs27 : w'.cell? ⟨gb286, 3, none⟩ = some (.int .u64 0) := (blk_cell BK286.out 3).trans rfl
    have hfs27 := blk_frozen BK286.out 3
    have hns27_0 := NB274_286.out
    have hns27_1 := NB285_286.out
    have hms27_0 := NB286_274.out
    have hms27_1 := NB286_285.out
    have hs28 : w'.cell? ⟨gb286, 4, none⟩ = some (.int .i64 0) := (blk_cell BK286.out 4).trans rfl
    have hfs28 := blk_frozen BK286.out 4
    have hns28_0 := NB274_286.out
    have hns28_1 := NB285_286.out
    have hms28_0 := NB286_274.out
    have hms28_1 := NB286_285.out
    refine skip_ (w1 := ?_) (by rfl) rfl ?_ ?_
    rotate_left
    ·go_simp
     rfl
    refine hK.out _ _ ⟨gb285, gb286, m6_, m7_, (by rw [ha.out]; exact putSel_none (v := undef) rfl), (by (with_reducible repeat first | apply bN | apply bD | apply bA); refine blk_far ?_ NB274_286.out _; (with_reducible repeat first | apply bN | apply bD | apply bA); refine blk_far ?_ NB274_286.out _; (with_reducible repeat first | apply bN | apply bD | apply bA); refine blk_far ?_ NB274_286.out _; (with_reducible repeat first | apply bN | apply bD | apply bA); refine blk_far ?_ NB274_286.out _; (with_reducible repeat first | apply bN | apply bD | apply bA); refine blk_far ?_ NB274_286.out _; (with_reducible repeat first | apply bN | apply bD | apply bA); exact BK274.out), es_, fun _ _ => NB286_285.out, fun _ _ => NB285_286.out, fun _ h1_ => absurd ((hon 8 (by kernel_rfl)).symm.trans h1_) (by decide), fun _ => GW285.out, fun _ => GE285.out, fun _ => NB274_285.out, fun _ => NB285_274.out, fun _ h1_ => absurd ((up_self b 9).symm.trans h1_) (by decide), fun _ => GW286.out, fun _ => GE286.out, fun _ => NB274_286.out, fun _ => NB286_274.out, fun _ => (by (with_reducible repeat first | apply bN | apply bD | apply bA); refine blk_far ?_ NB285_286.out _; (with_reducible repeat first | apply bN | apply bD | apply bA); refine blk_far ?_ NB285_286.out _; (with_reducible repeat first | apply bN | apply bD | apply bA); refine blk_far ?_ NB285_286.out _; (with_reducible repeat first | apply bN | apply bD | apply bA); refine blk_far ?_ NB285_286.out _; (with_reducible repeat first | apply bN | apply bD | apply bA); refine blk_far ?_ NB285_286.out _; (with_reducible repeat first | apply bN | apply bD | apply bA); exact BK285.out), fun _ => (by (with_reducible repeat first | apply bN | apply bD | apply bA); refine blk_put (cs := #[.bool t280, .bool t281, .bool t282, .int .u64 t283, .int .i64 0]) ?_ 4 _ rfl; (with_reducible repeat first | apply bN | apply bD | apply bA); refine blk_put (cs := #[.bool t280, .bool t281, .bool t282, .int .u64 0, .int .i64 0]) ?_ 3 _ rfl; (with_reducible repeat first | apply bN | apply bD | apply bA); refine blk_put (cs := #[.bool t280, .bool t281, .bool false, .int .u64 0, .int .i64 0]) ?_ 2 _ rfl; (with_reducible repeat first | apply bN | apply bD | apply bA); refine blk_put (cs := #[.bool t280, .bool false, .bool false, .int .u64 0, .int .i64 0]) ?_ 1 _ rfl; (with_reducible repeat first | apply bN | apply bD | apply bA); refine blk_put (cs := #[.bool false, .bool false, .bool false, .int .u64 0, .int .i64 0]) ?_ 0 _ rfl; (with_reducible repeat first | apply bN | apply bD | apply bA); exact BK286.out), Q_X6_, Q_X7_⟩
   exact steps_nil
  rintro b a w28 hall ⟨gb285, gb286, m6_, m7_, ha, Q_BK274, Q_HB, Q_NB286_285, Q_NB285_286, Q_BK285, Q_GW285, Q_GE285, Q_NB274_285, Q_NB285_274, Q_BK286, Q_GW286, Q_GE286, Q_NB274_286, Q_NB286_274, Q_BK285_e8, Q_BK286_e9, Q_X6_, Q_X7_⟩
  clear BK274 HB
  have hb0_ := hall 0 (by kernel_rfl)
  have hb2_ := hall 2 (by kernel_rfl)
  have hb3_ := hall 3 (by kernel_rfl)
  have hb5_ := hall 5 (by kernel_rfl)
  have hb6_ := hall 6 (by kernel_rfl)
  have hb7_ := hall 7 (by kernel_rfl)
  have hb8_ := hall 8 (by kernel_rfl)
  have hb9_ := hall 9 (by kernel_rfl)
  subst ha
  obtain rfl := Q_X6_ hb6_
  obtain rfl := Q_X7_ hb7_
  simp only [putSel, hb0_, hb2_, hb3_, hb5_, hb6_, hb7_, hb8_, hb9_, if_true, Act.put, List.setIfInBounds_toArray, List.set_cons_zero, List.set_cons_succ]
  have BK274 := Aside0.mk Q_BK274
  clear Q_BK274
  have HB := Aside0.mk Q_HB
  clear Q_HB
  have NB286_285 := Aside0.mk (Q_NB286_285 hb6_ hb7_)
  clear Q_NB286_285
  have NB285_286 := Aside0.mk (Q_NB285_286 hb6_ hb7_)
  clear Q_NB285_286 Q_BK285
  have GW285 := Aside0.mk (Q_GW285 hb6_)
  clear Q_GW285
  have GE285 := Aside0.mk (Q_GE285 hb6_)
  clear Q_GE285
  have NB274_285 := Aside0.mk (Q_NB274_285 hb6_)
  clear Q_NB274_285
  have NB285_274 := Aside0.mk (Q_NB285_274 hb6_)
  clear Q_NB285_274 Q_BK286
  have GW286 := Aside0.mk (Q_GW286 hb7_)
  clear Q_GW286
  have GE286 := Aside0.mk (Q_GE286 hb7_)
  clear Q_GE286
  have NB274_286 := Aside0.mk (Q_NB274_286 hb7_)
  clear Q_NB274_286
  have NB286_274 := Aside0.mk (Q_NB286_274 hb7_)
  clear Q_NB286_274
  have BK285 := Aside0.mk (Q_BK285_e8 hb8_)
  clear Q_BK285_e8
  have BK286 := Aside0.mk (Q_BK286_e9 hb9_)
  clear Q_BK286_e9 hall hb0_ hb2_ hb3_ hb5_ hb6_ hb7_ hb8_ hb9_
  have hnb29 := NB285_274.out
  have hnc29 := NB274_285.out
  have hnb30 := NB285_286.out
  have hnc30 := NB286_285.out
  obtain ⟨_, _, _, _, _, _, _, _, _, _⟩ := zc5_ BK285.out
  have hnb32 := NB286_274.out
  have hnc32 := NB274_286.out
  obtain ⟨_, _, _, _, _, _, _, _, _, _⟩ := zc5_ BK286.out
  go_upto_region 6 with (fail)
  go_cut [12, 13] (fun v12 v13 wc => ∃ (kq : Nat) (x12_7 : Bool) (x13_7 : Bool), v12 = .bool x12_7 ∧ v13 = .bool x13_7 ∧ Aside0 (impl_FDiv.j0 kq (t275 != t280) x12_7 x13_7 t271 t272 t275 t276 t277 t278 t279 t280 t281 t282 t283 t284 = some r) ∧ Aside0 (kq ≤ k) ∧ Aside0 (wc.heap[gb274]? = some (.cells #[.int .i64 t271, .int .i64 t272] 96 (0, 0))) ∧ Aside0 (wc.heap[gb285]? = some (.cells #[.bool t275, .bool t276, .bool t277, .int .u64 t278, .int .i64 t279] 100 (0, 0))) ∧ Aside0 (wc.heap[gb286]? = some (.cells #[.bool t280, .bool t281, .bool t282, .int .u64 t283, .int .i64 t284] 100 (0, 0))) ∧ Aside0 (Below w.heap.size w wc))
  case first =>
   have H := HC8.out
   clear HC8
   by_cases c34 : t277 = true
   ·subst c34
    have H1 : (if t282 = true then (impl_FDiv.j0 k (t275 != t280) false false t271 t272 t275 t276 true t278 t279 t280 t281 t282 t283 t284) else (impl_FDiv.j0 k (t275 != t280) false (t283 == 0) t271 t272 t275 t276 true t278 t279 t280 t281 t282 t283 t284)) = some r := by rw [if_pos rfl] at H; first | done | exact H
    clear H
    have H := H1
    clear H1
    by_cases c35 : t282 = true
    ·subst c35
     have H1 : (impl_FDiv.j0 k (t275 != t280) false false t271 t272 t275 t276 true t278 t279 t280 t281 true t283 t284) = some r := by rw [if_pos rfl] at H; first | done | exact H
     clear H
     have H := H1
     clear H1
     have H' := Aside0.mk H
     clear H
     try go_wp2
     replace BK274 := Aside0.mk (blk_drew BK274.out)
     replace BK285 := Aside0.mk (blk_drew BK285.out)
     replace BK286 := Aside0.mk (blk_drew BK286.out)
     replace HB := Aside0.mk (below_drew1 HB.out)
     refine start_ (n := 18) (S := fun w' => w'.cell? ⟨gb285, 0, none⟩ = some (.bool t275) ∧ w'.cell? ⟨gb285, 1, none⟩ = some (.bool t276) ∧ w'.cell? ⟨gb285, 2, none⟩ = some (.bool true) ∧ w'.cell? ⟨gb285, 3, none⟩ = some (.int .u64 t278) ∧ w'.cell? ⟨gb285, 4, none⟩ = some (.int .i64 t279) ∧ w'.cell? ⟨gb286, 0, none⟩ = some (.bool t280) ∧ w'.cell? ⟨gb286, 1, none⟩ = some (.bool t281) ∧ w'.cell? ⟨gb286, 2, none⟩ = some (.bool true) ∧ w'.cell? ⟨gb286, 3, none⟩ = some (.int .u64 t283) ∧ w'.cell? ⟨gb286, 4, none⟩ = some (.int .i64 t284)) (ds := []) #[false, false, false, false, false, false, false, false, false, false, false, false, false, false, false, false, false, false] (by kernel_rfl) rfl rfl ⟨(blk_cell BK285.out 0).trans rfl, (blk_cell BK285.out 1).trans rfl, (blk_cell BK285.out 2).trans rfl, (blk_cell BK285.out 3).trans rfl, (blk_cell BK285.out 4).trans rfl, (blk_cell BK286.out 0).trans rfl, (blk_cell BK286.out 1).trans rfl, (blk_cell BK286.out 2).trans rfl, (blk_cell BK286.out 3).trans rfl, (blk_cell BK286.out 4).trans rfl⟩ (fun hHeld => ?_); refine with_tabW impl_FDiv.tab6 impl_FDiv.bits6 (fun HT_ HW_ => ?_)
     generalize w28.drew = w36 at BK274 BK285 BK286 HB hHeld ⊢
     refine pure_ (i := 0) (N := some 34) (v := ?_) (a' := ?_) #[true, false, false, false, false, false, false, false, false, false, false, false, false, false, false, false, false, false] rfl rfl (any_of HT_.out (by kernel_rfl)) (fun _ _ _ h => h) (Or.inl ⟨by rfl, ?_⟩) ?_ ?_
     rotate_left
     ·intro w'
      go_simp
      with_reducible rfl
     rotate_left
     ·simp only [Act.put, List.setIfInBounds_toArray, List.set_cons_zero, List.set_cons_succ, i64_w, i32_w]
      rfl
     refine pure_ (i := 8) (N := some 42) (v := ?_) (a' := ?_) #[true, false, false, false, false, false, false, false, true, false, false, false, false, false, false, false, false, false] rfl rfl (any_of HT_.out (by kernel_rfl)) (fun _ _ _ h => h) (Or.inl ⟨by rfl, ?_⟩) ?_ ?_
     rotate_left
     ·intro w'
      go_simp
      with_reducible rfl
     rotate_left
     ·simp only [Act.put, List.setIfInBounds_toArray, List.set_cons_zero, List.set_cons_succ, i64_w, i32_w]
      rfl
     refine take_ (i := 1) (N := some 35) (v := ?_) (a' := ?_) #[true, true, false, false, false, false, false, false, true, false, false, false, false, false, false, false, false, false] rfl rfl (take_ofW HT_.out HW_.out (by kernel_rfl)) (fun _ _ _ h => h) (Or.inl ⟨by rfl, ?_⟩) hHeld ?_ ?_
     rotate_left
     ·rintro w' ⟨s0, s1, s2, s3, s4, s5, s6, s7, s8, s9⟩
      go_simp
      with_reducible rfl
     rotate_left
     ·simp only [Act.put, List.setIfInBounds_toArray, List.set_cons_zero, List.set_cons_succ, i64_w, i32_w]
      rfl
     refine pure_ (i := 2) (N := some 36) (v := ?_) (a' := ?_) #[true, true, true, false, false, false, false, false, true, false, false, false, false, false, false, false, false, false] rfl rfl (any_of HT_.out (by kernel_rfl)) (fun _ _ _ h => h) (Or.inl ⟨by rfl, ?_⟩) ?_ ?_
     rotate_left
     ·intro w'
      go_simp
      with_reducible rfl
     rotate_left
     ·simp only [Act.put, List.setIfInBounds_toArray, List.set_cons_zero, List.set_cons_succ, i64_w, i32_w]
      rfl
     refine pure_ (i := 3) (N := some 37) (v := ?_) (a' := ?_) #[true, true, true, true, false, false, false, false, true, false, false, false, false, false, false, false, false, false] rfl rfl (any_of HT_.out (by kernel_rfl)) (fun _ _ _ h => h) (Or.inl ⟨by rfl, ?_⟩) ?_ ?_
     rotate_left
     ·intro w'
      go_simp
      with_reducible rfl
     rotate_left
     ·simp only [Act.put, List.setIfInBounds_toArray, List.set_cons_zero, List.set_cons_succ, i64_w, i32_w]
      rfl
     refine pure_ (i := 4) (N := some 38) (v := undef) (a' := ?_) #[true, true, true, true, true, false, false, false, true, false, false, false, false, false, false, false, false, false] rfl rfl (any_of HT_.out (by kernel_rfl)) (fun _ _ _ h => h) (Or.inr ⟨by rfl, rfl⟩) ?_ ?_
     rotate_left
     ·simp only [Act.put, List.setIfInBounds_toArray, List.set_cons_zero, List.set_cons_succ, i64_w, i32_w]
      rfl
     refine pure_ (i := 5) (N := some 39) (v := undef) (a' := ?_) #[true, true, true, true, true, true, false, false, true, false, false, false, false, false, false, false, false, false] rfl rfl (any_of HT_.out (by kernel_rfl)) (fun _ _ _ h => h) (Or.inr ⟨by rfl, rfl⟩) ?_ ?_
     rotate_left
     ·simp only [Act.put, List.setIfInBounds_toArray, List.set_cons_zero, List.set_cons_succ, i64_w, i32_w]
      rfl
     refine pure_ (i := 6) (N := some 40) (v := undef) (a' := ?_) #[true, true, true, true, true, true, true, false, true, false, false, false, false, false, false, false, false, false] rfl rfl (any_of HT_.out (by kernel_rfl)) (fun _ _ _ h => h) (Or.inr ⟨by rfl, rfl⟩) ?_ ?_
     rotate_left
     ·simp only [Act.put, List.setIfInBounds_toArray, List.set_cons_zero, List.set_cons_succ, i64_w, i32_w]
      rfl
     refine pure_ (i := 7) (N := some 41) (v := ?_) (a' := ?_) #[true, true, true, true, true, true, true, true, true, false, false, false, false, false, false, false, false, false] rfl rfl (any_of HT_.out (by kernel_rfl)) (fun _ _ _ h => h) (Or.inl ⟨by rfl, ?_⟩) ?_ ?_
     rotate_left
     ·intro w'
      go_simp
      with_reducible rfl
     rotate_left
     ·simp only [Act.put, List.setIfInBounds_toArray, List.set_cons_zero, List.set_cons_succ, i64_w, i32_w]
      rfl
     refine take_ (i := 9) (N := some 43) (v := ?_) (a' := ?_) #[true, true, true, true, true, true, true, true, true, true, false, false, false, false, false, false, false, false] rfl rfl (take_ofW HT_.out HW_.out (by kernel_rfl)) (fun _ _ _ h => h) (Or.inl ⟨by rfl, ?_⟩) hHeld ?_ ?_
     rotate_left
     ·rintro w' ⟨s0, s1, s2, s3, s4, s5, s6, s7, s8, s9⟩
      go_simp
      with_reducible rfl
     rotate_left
     ·simp only [Act.put, List.setIfInBounds_toArray, List.set_cons_zero, List.set_cons_succ, i64_w, i32_w]
      rfl
     refine pure_ (i := 10) (N := some 44) (v := ?_) (a' := ?_) #[true, true, true, true, true, true, true, true, true, true, true, false, false, false, false, false, false, false] rfl rfl (any_of HT_.out (by kernel_rfl)) (fun _ _ _ h => h) (Or.inl ⟨by rfl, ?_⟩) ?_ ?_
     rotate_left
     ·intro w'
      go_simp
      with_reducible rfl
     rotate_left
     ·simp only [Act.put, List.setIfInBounds_toArray, List.set_cons_zero, List.set_cons_succ, i64_w, i32_w]
      rfl
     refine pure_ (i := 11) (N := some 45) (v := ?_) (a' := ?_) #[true, true, true, true, true, true, true, true, true, true, true, true, false, false, false, false, false, false] rfl rfl (any_of HT_.out (by kernel_rfl)) (fun _ _ _ h => h) (Or.inl ⟨by rfl, ?_⟩) ?_ ?_
     rotate_left
     ·intro w'
      go_simp
      with_reducible rfl
     rotate_left
     ·simp only [Act.put, List.setIfInBounds_toArray, List.set_cons_zero, List.set_cons_succ, i64_w, i32_w]
      rfl
     refine pure_ (i := 12) (N := some 46) (v := undef) (a' := ?_) #[true, true, true, true, true, true, true, true, true, true, true, true, true, false, false, false, false, false] rfl rfl (any_of HT_.out (by kernel_rfl)) (fun _ _ _ h => h) (Or.inr ⟨by rfl, rfl⟩) ?_ ?_
     rotate_left
     ·simp only [Act.put, List.setIfInBounds_toArray, List.set_cons_zero, List.set_cons_succ, i64_w, i32_w]
      rfl
     refine pure_ (i := 13) (N := some 47) (v := undef) (a' := ?_) #[true, true, true, true, true, true, true, true, true, true, true, true, true, true, false, false, false, false] rfl rfl (any_of HT_.out (by kernel_rfl)) (fun _ _ _ h => h) (Or.inr ⟨by rfl, rfl⟩) ?_ ?_
     rotate_left
     ·simp only [Act.put, List.setIfInBounds_toArray, List.set_cons_zero, List.set_cons_succ, i64_w, i32_w]
      rfl
     refine pure_ (i := 14) (N := some 48) (v := undef) (a' := ?_) #[true, true, true, true, true, true, true, true, true, true, true, true, true, true, true, false, false, false] rfl rfl (any_of HT_.out (by kernel_rfl)) (fun _ _ _ h => h) (Or.inr ⟨by rfl, rfl⟩) ?_ ?_
     rotate_left
     ·simp only [Act.put, List.setIfInBounds_toArray, List.set_cons_zero, List.set_cons_succ, i64_w, i32_w]
      rfl
     refine pure_ (i := 15) (N := some 49) (v := ?_) (a' := ?_) #[true, true, true, true, true, true, true, true, true, true, true, true, true, true, true, true, false, false] rfl rfl (any_of HT_.out (by kernel_rfl)) (fun _ _ _ h => h) (Or.inl ⟨by rfl, ?_⟩) ?_ ?_
     rotate_left
     ·intro w'
      go_simp
      with_reducible rfl
     rotate_left
     ·simp only [Act.put, List.setIfInBounds_toArray, List.set_cons_zero, List.set_cons_succ, i64_w, i32_w]
      rfl
     refine pure_ (i := 16) (N := some 12) (v := ?_) (a' := ?_) #[true, true, true, true, true, true, true, true, true, true, true, true, true, true, true, true, true, false] rfl rfl (any_of HT_.out (by kernel_rfl)) (fun _ _ _ h => h) (Or.inl ⟨by rfl, ?_⟩) ?_ ?_
     rotate_left
     ·intro w'
      go_simp
      with_reducible rfl
     rotate_left
     ·simp only [Act.put, List.setIfInBounds_toArray, List.set_cons_zero, List.set_cons_succ, i64_w, i32_w]
      rfl
     refine pure_ (i := 17) (N := some 13) (v := ?_) (a' := ?_) #[true, true, true, true, true, true, true, true, true, true, true, true, true, true, true, true, true, true] rfl rfl (any_of HT_.out (by kernel_rfl)) (fun _ _ _ h => h) (Or.inl ⟨by rfl, ?_⟩) ?_ ?_
     rotate_left
     ·intro w'
      go_simp
      with_reducible rfl
     rotate_left
     ·simp only [Act.put, List.setIfInBounds_toArray, List.set_cons_zero, List.set_cons_succ, i64_w, i32_w]
      rfl
     refine done_ (done_of HT_.out (by kernel_rfl)) ?_
     try go_wp2
     go_meet
     case rel => exact ⟨_, (false), (false), (by first | rfl | (simp; done) | (simp [*]; done)), (by first | rfl | (simp; done) | (simp [*]; done)), H', ⟨by first | omega | exact Nat.le_refl _⟩, ⟨bk_ BK274.out⟩, ⟨bk_ BK285.out⟩, ⟨bk_ BK286.out⟩, ⟨es_⟩⟩
    ·replace c35 := Bool.eq_false_iff.mpr c35
     subst c35
     have H1 : (impl_FDiv.j0 k (t275 != t280) false (t283 == 0) t271 t272 t275 t276 true t278 t279 t280 t281 false t283 t284) = some r := by rw [if_neg (show ¬ (false = true) by decide)] at H; first | done | exact H
     clear H
     have H := H1
     clear H1
     have H' := Aside0.mk H
     clear H
     try go_wp2
     replace BK274 := Aside0.mk (blk_drew BK274.out)
     replace BK285 := Aside0.mk (blk_drew BK285.out)
     replace BK286 := Aside0.mk (blk_drew BK286.out)
     replace HB := Aside0.mk (below_drew1 HB.out)
     refine start_ (n := 18) (S := fun w' => w'.cell? ⟨gb285, 0, none⟩ = some (.bool t275) ∧ w'.cell? ⟨gb285, 1, none⟩ = some (.bool t276) ∧ w'.cell? ⟨gb285, 2, none⟩ = some (.bool true) ∧ w'.cell? ⟨gb285, 3, none⟩ = some (.int .u64 t278) ∧ w'.cell? ⟨gb285, 4, none⟩ = some (.int .i64 t279) ∧ w'.cell? ⟨gb286, 0, none⟩ = some (.bool t280) ∧ w'.cell? ⟨gb286, 1, none⟩ = some (.bool t281) ∧ w'.cell? ⟨gb286, 2, none⟩ = some (.bool false) ∧ w'.cell? ⟨gb286, 3, none⟩ = some (.int .u64 t283) ∧ w'.cell? ⟨gb286, 4, none⟩ = some (.int .i64 t284)) (ds := []) #[false, false, false, false, false, false, false, false, false, false, false, false, false, false, false, false, false, false] (by kernel_rfl) rfl rfl ⟨(blk_cell BK285.out 0).trans rfl, (blk_cell BK285.out 1).trans rfl, (blk_cell BK285.out 2).trans rfl, (blk_cell BK285.out 3).trans rfl, (blk_cell BK285.out 4).trans rfl, (blk_cell BK286.out 0).trans rfl, (blk_cell BK286.out 1).trans rfl, (blk_cell BK286.out 2).trans rfl, (blk_cell BK286.out 3).trans rfl, (blk_cell BK286.out 4).trans rfl⟩ (fun hHeld => ?_); refine with_tabW impl_FDiv.tab6 impl_FDiv.bits6 (fun HT_ HW_ => ?_)
     generalize w28.drew = w37 at BK274 BK285 BK286 HB hHeld ⊢
     refine pure_ (i := 0) (N := some 34) (v := ?_) (a' := ?_) #[true, false, false, false, false, false, false, false, false, false, false, false, false, false, false, false, false, false] rfl rfl (any_of HT_.out (by kernel_rfl)) (fun _ _ _ h => h) (Or.inl ⟨by rfl, ?_⟩) ?_ ?_
     rotate_left
     ·intro w'
      go_simp
      with_reducible rfl
     rotate_left
     ·simp only [Act.put, List.setIfInBounds_toArray, List.set_cons_zero, List.set_cons_succ, i64_w, i32_w]
      rfl
     refine pure_ (i := 8) (N := some 42) (v := ?_) (a' := ?_) #[true, false, false, false, false, false, false, false, true, false, false, false, false, false, false, false, false, false] rfl rfl (any_of HT_.out (by kernel_rfl)) (fun _ _ _ h => h) (Or.inl ⟨by rfl, ?_⟩) ?_ ?_
     rotate_left
     ·intro w'
      go_simp
      with_reducible rfl
     rotate_left
     ·simp only [Act.put, List.setIfInBounds_toArray, List.set_cons_zero, List.set_cons_succ, i64_w, i32_w]
      rfl
     refine take_ (i := 1) (N := some 35) (v := ?_) (a' := ?_) #[true, true, false, false, false, false, false, false, true, false, false, false, false, false, false, false, false, false] rfl rfl (take_ofW HT_.out HW_.out (by kernel_rfl)) (fun _ _ _ h => h) (Or.inl ⟨by rfl, ?_⟩) hHeld ?_ ?_
     rotate_left
     ·rintro w' ⟨s0, s1, s2, s3, s4, s5, s6, s7, s8, s9⟩
      go_simp
      with_reducible rfl
     rotate_left
     ·simp only [Act.put, List.setIfInBounds_toArray, List.set_cons_zero, List.set_cons_succ, i64_w, i32_w]
      rfl
     refine pure_ (i := 2) (N := some 36) (v := ?_) (a' := ?_) #[true, true, true, false, false, false, false, false, true, false, false, false, false, false, false, false, false, false] rfl rfl (any_of HT_.out (by kernel_rfl)) (fun _ _ _ h => h) (Or.inl ⟨by rfl, ?_⟩) ?_ ?_
     rotate_left
     ·intro w'
      go_simp
      with_reducible rfl
     rotate_left
     ·simp only [Act.put, List.setIfInBounds_toArray, List.set_cons_zero, List.set_cons_succ, i64_w, i32_w]
      rfl
     refine pure_ (i := 3) (N := some 37) (v := ?_) (a' := ?_) #[true, true, true, true, false, false, false, false, true, false, false, false, false, false, false, false, false, false] rfl rfl (any_of HT_.out (by kernel_rfl)) (fun _ _ _ h => h) (Or.inl ⟨by rfl, ?_⟩) ?_ ?_
     rotate_left
     ·intro w'
      go_simp
      with_reducible rfl
     rotate_left
     ·simp only [Act.put, List.setIfInBounds_toArray, List.set_cons_zero, List.set_cons_succ, i64_w, i32_w]
      rfl
     refine pure_ (i := 4) (N := some 38) (v := undef) (a' := ?_) #[true, true, true, true, true, false, false, false, true, false, false, false, false, false, false, false, false, false] rfl rfl (any_of HT_.out (by kernel_rfl)) (fun _ _ _ h => h) (Or.inr ⟨by rfl, rfl⟩) ?_ ?_
     rotate_left
     ·simp only [Act.put, List.setIfInBounds_toArray, List.set_cons_zero, List.set_cons_succ, i64_w, i32_w]
      rfl
     refine pure_ (i := 5) (N := some 39) (v := undef) (a' := ?_) #[true, true, true, true, true, true, false, false, true, false, false, false, false, false, false, false, false, false] rfl rfl (any_of HT_.out (by kernel_rfl)) (fun _ _ _ h => h) (Or.inr ⟨by rfl, rfl⟩) ?_ ?_
     rotate_left
     ·simp only [Act.put, List.setIfInBounds_toArray, List.set_cons_zero, List.set_cons_succ, i64_w, i32_w]
      rfl
     refine pure_ (i := 6) (N := some 40) (v := undef) (a' := ?_) #[true, true, true, true, true, true, true, false, true, false, false, false, false, false, false, false, false, false] rfl rfl (any_of HT_.out (by kernel_rfl)) (fun _ _ _ h => h) (Or.inr ⟨by rfl, rfl⟩) ?_ ?_
     rotate_left
     ·simp only [Act.put, List.setIfInBounds_toArray, List.set_cons_zero, List.set_cons_succ, i64_w, i32_w]
      rfl
     refine pure_ (i := 7) (N := some 41) (v := ?_) (a' := ?_) #[true, true, true, true, true, true, true, true, true, false, false, false, false, false, false, false, false, false] rfl rfl (any_of HT_.out (by kernel_rfl)) (fun _ _ _ h => h) (Or.inl ⟨by rfl, ?_⟩) ?_ ?_
     rotate_left
     ·intro w'
      go_simp
      with_reducible rfl
     rotate_left
     ·simp only [Act.put, List.setIfInBounds_toArray, List.set_cons_zero, List.set_cons_succ, i64_w, i32_w]
      rfl
     refine take_ (i := 9) (N := some 43) (v := ?_) (a' := ?_) #[true, true, true, true, true, true, true, true, true, true, false, false, false, false, false, false, false, false] rfl rfl (take_ofW HT_.out HW_.out (by kernel_rfl)) (fun _ _ _ h => h) (Or.inl ⟨by rfl, ?_⟩) hHeld ?_ ?_
     rotate_left
     ·rintro w' ⟨s0, s1, s2, s3, s4, s5, s6, s7, s8, s9⟩
      go_simp
      with_reducible rfl
     rotate_left
     ·simp only [Act.put, List.setIfInBounds_toArray, List.set_cons_zero, List.set_cons_succ, i64_w, i32_w]
      rfl
     refine pure_ (i := 10) (N := some 44) (v := ?_) (a' := ?_) #[true, true, true, true, true, true, true, true, true, true, true, false, false, false, false, false, false, false] rfl rfl (any_of HT_.out (by kernel_rfl)) (fun _ _ _ h => h) (Or.inl ⟨by rfl, ?_⟩) ?_ ?_
     rotate_left
     ·intro w'
      go_simp
      with_reducible rfl
     rotate_left
     ·simp only [Act.put, List.setIfInBounds_toArray, List.set_cons_zero, List.set_cons_succ, i64_w, i32_w]
      rfl
     refine pure_ (i := 11) (N := some 45) (v := ?_) (a' := ?_) #[true, true, true, true, true, true, true, true, true, true, true, true, false, false, false, false, false, false] rfl rfl (any_of HT_.out (by kernel_rfl)) (fun _ _ _ h => h) (Or.inl ⟨by rfl, ?_⟩) ?_ ?_
     rotate_left
     ·intro w'
      go_simp
      with_reducible rfl
     rotate_left
     ·simp only [Act.put, List.setIfInBounds_toArray, List.set_cons_zero, List.set_cons_succ, i64_w, i32_w]
      rfl
     refine pure_ (i := 12) (N := some 46) (v := ?_) (a' := ?_) #[true, true, true, true, true, true, true, true, true, true, true, true, true, false, false, false, false, false] rfl rfl (any_of HT_.out (by kernel_rfl)) (fun _ _ _ h => h) (Or.inl ⟨by rfl, ?_⟩) ?_ ?_
     rotate_left
     ·intro w'
      go_simp
      with_reducible rfl
     rotate_left
     ·simp only [Act.put, List.setIfInBounds_toArray, List.set_cons_zero, List.set_cons_succ, i64_w, i32_w]
      rfl
     refine pure_ (i := 16) (N := some 12) (v := ?_) (a' := ?_) #[true, true, true, true, true, true, true, true, true, true, true, true, true, false, false, false, true, false] rfl rfl (any_of HT_.out (by kernel_rfl)) (fun _ _ _ h => h) (Or.inl ⟨by rfl, ?_⟩) ?_ ?_
     rotate_left
     ·intro w'
      go_simp
      with_reducible rfl
     rotate_left
     ·simp only [Act.put, List.setIfInBounds_toArray, List.set_cons_zero, List.set_cons_succ, i64_w, i32_w]
      rfl
     refine take_ (i := 13) (N := some 47) (v := ?_) (a' := ?_) #[true, true, true, true, true, true, true, true, true, true, true, true, true, true, false, false, true, false] rfl rfl (take_ofW HT_.out HW_.out (by kernel_rfl)) (fun _ _ _ h => h) (Or.inl ⟨by rfl, ?_⟩) hHeld ?_ ?_
     rotate_left
     ·rintro w' ⟨s0, s1, s2, s3, s4, s5, s6, s7, s8, s9⟩
      go_simp
      with_reducible rfl
     rotate_left
     ·simp only [Act.put, List.setIfInBounds_toArray, List.set_cons_zero, List.set_cons_succ, i64_w, i32_w]
      rfl
     refine pure_ (i := 14) (N := some 48) (v := ?_) (a' := ?_) #[true, true, true, true, true, true, true, true, true, true, true, true, true, true, true, false, true, false] rfl rfl (any_of HT_.out (by kernel_rfl)) (fun _ _ _ h => h) (Or.inl ⟨by rfl, ?_⟩) ?_ ?_
     rotate_left
     ·intro w'
      go_simp
      with_reducible rfl
     rotate_left
     ·simp only [Act.put, List.setIfInBounds_toArray, List.set_cons_zero, List.set_cons_succ, i64_w, i32_w]
      rfl
     refine pure_ (i := 15) (N := some 49) (v := ?_) (a' := ?_) #[true, true, true, true, true, true, true, true, true, true, true, true, true, true, true, true, true, false] rfl rfl (any_of HT_.out (by kernel_rfl)) (fun _ _ _ h => h) (Or.inl ⟨by rfl, ?_⟩) ?_ ?_
     rotate_left
     ·intro w'
      go_simp
      with_reducible rfl
     rotate_left
     ·simp only [Act.put, List.setIfInBounds_toArray, List.set_cons_zero, List.set_cons_succ, i64_w, i32_w]
      rfl
     refine pure_ (i := 17) (N := some 13) (v := ?_) (a' := ?_) #[true, true, true, true, true, true, true, true, true, true, true, true, true, true, true, true, true, true] rfl rfl (any_of HT_.out (by kernel_rfl)) (fun _ _ _ h => h) (Or.inl ⟨by rfl, ?_⟩) ?_ ?_
     rotate_left
     ·intro w'
      go_simp
      with_reducible rfl
     rotate_left
     ·simp only [Act.put, List.setIfInBounds_toArray, List.set_cons_zero, List.set_cons_succ, i64_w, i32_w]
      rfl
     refine done_ (done_of HT_.out (by kernel_rfl)) ?_
     try go_wp2
     go_meet
     case rel => exact ⟨_, (false), ((t283 == 0)), (by first | rfl | (simp; done) | (simp [*]; done)), (by first | rfl | (simp; done) | (simp [*]; done)), H', ⟨by first | omega | exact Nat.le_refl _⟩, ⟨bk_ BK274.out⟩, ⟨bk_ BK285.out⟩, ⟨bk_ BK286.out⟩, ⟨es_⟩⟩
   ·replace c34 := Bool.eq_false_iff.mpr c34
    subst c34
    have H1 : (if t282 = true then (impl_FDiv.j0 k (t275 != t280) (t278 == 0) false t271 t272 t275 t276 false t278 t279 t280 t281 t282 t283 t284) else (impl_FDiv.j0 k (t275 != t280) (t278 == 0) (t283 == 0) t271 t272 t275 t276 false t278 t279 t280 t281 t282 t283 t284)) = some r := by rw [if_neg (show ¬ (false = true) by decide)] at H; first | done | exact H
    clear H
    have H := H1
    clear H1
    by_cases c38 : t282 = true
    ·subst c38
     have H1 : (impl_FDiv.j0 k (t275 != t280) (t278 == 0) false t271 t272 t275 t276 false t278 t279 t280 t281 true t283 t284) = some r := by rw [if_pos rfl] at H; first | done | exact H
     clear H
     have H := H1
     clear H1
     have H' := Aside0.mk H
     clear H
     try go_wp2
     replace BK274 := Aside0.mk (blk_drew BK274.out)
     replace BK285 := Aside0.mk (blk_drew BK285.out)
     replace BK286 := Aside0.mk (blk_drew BK286.out)
     replace HB := Aside0.mk (below_drew1 HB.out)
     refine start_ (n := 18) (S := fun w' => w'.cell? ⟨gb285, 0, none⟩ = some (.bool t275) ∧ w'.cell? ⟨gb285, 1, none⟩ = some (.bool t276) ∧ w'.cell? ⟨gb285, 2, none⟩ = some (.bool false) ∧ w'.cell? ⟨gb285, 3, none⟩ = some (.int .u64 t278) ∧ w'.cell? ⟨gb285, 4, none⟩ = some (.int .i64 t279) ∧ w'.cell? ⟨gb286, 0, none⟩ = some (.bool t280) ∧ w'.cell? ⟨gb286, 1, none⟩ = some (.bool t281) ∧ w'.cell? ⟨gb286, 2, none⟩ = some (.bool true) ∧ w'.cell? ⟨gb286, 3, none⟩ = some (.int .u64 t283) ∧ w'.cell? ⟨gb286, 4, none⟩ = some (.int .i64 t284)) (ds := []) #[false, false, false, false, false, false, false, false, false, false, false, false, false, false, false, false, false, false] (by kernel_rfl) rfl rfl ⟨(blk_cell BK285.out 0).trans rfl, (blk_cell BK285.out 1).trans rfl, (blk_cell BK285.out 2).trans rfl, (blk_cell BK285.out 3).trans rfl, (blk_cell BK285.out 4).trans rfl, (blk_cell BK286.out 0).trans rfl, (blk_cell BK286.out 1).trans rfl, (blk_cell BK286.out 2).trans rfl, (blk_cell BK286.out 3).trans rfl, (blk_cell BK286.out 4).trans rfl⟩ (fun hHeld => ?_); refine with_tabW impl_FDiv.tab6 impl_FDiv.bits6 (fun HT_ HW_ => ?_)
     generalize w28.drew = w39 at BK274 BK285 BK286 HB hHeld ⊢
     refine pure_ (i := 0) (N := some 34) (v := ?_) (a' := ?_) #[true, false, false, false, false, false, false, false, false, false, false, false, false, false, false, false, false, false] rfl rfl (any_of HT_.out (by kernel_rfl)) (fun _ _ _ h => h) (Or.inl ⟨by rfl, ?_⟩) ?_ ?_
     rotate_left
     ·intro w'
      go_simp
      with_reducible rfl
     rotate_left
     ·simp only [Act.put, List.setIfInBounds_toArray, List.set_cons_zero, List.set_cons_succ, i64_w, i32_w]
      rfl
     refine pure_ (i := 8) (N := some 42) (v := ?_) (a' := ?_) #[true, false, false, false, false, false, false, false, true, false, false, false, false, false, false, false, false, false] rfl rfl (any_of HT_.out (by kernel_rfl)) (fun _ _ _ h => h) (Or.inl ⟨by rfl, ?_⟩) ?_ ?_
     rotate_left
     ·intro w'
      go_simp
      with_reducible rfl
     rotate_left
     ·simp only [Act.put, List.setIfInBounds_toArray, List.set_cons_zero, List.set_cons_succ, i64_w, i32_w]
      rfl
     refine take_ (i := 1) (N := some 35) (v := ?_) (a' := ?_) #[true, true, false, false, false, false, false, false, true, false, false, false, false, false, false, false, false, false] rfl rfl (take_ofW HT_.out HW_.out (by kernel_rfl)) (fun _ _ _ h => h) (Or.inl ⟨by rfl, ?_⟩) hHeld ?_ ?_
     rotate_left
     ·rintro w' ⟨s0, s1, s2, s3, s4, s5, s6, s7, s8, s9⟩
      go_simp
      with_reducible rfl
     rotate_left
     ·simp only [Act.put, List.setIfInBounds_toArray, List.set_cons_zero, List.set_cons_succ, i64_w, i32_w]
      rfl
     refine pure_ (i := 2) (N := some 36) (v := ?_) (a' := ?_) #[true, true, true, false, false, false, false, false, true, false, false, false, false, false, false, false, false, false] rfl rfl (any_of HT_.out (by kernel_rfl)) (fun _ _ _ h => h) (Or.inl ⟨by rfl, ?_⟩) ?_ ?_
     rotate_left
     ·intro w'
      go_simp
      with_reducible rfl
     rotate_left
     ·simp only [Act.put, List.setIfInBounds_toArray, List.set_cons_zero, List.set_cons_succ, i64_w, i32_w]
      rfl
     refine pure_ (i := 3) (N := some 37) (v := ?_) (a' := ?_) #[true, true, true, true, false, false, false, false, true, false, false, false, false, false, false, false, false, false] rfl rfl (any_of HT_.out (by kernel_rfl)) (fun _ _ _ h => h) (Or.inl ⟨by rfl, ?_⟩) ?_ ?_
     rotate_left
     ·intro w'
      go_simp
      with_reducible rfl
     rotate_left
     ·simp only [Act.put, List.setIfInBounds_toArray, List.set_cons_zero, List.set_cons_succ, i64_w, i32_w]
      rfl
     refine pure_ (i := 4) (N := some 38) (v := ?_) (a' := ?_) #[true, true, true, true, true, false, false, false, true, false, false, false, false, false, false, false, false, false] rfl rfl (any_of HT_.out (by kernel_rfl)) (fun _ _ _ h => h) (Or.inl ⟨by rfl, ?_⟩) ?_ ?_
     rotate_left
     ·intro w'
      go_simp
      with_reducible rfl
     rotate_left
     ·simp only [Act.put, List.setIfInBounds_toArray, List.set_cons_zero, List.set_cons_succ, i64_w, i32_w]
      rfl
     refine take_ (i := 5) (N := some 39) (v := ?_) (a' := ?_) #[true, true, true, true, true, true, false, false, true, false, false, false, false, false, false, false, false, false] rfl rfl (take_ofW HT_.out HW_.out (by kernel_rfl)) (fun _ _ _ h => h) (Or.inl ⟨by rfl, ?_⟩) hHeld ?_ ?_
     rotate_left
     ·rintro w' ⟨s0, s1, s2, s3, s4, s5, s6, s7, s8, s9⟩
      go_simp
      with_reducible rfl
     rotate_left
     ·simp only [Act.put, List.setIfInBounds_toArray, List.set_cons_zero, List.set_cons_succ, i64_w, i32_w]
      rfl
     refine pure_ (i := 6) (N := some 40) (v := ?_) (a' := ?_) #[true, true, true, true, true, true, true, false, true, false, false, false, false, false, false, false, false, false] rfl rfl (any_of HT_.out (by kernel_rfl)) (fun _ _ _ h => h) (Or.inl ⟨by rfl, ?_⟩) ?_ ?_
     rotate_left
     ·intro w'
      go_simp
      with_reducible rfl
     rotate_left
     ·simp only [Act.put, List.setIfInBounds_toArray, List.set_cons_zero, List.set_cons_succ, i64_w, i32_w]
      rfl
     refine pure_ (i := 7) (N := some 41) (v := ?_) (a' := ?_) #[true, true, true, true, true, true, true, true, true, false, false, false, false, false, false, false, false, false] rfl rfl (any_of HT_.out (by kernel_rfl)) (fun _ _ _ h => h) (Or.inl ⟨by rfl, ?_⟩) ?_ ?_
     rotate_left
     ·intro w'
      go_simp
      with_reducible rfl
     rotate_left
     ·simp only [Act.put, List.setIfInBounds_toArray, List.set_cons_zero, List.set_cons_succ, i64_w, i32_w]
      rfl
     refine take_ (i := 9) (N := some 43) (v := ?_) (a' := ?_) #[true, true, true, true, true, true, true, true, true, true, false, false, false, false, false, false, false, false] rfl rfl (take_ofW HT_.out HW_.out (by kernel_rfl)) (fun _ _ _ h => h) (Or.inl ⟨by rfl, ?_⟩) hHeld ?_ ?_
     rotate_left
     ·rintro w' ⟨s0, s1, s2, s3, s4, s5, s6, s7, s8, s9⟩
      go_simp
      with_reducible rfl
     rotate_left
     ·simp only [Act.put, List.setIfInBounds_toArray, List.set_cons_zero, List.set_cons_succ, i64_w, i32_w]
      rfl
     refine pure_ (i := 10) (N := some 44) (v := ?_) (a' := ?_) #[true, true, true, true, true, true, true, true, true, true, true, false, false, false, false, false, false, false] rfl rfl (any_of HT_.out (by kernel_rfl)) (fun _ _ _ h => h) (Or.inl ⟨by rfl, ?_⟩) ?_ ?_
     rotate_left
     ·intro w'
      go_simp
      with_reducible rfl
     rotate_left
     ·simp only [Act.put, List.setIfInBounds_toArray, List.set_cons_zero, List.set_cons_succ, i64_w, i32_w]
      rfl
     refine pure_ (i := 11) (N := some 45) (v := ?_) (a' := ?_) #[true, true, true, true, true, true, true, true, true, true, true, true, false, false, false, false, false, false] rfl rfl (any_of HT_.out (by kernel_rfl)) (fun _ _ _ h => h) (Or.inl ⟨by rfl, ?_⟩) ?_ ?_
     rotate_left
     ·intro w'
      go_simp
      with_reducible rfl
     rotate_left
     ·simp only [Act.put, List.setIfInBounds_toArray, List.set_cons_zero, List.set_cons_succ, i64_w, i32_w]
      rfl
     refine pure_ (i := 12) (N := some 46) (v := undef) (a' := ?_) #[true, true, true, true, true, true, true, true, true, true, true, true, true, false, false, false, false, false] rfl rfl (any_of HT_.out (by kernel_rfl)) (fun _ _ _ h => h) (Or.inr ⟨by rfl, rfl⟩) ?_ ?_
     rotate_left
     ·simp only [Act.put, List.setIfInBounds_toArray, List.set_cons_zero, List.set_cons_succ, i64_w, i32_w]
      rfl
     refine pure_ (i := 13) (N := some 47) (v := undef) (a' := ?_) #[true, true, true, true, true, true, true, true, true, true, true, true, true, true, false, false, false, false] rfl rfl (any_of HT_.out (by kernel_rfl)) (fun _ _ _ h => h) (Or.inr ⟨by rfl, rfl⟩) ?_ ?_
     rotate_left
     ·simp only [Act.put, List.setIfInBounds_toArray, List.set_cons_zero, List.set_cons_succ, i64_w, i32_w]
      rfl
     refine pure_ (i := 14) (N := some 48) (v := undef) (a' := ?_) #[true, true, true, true, true, true, true, true, true, true, true, true, true, true, true, false, false, false] rfl rfl (any_of HT_.out (by kernel_rfl)) (fun _ _ _ h => h) (Or.inr ⟨by rfl, rfl⟩) ?_ ?_
     rotate_left
     ·simp only [Act.put, List.setIfInBounds_toArray, List.set_cons_zero, List.set_cons_succ, i64_w, i32_w]
      rfl
     refine pure_ (i := 15) (N := some 49) (v := ?_) (a' := ?_) #[true, true, true, true, true, true, true, true, true, true, true, true, true, true, true, true, false, false] rfl rfl (any_of HT_.out (by kernel_rfl)) (fun _ _ _ h => h) (Or.inl ⟨by rfl, ?_⟩) ?_ ?_
     rotate_left
     ·intro w'
      go_simp
      with_reducible rfl
     rotate_left
     ·simp only [Act.put, List.setIfInBounds_toArray, List.set_cons_zero, List.set_cons_succ, i64_w, i32_w]
      rfl
     refine pure_ (i := 16) (N := some 12) (v := ?_) (a' := ?_) #[true, true, true, true, true, true, true, true, true, true, true, true, true, true, true, true, true, false] rfl rfl (any_of HT_.out (by kernel_rfl)) (fun _ _ _ h => h) (Or.inl ⟨by rfl, ?_⟩) ?_ ?_
     rotate_left
     ·intro w'
      go_simp
      with_reducible rfl
     rotate_left
     ·simp only [Act.put, List.setIfInBounds_toArray, List.set_cons_zero, List.set_cons_succ, i64_w, i32_w]
      rfl
     refine pure_ (i := 17) (N := some 13) (v := ?_) (a' := ?_) #[true, true, true, true, true, true, true, true, true, true, true, true, true, true, true, true, true, true] rfl rfl (any_of HT_.out (by kernel_rfl)) (fun _ _ _ h => h) (Or.inl ⟨by rfl, ?_⟩) ?_ ?_
     rotate_left
     ·intro w'
      go_simp
      with_reducible rfl
     rotate_left
     ·simp only [Act.put, List.setIfInBounds_toArray, List.set_cons_zero, List.set_cons_succ, i64_w, i32_w]
      rfl
     refine done_ (done_of HT_.out (by kernel_rfl)) ?_
     try go_wp2
     go_meet
     case rel => exact ⟨_, ((t278 == 0)), (false), (by first | rfl | (simp; done) | (simp [*]; done)), (by first | rfl | (simp; done) | (simp [*]; done)), H', ⟨by first | omega | exact Nat.le_refl _⟩, ⟨bk_ BK274.out⟩, ⟨bk_ BK285.out⟩, ⟨bk_ BK286.out⟩, ⟨es_⟩⟩
    ·replace c38 := Bool.eq_false_iff.mpr c38
     subst c38
     have H1 : (impl_FDiv.j0 k (t275 != t280) (t278 == 0) (t283 == 0) t271 t272 t275 t276 false t278 t279 t280 t281 false t283 t284) = some r := by rw [if_neg (show ¬ (false = true) by decide)] at H; first | done | exact H
     clear H
     have H := H1
     clear H1
     have H' := Aside0.mk H
     clear H
     try go_wp2
     replace BK274 := Aside0.mk (blk_drew BK274.out)
     replace BK285 := Aside0.mk (blk_drew BK285.out)
     replace BK286 := Aside0.mk (blk_drew BK286.out)
     replace HB := Aside0.mk (below_drew1 HB.out)
     refine start_ (n := 18) (S := fun w' => w'.cell? ⟨gb285, 0, none⟩ = some (.bool t275) ∧ w'.cell? ⟨gb285, 1, none⟩ = some (.bool t276) ∧ w'.cell? ⟨gb285, 2, none⟩ = some (.bool false) ∧ w'.cell? ⟨gb285, 3, none⟩ = some (.int .u64 t278) ∧ w'.cell? ⟨gb285, 4, none⟩ = some (.int .i64 t279) ∧ w'.cell? ⟨gb286, 0, none⟩ = some (.bool t280) ∧ w'.cell? ⟨gb286, 1, none⟩ = some (.bool t281) ∧ w'.cell? ⟨gb286, 2, none⟩ = some (.bool false) ∧ w'.cell? ⟨gb286, 3, none⟩ = some (.int .u64 t283) ∧ w'.cell? ⟨gb286, 4, none⟩ = some (.int .i64 t284)) (ds := []) #[false, false, false, false, false, false, false, false, false, false, false, false, false, false, false, false, false, false] (by kernel_rfl) rfl rfl ⟨(blk_cell BK285.out 0).trans rfl, (blk_cell BK285.out 1).trans rfl, (blk_cell BK285.out 2).trans rfl, (blk_cell BK285.out 3).trans rfl, (blk_cell BK285.out 4).trans rfl, (blk_cell BK286.out 0).trans rfl, (blk_cell BK286.out 1).trans rfl, (blk_cell BK286.out 2).trans rfl, (blk_cell BK286.out 3).trans rfl, (blk_cell BK286.out 4).trans rfl⟩ (fun hHeld => ?_); refine with_tabW impl_FDiv.tab6 impl_FDiv.bits6 (fun HT_ HW_ => ?_)
     generalize w28.drew = w40 at BK274 BK285 BK286 HB hHeld ⊢
     refine pure_ (i := 0) (N := some 34) (v := ?_) (a' := ?_) #[true, false, false, false, false, false, false, false, false, false, false, false, false, false, false, false, false, false] rfl rfl (any_of HT_.out (by kernel_rfl)) (fun _ _ _ h => h) (Or.inl ⟨by rfl, ?_⟩) ?_ ?_
     rotate_left
     ·intro w'
      go_simp
      with_reducible rfl
     rotate_left
     ·simp only [Act.put, List.setIfInBounds_toArray, List.set_cons_zero, List.set_cons_succ, i64_w, i32_w]
      rfl
     refine pure_ (i := 8) (N := some 42) (v := ?_) (a' := ?_) #[true, false, false, false, false, false, false, false, true, false, false, false, false, false, false, false, false, false] rfl rfl (any_of HT_.out (by kernel_rfl)) (fun _ _ _ h => h) (Or.inl ⟨by rfl, ?_⟩) ?_ ?_
     rotate_left
     ·intro w'
      go_simp
      with_reducible rfl
     rotate_left
     ·simp only [Act.put, List.setIfInBounds_toArray, List.set_cons_zero, List.set_cons_succ, i64_w, i32_w]
      rfl
     refine take_ (i := 1) (N := some 35) (v := ?_) (a' := ?_) #[true, true, false, false, false, false, false, false, true, false, false, false, false, false, false, false, false, false] rfl rfl (take_ofW HT_.out HW_.out (by kernel_rfl)) (fun _ _ _ h => h) (Or.inl ⟨by rfl, ?_⟩) hHeld ?_ ?_
     rotate_left
     ·rintro w' ⟨s0, s1, s2, s3, s4, s5, s6, s7, s8, s9⟩
      go_simp
      with_reducible rfl
     rotate_left
     ·simp only [Act.put, List.setIfInBounds_toArray, List.set_cons_zero, List.set_cons_succ, i64_w, i32_w]
      rfl
     refine pure_ (i := 2) (N := some 36) (v := ?_) (a' := ?_) #[true, true, true, false, false, false, false, false, true, false, false, false, false, false, false, false, false, false] rfl rfl (any_of HT_.out (by kernel_rfl)) (fun _ _ _ h => h) (Or.inl ⟨by rfl, ?_⟩) ?_ ?_
     rotate_left
     ·intro w'
      go_simp
      with_reducible rfl
     rotate_left
     ·simp only [Act.put, List.setIfInBounds_toArray, List.set_cons_zero, List.set_cons_succ, i64_w, i32_w]
      rfl
     refine pure_ (i := 3) (N := some 37) (v := ?_) (a' := ?_) #[true, true, true, true, false, false, false, false, true, false, false, false, false, false, false, false, false, false] rfl rfl (any_of HT_.out (by kernel_rfl)) (fun _ _ _ h => h) (Or.inl ⟨by rfl, ?_⟩) ?_ ?_
     rotate_left
     ·intro w'
      go_simp
      with_reducible rfl
     rotate_left
     ·simp only [Act.put, List.setIfInBounds_toArray, List.set_cons_zero, List.set_cons_succ, i64_w, i32_w]
      rfl
     refine pure_ (i := 4) (N := some 38) (v := ?_) (a' := ?_) #[true, true, true, true, true, false, false, false, true, false, false, false, false, false, false, false, false, false] rfl rfl (any_of HT_.out (by kernel_rfl)) (fun _ _ _ h => h) (Or.inl ⟨by rfl, ?_⟩) ?_ ?_
     rotate_left
     ·intro w'
      go_simp
      with_reducible rfl
     rotate_left
     ·simp only [Act.put, List.setIfInBounds_toArray, List.set_cons_zero, List.set_cons_succ, i64_w, i32_w]
      rfl
     refine take_ (i := 5) (N := some 39) (v := ?_) (a' := ?_) #[true, true, true, true, true, true, false, false, true, false, false, false, false, false, false, false, false, false] rfl rfl (take_ofW HT_.out HW_.out (by kernel_rfl)) (fun _ _ _ h => h) (Or.inl ⟨by rfl, ?_⟩) hHeld ?_ ?_
     rotate_left
     ·rintro w' ⟨s0, s1, s2, s3, s4, s5, s6, s7, s8, s9⟩
      go_simp
      with_reducible rfl
     rotate_left
     ·simp only [Act.put, List.setIfInBounds_toArray, List.set_cons_zero, List.set_cons_succ, i64_w, i32_w]
      rfl
     refine pure_ (i := 6) (N := some 40) (v := ?_) (a' := ?_) #[true, true, true, true, true, true, true, false, true, false, false, false, false, false, false, false, false, false] rfl rfl (any_of HT_.out (by kernel_rfl)) (fun _ _ _ h => h) (Or.inl ⟨by rfl, ?_⟩) ?_ ?_
     rotate_left
     ·intro w'
      go_simp
      with_reducible rfl
     rotate_left
     ·simp only [Act.put, List.setIfInBounds_toArray, List.set_cons_zero, List.set_cons_succ, i64_w, i32_w]
      rfl
     refine pure_ (i := 7) (N := some 41) (v := ?_) (a' := ?_) #[true, true, true, true, true, true, true, true, true, false, false, false, false, false, false, false, false, false] rfl rfl (any_of HT_.out (by kernel_rfl)) (fun _ _ _ h => h) (Or.inl ⟨by rfl, ?_⟩) ?_ ?_
     rotate_left
     ·intro w'
      go_simp
      with_reducible rfl
     rotate_left
     ·simp only [Act.put, List.setIfInBounds_toArray, List.set_cons_zero, List.set_cons_succ, i64_w, i32_w]
      rfl
     refine take_ (i := 9) (N := some 43) (v := ?_) (a' := ?_) #[true, true, true, true, true, true, true, true, true, true, false, false, false, false, false, false, false, false] rfl rfl (take_ofW HT_.out HW_.out (by kernel_rfl)) (fun _ _ _ h => h) (Or.inl ⟨by rfl, ?_⟩) hHeld ?_ ?_
     rotate_left
     ·rintro w' ⟨s0, s1, s2, s3, s4, s5, s6, s7, s8, s9⟩
      go_simp
      with_reducible rfl
     rotate_left
     ·simp only [Act.put, List.setIfInBounds_toArray, List.set_cons_zero, List.set_cons_succ, i64_w, i32_w]
      rfl
     refine pure_ (i := 10) (N := some 44) (v := ?_) (a' := ?_) #[true, true, true, true, true, true, true, true, true, true, true, false, false, false, false, false, false, false] rfl rfl (any_of HT_.out (by kernel_rfl)) (fun _ _ _ h => h) (Or.inl ⟨by rfl, ?_⟩) ?_ ?_
     rotate_left
     ·intro w'
      go_simp
      with_reducible rfl
     rotate_left
     ·simp only [Act.put, List.setIfInBounds_toArray, List.set_cons_zero, List.set_cons_succ, i64_w, i32_w]
      rfl
     refine pure_ (i := 11) (N := some 45) (v := ?_) (a' := ?_) #[true, true, true, true, true, true, true, true, true, true, true, true, false, false, false, false, false, false] rfl rfl (any_of HT_.out (by kernel_rfl)) (fun _ _ _ h => h) (Or.inl ⟨by rfl, ?_⟩) ?_ ?_
     rotate_left
     ·intro w'
      go_simp
      with_reducible rfl
     rotate_left
     ·simp only [Act.put, List.setIfInBounds_toArray, List.set_cons_zero, List.set_cons_succ, i64_w, i32_w]
      rfl
     refine pure_ (i := 12) (N := some 46) (v := ?_) (a' := ?_) #[true, true, true, true, true, true, true, true, true, true, true, true, true, false, false, false, false, false] rfl rfl (any_of HT_.out (by kernel_rfl)) (fun _ _ _ h => h) (Or.inl ⟨by rfl, ?_⟩) ?_ ?_
     rotate_left
     ·intro w'
      go_simp
      with_reducible rfl
     rotate_left
     ·simp only [Act.put, List.setIfInBounds_toArray, List.set_cons_zero, List.set_cons_succ, i64_w, i32_w]
      rfl
     refine pure_ (i := 16) (N := some 12) (v := ?_) (a' := ?_) #[true, true, true, true, true, true, true, true, true, true, true, true, true, false, false, false, true, false] rfl rfl (any_of HT_.out (by kernel_rfl)) (fun _ _ _ h => h) (Or.inl ⟨by rfl, ?_⟩) ?_ ?_
     rotate_left
     ·intro w'
      go_simp
      with_reducible rfl
     rotate_left
     ·simp only [Act.put, List.setIfInBounds_toArray, List.set_cons_zero, List.set_cons_succ, i64_w, i32_w]
      rfl
     refine take_ (i := 13) (N := some 47) (v := ?_) (a' := ?_) #[true, true, true, true, true, true, true, true, true, true, true, true, true, true, false, false, true, false] rfl rfl (take_ofW HT_.out HW_.out (by kernel_rfl)) (fun _ _ _ h => h) (Or.inl ⟨by rfl, ?_⟩) hHeld ?_ ?_
     rotate_left
     ·rintro w' ⟨s0, s1, s2, s3, s4, s5, s6, s7, s8, s9⟩
      go_simp
      with_reducible rfl
     rotate_left
     ·simp only [Act.put, List.setIfInBounds_toArray, List.set_cons_zero, List.set_cons_succ, i64_w, i32_w]
      rfl
     refine pure_ (i := 14) (N := some 48) (v := ?_) (a' := ?_) #[true, true, true, true, true, true, true, true, true, true, true, true, true, true, true, false, true, false] rfl rfl (any_of HT_.out (by kernel_rfl)) (fun _ _ _ h => h) (Or.inl ⟨by rfl, ?_⟩) ?_ ?_
     rotate_left
     ·intro w'
      go_simp
      with_reducible rfl
     rotate_left
     ·simp only [Act.put, List.setIfInBounds_toArray, List.set_cons_zero, List.set_cons_succ, i64_w, i32_w]
      rfl
     refine pure_ (i := 15) (N := some 49) (v := ?_) (a' := ?_) #[true, true, true, true, true, true, true, true, true, true, true, true, true, true, true, true, true, false] rfl rfl (any_of HT_.out (by kernel_rfl)) (fun _ _ _ h => h) (Or.inl ⟨by rfl, ?_⟩) ?_ ?_
     rotate_left
     ·intro w'
      go_simp
      with_reducible rfl
     rotate_left
     ·simp only [Act.put, List.setIfInBounds_toArray, List.set_cons_zero, List.set_cons_succ, i64_w, i32_w]
      rfl
     refine pure_ (i := 17) (N := some 13) (v := ?_) (a' := ?_) #[true, true, true, true, true, true, true, true, true, true, true, true, true, true, true, true, true, true] rfl rfl (any_of HT_.out (by kernel_rfl)) (fun _ _ _ h => h) (Or.inl ⟨by rfl, ?_⟩) ?_ ?_
     rotate_left
     ·intro w'
      go_simp
      with_reducible rfl
     rotate_left
     ·simp only [Act.put, List.setIfInBounds_toArray, List.set_cons_zero, List.set_cons_succ, i64_w, i32_w]
      rfl
     refine done_ (done_of HT_.out (by kernel_rfl)) ?_
     try go_wp2
     go_meet
     case rel => exact ⟨_, ((t278 == 0)), ((t283 == 0)), (by first | rfl | (simp; done) | (simp [*]; done)), (by first | rfl | (simp; done) | (simp [*]; done)), H', ⟨by first | omega | exact Nat.le_refl _⟩, ⟨bk_ BK274.out⟩, ⟨bk_ BK285.out⟩, ⟨bk_ BK286.out⟩, ⟨es_⟩⟩
  case rest =>
   clear HC8
   try clear p2
   obtain ⟨kq, x12_7, x13_7, rfl, rfl, HA, HJ7, BK274, BK285, BK286, HB⟩ := hcut
   cases kq with
   | zero => exact absurd HA.out (by simp [impl_FDiv.j0])
   | succ kj7 =>
    have H := HA.out
    clear HA
    simp only [impl_FDiv.j0] at H
    have HC41 := Aside0.mk H
    clear H
    go_upto_region 7 with (fail)
    go_cut [50] (fun v50 wc => ∃ (kq : Nat) (x50_40 : Bool), v50 = .bool x50_40 ∧ Aside0 (impl_FDiv.j1 kq (t275 != t280) x12_7 x13_7 x50_40 t271 t272 t275 t276 t277 t278 t279 t280 t281 t282 t283 t284 = some r) ∧ Aside0 (kq ≤ kj7) ∧ Aside0 (wc.heap[gb274]? = some (.cells #[.int .i64 t271, .int .i64 t272] 96 (0, 0))) ∧ Aside0 (wc.heap[gb285]? = some (.cells #[.bool t275, .bool t276, .bool t277, .int .u64 t278, .int .i64 t279] 100 (0, 0))) ∧ Aside0 (wc.heap[gb286]? = some (.cells #[.bool t280, .bool t281, .bool t282, .int .u64 t283, .int .i64 t284] 100 (0, 0))) ∧ Aside0 (Below w.heap.size w wc))
    case first =>
     have H := HC41.out
     clear HC41
     by_cases c42 : t276 = true
     ·subst c42
      have H1 : (impl_FDiv.j1 kj7 (t275 != t280) x12_7 x13_7 true t271 t272 t275 true t277 t278 t279 t280 t281 t282 t283 t284) = some r := by rw [if_pos rfl] at H; first | done | exact H
      clear H
      have H := H1
      clear H1
      have H' := Aside0.mk H
      clear H
      have hnb43 := NB285_274.out
      have hnc43 := NB274_285.out
      have hnb44 := NB285_286.out
      have hnc44 := NB286_285.out
      obtain ⟨_, _, _, _, _, _, _, _, _, _⟩ := zc5_ BK285.out
      go_wp2
      go_meet
      case rel => exact ⟨_, (true), (by first | rfl | (simp; done) | (simp [*]; done)), H', ⟨by have := HJ7.out; first | omega | exact Nat.le_refl _⟩, ⟨bk_ BK274.out⟩, ⟨bk_ BK285.out⟩, ⟨bk_ BK286.out⟩, ⟨es_⟩⟩
     ·replace c42 := Bool.eq_false_iff.mpr c42
      subst c42
      have H1 : (if t281 = true then (impl_FDiv.j1 kj7 (t275 != t280) x12_7 x13_7 true t271 t272 t275 false t277 t278 t279 t280 t281 t282 t283 t284) else (if t277 = true then (if t282 = true then (impl_FDiv.j1 kj7 (t275 != t280) x12_7 x13_7 true t271 t272 t275 false t277 t278 t279 t280 t281 t282 t283 t284) else (if x12_7 = true then (impl_FDiv.j1 kj7 (t275 != t280) x12_7 x13_7 x13_7 t271 t272 t275 false t277 t278 t279 t280 t281 t282 t283 t284) else (impl_FDiv.j1 kj7 (t275 != t280) x12_7 x13_7 false t271 t272 t275 false t277 t278 t279 t280 t281 t282 t283 t284))) else (if x12_7 = true then (impl_FDiv.j1 kj7 (t275 != t280) x12_7 x13_7 x13_7 t271 t272 t275 false t277 t278 t279 t280 t281 t282 t283 t284) else (impl_FDiv.j1 kj7 (t275 != t280) x12_7 x13_7 false t271 t272 t275 false t277 t278 t279 t280 t281 t282 t283 t284)))) = some r := by rw [if_neg (show ¬ (false = true) by decide)] at H; first | done | exact H
      clear H
      have H := H1
      clear H1
      by_cases c46 : t281 = true
      ·subst c46
       have H1 : (impl_FDiv.j1 kj7 (t275 != t280) x12_7 x13_7 true t271 t272 t275 false t277 t278 t279 t280 true t282 t283 t284) = some r := by rw [if_pos rfl] at H; first | done | exact H
       clear H
       have H := H1
       clear H1
       have H' := Aside0.mk H
       clear H
       have hnb47 := NB285_274.out
       have hnc47 := NB274_285.out
       have hnb48 := NB285_286.out
       have hnc48 := NB286_285.out
       obtain ⟨_, _, _, _, _, _, _, _, _, _⟩ := zc5_ BK285.out
       have hnb50 := NB286_274.out
       have hnc50 := NB274_286.out
       obtain ⟨_, _, _, _, _, _, _, _, _, _⟩ := zc5_ BK286.out
       go_wp2
       go_meet
       case rel => exact ⟨_, (true), (by first | rfl | (simp; done) | (simp [*]; done)), H', ⟨by have := HJ7.out; first | omega | exact Nat.le_refl _⟩, ⟨bk_ BK274.out⟩, ⟨bk_ BK285.out⟩, ⟨bk_ BK286.out⟩, ⟨es_⟩⟩
      ·replace c46 := Bool.eq_false_iff.mpr c46
       subst c46
       have H1 : (if t277 = true then (if t282 = true then (impl_FDiv.j1 kj7 (t275 != t280) x12_7 x13_7 true t271 t272 t275 false t277 t278 t279 t280 false t282 t283 t284) else (if x12_7 = true then (impl_FDiv.j1 kj7 (t275 != t280) x12_7 x13_7 x13_7 t271 t272 t275 false t277 t278 t279 t280 false t282 t283 t284) else (impl_FDiv.j1 kj7 (t275 != t280) x12_7 x13_7 false t271 t272 t275 false t277 t278 t279 t280 false t282 t283 t284))) else (if x12_7 = true then (impl_FDiv.j1 kj7 (t275 != t280) x12_7 x13_7 x13_7 t271 t272 t275 false t277 t278 t279 t280 false t282 t283 t284) else (impl_FDiv.j1 kj7 (t275 != t280) x12_7 x13_7 false t271 t272 t275 false t277 t278 t279 t280 false t282 t283 t284))) = some r := by rw [if_neg (show ¬ (false = true) by decide)] at H; first | done | exact H
       clear H
       have H := H1
       clear H1
       by_cases c52 : t277 = true
       ·subst c52
        have H1 : (if t282 = true then (impl_FDiv.j1 kj7 (t275 != t280) x12_7 x13_7 true t271 t272 t275 false true t278 t279 t280 false t282 t283 t284) else (if x12_7 = true then (impl_FDiv.j1 kj7 (t275 != t280) x12_7 x13_7 x13_7 t271 t272 t275 false true t278 t279 t280 false t282 t283 t284) else (impl_FDiv.j1 kj7 (t275 != t280) x12_7 x13_7 false t271 t272 t275 false true t278 t279 t280 false t282 t283 t284))) = some r := by rw [if_pos rfl] at H; first | done | exact H
        clear H
        have H := H1
        clear H1
        by_cases c53 : t282 = true
        ·subst c53
         have H1 : (impl_FDiv.j1 kj7 (t275 != t280) x12_7 x13_7 true t271 t272 t275 false true t278 t279 t280 false true t283 t284) = some r := by rw [if_pos rfl] at H; first | done | exact H
         clear H
         have H := H1
         clear H1
         have H' := Aside0.mk H
         clear H
         have hnb54 := NB285_274.out
         have hnc54 := NB274_285.out
         have hnb55 := NB285_286.out
         have hnc55 := NB286_285.out
         obtain ⟨_, _, _, _, _, _, _, _, _, _⟩ := zc5_ BK285.out
         have hnb57 := NB286_274.out
         have hnc57 := NB274_286.out
         obtain ⟨_, _, _, _, _, _, _, _, _, _⟩ := zc5_ BK286.out
         go_wp2
         go_meet
         case rel => exact ⟨_, (true), (by first | rfl | (simp; done) | (simp [*]; done)), H', ⟨by have := HJ7.out; first | omega | exact Nat.le_refl _⟩, ⟨bk_ BK274.out⟩, ⟨bk_ BK285.out⟩, ⟨bk_ BK286.out⟩, ⟨es_⟩⟩
        ·replace c53 := Bool.eq_false_iff.mpr c53
         subst c53
         have H1 : (if x12_7 = true then (impl_FDiv.j1 kj7 (t275 != t280) x12_7 x13_7 x13_7 t271 t272 t275 false true t278 t279 t280 false false t283 t284) else (impl_FDiv.j1 kj7 (t275 != t280) x12_7 x13_7 false t271 t272 t275 false true t278 t279 t280 false false t283 t284)) = some r := by rw [if_neg (show ¬ (false = true) by decide)] at H; first | done | exact H
         clear H
         have H := H1
         clear H1
         by_cases c59 : x12_7 = true
         ·subst c59
          have H1 : (impl_FDiv.j1 kj7 (t275 != t280) true x13_7 x13_7 t271 t272 t275 false true t278 t279 t280 false false t283 t284) = some r := by rw [if_pos rfl] at H; first | done | exact H
          clear H
          have H := H1
          clear H1
          have H' := Aside0.mk H
          clear H
          have hnb60 := NB285_274.out
          have hnc60 := NB274_285.out
          have hnb61 := NB285_286.out
          have hnc61 := NB286_285.out
          obtain ⟨_, _, _, _, _, _, _, _, _, _⟩ := zc5_ BK285.out
          have hnb63 := NB286_274.out
          have hnc63 := NB274_286.out
          obtain ⟨_, _, _, _, _, _, _, _, _, _⟩ := zc5_ BK286.out
          go_wp2
          go_meet
          case rel => exact ⟨_, (x13_7), (by first | rfl | (simp; done) | (simp [*]; done)), H', ⟨by have := HJ7.out; first | omega | exact Nat.le_refl _⟩, ⟨bk_ BK274.out⟩, ⟨bk_ BK285.out⟩, ⟨bk_ BK286.out⟩, ⟨es_⟩⟩
         ·replace c59 := Bool.eq_false_iff.mpr c59
          subst c59
          have H1 : (impl_FDiv.j1 kj7 (t275 != t280) false x13_7 false t271 t272 t275 false true t278 t279 t280 false false t283 t284) = some r := by rw [if_neg (show ¬ (false = true) by decide)] at H; first | done | exact H
          clear H
          have H := H1
          clear H1
          have H' := Aside0.mk H
          clear H
          have hnb65 := NB285_274.out
          have hnc65 := NB274_285.out
          have hnb66 := NB285_286.out
          have hnc66 := NB286_285.out
          obtain ⟨_, _, _, _, _, _, _, _, _, _⟩ := zc5_ BK285.out
          have hnb68 := NB286_274.out
          have hnc68 := NB274_286.out
          obtain ⟨_, _, _, _, _, _, _, _, _, _⟩ := zc5_ BK286.out
          go_wp2
          go_meet
          case rel => exact ⟨_, (false), (by first | rfl | (simp; done) | (simp [*]; done)), H', ⟨by have := HJ7.out; first | omega | exact Nat.le_refl _⟩, ⟨bk_ BK274.out⟩, ⟨bk_ BK285.out⟩, ⟨bk_ BK286.out⟩, ⟨es_⟩⟩
       ·replace c52 := Bool.eq_false_iff.mpr c52
        subst c52
        have H1 : (if x12_7 = true then (impl_FDiv.j1 kj7 (t275 != t280) x12_7 x13_7 x13_7 t271 t272 t275 false false t278 t279 t280 false t282 t283 t284) else (impl_FDiv.j1 kj7 (t275 != t280) x12_7 x13_7 false t271 t272 t275 false false t278 t279 t280 false t282 t283 t284)) = some r := by rw [if_neg (show ¬ (false = true) by decide)] at H; first | done | exact H
        clear H
        have H := H1
        clear H1
        by_cases c70 : x12_7 = true
        ·subst c70
         have H1 : (impl_FDiv.j1 kj7 (t275 != t280) true x13_7 x13_7 t271 t272 t275 false false t278 t279 t280 false t282 t283 t284) = some r := by rw [if_pos rfl] at H; first | done | exact H
         clear H
         have H := H1
         clear H1
         have H' := Aside0.mk H
         clear H
         have hnb71 := NB285_274.out
         have hnc71 := NB274_285.out
         have hnb72 := NB285_286.out
         have hnc72 := NB286_285.out
         obtain ⟨_, _, _, _, _, _, _, _, _, _⟩ := zc5_ BK285.out
         have hnb74 := NB286_274.out
         have hnc74 := NB274_286.out
         obtain ⟨_, _, _, _, _, _, _, _, _, _⟩ := zc5_ BK286.out
         go_wp2
         go_meet
         case rel => exact ⟨_, (x13_7), (by first | rfl | (simp; done) | (simp [*]; done)), H', ⟨by have := HJ7.out; first | omega | exact Nat.le_refl _⟩, ⟨bk_ BK274.out⟩, ⟨bk_ BK285.out⟩, ⟨bk_ BK286.out⟩, ⟨es_⟩⟩
        ·replace c70 := Bool.eq_false_iff.mpr c70
         subst c70
         have H1 : (impl_FDiv.j1 kj7 (t275 != t280) false x13_7 false t271 t272 t275 false false t278 t279 t280 false t282 t283 t284) = some r := by rw [if_neg (show ¬ (false = true) by decide)] at H; first | done | exact H
         clear H
         have H := H1
         clear H1
         have H' := Aside0.mk H
         clear H
         have hnb76 := NB285_274.out
         have hnc76 := NB274_285.out
         have hnb77 := NB285_286.out
         have hnc77 := NB286_285.out
         obtain ⟨_, _, _, _, _, _, _, _, _, _⟩ := zc5_ BK285.out
         have hnb79 := NB286_274.out
         have hnc79 := NB274_286.out
         obtain ⟨_, _, _, _, _, _, _, _, _, _⟩ := zc5_ BK286.out
         go_wp2
         go_meet
         case rel => exact ⟨_, (false), (by first | rfl | (simp; done) | (simp [*]; done)), H', ⟨by have := HJ7.out; first | omega | exact Nat.le_refl _⟩, ⟨bk_ BK274.out⟩, ⟨bk_ BK285.out⟩, ⟨bk_ BK286.out⟩, ⟨es_⟩⟩
    case rest =>
     clear HC41
     try clear p2
     try clear p2
     obtain ⟨kq, x50_40, rfl, HA, HJ40, BK274, BK285, BK286, HB⟩ := hcut
     cases kq with
     | zero => exact absurd HA.out (by simp [impl_FDiv.j1])
     | succ kj40 =>
      have H := HA.out
      clear HA
      simp only [impl_FDiv.j1] at H
      by_cases c81 : x50_40 = true
      ·subst c81
       have H1 : ((impl_format_noNumber.f t271 t272).bind fun t287 => (some t287)) = some r := by rw [if_pos rfl] at H; first | done | exact H
       clear H
       have H := H1
       clear H1
       replace H := Option.bind_eq_some_iff.mp H
       obtain ⟨t287, A820, H⟩ := H
       try dsimp only at H
       have A82 := Aside0.mk A820
       clear A820
       obtain rfl := Option.some.inj H
       have hnb83 := NB274_285.out
       have hnc83 := NB285_274.out
       have hnb84 := NB274_286.out
       have hnc84 := NB286_274.out
       obtain ⟨_, _, _, _⟩ := zc2_ BK274.out
       go_wp2_with (first | ((with_reducible refine gate_callee (f := 57) rfl ?_); refine gl_ (some 72) rfl rfl Try.func57 (by kernel_rfl) rfl #[.agg #[.int .i64 t271, .int .i64 t272]] rfl ?_; (with_reducible refine (impl_format_noNumber.calls t271 t272 t287 _ A82.out).mono ?_); rintro e w86 ⟨rfl, hb⟩; refine ⟨_, rfl, ?_⟩; replace BK274 := bb_ BK274 hb; replace BK285 := bb_ BK285 hb; replace BK286 := bb_ BK286 hb; replace HB := eh_ hb; (try clear hb)))
       go_ret
       exact ⟨by first | rfl | (simp [errW_none, errW_some] <;> rfl) | (simp [*, errW_none, errW_some] <;> rfl), es_⟩
      ·replace c81 := Bool.eq_false_iff.mpr c81
       subst c81
       have H1 : (if t277 = true then (impl_FDiv.j2 kj40 (t275 != t280) x12_7 true t271 t272 t275 t276 t277 t278 t279 t280 t281 t282 t283 t284) else (impl_FDiv.j2 kj40 (t275 != t280) x12_7 x13_7 t271 t272 t275 t276 t277 t278 t279 t280 t281 t282 t283 t284)) = some r := by rw [if_neg (show ¬ (false = true) by decide)] at H; first | done | exact H
       clear H
       have H := H1
       clear H1
       have HC87 := Aside0.mk H
       clear H
       go_upto_region 9 with (fail)
       go_cut [73] (fun v73 wc => ∃ (kq : Nat) (x73_86 : Bool), v73 = .bool x73_86 ∧ Aside0 (impl_FDiv.j2 kq (t275 != t280) x12_7 x73_86 t271 t272 t275 t276 t277 t278 t279 t280 t281 t282 t283 t284 = some r) ∧ Aside0 (kq ≤ kj40) ∧ Aside0 (wc.heap[gb274]? = some (.cells #[.int .i64 t271, .int .i64 t272] 96 (0, 0))) ∧ Aside0 (wc.heap[gb285]? = some (.cells #[.bool t275, .bool t276, .bool t277, .int .u64 t278, .int .i64 t279] 100 (0, 0))) ∧ Aside0 (wc.heap[gb286]? = some (.cells #[.bool t280, .bool t281, .bool t282, .int .u64 t283, .int .i64 t284] 100 (0, 0))) ∧ Aside0 (Below w.heap.size w wc))
       case first =>
        have H := HC87.out
        clear HC87
        by_cases c88 : t277 = true
        ·subst c88
         have H1 : (impl_FDiv.j2 kj40 (t275 != t280) x12_7 true t271 t272 t275 t276 true t278 t279 t280 t281 t282 t283 t284) = some r := by rw [if_pos rfl] at H; first | done | exact H
         clear H
         have H := H1
         clear H1
         have H' := Aside0.mk H
         clear H
         have hnb89 := NB285_274.out
         have hnc89 := NB274_285.out
         have hnb90 := NB285_286.out
         have hnc90 := NB286_285.out
         obtain ⟨_, _, _, _, _, _, _, _, _, _⟩ := zc5_ BK285.out
         go_wp2
         go_meet
         case rel => exact ⟨_, (true), (by first | rfl | (simp; done) | (simp [*]; done)), H', ⟨by have := HJ7.out; have := HJ40.out; first | omega | exact Nat.le_refl _⟩, ⟨bk_ BK274.out⟩, ⟨bk_ BK285.out⟩, ⟨bk_ BK286.out⟩, ⟨es_⟩⟩
        ·replace c88 := Bool.eq_false_iff.mpr c88
         subst c88
         have H1 : (impl_FDiv.j2 kj40 (t275 != t280) x12_7 x13_7 t271 t272 t275 t276 false t278 t279 t280 t281 t282 t283 t284) = some r := by rw [if_neg (show ¬ (false = true) by decide)] at H; first | done | exact H
         clear H
         have H := H1
         clear H1
         have H' := Aside0.mk H
         clear H
         have hnb92 := NB285_274.out
         have hnc92 := NB274_285.out
         have hnb93 := NB285_286.out
         have hnc93 := NB286_285.out
         obtain ⟨_, _, _, _, _, _, _, _, _, _⟩ := zc5_ BK285.out
         go_wp2
         go_meet
         case rel => exact ⟨_, (x13_7), (by first | rfl | (simp; done) | (simp [*]; done)), H', ⟨by have := HJ7.out; have := HJ40.out; first | omega | exact Nat.le_refl _⟩, ⟨bk_ BK274.out⟩, ⟨bk_ BK285.out⟩, ⟨bk_ BK286.out⟩, ⟨es_⟩⟩
       case rest =>
        clear HC87
        try clear p2
        try clear p2
        obtain ⟨kq, x73_86, rfl, HA, HJ86, BK274, BK285, BK286, HB⟩ := hcut
        cases kq with
        | zero => exact absurd HA.out (by simp [impl_FDiv.j2])
        | succ kj86 =>
         have H := HA.out
         clear HA
         simp only [impl_FDiv.j2] at H
         by_cases c95 : x73_86 = true
         ·subst c95
          have H1 : ((impl_format_infinite.f t271 t272 (t275 != t280)).bind fun t288 => (some t288)) = some r := by rw [if_pos rfl] at H; first | done | exact H
          clear H
          have H := H1
          clear H1
          replace H := Option.bind_eq_some_iff.mp H
          obtain ⟨t288, A960, H⟩ := H
          try dsimp only at H
          have A96 := Aside0.mk A960
          clear A960
          obtain rfl := Option.some.inj H
          have hnb97 := NB274_285.out
          have hnc97 := NB285_274.out
          have hnb98 := NB274_286.out
          have hnc98 := NB286_274.out
          obtain ⟨_, _, _, _⟩ := zc2_ BK274.out
          go_wp2_with (first | ((with_reducible refine gate_callee (f := 59) rfl ?_); refine gl_ (some 81) rfl rfl Try.func59 (by kernel_rfl) rfl #[.agg #[.int .i64 t271, .int .i64 t272], .bool (t275 != t280)] rfl ?_; (with_reducible refine (impl_format_infinite.calls t271 t272 (t275 != t280) t288 _ A96.out).mono ?_); rintro e w100 ⟨rfl, hb⟩; refine ⟨_, rfl, ?_⟩; replace BK274 := bb_ BK274 hb; replace BK285 := bb_ BK285 hb; replace BK286 := bb_ BK286 hb; replace HB := eh_ hb; (try clear hb)))
          go_ret
          exact ⟨by first | rfl | (simp [errW_none, errW_some] <;> rfl) | (simp [*, errW_none, errW_some] <;> rfl), es_⟩
         ·replace c95 := Bool.eq_false_iff.mpr c95
          subst c95
          have H1 : (if t282 = true then (impl_FDiv.j3 kj86 (t275 != t280) true t271 t272 t275 t276 t277 t278 t279 t280 t281 t282 t283 t284) else (impl_FDiv.j3 kj86 (t275 != t280) x12_7 t271 t272 t275 t276 t277 t278 t279 t280 t281 t282 t283 t284)) = some r := by rw [if_neg (show ¬ (false = true) by decide)] at H; first | done | exact H
          clear H
          have H := H1
          clear H1
          have HC101 := Aside0.mk H
          clear H
          go_upto_region 11 with (fail)
          go_cut [82] (fun v82 wc => ∃ (kq : Nat) (x82_100 : Bool), v82 = .bool x82_100 ∧ Aside0 (impl_FDiv.j3 kq (t275 != t280) x82_100 t271 t272 t275 t276 t277 t278 t279 t280 t281 t282 t283 t284 = some r) ∧ Aside0 (kq ≤ kj86) ∧ Aside0 (wc.heap[gb274]? = some (.cells #[.int .i64 t271, .int .i64 t272] 96 (0, 0))) ∧ Aside0 (wc.heap[gb285]? = some (.cells #[.bool t275, .bool t276, .bool t277, .int .u64 t278, .int .i64 t279] 100 (0, 0))) ∧ Aside0 (wc.heap[gb286]? = some (.cells #[.bool t280, .bool t281, .bool t282, .int .u64 t283, .int .i64 t284] 100 (0, 0))) ∧ Aside0 (Below w.heap.size w wc))
          case first =>
           have H := HC101.out
           clear HC101
           by_cases c102 : t282 = true
           ·subst c102
            have H1 : (impl_FDiv.j3 kj86 (t275 != t280) true t271 t272 t275 t276 t277 t278 t279 t280 t281 true t283 t284) = some r := by rw [if_pos rfl] at H; first | done | exact H
            clear H
            have H := H1
            clear H1
            have H' := Aside0.mk H
            clear H
            have hnb103 := NB286_274.out
            have hnc103 := NB274_286.out
            have hnb104 := NB286_285.out
            have hnc104 := NB285_286.out
            obtain ⟨_, _, _, _, _, _, _, _, _, _⟩ := zc5_ BK286.out
            go_wp2
            go_meet
            case rel => exact ⟨_, (true), (by first | rfl | (simp; done) | (simp [*]; done)), H', ⟨by have := HJ7.out; have := HJ40.out; have := HJ86.out; first | omega | exact Nat.le_refl _⟩, ⟨bk_ BK274.out⟩, ⟨bk_ BK285.out⟩, ⟨bk_ BK286.out⟩, ⟨es_⟩⟩
           ·replace c102 := Bool.eq_false_iff.mpr c102
            subst c102
            have H1 : (impl_FDiv.j3 kj86 (t275 != t280) x12_7 t271 t272 t275 t276 t277 t278 t279 t280 t281 false t283 t284) = some r := by rw [if_neg (show ¬ (false = true) by decide)] at H; first | done | exact H
            clear H
            have H := H1
            clear H1
            have H' := Aside0.mk H
            clear H
            have hnb106 := NB286_274.out
            have hnc106 := NB274_286.out
            have hnb107 := NB286_285.out
            have hnc107 := NB285_286.out
            obtain ⟨_, _, _, _, _, _, _, _, _, _⟩ := zc5_ BK286.out
            go_wp2
            go_meet
            case rel => exact ⟨_, (x12_7), (by first | rfl | (simp; done) | (simp [*]; done)), H', ⟨by have := HJ7.out; have := HJ40.out; have := HJ86.out; first | omega | exact Nat.le_refl _⟩, ⟨bk_ BK274.out⟩, ⟨bk_ BK285.out⟩, ⟨bk_ BK286.out⟩, ⟨es_⟩⟩
          case rest =>
           clear HC101
           try clear p2
           try clear p2
           obtain ⟨kq, x82_100, rfl, HA, HJ100, BK274, BK285, BK286, HB⟩ := hcut
           cases kq with
           | zero => exact absurd HA.out (by simp [impl_FDiv.j3])
           | succ kj100 =>
            have H := HA.out
            clear HA
            simp only [impl_FDiv.j3] at H
            by_cases c109 : x82_100 = true
            ·subst c109
             have H1 : ((impl_format_signed.f t271 t272 (t275 != t280) 0).bind fun t289 => (some t289)) = some r := by rw [if_pos rfl] at H; first | done | exact H
             clear H
             have H := H1
             clear H1
             replace H := Option.bind_eq_some_iff.mp H
             obtain ⟨t289, A1100, H⟩ := H
             try dsimp only at H
             have A110 := Aside0.mk A1100
             clear A1100
             obtain rfl := Option.some.inj H
             have hnb111 := NB274_285.out
             have hnc111 := NB285_274.out
             have hnb112 := NB274_286.out
             have hnc112 := NB286_274.out
             obtain ⟨_, _, _, _⟩ := zc2_ BK274.out
             go_wp2_with (first | ((with_reducible refine gate_callee (f := 58) rfl ?_); refine gl_ (some 90) rfl rfl Try.func58 (by kernel_rfl) rfl #[.agg #[.int .i64 t271, .int .i64 t272], .bool (t275 != t280), .int .u32 0] rfl ?_; (with_reducible refine (impl_format_signed.calls t271 t272 (t275 != t280) 0 t289 _ A110.out).mono ?_); rintro e w114 ⟨rfl, hb⟩; refine ⟨_, rfl, ?_⟩; replace BK274 := bb_ BK274 hb; replace BK285 := bb_ BK285 hb; replace BK286 := bb_ BK286 hb; replace HB := eh_ hb; (try clear hb)))
             go_ret
             exact ⟨by first | rfl | (simp [errW_none, errW_some] <;> rfl) | (simp [*, errW_none, errW_some] <;> rfl), es_⟩
            ·replace c109 := Bool.eq_false_iff.mpr c109
             subst c109
             have H1 : ((bits_Len64.f kj100 t278).bind fun t290 => (if 0 ≤ (wrap64 (60 - t290)) then (if t283 = 0 then (none) else ((impl_format_round.f kj100 t271 t272 (t275 != t280) (IntKind.u64.wrap (Int.tdiv (shl .u64 t278 (wrap64 (60 - t290))) t283)) (wrap64 ((wrap64 (t279 - (wrap64 (60 - t290)))) - t284)) ((Int.tmod (shl .u64 t278 (wrap64 (60 - t290))) t283) != 0)).bind fun t291 => (some t291))) else (none))) = some r := by rw [if_neg (show ¬ (false = true) by decide)] at H; first | done | exact H
             clear H
             have H := H1
             clear H1
             replace H := Option.bind_eq_some_iff.mp H
             obtain ⟨t290, A1150, H⟩ := H
             try dsimp only at H
             have A115 := Aside0.mk A1150
             clear A1150
             obtain ⟨ji116, hji116⟩ : ∃ j_ : Int, (wrap64 (60 - t290)) = j_ := ⟨_, rfl⟩
             first | rw [hji116] at H | simp only [hji116] at H
             (try rw [hji116] at A115)
             have hji116w : (IntKind.i64.wrap (60 - t290)) = ji116 := (i64_w _).trans hji116
             by_cases c117 : 0 ≤ (ji116)
             ·rw [if_pos c117] at H
              have c117b0 := eq_true c117
              have c117b1 : decide (0 ≤ (ji116)) = true := decide_eq_true c117
              clear c117
              obtain ⟨ji118, hji118⟩ : ∃ j_ : Int, (shl .u64 t278 (ji116)) = j_ := ⟨_, rfl⟩
              first | rw [hji118] at H | simp only [hji118] at H
              (try rw [hji118] at A115)
              have hji118_ : (IntKind.u64.wrap (t278 * 2 ^ min (ji116).toNat 64)) = ji118 := hji118
              have hji118z : (ji116) ≤ 64 → (IntKind.u64.wrap (t278 * 2 ^ (ji116).toNat)) = ji118 := shl_small hji118
              by_cases c119 : t283 = 0
              ·rw [if_pos c119] at H
               exact absurd H (by simp)
              ·rw [if_neg c119] at H
               have c119b0 : (t283 == 0) = false := beq_eq_false_iff_ne.mpr c119
               have c119b1 : (t283 != 0) = true := bne_iff_ne.mpr c119
               replace H := Option.bind_eq_some_iff.mp H
               obtain ⟨t291, A1200, H⟩ := H
               try dsimp only at H
               have A120 := Aside0.mk A1200
               clear A1200
               obtain rfl := Option.some.inj H
               have hnb121 := NB285_274.out
               have hnc121 := NB274_285.out
               have hnb122 := NB285_286.out
               have hnc122 := NB286_285.out
               obtain ⟨_, _, _, _, _, _, _, _, _, _⟩ := zc5_ BK285.out
               try go_wp2_with (first | ((with_reducible refine gate_callee (f := 60) rfl ?_); refine gl_ (some 93) rfl rfl Try.func60 (by kernel_rfl) rfl #[.int .u64 t278] rfl ?_; (with_reducible refine (bits_Len64.calls kj100 t278 t290 _ A115.out).mono ?_); rintro e w' ⟨rfl, ⟨nd, rfl⟩⟩; refine ⟨_, rfl, ?_⟩))
               (try (rw [drewN_self wc]; generalize hq_ : World.drewN wc _ = wc; have n0_ : Aside0 (wc.heap[gb274]? = some (.cells #[.int .i64 t271, .int .i64 t272] 96 (0, 0))) := ⟨by rw [← hq_]; exact (bk_ BK274.out)⟩; have n1_ : Aside0 (wc.heap[gb285]? = some (.cells #[.bool t275, .bool t276, .bool t277, .int .u64 t278, .int .i64 t279] 100 (0, 0))) := ⟨by rw [← hq_]; exact (bk_ BK285.out)⟩; have n2_ : Aside0 (wc.heap[gb286]? = some (.cells #[.bool t280, .bool t281, .bool t282, .int .u64 t283, .int .i64 t284] 100 (0, 0))) := ⟨by rw [← hq_]; exact (bk_ BK286.out)⟩; have n3_ : Aside0 (Below w.heap.size w wc) := ⟨by rw [← hq_]; exact es_⟩; clear BK274 BK285 BK286 HB hq_; have BK274 := n0_; have BK285 := n1_; have BK286 := n2_; have HB := n3_; clear n0_ n1_ n2_ n3_))
               replace BK274 := Aside0.mk (blk_drew BK274.out)
               replace BK285 := Aside0.mk (blk_drew BK285.out)
               replace BK286 := Aside0.mk (blk_drew BK286.out)
               replace HB := Aside0.mk (below_drew1 HB.out)
               refine start_ (n := 20) (S := fun w' => w'.cell? ⟨gb274, 0, none⟩ = some (.int .i64 t271) ∧ w'.cell? ⟨gb274, 1, none⟩ = some (.int .i64 t272) ∧ w'.cell? ⟨gb286, 0, none⟩ = some (.bool t280) ∧ w'.cell? ⟨gb286, 1, none⟩ = some (.bool t281) ∧ w'.cell? ⟨gb286, 2, none⟩ = some (.bool t282) ∧ w'.cell? ⟨gb286, 3, none⟩ = some (.int .u64 t283) ∧ w'.cell? ⟨gb286, 4, none⟩ = some (.int .i64 t284) ∧ w'.cell? ⟨gb285, 0, none⟩ = some (.bool t275) ∧ w'.cell? ⟨gb285, 1, none⟩ = some (.bool t276) ∧ w'.cell? ⟨gb285, 2, none⟩ = some (.bool t277) ∧ w'.cell? ⟨gb285, 3, none⟩ = some (.int .u64 t278) ∧ w'.cell? ⟨gb285, 4, none⟩ = some (.int .i64 t279)) (ds := []) #[false, false, false, false, false, false, false, false, false, false, false, false, false, false, false, false, false, false, false, false] (by kernel_rfl) rfl rfl ⟨(blk_cell BK274.out 0).trans rfl, (blk_cell BK274.out 1).trans rfl, (blk_cell BK286.out 0).trans rfl, (blk_cell BK286.out 1).trans rfl, (blk_cell BK286.out 2).trans rfl, (blk_cell BK286.out 3).trans rfl, (blk_cell BK286.out 4).trans rfl, (blk_cell BK285.out 0).trans rfl, (blk_cell BK285.out 1).trans rfl, (blk_cell BK285.out 2).trans rfl, (blk_cell BK285.out 3).trans rfl, (blk_cell BK285.out 4).trans rfl⟩ (fun hHeld => ?_); refine with_tabW impl_FDiv.tab15 impl_FDiv.bits15 (fun HT_ HW_ => ?_)
               generalize wc.drew = w124 at BK274 BK285 BK286 HB hHeld ⊢
               refine pure_ (i := 1) (N := some 100) (v := ?_) (a' := ?_) #[false, true, false, false, false, false, false, false, false, false, false, false, false, false, false, false, false, false, false, false] rfl rfl (any_of HT_.out (by kernel_rfl)) (fun _ _ _ h => h) (Or.inl ⟨by rfl, ?_⟩) ?_ ?_
               rotate_left
               ·intro w'
                go_simp
                with_reducible rfl
               rotate_left
               ·simp only [Act.put, List.setIfInBounds_toArray, List.set_cons_zero, List.set_cons_succ, i64_w, i32_w]
                rfl
               refine pure_ (i := 2) (N := some 101) (v := ?_) (a' := ?_) #[false, true, true, false, false, false, false, false, false, false, false, false, false, false, false, false, false, false, false, false] rfl rfl (any_of HT_.out (by kernel_rfl)) (fun _ _ _ h => h) (Or.inl ⟨by rfl, ?_⟩) ?_ ?_
               rotate_left
               ·intro w'
                go_simp
                with_reducible rfl
               rotate_left
               ·simp only [Act.put, List.setIfInBounds_toArray, List.set_cons_zero, List.set_cons_succ, i64_w, i32_w]
                rfl
               refine pure_ (i := 3) (N := some 102) (v := ?_) (a' := ?_) #[false, true, true, true, false, false, false, false, false, false, false, false, false, false, false, false, false, false, false, false] rfl rfl (any_of HT_.out (by kernel_rfl)) (fun _ _ _ h => h) (Or.inl ⟨by rfl, ?_⟩) ?_ ?_
               rotate_left
               ·intro w'
                go_simp
                with_reducible rfl
               rotate_left
               ·simp only [Act.put, List.setIfInBounds_toArray, List.set_cons_zero, List.set_cons_succ, i64_w, i32_w]
                rfl
               refine pure_ (i := 6) (N := some 105) (v := ?_) (a' := ?_) #[false, true, true, true, false, false, true, false, false, false, false, false, false, false, false, false, false, false, false, false] rfl rfl (any_of HT_.out (by kernel_rfl)) (fun _ _ _ h => h) (Or.inl ⟨by rfl, ?_⟩) ?_ ?_
               rotate_left
               ·intro w'
                go_simp
                with_reducible rfl
               rotate_left
               ·simp only [Act.put, List.setIfInBounds_toArray, List.set_cons_zero, List.set_cons_succ, i64_w, i32_w]
                rfl
               refine pure_ (i := 8) (N := some 107) (v := ?_) (a' := ?_) #[false, true, true, true, false, false, true, false, true, false, false, false, false, false, false, false, false, false, false, false] rfl rfl (any_of HT_.out (by kernel_rfl)) (fun _ _ _ h => h) (Or.inl ⟨by rfl, ?_⟩) ?_ ?_
               rotate_left
               ·intro w'
                go_simp
                with_reducible rfl
               rotate_left
               ·simp only [Act.put, List.setIfInBounds_toArray, List.set_cons_zero, List.set_cons_succ, i64_w, i32_w]
                rfl
               refine pure_ (i := 10) (N := some 109) (v := ?_) (a' := ?_) #[false, true, true, true, false, false, true, false, true, false, true, false, false, false, false, false, false, false, false, false] rfl rfl (any_of HT_.out (by kernel_rfl)) (fun _ _ _ h => h) (Or.inl ⟨by rfl, ?_⟩) ?_ ?_
               rotate_left
               ·intro w'
                go_simp
                with_reducible rfl
               rotate_left
               ·simp only [Act.put, List.setIfInBounds_toArray, List.set_cons_zero, List.set_cons_succ, i64_w, i32_w]
                rfl
               refine pure_ (i := 13) (N := some 112) (v := ?_) (a' := ?_) #[false, true, true, true, false, false, true, false, true, false, true, false, false, true, false, false, false, false, false, false] rfl rfl (any_of HT_.out (by kernel_rfl)) (fun _ _ _ h => h) (Or.inl ⟨by rfl, ?_⟩) ?_ ?_
               rotate_left
               ·intro w'
                go_simp
                with_reducible rfl
               rotate_left
               ·simp only [Act.put, List.setIfInBounds_toArray, List.set_cons_zero, List.set_cons_succ, i64_w, i32_w]
                rfl
               refine pure_ (i := 14) (N := some 113) (v := ?_) (a' := ?_) #[false, true, true, true, false, false, true, false, true, false, true, false, false, true, true, false, false, false, false, false] rfl rfl (any_of HT_.out (by kernel_rfl)) (fun _ _ _ h => h) (Or.inl ⟨by rfl, ?_⟩) ?_ ?_
               rotate_left
               ·intro w'
                go_simp
                with_reducible rfl
               rotate_left
               ·simp only [Act.put, List.setIfInBounds_toArray, List.set_cons_zero, List.set_cons_succ, i64_w, i32_w]
                rfl
               refine take_ (i := 0) (N := some 99) (v := ?_) (a' := ?_) #[true, true, true, true, false, false, true, false, true, false, true, false, false, true, true, false, false, false, false, false] rfl rfl (take_ofW HT_.out HW_.out (by kernel_rfl)) (fun _ _ _ h => h) (Or.inl ⟨by rfl, ?_⟩) hHeld ?_ ?_
               rotate_left
               ·rintro w' ⟨s0, s1, s2, s3, s4, s5, s6, s7, s8, s9, s10, s11⟩
                go_simp
                with_reducible rfl
               rotate_left
               ·simp only [Act.put, List.setIfInBounds_toArray, List.set_cons_zero, List.set_cons_succ, i64_w, i32_w]
                rfl
               refine take_ (i := 4) (N := some 103) (v := ?_) (a' := ?_) #[true, true, true, true, true, false, true, false, true, false, true, false, false, true, true, false, false, false, false, false] rfl rfl (take_ofW HT_.out HW_.out (by kernel_rfl)) (fun _ _ _ h => h) (Or.inl ⟨by rfl, ?_⟩) hHeld ?_ ?_
               rotate_left
               ·rintro w' ⟨s0, s1, s2, s3, s4, s5, s6, s7, s8, s9, s10, s11⟩
                go_simp
                with_reducible rfl
               rotate_left
               ·simp only [Act.put, List.setIfInBounds_toArray, List.set_cons_zero, List.set_cons_succ, i64_w, i32_w]
                rfl
               refine pure_ (i := 5) (N := some 104) (v := ?_) (a' := ?_) #[true, true, true, true, true, true, true, false, true, false, true, false, false, true, true, false, false, false, false, false] rfl rfl (any_of HT_.out (by kernel_rfl)) (fun _ _ _ h => h) (Or.inl ⟨by rfl, ?_⟩) ?_ ?_
               rotate_left
               ·intro w'
                go_simp
                with_reducible rfl
               rotate_left
               ·simp only [Act.put, List.setIfInBounds_toArray, List.set_cons_zero, List.set_cons_succ, i64_w, i32_w]
                rfl
               refine take_ (i := 7) (N := some 106) (v := ?_) (a' := ?_) #[true, true, true, true, true, true, true, true, true, false, true, false, false, true, true, false, false, false, false, false] rfl rfl (take_ofW HT_.out HW_.out (by kernel_rfl)) (fun _ _ _ h => h) (Or.inl ⟨by rfl, ?_⟩) hHeld ?_ ?_
               rotate_left
               ·rintro w' ⟨s0, s1, s2, s3, s4, s5, s6, s7, s8, s9, s10, s11⟩
                go_simp
                with_reducible rfl
               rotate_left
               ·simp only [Act.put, List.setIfInBounds_toArray, List.set_cons_zero, List.set_cons_succ, i64_w, i32_w]
                rfl
               refine pure_ (i := 9) (N := some 108) (v := ?_) (a' := ?_) #[true, true, true, true, true, true, true, true, true, true, true, false, false, true, true, false, false, false, false, false] rfl rfl (any_of HT_.out (by kernel_rfl)) (fun _ _ _ h => h) (Or.inl ⟨by rfl, ?_⟩) ?_ ?_
               rotate_left
               ·intro w'
                go_simp
                with_reducible rfl
               rotate_left
               ·simp only [Act.put, List.setIfInBounds_toArray, List.set_cons_zero, List.set_cons_succ, i64_w, i32_w]
                rfl
               refine take_ (i := 11) (N := some 110) (v := ?_) (a' := ?_) #[true, true, true, true, true, true, true, true, true, true, true, true, false, true, true, false, false, false, false, false] rfl rfl (take_ofW HT_.out HW_.out (by kernel_rfl)) (fun _ _ _ h => h) (Or.inl ⟨by rfl, ?_⟩) hHeld ?_ ?_
               rotate_left
               ·rintro w' ⟨s0, s1, s2, s3, s4, s5, s6, s7, s8, s9, s10, s11⟩
                go_simp
                with_reducible rfl
               rotate_left
               ·simp only [Act.put, List.setIfInBounds_toArray, List.set_cons_zero, List.set_cons_succ, i64_w, i32_w]
                rfl
               refine pure_ (i := 12) (N := some 111) (v := ?_) (a' := ?_) #[true, true, true, true, true, true, true, true, true, true, true, true, true, true, true, false, false, false, false, false] rfl rfl (any_of HT_.out (by kernel_rfl)) (fun _ _ _ h => h) (Or.inl ⟨by rfl, ?_⟩) ?_ ?_
               rotate_left
               ·intro w'
                go_simp
                with_reducible rfl
               rotate_left
               ·simp only [Act.put, List.setIfInBounds_toArray, List.set_cons_zero, List.set_cons_succ, i64_w, i32_w]
                rfl
               refine take_ (i := 15) (N := some 114) (v := ?_) (a' := ?_) #[true, true, true, true, true, true, true, true, true, true, true, true, true, true, true, true, false, false, false, false] rfl rfl (take_ofW HT_.out HW_.out (by kernel_rfl)) (fun _ _ _ h => h) (Or.inl ⟨by rfl, ?_⟩) hHeld ?_ ?_
               rotate_left
               ·rintro w' ⟨s0, s1, s2, s3, s4, s5, s6, s7, s8, s9, s10, s11⟩
                go_simp
                with_reducible rfl
               rotate_left
               ·simp only [Act.put, List.setIfInBounds_toArray, List.set_cons_zero, List.set_cons_succ, i64_w, i32_w]
                rfl
               refine pure_ (i := 16) (N := some 115) (v := ?_) (a' := ?_) #[true, true, true, true, true, true, true, true, true, true, true, true, true, true, true, true, true, false, false, false] rfl rfl (any_of HT_.out (by kernel_rfl)) (fun _ _ _ h => h) (Or.inl ⟨by rfl, ?_⟩) ?_ ?_
               rotate_left
               ·intro w'
                go_simp
                with_reducible rfl
               rotate_left
               ·simp only [Act.put, List.setIfInBounds_toArray, List.set_cons_zero, List.set_cons_succ, i64_w, i32_w]
                rfl
               refine pure_ (i := 17) (N := some 116) (v := ?_) (a' := ?_) #[true, true, true, true, true, true, true, true, true, true, true, true, true, true, true, true, true, true, false, false] rfl rfl (any_of HT_.out (by kernel_rfl)) (fun _ _ _ h => h) (Or.inl ⟨by rfl, ?_⟩) ?_ ?_
               rotate_left
               ·intro w'
                go_simp
                with_reducible rfl
               rotate_left
               ·simp only [Act.put, List.setIfInBounds_toArray, List.set_cons_zero, List.set_cons_succ, i64_w, i32_w]
                rfl
               refine one_ (i := 18) (N := some 117) #[true, true, true, true, true, true, true, true, true, true, true, true, true, true, true, true, true, true, true, false] rfl rfl (one_of HT_.out (by kernel_rfl)) (by decide) (fun K hK => ?_)
               refine goes_ Try.func62 (by kernel_rfl) rfl #[.agg #[.int .i64 t271, .int .i64 t272], .bool (t275 != t280), .int .u64 (IntKind.u64.wrap (Int.tdiv (ji118) t283)), .int .i64 (wrap64 ((wrap64 (t279 - (ji116))) - t284)), .bool ((Int.tmod (ji118) t283) != 0)] (by rfl) rfl rfl (by (try simp only [List.map_toArray, List.map_cons, List.map_nil]); first | done | (simp only [hji116, hji118]; rfl) | rfl | (simp only [List.length_drop, List.length_take]; rfl)) ?_
               with_reducible refine (impl_format_round.calls kj100 t271 t272 (t275 != t280) (IntKind.u64.wrap (Int.tdiv (ji118) t283)) (wrap64 ((wrap64 (t279 - (ji116))) - t284)) ((Int.tmod (ji118) t283) != 0) t291 _ A120.out).mono ?_
               rintro e w125 ⟨rfl, hb⟩
               refine ⟨_, rfl, ?_⟩
               replace BK274 := bb_ BK274 hb
               replace BK285 := bb_ BK285 hb
               replace BK286 := bb_ BK286 hb
               replace HB := eh_ hb
               (try clear hb)
               (try clear hb2)
               (try clear hk)
               (try clear hi)
               refine hK.out _ _ ⟨(blk_cell BK274.out 0).trans rfl, (blk_cell BK274.out 1).trans rfl, (blk_cell BK286.out 0).trans rfl, (blk_cell BK286.out 1).trans rfl, (blk_cell BK286.out 2).trans rfl, (blk_cell BK286.out 3).trans rfl, (blk_cell BK286.out 4).trans rfl, (blk_cell BK285.out 0).trans rfl, (blk_cell BK285.out 1).trans rfl, (blk_cell BK285.out 2).trans rfl, (blk_cell BK285.out 3).trans rfl, (blk_cell BK285.out 4).trans rfl⟩ (fun hHeld => ?_)
               clear hK K
               refine norm_ (a' := ?_) ?_ ?_
               rotate_left
               ·show Act.put _ (some 117) _ = _
                simp only [Act.put, List.setIfInBounds_toArray, List.set_cons_zero, List.set_cons_succ, i64_w, i32_w]
                rfl
               refine pure_ (i := 19) (N := some 6) (v := ?_) (a' := ?_) #[true, true, true, true, true, true, true, true, true, true, true, true, true, true, true, true, true, true, true, true] rfl rfl (any_of HT_.out (by kernel_rfl)) (fun _ _ _ h => h) (Or.inl ⟨by rfl, ?_⟩) ?_ ?_
               rotate_left
               ·intro w'
                go_simp
                with_reducible rfl
               rotate_left
               ·simp only [Act.put, List.setIfInBounds_toArray, List.set_cons_zero, List.set_cons_succ, i64_w, i32_w]
                rfl
               refine done_ (done_of HT_.out (by kernel_rfl)) ?_
               try go_wp2
               go_ret
               exact ⟨by first | rfl | (simp [errW_none, errW_some] <;> rfl) | (simp only [← hji116, ← hji118]; first | rfl | (simp [errW_none, errW_some] <;> rfl)) | (simp [*, errW_none, errW_some] <;> rfl), es_⟩
             ·rw [if_neg c117] at H
              exact absurd H (by simp)
 ·replace c5 := Bool.eq_false_iff.mpr c5
  subst c5
  have H1 : (some 0) = some r := by rw [if_neg (show ¬ (false = true) by decide)] at H; first | done | exact H
  clear H
  have H := H1
  clear H1
  obtain rfl := Option.some.inj H
  go_enter Try.func25, Try.ntmps25
  go_wp2_with (first | ((with_reducible refine gate_callee (f := 55) rfl ?_); refine gl_ (some 18) rfl rfl Try.func55 (by kernel_rfl) rfl #[.int .i64 a0] rfl ?_; (with_reducible refine (impl_formatOf.calls a0 t271 t272 false _ A4.out).mono ?_); rintro e w126 ⟨rfl, hb⟩; refine ⟨_, rfl, ?_⟩; replace HB := eh_ hb; (try clear hb)) | ((with_reducible refine gate_dst (N := 7) rfl ?_); refine box_event ?hg (N := 7) ?hd (cs := #[.int .i64 0, .int .i64 0]) (t := 96) ?hr ?_; (case hd => rfl); (case hg => rfl); (case hr => first | (go_simp; done) | (go_simp; rfl)); intro gb274 hg w127 hbox hb; have BK274 := Aside0.mk (hbox); have GW274 := Aside0.mk (gs_ hg (eb_ HB.out) : w.heap.size ≤ gb274); have GE274 := GW274; replace HB := eh_ hb; clear hb hbox hg; obtain ⟨_, _, _, _⟩ := zc2_ BK274.out))
  go_ret
  exact ⟨by first | rfl | (simp [errW_none, errW_some] <;> rfl) | (simp [*, errW_none, errW_some] <;> rfl), es_⟩

end Go.Proofs.Ytdoflfifnkpacaa.FA
