-- Printed by a program of this session (after the kit's print.sh, with contracts of its own beside): Lean checks it.
import Derived.Test.YtdoflfifnkpacaaC18FAx0
import Derived.Test.YtdoflfifnkpacaaC18FAx4
import Derived.Test.YtdoflfifnkpacaaC18FAx5
import Derived.Test.YtdoflfifnkpacaaC18FAx6
import Derived.Test.YtdoflfifnkpacaaC18FAx7
namespace Go.Proofs.Ytdoflfifnkpacaa.FA
open Go.RowKit Go.Proofs.YtdoflfifnkpacaaW.PrintWords Go.Proofs.YtdoflfifnkpacaaW.PrintLast Go.Proofs.YtdoflfifnkpacaaW.PrintMore
attribute [local go_sem] max2_int min2_int max_two min_two max_three min_three max_four min_four   -- for this text's walks alone
set_option linter.unusedVariables false
set_option linter.unusedSimpArgs false

mutual
def impl_FMul.j0 : Nat → Bool → Bool → Int → Int → Bool → Bool → Bool → Int → Int → Bool → Bool → Bool → Int → Int → Option (Int)
 | 0, _, _, _, _, _, _, _, _, _, _, _, _, _, _ => none
 | k + 1, x11, x12, x256000, x256001, x267000, x267001, x267002, x267003, x267004, x268000, x268001, x268002, x268003, x268004 => if x267001 = true then (impl_FMul.j1 k x11 true x256000 x256001 x267000 x267001 x267002 x267003 x267004 x268000 x268001 x268002 x268003 x268004) else (if x268001 = true then (impl_FMul.j1 k x11 true x256000 x256001 x267000 x267001 x267002 x267003 x267004 x268000 x268001 x268002 x268003 x268004) else (if x267002 = true then (impl_FMul.j1 k x11 x12 x256000 x256001 x267000 x267001 x267002 x267003 x267004 x268000 x268001 x268002 x268003 x268004) else (if x268002 = true then (impl_FMul.j1 k x11 x12 x256000 x256001 x267000 x267001 x267002 x267003 x267004 x268000 x268001 x268002 x268003 x268004) else (impl_FMul.j1 k x11 false x256000 x256001 x267000 x267001 x267002 x267003 x267004 x268000 x268001 x268002 x268003 x268004))))
def impl_FMul.j1 : Nat → Bool → Bool → Int → Int → Bool → Bool → Bool → Int → Int → Bool → Bool → Bool → Int → Int → Option (Int)
 | 0, _, _, _, _, _, _, _, _, _, _, _, _, _, _ => none
 | k + 1, x11, x49, x256000, x256001, x267000, x267001, x267002, x267003, x267004, x268000, x268001, x268002, x268003, x268004 => if x49 = true then ((impl_format_noNumber.f x256000 x256001).bind fun t268 => (some t268)) else (if x267002 = true then (impl_FMul.j2 k x11 true x256000 x256001 x267000 x267001 x267002 x267003 x267004 x268000 x268001 x268002 x268003 x268004) else (impl_FMul.j2 k x11 x268002 x256000 x256001 x267000 x267001 x267002 x267003 x267004 x268000 x268001 x268002 x268003 x268004))
def impl_FMul.j2 : Nat → Bool → Bool → Int → Int → Bool → Bool → Bool → Int → Int → Bool → Bool → Bool → Int → Int → Option (Int)
 | 0, _, _, _, _, _, _, _, _, _, _, _, _, _, _ => none
 | k + 1, x11, x69, x256000, x256001, x267000, x267001, x267002, x267003, x267004, x268000, x268001, x268002, x268003, x268004 => if x69 = true then ((impl_format_infinite.f x256000 x256001 x11).bind fun t269 => (some t269)) else ((impl_format_round.f k x256000 x256001 x11 (IntKind.u64.wrap (x267003 * x268003)) (wrap64 (x267004 + x268004)) false).bind fun t270 => (some t270))
end
def impl_FMul.f (k : Nat) (a0 : Int) (a1 : Int) (a2 : Int) : Option (Int) := (impl_formatOf.f a0).bind fun bt252 => (if bt252.2.2 = true then ((impl_format_open.f bt252.1 bt252.2.1 a1).bind fun bt256 => ((impl_format_open.f bt252.1 bt252.2.1 a2).bind fun bt261 => (if bt256.2.2.1 = true then (if bt261.2.2.1 = true then (impl_FMul.j0 k (bt256.1 != bt261.1) false bt252.1 bt252.2.1 bt256.1 bt256.2.1 bt256.2.2.1 bt256.2.2.2.1 bt256.2.2.2.2 bt261.1 bt261.2.1 bt261.2.2.1 bt261.2.2.2.1 bt261.2.2.2.2) else (impl_FMul.j0 k (bt256.1 != bt261.1) (bt261.2.2.2.1 == 0) bt252.1 bt252.2.1 bt256.1 bt256.2.1 bt256.2.2.1 bt256.2.2.2.1 bt256.2.2.2.2 bt261.1 bt261.2.1 bt261.2.2.1 bt261.2.2.2.1 bt261.2.2.2.2)) else (if bt256.2.2.2.1 = 0 then (impl_FMul.j0 k (bt256.1 != bt261.1) true bt252.1 bt252.2.1 bt256.1 bt256.2.1 bt256.2.2.1 bt256.2.2.2.1 bt256.2.2.2.2 bt261.1 bt261.2.1 bt261.2.2.1 bt261.2.2.2.1 bt261.2.2.2.2) else (if bt261.2.2.1 = true then (impl_FMul.j0 k (bt256.1 != bt261.1) false bt252.1 bt252.2.1 bt256.1 bt256.2.1 bt256.2.2.1 bt256.2.2.2.1 bt256.2.2.2.2 bt261.1 bt261.2.1 bt261.2.2.1 bt261.2.2.2.1 bt261.2.2.2.2) else (impl_FMul.j0 k (bt256.1 != bt261.1) (bt261.2.2.2.1 == 0) bt252.1 bt252.2.1 bt256.1 bt256.2.1 bt256.2.2.1 bt256.2.2.2.1 bt256.2.2.2.2 bt261.1 bt261.2.1 bt261.2.2.1 bt261.2.2.2.1 bt261.2.2.2.2)))))) else (some 0))
def impl_FMul.T4 : Bool × List (List Nat × List Nat) := (true, [([], []), ([], []), ([0, 1], [0, 1]), ([], []), ([], []), ([3, 4, 2], [3, 4]), ([], []), ([], []), ([6, 2, 5, 0, 1, 2, 6, 7], [2, 6]), ([7, 5, 8, 0, 1, 2, 3, 4, 5, 6, 7, 8], [5, 7])])
def impl_FMul.B4 : List Nat := [0, 0, 3, 0, 0, 31, 0, 0, 255, 511]
theorem impl_FMul.tab4 : rtab .any (opsOf Try.f24 4) = impl_FMul.T4 := by kernel_rfl
theorem impl_FMul.bits4 : waitsOk impl_FMul.T4.2 impl_FMul.B4 = true := by kernel_rfl
set_option maxHeartbeats 8000000 in
set_option maxRecDepth 100000 in
theorem impl_FMul.calls (k : Nat) (a0 : Int) (a1 : Int) (a2 : Int) (r : Int) (w : World) (h : impl_FMul.f k a0 a1 a2 = some r) :
  Calls Try.prog 24 #[.int .i64 a0, .int .u32 a1, .int .u32 a2] w fun e w' => e = .returned (.int .u32 r) ∧ Below w.heap.size w w' := by
 have hu96 := Try.underlying96
 have hu100 := Try.underlying100
 have HB := Aside0.mk (Below.refl w.heap.size w)
 have H : ((impl_formatOf.f a0).bind fun bt252 => (if bt252.2.2 = true then ((impl_format_open.f bt252.1 bt252.2.1 a1).bind fun bt256 => ((impl_format_open.f bt252.1 bt252.2.1 a2).bind fun bt261 => (if bt256.2.2.1 = true then (if bt261.2.2.1 = true then (impl_FMul.j0 k (bt256.1 != bt261.1) false bt252.1 bt252.2.1 bt256.1 bt256.2.1 bt256.2.2.1 bt256.2.2.2.1 bt256.2.2.2.2 bt261.1 bt261.2.1 bt261.2.2.1 bt261.2.2.2.1 bt261.2.2.2.2) else (impl_FMul.j0 k (bt256.1 != bt261.1) (bt261.2.2.2.1 == 0) bt252.1 bt252.2.1 bt256.1 bt256.2.1 bt256.2.2.1 bt256.2.2.2.1 bt256.2.2.2.2 bt261.1 bt261.2.1 bt261.2.2.1 bt261.2.2.2.1 bt261.2.2.2.2)) else (if bt256.2.2.2.1 = 0 then (impl_FMul.j0 k (bt256.1 != bt261.1) true bt252.1 bt252.2.1 bt256.1 bt256.2.1 bt256.2.2.1 bt256.2.2.2.1 bt256.2.2.2.2 bt261.1 bt261.2.1 bt261.2.2.1 bt261.2.2.2.1 bt261.2.2.2.2) else (if bt261.2.2.1 = true then (impl_FMul.j0 k (bt256.1 != bt261.1) false bt252.1 bt252.2.1 bt256.1 bt256.2.1 bt256.2.2.1 bt256.2.2.2.1 bt256.2.2.2.2 bt261.1 bt261.2.1 bt261.2.2.1 bt261.2.2.2.1 bt261.2.2.2.2) else (impl_FMul.j0 k (bt256.1 != bt261.1) (bt261.2.2.2.1 == 0) bt252.1 bt252.2.1 bt256.1 bt256.2.1 bt256.2.2.1 bt256.2.2.2.1 bt256.2.2.2.2 bt261.1 bt261.2.1 bt261.2.2.1 bt261.2.2.2.1 bt261.2.2.2.2)))))) else (some 0))) = some r := h
 clear h
 replace H := Option.bind_eq_some_iff.mp H
 obtain ⟨⟨t252, t253, t254⟩, A40, H⟩ := H
 try dsimp only at H
 have A4 := Aside0.mk A40
 clear A40
 by_cases c5 : t254 = true
 ·subst c5
  have H1 : ((impl_format_open.f t252 t253 a1).bind fun bt256 => ((impl_format_open.f t252 t253 a2).bind fun bt261 => (if bt256.2.2.1 = true then (if bt261.2.2.1 = true then (impl_FMul.j0 k (bt256.1 != bt261.1) false t252 t253 bt256.1 bt256.2.1 bt256.2.2.1 bt256.2.2.2.1 bt256.2.2.2.2 bt261.1 bt261.2.1 bt261.2.2.1 bt261.2.2.2.1 bt261.2.2.2.2) else (impl_FMul.j0 k (bt256.1 != bt261.1) (bt261.2.2.2.1 == 0) t252 t253 bt256.1 bt256.2.1 bt256.2.2.1 bt256.2.2.2.1 bt256.2.2.2.2 bt261.1 bt261.2.1 bt261.2.2.1 bt261.2.2.2.1 bt261.2.2.2.2)) else (if bt256.2.2.2.1 = 0 then (impl_FMul.j0 k (bt256.1 != bt261.1) true t252 t253 bt256.1 bt256.2.1 bt256.2.2.1 bt256.2.2.2.1 bt256.2.2.2.2 bt261.1 bt261.2.1 bt261.2.2.1 bt261.2.2.2.1 bt261.2.2.2.2) else (if bt261.2.2.1 = true then (impl_FMul.j0 k (bt256.1 != bt261.1) false t252 t253 bt256.1 bt256.2.1 bt256.2.2.1 bt256.2.2.2.1 bt256.2.2.2.2 bt261.1 bt261.2.1 bt261.2.2.1 bt261.2.2.2.1 bt261.2.2.2.2) else (impl_FMul.j0 k (bt256.1 != bt261.1) (bt261.2.2.2.1 == 0) t252 t253 bt256.1 bt256.2.1 bt256.2.2.1 bt256.2.2.2.1 bt256.2.2.2.2 bt261.1 bt261.2.1 bt261.2.2.1 bt261.2.2.2.1 bt261.2.2.2.2)))))) = some r := by rw [if_pos rfl] at H; first | done | exact H
  clear H
  have H := H1
  clear H1
  replace H := Option.bind_eq_some_iff.mp H
  obtain ⟨⟨t256, t257, t258, t259, t260⟩, A60, H⟩ := H
  try dsimp only at H
  have A6 := Aside0.mk A60
  clear A60
  replace H := Option.bind_eq_some_iff.mp H
  obtain ⟨⟨t261, t262, t263, t264, t265⟩, A70, H⟩ := H
  try dsimp only at H
  have A7 := Aside0.mk A70
  clear A70
  have HC8 := Aside0.mk H
  clear H
  go_enter Try.func24, Try.ntmps24
  try go_wp2_with (first | ((with_reducible refine gate_callee (f := 55) rfl ?_); refine gl_ (some 15) rfl rfl Try.func55 (by kernel_rfl) rfl #[.int .i64 a0] rfl ?_; (with_reducible refine (impl_formatOf.calls a0 t252 t253 true _ A4.out).mono ?_); rintro e w9 ⟨rfl, hb⟩; refine ⟨_, rfl, ?_⟩; replace HB := eh_ hb; (try clear hb)) | ((with_reducible refine gate_dst (N := 7) rfl ?_); refine box_event ?hg (N := 7) ?hd (cs := #[.int .i64 0, .int .i64 0]) (t := 96) ?hr ?_; (case hd => rfl); (case hg => rfl); (case hr => first | (go_simp; done) | (go_simp; rfl)); intro gb255 hg w10 hbox hb; have BK255 := Aside0.mk (hbox); have GW255 := Aside0.mk (gs_ hg (eb_ HB.out) : w.heap.size ≤ gb255); have GE255 := GW255; replace HB := eh_ hb; clear hb hbox hg; obtain ⟨_, _, _, _⟩ := zc2_ BK255.out))
  have n0_ : Aside0 (((w10.setCell ⟨gb255, 0, none⟩ (.int .i64 t252)).setCell ⟨gb255, 1, none⟩ (.int .i64 t253)).heap[gb255]? = some (.cells #[.int .i64 t252, .int .i64 t253] 96 (0, 0))) := ⟨by (with_reducible repeat first | apply bN | apply bD | apply bA); refine blk_put (cs := #[.int .i64 t252, .int .i64 0]) ?_ 1 _ rfl; (with_reducible repeat first | apply bN | apply bD | apply bA); refine blk_put (cs := #[.int .i64 0, .int .i64 0]) ?_ 0 _ rfl; (with_reducible repeat first | apply bN | apply bD | apply bA); exact BK255.out⟩
  have n1_ : Aside0 (Below w.heap.size w ((w10.setCell ⟨gb255, 0, none⟩ (.int .i64 t252)).setCell ⟨gb255, 1, none⟩ (.int .i64 t253))) := ⟨es_⟩
  (try clear BK255)
  (try clear HB)
  generalize ((w10.setCell ⟨gb255, 0, none⟩ (.int .i64 t252)).setCell ⟨gb255, 1, none⟩ (.int .i64 t253)) = w12 at n0_ n1_ ⊢
  have BK255 := n0_
  have HB := n1_
  clear n0_ n1_
  replace BK255 := Aside0.mk (blk_drew BK255.out)
  replace HB := Aside0.mk (below_drew1 HB.out)
  refine start_ (n := 10) (S := fun w' => True) (ds := []) #[false, false, false, false, false, false, false, false, false, false] (by kernel_rfl) rfl rfl trivial (fun hHeld => ?_); refine with_tabW impl_FMul.tab4 impl_FMul.bits4 (fun HT_ HW_ => ?_)
  generalize w12.drew = w13 at BK255 HB hHeld ⊢
  refine pure_ (i := 1) (N := some 21) (v := ?_) (a' := ?_) #[false, true, false, false, false, false, false, false, false, false] rfl rfl (any_of HT_.out (by kernel_rfl)) (fun _ _ _ h => h) (Or.inl ⟨by rfl, ?_⟩) ?_ ?_
  rotate_left
  ·intro w'
   go_simp
   with_reducible rfl
  rotate_left
  ·simp only [Act.put, List.setIfInBounds_toArray, List.set_cons_zero, List.set_cons_succ, i64_w, i32_w]
   rfl
  refine pure_ (i := 4) (N := some 24) (v := ?_) (a' := ?_) #[false, true, false, false, true, false, false, false, false, false] rfl rfl (any_of HT_.out (by kernel_rfl)) (fun _ _ _ h => h) (Or.inl ⟨by rfl, ?_⟩) ?_ ?_
  rotate_left
  ·intro w'
   go_simp
   with_reducible rfl
  rotate_left
  ·simp only [Act.put, List.setIfInBounds_toArray, List.set_cons_zero, List.set_cons_succ, i64_w, i32_w]
   rfl
  refine inv_at [0, 2, 3, 5, 6, 7, 8, 9] (fun a0_ b a w' => ∃ (gb266 : Nat) (gb267 : Nat) (m6_ : Value) (m7_ : Value), a = putSel a0_ b [(0, 20, .agg #[.int .i64 t252, .int .i64 t253]), (2, 22, .agg #[.bool t256, .bool t257, .bool t258, .int .u64 t259, .int .i64 t260]), (3, 23, .agg #[.int .i64 t252, .int .i64 t253]), (5, 25, .agg #[.bool t261, .bool t262, .bool t263, .int .u64 t264, .int .i64 t265]), (6, 9, m6_), (7, 10, m7_)] ∧ (w'.heap[gb255]? = some (.cells #[.int .i64 t252, .int .i64 t253] 96 (0, 0))) ∧ (Below w.heap.size w w') ∧ (b 6 = true → b 7 = true → gb267 ≠ gb266) ∧ (b 6 = true → b 7 = true → gb266 ≠ gb267) ∧ (b 6 = true → b 8 = false → w'.heap[gb266]? = some (.cells #[.bool false, .bool false, .bool false, .int .u64 0, .int .i64 0] 100 (0, 0))) ∧ (b 6 = true → w.heap.size ≤ gb266) ∧ (b 6 = true → w.heap.size ≤ gb266) ∧ (b 6 = true → gb255 ≠ gb266) ∧ (b 6 = true → gb266 ≠ gb255) ∧ (b 7 = true → b 9 = false → w'.heap[gb267]? = some (.cells #[.bool false, .bool false, .bool false, .int .u64 0, .int .i64 0] 100 (0, 0))) ∧ (b 7 = true → w.heap.size ≤ gb267) ∧ (b 7 = true → w.heap.size ≤ gb267) ∧ (b 7 = true → gb255 ≠ gb267) ∧ (b 7 = true → gb267 ≠ gb255) ∧ (b 8 = true → w'.heap[gb266]? = some (.cells #[.bool t256, .bool t257, .bool t258, .int .u64 t259, .int .i64 t260] 100 (0, 0))) ∧ (b 9 = true → w'.heap[gb267]? = some (.cells #[.bool t261, .bool t262, .bool t263, .int .u64 t264, .int .i64 t265] 100 (0, 0))) ∧ (b 6 = true → (m6_ : Value) = .pointer (some ⟨gb266, 0, none⟩)) ∧ (b 7 = true → (m7_ : Value) = .pointer (some ⟨gb267, 0, none⟩))) HT_.out HW_.out (by kernel_rfl) (by kernel_rfl) ?_ ?_ ?_
  ·exact ⟨0, 0, .bool false, .bool false, by simp only [putSel, Bool.false_eq_true, if_false], BK255.out, HB.out, fun h_ => absurd h_ (by decide), fun h_ => absurd h_ (by decide), fun h_ => absurd h_ (by decide), fun h_ => absurd h_ (by decide), fun h_ => absurd h_ (by decide), fun h_ => absurd h_ (by decide), fun h_ => absurd h_ (by decide), fun h_ => absurd h_ (by decide), fun h_ => absurd h_ (by decide), fun h_ => absurd h_ (by decide), fun h_ => absurd h_ (by decide), fun h_ => absurd h_ (by decide), fun h_ => absurd h_ (by decide), fun h_ => absurd h_ (by decide), fun h_ => absurd h_ (by decide), fun h_ => absurd h_ (by decide)⟩
  ·skip
   clear BK255 HB
   refine steps_cons ?_ ?_
   ·rintro b a w' ⟨gb266, gb267, m6_, m7_, ha, Q_BK255, Q_HB, Q_NB267_266, Q_NB266_267, Q_BK266, Q_GW266, Q_GE266, Q_NB255_266, Q_NB266_255, Q_BK267, Q_GW267, Q_GE267, Q_NB255_267, Q_NB267_255, Q_BK266_e8, Q_BK267_e9, Q_X6_, Q_X7_⟩ hb_ hon hoff
    refine ⟨_, rfl, fun K hK => ?_⟩
    have e7 : a.tmps[7]? = some (.pointer (some ⟨gb255, 0, none⟩)) := by rw [ha]; exact (putSel_off rfl).trans rfl
    replace ha := Aside0.mk ha
    have BK255 := Aside0.mk Q_BK255
    have HB := Aside0.mk Q_HB
    have hc0_ : w'.cell? ⟨gb255, 0, none⟩ = some (.int .i64 t252) := (blk_cell BK255.out 0).trans rfl
    have hc1_ : w'.cell? ⟨gb255, 1, none⟩ = some (.int .i64 t253) := (blk_cell BK255.out 1).trans rfl
    refine value_ (w1 := w') (v := .agg #[.int .i64 t252, .int .i64 t253]) (by rfl) rfl ?_ ?_
    ·go_simp
     (try simp only [i64_w])
     try rfl
    refine hK.out _ _ ⟨gb266, gb267, m6_, m7_, (by rw [ha.out]; exact putSel_upk 0 hb_ rfl rfl rfl), Q_BK255, Q_HB, Q_NB267_266, Q_NB266_267, Q_BK266, Q_GW266, Q_GE266, Q_NB255_266, Q_NB266_255, Q_BK267, Q_GW267, Q_GE267, Q_NB255_267, Q_NB267_255, fun h0_ => absurd ((hoff 8 (by kernel_rfl)).symm.trans h0_) (by decide), fun h0_ => absurd ((hoff 9 (by kernel_rfl)).symm.trans h0_) (by decide), Q_X6_, Q_X7_⟩
   refine steps_cons ?_ ?_
   ·rintro b a w' ⟨gb266, gb267, m6_, m7_, ha, Q_BK255, Q_HB, Q_NB267_266, Q_NB266_267, Q_BK266, Q_GW266, Q_GE266, Q_NB255_266, Q_NB266_255, Q_BK267, Q_GW267, Q_GE267, Q_NB255_267, Q_NB267_255, Q_BK266_e8, Q_BK267_e9, Q_X6_, Q_X7_⟩ hb_ hon hoff
    refine ⟨_, rfl, fun K hK => ?_⟩
    have e20 : a.tmps[20]? = some (.agg #[.int .i64 t252, .int .i64 t253]) := by rw [ha]; exact putSel_on (e := (0, 20, .agg #[.int .i64 t252, .int .i64 t253])) 0 rfl rfl (hon 0 (by kernel_rfl)) rfl
    have e21 : a.tmps[21]? = some (.int .u32 a1) := by rw [ha]; exact (putSel_off rfl).trans rfl
    replace ha := Aside0.mk ha
    have BK255 := Aside0.mk Q_BK255
    have HB := Aside0.mk Q_HB
    refine goes_ Try.func56 (by kernel_rfl) rfl #[.agg #[.int .i64 t252, .int .i64 t253], .int .u32 a1] (by rfl) rfl rfl (by first | (simp only [List.map_toArray, List.map_cons, List.map_nil, Act.eval, Array.getD_eq_getD_getElem?, Option.getD_some, e20, e21]; done) | (simp only [List.map_toArray, List.map_cons, List.map_nil, Act.eval, Array.getD_eq_getD_getElem?, Option.getD_some, e20, e21]; rfl)) ?_
    with_reducible refine (impl_format_open.calls t252 t253 a1 t256 t257 t258 t259 t260 _ A6.out).mono ?_
    rintro e w14 ⟨rfl, hb⟩
    refine ⟨_, rfl, ?_⟩
    have n0_ := Aside0.mk (blk_below (bk_ BK255.out) hb)
    have n1_ := Aside0.mk (below_step es_ hb)
    have z_BK266 := fun (h0_ : b 6 = true) (h1_ : b 8 = false) => (show w14.heap[gb266]? = some (.cells #[.bool false, .bool false, .bool false, .int .u64 0, .int .i64 0] 100 (0, 0)) from by first | exact (blk_below (g := gb266) (o := .cells #[.bool false, .bool false, .bool false, .int .u64 0, .int .i64 0] 100 (0, 0)) (by (with_reducible repeat first | apply bN | apply bD | apply bA); exact (Q_BK266 h0_ h1_)) hb))
    have z_BK267 := fun (h0_ : b 7 = true) (h1_ : b 9 = false) => (show w14.heap[gb267]? = some (.cells #[.bool false, .bool false, .bool false, .int .u64 0, .int .i64 0] 100 (0, 0)) from by first | exact (blk_below (g := gb267) (o := .cells #[.bool false, .bool false, .bool false, .int .u64 0, .int .i64 0] 100 (0, 0)) (by (with_reducible repeat first | apply bN | apply bD | apply bA); exact (Q_BK267 h0_ h1_)) hb))
    clear BK255 HB
    have BK255 := n0_
    have HB := n1_
    clear n0_ n1_
    (try clear hb)
    (try clear hb2)
    (try clear hk)
    (try clear hi)
    refine hK.out _ _ ⟨gb266, gb267, m6_, m7_, (by rw [ha.out]; exact putSel_upk 1 hb_ rfl rfl rfl), (bk_ BK255.out), es_, Q_NB267_266, Q_NB266_267, z_BK266, Q_GW266, Q_GE266, Q_NB255_266, Q_NB266_255, z_BK267, Q_GW267, Q_GE267, Q_NB255_267, Q_NB267_255, fun h0_ => absurd ((hoff 8 (by kernel_rfl)).symm.trans h0_) (by decide), fun h0_ => absurd ((hoff 9 (by kernel_rfl)).symm.trans h0_) (by decide), Q_X6_, Q_X7_⟩
   refine steps_cons ?_ ?_
   ·rintro b a w' ⟨gb266, gb267, m6_, m7_, ha, Q_BK255, Q_HB, Q_NB267_266, Q_NB266_267, Q_BK266, Q_GW266, Q_GE266, Q_NB255_266, Q_NB266_255, Q_BK267, Q_GW267, Q_GE267, Q_NB255_267, Q_NB267_255, Q_BK266_e8, Q_BK267_e9, Q_X6_, Q_X7_⟩ hb_ hon hoff
    refine ⟨_, rfl, fun K hK => ?_⟩
    have e7 : a.tmps[7]? = some (.pointer (some ⟨gb255, 0, none⟩)) := by rw [ha]; exact (putSel_off rfl).trans rfl
    replace ha := Aside0.mk ha
    have BK255 := Aside0.mk Q_BK255
    have HB := Aside0.mk Q_HB
    have hc0_ : w'.cell? ⟨gb255, 0, none⟩ = some (.int .i64 t252) := (blk_cell BK255.out 0).trans rfl
    have hc1_ : w'.cell? ⟨gb255, 1, none⟩ = some (.int .i64 t253) := (blk_cell BK255.out 1).trans rfl
    refine value_ (w1 := w') (v := .agg #[.int .i64 t252, .int .i64 t253]) (by rfl) rfl ?_ ?_
    ·go_simp
     (try simp only [i64_w])
     try rfl
    refine hK.out _ _ ⟨gb266, gb267, m6_, m7_, (by rw [ha.out]; exact putSel_upk 2 hb_ rfl rfl rfl), Q_BK255, Q_HB, Q_NB267_266, Q_NB266_267, Q_BK266, Q_GW266, Q_GE266, Q_NB255_266, Q_NB266_255, Q_BK267, Q_GW267, Q_GE267, Q_NB255_267, Q_NB267_255, fun h0_ => absurd ((hoff 8 (by kernel_rfl)).symm.trans h0_) (by decide), fun h0_ => absurd ((hoff 9 (by kernel_rfl)).symm.trans h0_) (by decide), Q_X6_, Q_X7_⟩
   refine steps_cons ?_ ?_
   ·rintro b a w' ⟨gb266, gb267, m6_, m7_, ha, Q_BK255, Q_HB, Q_NB267_266, Q_NB266_267, Q_BK266, Q_GW266, Q_GE266, Q_NB255_266, Q_NB266_255, Q_BK267, Q_GW267, Q_GE267, Q_NB255_267, Q_NB267_255, Q_BK266_e8, Q_BK267_e9, Q_X6_, Q_X7_⟩ hb_ hon hoff
    refine ⟨_, rfl, fun K hK => ?_⟩
    have e23 : a.tmps[23]? = some (.agg #[.int .i64 t252, .int .i64 t253]) := by rw [ha]; exact putSel_on (e := (3, 23, .agg #[.int .i64 t252, .int .i64 t253])) 2 rfl rfl (hon 3 (by kernel_rfl)) rfl
    have e24 : a.tmps[24]? = some (.int .u32 a2) := by rw [ha]; exact (putSel_off rfl).trans rfl
    replace ha := Aside0.mk ha
    have BK255 := Aside0.mk Q_BK255
    have HB := Aside0.mk Q_HB
    refine goes_ Try.func56 (by kernel_rfl) rfl #[.agg #[.int .i64 t252, .int .i64 t253], .int .u32 a2] (by rfl) rfl rfl (by first | (simp only [List.map_toArray, List.map_cons, List.map_nil, Act.eval, Array.getD_eq_getD_getElem?, Option.getD_some, e23, e24]; done) | (simp only [List.map_toArray, List.map_cons, List.map_nil, Act.eval, Array.getD_eq_getD_getElem?, Option.getD_some, e23, e24]; rfl)) ?_
    with_reducible refine (impl_format_open.calls t252 t253 a2 t261 t262 t263 t264 t265 _ A7.out).mono ?_
    rintro e w16 ⟨rfl, hb⟩
    refine ⟨_, rfl, ?_⟩
    have n0_ := Aside0.mk (blk_below (bk_ BK255.out) hb)
    have n1_ := Aside0.mk (below_step es_ hb)
    have z_BK266 := fun (h0_ : b 6 = true) (h1_ : b 8 = false) => (show w16.heap[gb266]? = some (.cells #[.bool false, .bool false, .bool false, .int .u64 0, .int .i64 0] 100 (0, 0)) from by first | exact (blk_below (g := gb266) (o := .cells #[.bool false, .bool false, .bool false, .int .u64 0, .int .i64 0] 100 (0, 0)) (by (with_reducible repeat first | apply bN | apply bD | apply bA); exact (Q_BK266 h0_ h1_)) hb))
    have z_BK267 := fun (h0_ : b 7 = true) (h1_ : b 9 = false) => (show w16.heap[gb267]? = some (.cells #[.bool false, .bool false, .bool false, .int .u64 0, .int .i64 0] 100 (0, 0)) from by first | exact (blk_below (g := gb267) (o := .cells #[.bool false, .bool false, .bool false, .int .u64 0, .int .i64 0] 100 (0, 0)) (by (with_reducible repeat first | apply bN | apply bD | apply bA); exact (Q_BK267 h0_ h1_)) hb))
    clear BK255 HB
    have BK255 := n0_
    have HB := n1_
    clear n0_ n1_
    (try clear hb)
    (try clear hb2)
    (try clear hk)
    (try clear hi)
    refine hK.out _ _ ⟨gb266, gb267, m6_, m7_, (by rw [ha.out]; exact putSel_upk 3 hb_ rfl rfl rfl), (bk_ BK255.out), es_, Q_NB267_266, Q_NB266_267, z_BK266, Q_GW266, Q_GE266, Q_NB255_266, Q_NB266_255, z_BK267, Q_GW267, Q_GE267, Q_NB255_267, Q_NB267_255, fun h0_ => absurd ((hoff 8 (by kernel_rfl)).symm.trans h0_) (by decide), fun h0_ => absurd ((hoff 9 (by kernel_rfl)).symm.trans h0_) (by decide), Q_X6_, Q_X7_⟩
   refine steps_cons ?_ ?_
   ·rintro b a w' ⟨gb266, gb267, m6_, m7_, ha, Q_BK255, Q_HB, Q_NB267_266, Q_NB266_267, Q_BK266, Q_GW266, Q_GE266, Q_NB255_266, Q_NB266_255, Q_BK267, Q_GW267, Q_GE267, Q_NB255_267, Q_NB267_255, Q_BK266_e8, Q_BK267_e9, Q_X6_, Q_X7_⟩ hb_ hon hoff
    refine ⟨_, rfl, fun K hK => ?_⟩
    replace ha := Aside0.mk ha
    have BK255 := Aside0.mk Q_BK255
    have HB := Aside0.mk Q_HB
    refine box_step ?hg (N := 9) ?hd (cs := #[.bool false, .bool false, .bool false, .int .u64 0, .int .i64 0]) (t := 100) ?hr ?_; (case hd => rfl); (case hg => rfl); (case hr => first | (go_simp; done) | (go_simp; rfl))
    intro gb266 hg w14 hbox hb
    have n0_ := Aside0.mk (blk_below (bk_ BK255.out) hb)
    have n1_ := Aside0.mk (below_step es_ hb)
    have n2_ := Aside0.mk (hbox)
    have n3_ := Aside0.mk (gs_ hg es_ : w.heap.size ≤ gb266)
    have n4_ := Aside0.mk (gs_ hg es_ : w.heap.size ≤ gb266)
    have n5_ := Aside0.mk ((by rw [hg]; exact Nat.ne_of_lt (blk_lt (g := gb255) (o := .cells #[.int .i64 t252, .int .i64 t253] 96 (0, 0)) (bk_ BK255.out)) : gb255 ≠ gb266))
    have n6_ := Aside0.mk ((by rw [hg]; exact Nat.ne_of_gt (blk_lt (g := gb255) (o := .cells #[.int .i64 t252, .int .i64 t253] 96 (0, 0)) (bk_ BK255.out)) : gb266 ≠ gb255))
    have z_NB267_266 := fun (h0_ : up b 6 6 = true) (h1_ : up b 6 7 = true) => (show gb267 ≠ gb266 from ((by rw [hg]; exact Nat.ne_of_lt (blk_lt (g := gb267) (o := .cells #[.bool false, .bool false, .bool false, .int .u64 0, .int .i64 0] 100 (0, 0)) (by (with_reducible repeat first | apply bN | apply bD | apply bA); exact (Q_BK267 h1_ (hoff 9 (by kernel_rfl))))) : gb267 ≠ gb266)))
    have z_NB266_267 := fun (h0_ : up b 6 6 = true) (h1_ : up b 6 7 = true) => (show gb266 ≠ gb267 from ((by rw [hg]; exact Nat.ne_of_gt (blk_lt (g := gb267) (o := .cells #[.bool false, .bool false, .bool false, .int .u64 0, .int .i64 0] 100 (0, 0)) (by (with_reducible repeat first | apply bN | apply bD | apply bA); exact (Q_BK267 h1_ (hoff 9 (by kernel_rfl))))) : gb266 ≠ gb267)))
    have z_BK267 := fun (h0_ : b 7 = true) (h1_ : b 9 = false) => (show w14.heap[gb267]? = some (.cells #[.bool false, .bool false, .bool false, .int .u64 0, .int .i64 0] 100 (0, 0)) from by first | exact (blk_below (g := gb267) (o := .cells #[.bool false, .bool false, .bool false, .int .u64 0, .int .i64 0] 100 (0, 0)) (by (with_reducible repeat first | apply bN | apply bD | apply bA); exact (Q_BK267 h0_ h1_)) hb))
    clear BK255 HB
    have BK255 := n0_
    have HB := n1_
    have BK266 := n2_
    have GW266 := n3_
    have GE266 := n4_
    have NB255_266 := n5_
    have NB266_255 := n6_
    clear n0_ n1_ n2_ n3_ n4_ n5_ n6_ hb hbox hg
    refine hK.out _ _ ⟨gb266, gb267, (.pointer (some ⟨gb266, 0, none⟩)), m7_, (by rw [ha.out]; exact putSel_upk 4 hb_ rfl rfl rfl), (bk_ BK255.out), es_, z_NB267_266, z_NB266_267, fun _ _ => (bk_ BK266.out), fun _ => GW266.out, fun _ => GE266.out, fun _ => NB255_266.out, fun _ => NB266_255.out, z_BK267, Q_GW267, Q_GE267, Q_NB255_267, Q_NB267_255, fun h0_ => absurd ((hoff 8 (by kernel_rfl)).symm.trans h0_) (by decide), fun h0_ => absurd ((hoff 9 (by kernel_rfl)).symm.trans h0_) (by decide), fun _ => rfl, Q_X7_⟩
   refine steps_cons ?_ ?_
   ·rintro b a w' ⟨gb266, gb267, m6_, m7_, ha, Q_BK255, Q_HB, Q_NB267_266, Q_NB266_267, Q_BK266, Q_GW266, Q_GE266, Q_NB255_266, Q_NB266_255, Q_BK267, Q_GW267, Q_GE267, Q_NB255_267, Q_NB267_255, Q_BK266_e8, Q_BK267_e9, Q_X6_, Q_X7_⟩ hb_ hon hoff
    refine ⟨_, rfl, fun K hK => ?_⟩
    replace ha := Aside0.mk ha
    have BK255 := Aside0.mk Q_BK255
    have HB := Aside0.mk Q_HB
    refine box_step ?hg (N := 10) ?hd (cs := #[.bool false, .bool false, .bool false, .int .u64 0, .int .i64 0]) (t := 100) ?hr ?_; (case hd => rfl); (case hg => rfl); (case hr => first | (go_simp; done) | (go_simp; rfl))
    intro gb267 hg w14 hbox hb
    have n0_ := Aside0.mk (blk_below (bk_ BK255.out) hb)
    have n1_ := Aside0.mk (below_step es_ hb)
    have n2_ := Aside0.mk (hbox)
    have n3_ := Aside0.mk (gs_ hg es_ : w.heap.size ≤ gb267)
    have n4_ := Aside0.mk (gs_ hg es_ : w.heap.size ≤ gb267)
    have n5_ := Aside0.mk ((by rw [hg]; exact Nat.ne_of_lt (blk_lt (g := gb255) (o := .cells #[.int .i64 t252, .int .i64 t253] 96 (0, 0)) (bk_ BK255.out)) : gb255 ≠ gb267))
    have n6_ := Aside0.mk ((by rw [hg]; exact Nat.ne_of_gt (blk_lt (g := gb255) (o := .cells #[.int .i64 t252, .int .i64 t253] 96 (0, 0)) (bk_ BK255.out)) : gb267 ≠ gb255))
    have z_NB267_266 := fun (h0_ : up b 7 6 = true) (h1_ : up b 7 7 = true) => (show gb267 ≠ gb266 from ((by rw [hg]; exact Nat.ne_of_gt (blk_lt (g := gb266) (o := .cells #[.bool false, .bool false, .bool false, .int .u64 0, .int .i64 0] 100 (0, 0)) (by (with_reducible repeat first | apply bN | apply bD | apply bA); exact (Q_BK266 h0_ (hoff 8 (by kernel_rfl))))) : gb267 ≠ gb266)))
    have z_NB266_267 := fun (h0_ : up b 7 6 = true) (h1_ : up b 7 7 = true) => (show gb266 ≠ gb267 from ((by rw [hg]; exact Nat.ne_of_lt (blk_lt (g := gb266) (o := .cells #[.bool false, .bool false, .bool false, .int .u64 0, .int .i64 0] 100 (0, 0)) (by (with_reducible repeat first | apply bN | apply bD | apply bA); exact (Q_BK266 h0_ (hoff 8 (by kernel_rfl))))) : gb266 ≠ gb267)))
    have z_BK266 := fun (h0_ : b 6 = true) (h1_ : b 8 = false) => (show w14.heap[gb266]? = some (.cells #[.bool false, .bool false, .bool false, .int .u64 0, .int .i64 0] 100 (0, 0)) from by first | exact (blk_below (g := gb266) (o := .cells #[.bool false, .bool false, .bool false, .int .u64 0, .int .i64 0] 100 (0, 0)) (by (with_reducible repeat first | apply bN | apply bD | apply bA); exact (Q_BK266 h0_ h1_)) hb))
    clear BK255 HB
    have BK255 := n0_
    have HB := n1_
    have BK267 := n2_
    have GW267 := n3_
    have GE267 := n4_
    have NB255_267 := n5_
    have NB267_255 := n6_
    clear n0_ n1_ n2_ n3_ n4_ n5_ n6_ hb hbox hg
    refine hK.out _ _ ⟨gb266, gb267, m6_, (.pointer (some ⟨gb267, 0, none⟩)), (by rw [ha.out]; exact putSel_upk 5 hb_ rfl rfl rfl), (bk_ BK255.out), es_, z_NB267_266, z_NB266_267, z_BK266, Q_GW266, Q_GE266, Q_NB255_266, Q_NB266_255, fun _ _ => (bk_ BK267.out), fun _ => GW267.out, fun _ => GE267.out, fun _ => NB255_267.out, fun _ => NB267_255.out, fun h0_ => absurd ((hoff 8 (by kernel_rfl)).symm.trans h0_) (by decide), fun h0_ => absurd ((hoff 9 (by kernel_rfl)).symm.trans h0_) (by decide), Q_X6_, fun _ => rfl⟩
   refine steps_cons ?_ ?_
   ·rintro b a w' ⟨gb266, gb267, m6_, m7_, ha, Q_BK255, Q_HB, Q_NB267_266, Q_NB266_267, Q_BK266, Q_GW266, Q_GE266, Q_NB255_266, Q_NB266_255, Q_BK267, Q_GW267, Q_GE267, Q_NB255_267, Q_NB267_255, Q_BK266_e8, Q_BK267_e9, Q_X6_, Q_X7_⟩ hb_ hon hoff
    refine ⟨_, rfl, fun K hK => ?_⟩
    have e9 : a.tmps[9]? = some (m6_) := by rw [ha]; exact putSel_on (e := (6, 9, m6_)) 4 rfl rfl (hon 6 (by kernel_rfl)) rfl
    rw [Q_X6_ (hon 6 (by kernel_rfl))] at e9
    have e22 : a.tmps[22]? = some (.agg #[.bool t256, .bool t257, .bool t258, .int .u64 t259, .int .i64 t260]) := by rw [ha]; exact putSel_on (e := (2, 22, .agg #[.bool t256, .bool t257, .bool t258, .int .u64 t259, .int .i64 t260])) 1 rfl rfl (hon 2 (by kernel_rfl)) rfl
    replace ha := Aside0.mk ha
    have BK255 := Aside0.mk Q_BK255
    have HB := Aside0.mk Q_HB
    have NB267_266 := Aside0.mk (Q_NB267_266 (hon 6 (by kernel_rfl)) (hon 7 (by kernel_rfl)))
    have NB266_267 := Aside0.mk (Q_NB266_267 (hon 6 (by kernel_rfl)) (hon 7 (by kernel_rfl)))
    have BK266 := Aside0.mk (Q_BK266 (hon 6 (by kernel_rfl)) hb_)
    have GW266 := Aside0.mk (Q_GW266 (hon 6 (by kernel_rfl)))
    have GE266 := Aside0.mk (Q_GE266 (hon 6 (by kernel_rfl)))
    have NB255_266 := Aside0.mk (Q_NB255_266 (hon 6 (by kernel_rfl)))
    have NB266_255 := Aside0.mk (Q_NB266_255 (hon 6 (by kernel_rfl)))
    have BK267 := Aside0.mk (Q_BK267 (hon 7 (by kernel_rfl)) (hoff 9 (by kernel_rfl)))
    have GW267 := Aside0.mk (Q_GW267 (hon 7 (by kernel_rfl)))
    have GE267 := Aside0.mk (Q_GE267 (hon 7 (by kernel_rfl)))
    have NB255_267 := Aside0.mk (Q_NB255_267 (hon 7 (by kernel_rfl)))
    have NB267_255 := Aside0.mk (Q_NB267_255 (hon 7 (by kernel_rfl)))
    have hs19 : w'.cell? ⟨gb266, 0, none⟩ = some (.bool false) := (blk_cell BK266.out 0).trans rfl
    have hfs19 := blk_frozen BK266.out 0
    have hns19_0 := NB255_266.out
    have hns19_2 := NB267_266.out
    have hms19_0 := NB266_255.out
    have hms19_2 := NB266_267.out
    have hs20 : w'.cell? ⟨gb266, 1, none⟩ = some (.bool false) := (blk_cell BK266.out 1).trans rfl
    have hfs20 := blk_frozen BK266.out 1
    have hns20_0 := NB255_266.out
    have hns20_2 := NB267_266.out
    have hms20_0 := NB266_255.out
    have hms20_2 := NB266_267.out
    have hs21 : w'.cell? ⟨gb266, 2, none⟩ = some (.bool false) := (blk_cell BK266.out 2).trans rfl
    have hfs21 := blk_frozen BK266.out 2
    have hns21_0 := NB255_266.out
    have hns21_2 := NB267_266.out
    have hms21_0 := NB266_255.out
    have hms21_2 := NB266_267.out
    have hs22 : w'.cell? ⟨gb266, 3, none⟩ = some (.int .u64 0) := (blk_cell BK266.out 3).trans rfl
    have hfs22 := blk_frozen BK266.out 3
    have hns22_0 := NB255_266.out
    have hns22_2 := NB267_266.out
    have hms22_0 := NB266_255.out
    have hms22_2 := NB266_267.out
    have hs23 : w'.cell? ⟨gb266, 4, none⟩ = some (.int .i64 0) := (blk_cell BK266.out 4).trans rfl
    have hfs23 := blk_frozen BK266.out 4
    have hns23_0 := NB255_266.out
    have hns23_2 := NB267_266.out
    have hms23_0 := NB266_255.out
    have hms23_2 := NB266_267.out
    refine skip_ (w1 := ?_) (by rfl) rfl ?_ ?_
    rotate_left
    ·go_simp
     rfl
    refine hK.out _ _ ⟨gb266, gb267, m6_, m7_, (by rw [ha.out]; exact putSel_none (v := undef) rfl), (by (with_reducible repeat first | apply bN | apply bD | apply bA); refine blk_far ?_ NB255_266.out _; (with_reducible repeat first | apply bN | apply bD | apply bA); refine blk_far ?_ NB255_266.out _; (with_reducible repeat first | apply bN | apply bD | apply bA); refine blk_far ?_ NB255_266.out _; (with_reducible repeat first | apply bN | apply bD | apply bA); refine blk_far ?_ NB255_266.out _; (with_reducible repeat first | apply bN | apply bD | apply bA); refine blk_far ?_ NB255_266.out _; (with_reducible repeat first | apply bN | apply bD | apply bA); exact BK255.out), es_, fun _ _ => NB267_266.out, fun _ _ => NB266_267.out, fun _ h1_ => absurd ((up_self b 8).symm.trans h1_) (by decide), fun _ => GW266.out, fun _ => GE266.out, fun _ => NB255_266.out, fun _ => NB266_255.out, fun _ _ => (by (with_reducible repeat first | apply bN | apply bD | apply bA); refine blk_far ?_ NB267_266.out _; (with_reducible repeat first | apply bN | apply bD | apply bA); refine blk_far ?_ NB267_266.out _; (with_reducible repeat first | apply bN | apply bD | apply bA); refine blk_far ?_ NB267_266.out _; (with_reducible repeat first | apply bN | apply bD | apply bA); refine blk_far ?_ NB267_266.out _; (with_reducible repeat first | apply bN | apply bD | apply bA); refine blk_far ?_ NB267_266.out _; (with_reducible repeat first | apply bN | apply bD | apply bA); exact BK267.out), fun _ => GW267.out, fun _ => GE267.out, fun _ => NB255_267.out, fun _ => NB267_255.out, fun _ => (by (with_reducible repeat first | apply bN | apply bD | apply bA); refine blk_put (cs := #[.bool t256, .bool t257, .bool t258, .int .u64 t259, .int .i64 0]) ?_ 4 _ rfl; (with_reducible repeat first | apply bN | apply bD | apply bA); refine blk_put (cs := #[.bool t256, .bool t257, .bool t258, .int .u64 0, .int .i64 0]) ?_ 3 _ rfl; (with_reducible repeat first | apply bN | apply bD | apply bA); refine blk_put (cs := #[.bool t256, .bool t257, .bool false, .int .u64 0, .int .i64 0]) ?_ 2 _ rfl; (with_reducible repeat first | apply bN | apply bD | apply bA); refine blk_put (cs := #[.bool t256, .bool false, .bool false, .int .u64 0, .int .i64 0]) ?_ 1 _ rfl; (with_reducible repeat first | apply bN | apply bD | apply bA); refine blk_put (cs := #[.bool false, .bool false, .bool false, .int .u64 0, .int .i64 0]) ?_ 0 _ rfl; (with_reducible repeat first | apply bN | apply bD | apply bA); exact BK266.out), fun h0_ => absurd ((hoff 9 (by kernel_rfl)).symm.trans h0_) (by decide), Q_X6_, Q_X7_⟩
   refine steps_cons ?_ ?_
   ·rintro b a w' ⟨gb266, gb267, m6_, m7_, ha, Q_BK255, Q_HB, Q_NB267_266, Q_NB266_267, Q_BK266, Q_GW266, Q_GE266, Q_NB255_266, Q_NB266_255, Q_BK267, Q_GW267, Q_GE267, Q_NB255_267, Q_NB267_255, Q_BK266_e8, Q_BK267_e9, Q_X6_, Q_X7_⟩ hb_ hon hoff
    refine ⟨_, rfl, fun K hK => ?_⟩
    have e10 : a.tmps[10]? = some (m7_) := by rw [ha]; exact putSel_on (e := (7, 10, m7_)) 5 rfl rfl (hon 7 (by kernel_rfl)) rfl
    rw [Q_X7_ (hon 7 (by kernel_rfl))] at e10
    have e25 : a.tmps[25]? = some (.agg #[.bool t261, .bool t262, .bool t263, .int .u64 t264, .int .i64 t265]) := by rw [ha]; exact putSel_on (e := (5, 25, .agg #[.bool t261, .bool t262, .bool t263, .int .u64 t264, .int .i64 t265])) 3 rfl rfl (hon 5 (by kernel_rfl)) rfl
    replace ha := Aside0.mk ha
    have BK255 := Aside0.mk Q_BK255
    have HB := Aside0.mk Q_HB
    have NB267_266 := Aside0.mk (Q_NB267_266 (hon 6 (by kernel_rfl)) (hon 7 (by kernel_rfl)))
    have NB266_267 := Aside0.mk (Q_NB266_267 (hon 6 (by kernel_rfl)) (hon 7 (by kernel_rfl)))
    have GW266 := Aside0.mk (Q_GW266 (hon 6 (by kernel_rfl)))
    have GE266 := Aside0.mk (Q_GE266 (hon 6 (by kernel_rfl)))
    have NB255_266 := Aside0.mk (Q_NB255_266 (hon 6 (by kernel_rfl)))
    have NB266_255 := Aside0.mk (Q_NB266_255 (hon 6 (by kernel_rfl)))
    have BK267 := Aside0.mk (Q_BK267 (hon 7 (by kernel_rfl)) hb_)
    have GW267 := Aside0.mk (Q_GW267 (hon 7 (by kernel_rfl)))
    have GE267 := Aside0.mk (Q_GE267 (hon 7 (by kernel_rfl)))
    have NB255_267 := Aside0.mk (Q_NB255_267 (hon 7 (by kernel_rfl)))
    have NB267_255 := Aside0.mk (Q_NB267_255 (hon 7 (by kernel_rfl)))
    have BK266 := Aside0.mk (Q_BK266_e8 (hon 8 (by kernel_rfl)))
    have hs24 : w'.cell? ⟨gb267, 0, none⟩ = some (.bool false) := (blk_cell BK267.out 0).trans rfl
    have hfs24 := blk_frozen BK267.out 0
    have hns24_0 := NB255_267.out
    have hns24_1 := NB266_267.out
    have hms24_0 := NB267_255.out
    have hms24_1 := NB267_266.out
    have hs25 : w'.cell? ⟨gb267, 1, none⟩ = some (.bool false) := (blk_cell BK267.out 1).trans rfl
    have hfs25 := blk_frozen BK267.out 1
    have hns25_0 := NB255_267.out
    have hns25_1 := NB266_267.out
    have hms25_0 := NB267_255.out
    have hms25_1 := NB267_266.out
    have hs26 : w'.cell? ⟨gb267, 2, none⟩ = some (.bool false) := (blk_cell BK267.out 2).trans rfl
    have hfs26 := blk_frozen BK267.out 2
    have hns26_0 := NB255_267.out
    have hns26_1 := NB266_267.out
    have hms26_0 := NB267_255.out
    have hms26_1 := NB267_266.out
    have hs27 : w'.cell? ⟨gb267, 3, none⟩ = some (.int .u64 0) := (blk_cell BK267.out 3).trans rfl
    have hfs27 := blk_frozen BK267.out 3
    have hns27_0 := NB255_267.out
    have hns27_1 := NB266_267.out
    have hms27_0 := NB267_255.out
    have hms27_1 := NB267_266.out
    have hs28 : w'.cell? ⟨gb267, 4, none⟩ = some (.int .i64 0) := (blk_cell BK267.out 4).trans rfl
    have hfs28 := blk_frozen BK267.out 4
    have hns28_0 := NB255_267.out
    have hns28_1 := NB266_267.out
    have hms28_0 := NB267_255.out
    have hms28_1 := NB267_266.out
    refine skip_ (w1 := ?_) (by rfl) rfl ?_ ?_
    rotate_left
    ·go_simp
     rfl
    refine hK.out _ _ ⟨gb266, gb267, m6_, m7_, (by rw [ha.out]; exact putSel_none (v := undef) rfl), (by (with_reducible repeat first | apply bN | apply bD | apply bA); refine blk_far ?_ NB255_267.out _; (with_reducible repeat first | apply bN | apply bD | apply bA); refine blk_far ?_ NB255_267.out _; (with_reducible repeat first | apply bN | apply bD | apply bA); refine blk_far ?_ NB255_267.out _; (with_reducible repeat first | apply bN | apply bD | apply bA); refine blk_far ?_ NB255_267.out _; (with_reducible repeat first | apply bN | apply bD | apply bA); refine blk_far ?_ NB255_267.out _; (with_reducible repeat first | apply bN | apply bD | apply bA); exact BK255.out), es_, fun _ _ => NB267_266.out, fun _ _ => NB266_267.out, fun _ h1_ => absurd ((hon 8 (by kernel_rfl)).symm.trans h1_) (by decide), fun _ => GW266.out, fun _ => GE266.out, fun _ => NB255_266.out, fun _ => NB266_255.out, fun _ h1_ => absurd ((up_self b 9).symm.trans h1_) (by decide), fun _ => GW267.out, fun _ => GE267.out, fun _ => NB255_267.out, fun _ => NB267_255.out, fun _ => (by (with_reducible repeat first | apply bN | apply bD | apply bA); refine blk_far ?_ NB266_267.out _; (with_reducible repeat first | apply bN | apply bD | apply bA); refine blk_far ?_ NB266_267.out _; (with_reducible repeat first | apply bN | apply bD | apply bA); refine blk_far ?_ NB266_267.out _; (with_reducible repeat first | apply bN | apply bD | apply bA); refine blk_far ?_ NB266_267.out _; (with_reducible repeat first | apply bN | apply bD | apply bA); refine blk_far ?_ NB266_267.out _; (with_reducible repeat first | apply bN | apply bD | apply bA); exact BK266.out), fun _ => (by (with_reducible repeat first | apply bN | apply bD | apply bA); refine blk_put (cs := #[.bool t261, .bool t262, .bool t263, .int .u64 t264, .int .i64 0]) ?_ 4 _ rfl; (with_reducible repeat first | apply bN | apply bD | apply bA); refine blk_put (cs := #[.bool t261, .bool t262, .bool t263, .int .u64 0, .int .i64 0]) ?_ 3 _ rfl; (with_reducible repeat first | apply bN | apply bD | apply bA); refine blk_put (cs := #[.bool t261, .bool t262, .bool false, .int .u64 0, .int .i64 0]) ?_ 2 _ rfl; (with_reducible repeat first | apply bN | apply bD | apply bA); refine blk_put (cs := #[.bool t261, .bool false, .bool false, .int .u64 0, .int .i64 0]) ?_ 1 _ rfl; (with_reducible repeat first | apply bN | apply bD | apply bA); refine blk_put (cs := #[.bool false, .bool false, .bool false, .int .u64 0, .int .i64 0]) ?_ 0 _ rfl; (with_reducible repeat first | apply bN | apply bD | apply bA); exact BK267.out), Q_X6_, Q_X7_⟩
   exact steps_nil
  rintro b a w28 hall ⟨gb266, gb267, m6_, m7_, ha, Q_BK255, Q_HB, Q_NB267_266, Q_NB266_267, Q_BK266, Q_GW266, Q_GE266, Q_NB255_266, Q_NB266_255, Q_BK267, Q_GW267, Q_GE267, Q_NB255_267, Q_NB267_255, Q_BK266_e8, Q_BK267_e9, Q_X6_, Q_X7_⟩
  clear BK255 HB
  have hb0_ := hall 0 (by kernel_rfl)
  have hb2_ := hall 2 (by kernel_rfl)
  have hb3_ := hall 3 (by kernel_rfl)
  have hb5_ := hall 5 (by kernel_rfl)
  have hb6_ := hall 6 (by kernel_rfl)
  have hb7_ := hall 7 (by kernel_rfl)
  have hb8_ := hall 8 (by kernel_rfl)
  have hb9_ := hall 9 (by kernel_rfl)
  subst ha
  obtain rfl := Q_X6_ hb6_
  obtain rfl := Q_X7_ hb7_
  simp only [putSel, hb0_, hb2_, hb3_, hb5_, hb6_, hb7_, hb8_, hb9_, if_true, Act.put, List.setIfInBounds_toArray, List.set_cons_zero, List.set_cons_succ]
  have BK255 := Aside0.mk Q_BK255
  clear Q_BK255
  have HB := Aside0.mk Q_HB
  clear Q_HB
  have NB267_266 := Aside0.mk (Q_NB267_266 hb6_ hb7_)
  clear Q_NB267_266
  have NB266_267 := Aside0.mk (Q_NB266_267 hb6_ hb7_)
  clear Q_NB266_267 Q_BK266
  have GW266 := Aside0.mk (Q_GW266 hb6_)
  clear Q_GW266
  have GE266 := Aside0.mk (Q_GE266 hb6_)
  clear Q_GE266
  have NB255_266 := Aside0.mk (Q_NB255_266 hb6_)
  clear Q_NB255_266
  have NB266_255 := Aside0.mk (Q_NB266_255 hb6_)
  clear Q_NB266_255 Q_BK267
  have GW267 := Aside0.mk (Q_GW267 hb7_)
  clear Q_GW267
  have GE267 := Aside0.mk (Q_GE267 hb7_)
  clear Q_GE267
  have NB255_267 := Aside0.mk (Q_NB255_267 hb7_)
  clear Q_NB255_267
  have NB267_255 := Aside0.mk (Q_NB267_255 hb7_)
  clear Q_NB267_255
  have BK266 := Aside0.mk (Q_BK266_e8 hb8_)
  clear Q_BK266_e8
  have BK267 := Aside0.mk (Q_BK267_e9 hb9_)
  clear Q_BK267_e9 hall hb0_ hb2_ hb3_ hb5_ hb6_ hb7_ hb8_ hb9_
  have hnb29 := NB266_255.out
  have hnc29 := NB255_266.out
  have hnb30 := NB266_267.out
  have hnc30 := NB267_266.out
  obtain ⟨_, _, _, _, _, _, _, _, _, _⟩ := zc5_ BK266.out
  have hnb32 := NB267_255.out
  have hnc32 := NB255_267.out
  obtain ⟨_, _, _, _, _, _, _, _, _, _⟩ := zc5_ BK267.out
  go_upto_region 6 with (fail)
  go_cut [12] (fun v12 wc => ∃ (kq : Nat) (x12_7 : Bool), v12 = .bool x12_7 ∧ Aside0 (impl_FMul.j0 kq (t256 != t261) x12_7 t252 t253 t256 t257 t258 t259 t260 t261 t262 t263 t264 t265 = some r) ∧ Aside0 (kq ≤ k) ∧ Aside0 (wc.heap[gb255]? = some (.cells #[.int .i64 t252, .int .i64 t253] 96 (0, 0))) ∧ Aside0 (wc.heap[gb266]? = some (.cells #[.bool t256, .bool t257, .bool t258, .int .u64 t259, .int .i64 t260] 100 (0, 0))) ∧ Aside0 (wc.heap[gb267]? = some (.cells #[.bool t261, .bool t262, .bool t263, .int .u64 t264, .int .i64 t265] 100 (0, 0))) ∧ Aside0 (Below w.heap.size w wc))
  case first =>
   have H := HC8.out
   clear HC8
   by_cases c34 : t258 = true
   ·subst c34
    have H1 : (if t263 = true then (impl_FMul.j0 k (t256 != t261) false t252 t253 t256 t257 true t259 t260 t261 t262 t263 t264 t265) else (impl_FMul.j0 k (t256 != t261) (t264 == 0) t252 t253 t256 t257 true t259 t260 t261 t262 t263 t264 t265)) = some r := by rw [if_pos rfl] at H; first | done | exact H
    clear H
    have H := H1
    clear H1
    by_cases c35 : t263 = true
    ·subst c35
     have H1 : (impl_FMul.j0 k (t256 != t261) false t252 t253 t256 t257 true t259 t260 t261 t262 true t264 t265) = some r := by rw [if_pos rfl] at H; first | done | exact H
     clear H
     have H := H1
     clear H1
     have H' := Aside0.mk H
     clear H
     have hnb36 := NB266_255.out
     have hnc36 := NB255_266.out
     have hnb37 := NB266_267.out
     have hnc37 := NB267_266.out
     obtain ⟨_, _, _, _, _, _, _, _, _, _⟩ := zc5_ BK266.out
     have hnb39 := NB267_255.out
     have hnc39 := NB255_267.out
     obtain ⟨_, _, _, _, _, _, _, _, _, _⟩ := zc5_ BK267.out
     go_wp2
     go_meet
     case rel => exact ⟨_, (false), (by first | rfl | (simp; done) | (simp [*]; done)), H', ⟨by first | omega | exact Nat.le_refl _⟩, ⟨bk_ BK255.out⟩, ⟨bk_ BK266.out⟩, ⟨bk_ BK267.out⟩, ⟨es_⟩⟩
    ·replace c35 := Bool.eq_false_iff.mpr c35
     subst c35
     have H1 : (impl_FMul.j0 k (t256 != t261) (t264 == 0) t252 t253 t256 t257 true t259 t260 t261 t262 false t264 t265) = some r := by rw [if_neg (show ¬ (false = true) by decide)] at H; first | done | exact H
     clear H
     have H := H1
     clear H1
     have H' := Aside0.mk H
     clear H
     have hnb41 := NB266_255.out
     have hnc41 := NB255_266.out
     have hnb42 := NB266_267.out
     have hnc42 := NB267_266.out
     obtain ⟨_, _, _, _, _, _, _, _, _, _⟩ := zc5_ BK266.out
     have hnb44 := NB267_255.out
     have hnc44 := NB255_267.out
     obtain ⟨_, _, _, _, _, _, _, _, _, _⟩ := zc5_ BK267.out
     go_wp2
     go_meet
     case rel => exact ⟨_, ((t264 == 0)), (by first | rfl | (simp; done) | (simp [*]; done)), H', ⟨by first | omega | exact Nat.le_refl _⟩, ⟨bk_ BK255.out⟩, ⟨bk_ BK266.out⟩, ⟨bk_ BK267.out⟩, ⟨es_⟩⟩
   ·replace c34 := Bool.eq_false_iff.mpr c34
    subst c34
    have H1 : (if t259 = 0 then (impl_FMul.j0 k (t256 != t261) true t252 t253 t256 t257 false t259 t260 t261 t262 t263 t264 t265) else (if t263 = true then (impl_FMul.j0 k (t256 != t261) false t252 t253 t256 t257 false t259 t260 t261 t262 t263 t264 t265) else (impl_FMul.j0 k (t256 != t261) (t264 == 0) t252 t253 t256 t257 false t259 t260 t261 t262 t263 t264 t265))) = some r := by rw [if_neg (show ¬ (false = true) by decide)] at H; first | done | exact H
    clear H
    have H := H1
    clear H1
    by_cases c46 : t259 = 0
    ·rw [if_pos c46] at H
     have c46b0 : (t259 == 0) = true := beq_iff_eq.mpr c46
     have c46b1 : (t259 != 0) = false := bne_eq_false_iff_eq.mpr c46
     clear c46
     (first | rw [c46b0] | (simp only [i64_w, i32_w]; rw [c46b0]) | skip)
     have H' := Aside0.mk H
     clear H
     have hnb47 := NB266_255.out
     have hnc47 := NB255_266.out
     have hnb48 := NB266_267.out
     have hnc48 := NB267_266.out
     obtain ⟨_, _, _, _, _, _, _, _, _, _⟩ := zc5_ BK266.out
     go_wp2
     go_meet
     case rel => exact ⟨_, (true), (by first | rfl | (simp; done) | (simp [*]; done)), H', ⟨by first | omega | exact Nat.le_refl _⟩, ⟨bk_ BK255.out⟩, ⟨bk_ BK266.out⟩, ⟨bk_ BK267.out⟩, ⟨es_⟩⟩
    ·rw [if_neg c46] at H
     have c46b0 : (t259 == 0) = false := beq_eq_false_iff_ne.mpr c46
     have c46b1 : (t259 != 0) = true := bne_iff_ne.mpr c46
     (first | rw [c46b0] | (simp only [i64_w, i32_w]; rw [c46b0]) | skip)
     by_cases c50 : t263 = true
     ·subst c50
      have H1 : (impl_FMul.j0 k (t256 != t261) false t252 t253 t256 t257 false t259 t260 t261 t262 true t264 t265) = some r := by rw [if_pos rfl] at H; first | done | exact H
      clear H
      have H := H1
      clear H1
      have H' := Aside0.mk H
      clear H
      have hnb51 := NB266_255.out
      have hnc51 := NB255_266.out
      have hnb52 := NB266_267.out
      have hnc52 := NB267_266.out
      obtain ⟨_, _, _, _, _, _, _, _, _, _⟩ := zc5_ BK266.out
      have hnb54 := NB267_255.out
      have hnc54 := NB255_267.out
      obtain ⟨_, _, _, _, _, _, _, _, _, _⟩ := zc5_ BK267.out
      go_wp2
      go_meet
      case rel => exact ⟨_, (false), (by first | rfl | (simp; done) | (simp [*]; done)), H', ⟨by first | omega | exact Nat.le_refl _⟩, ⟨bk_ BK255.out⟩, ⟨bk_ BK266.out⟩, ⟨bk_ BK267.out⟩, ⟨es_⟩⟩
     ·replace c50 := Bool.eq_false_iff.mpr c50
      subst c50
      have H1 : (impl_FMul.j0 k (t256 != t261) (t264 == 0) t252 t253 t256 t257 false t259 t260 t261 t262 false t264 t265) = some r := by rw [if_neg (show ¬ (false = true) by decide)] at H; first | done | exact H
      clear H
      have H := H1
      clear H1
      have H' := Aside0.mk H
      clear H
      have hnb56 := NB266_255.out
      have hnc56 := NB255_266.out
      have hnb57 := NB266_267.out
      have hnc57 := NB267_266.out
      obtain ⟨_, _, _, _, _, _, _, _, _, _⟩ := zc5_ BK266.out
      have hnb59 := NB267_255.out
      have hnc59 := NB255_267.out
      obtain ⟨_, _, _, _, _, _, _, _, _, _⟩ := zc5_ BK267.out
      go_wp2
      go_meet
      case rel => exact ⟨_, ((t264 == 0)), (by first | rfl | (simp; done) | (simp [*]; done)), H', ⟨by first | omega | exact Nat.le_refl _⟩, ⟨bk_ BK255.out⟩, ⟨bk_ BK266.out⟩, ⟨bk_ BK267.out⟩, ⟨es_⟩⟩
  case rest =>
   clear HC8
   try clear p2
   obtain ⟨kq, x12_7, rfl, HA, HJ7, BK255, BK266, BK267, HB⟩ := hcut
   cases kq with
   | zero => exact absurd HA.out (by simp [impl_FMul.j0])
   | succ kj7 =>
    have H := HA.out
    clear HA
    simp only [impl_FMul.j0] at H
    have HC61 := Aside0.mk H
    clear H
    go_upto_region 7 with (fail)
    go_cut [49] (fun v49 wc => ∃ (kq : Nat) (x49_60 : Bool), v49 = .bool x49_60 ∧ Aside0 (impl_FMul.j1 kq (t256 != t261) x49_60 t252 t253 t256 t257 t258 t259 t260 t261 t262 t263 t264 t265 = some r) ∧ Aside0 (kq ≤ kj7) ∧ Aside0 (wc.heap[gb255]? = some (.cells #[.int .i64 t252, .int .i64 t253] 96 (0, 0))) ∧ Aside0 (wc.heap[gb266]? = some (.cells #[.bool t256, .bool t257, .bool t258, .int .u64 t259, .int .i64 t260] 100 (0, 0))) ∧ Aside0 (wc.heap[gb267]? = some (.cells #[.bool t261, .bool t262, .bool t263, .int .u64 t264, .int .i64 t265] 100 (0, 0))) ∧ Aside0 (Below w.heap.size w wc))
    case first =>
     have H := HC61.out
     clear HC61
     by_cases c62 : t257 = true
     ·subst c62
      have H1 : (impl_FMul.j1 kj7 (t256 != t261) true t252 t253 t256 true t258 t259 t260 t261 t262 t263 t264 t265) = some r := by rw [if_pos rfl] at H; first | done | exact H
      clear H
      have H := H1
      clear H1
      have H' := Aside0.mk H
      clear H
      have hnb63 := NB266_255.out
      have hnc63 := NB255_266.out
      have hnb64 := NB266_267.out
      have hnc64 := NB267_266.out
      obtain ⟨_, _, _, _, _, _, _, _, _, _⟩ := zc5_ BK266.out
      go_wp2
      go_meet
      case rel => exact ⟨_, (true), (by first | rfl | (simp; done) | (simp [*]; done)), H', ⟨by have := HJ7.out; first | omega | exact Nat.le_refl _⟩, ⟨bk_ BK255.out⟩, ⟨bk_ BK266.out⟩, ⟨bk_ BK267.out⟩, ⟨es_⟩⟩
     ·replace c62 := Bool.eq_false_iff.mpr c62
      subst c62
      have H1 : (if t262 = true then (impl_FMul.j1 kj7 (t256 != t261) true t252 t253 t256 false t258 t259 t260 t261 t262 t263 t264 t265) else (if t258 = true then (impl_FMul.j1 kj7 (t256 != t261) x12_7 t252 t253 t256 false t258 t259 t260 t261 t262 t263 t264 t265) else (if t263 = true then (impl_FMul.j1 kj7 (t256 != t261) x12_7 t252 t253 t256 false t258 t259 t260 t261 t262 t263 t264 t265) else (impl_FMul.j1 kj7 (t256 != t261) false t252 t253 t256 false t258 t259 t260 t261 t262 t263 t264 t265)))) = some r := by rw [if_neg (show ¬ (false = true) by decide)] at H; first | done | exact H
      clear H
      have H := H1
      clear H1
      by_cases c66 : t262 = true
      ·subst c66
       have H1 : (impl_FMul.j1 kj7 (t256 != t261) true t252 t253 t256 false t258 t259 t260 t261 true t263 t264 t265) = some r := by rw [if_pos rfl] at H; first | done | exact H
       clear H
       have H := H1
       clear H1
       have H' := Aside0.mk H
       clear H
       have hnb67 := NB266_255.out
       have hnc67 := NB255_266.out
       have hnb68 := NB266_267.out
       have hnc68 := NB267_266.out
       obtain ⟨_, _, _, _, _, _, _, _, _, _⟩ := zc5_ BK266.out
       have hnb70 := NB267_255.out
       have hnc70 := NB255_267.out
       obtain ⟨_, _, _, _, _, _, _, _, _, _⟩ := zc5_ BK267.out
       go_wp2
       go_meet
       case rel => exact ⟨_, (true), (by first | rfl | (simp; done) | (simp [*]; done)), H', ⟨by have := HJ7.out; first | omega | exact Nat.le_refl _⟩, ⟨bk_ BK255.out⟩, ⟨bk_ BK266.out⟩, ⟨bk_ BK267.out⟩, ⟨es_⟩⟩
      ·replace c66 := Bool.eq_false_iff.mpr c66
       subst c66
       have H1 : (if t258 = true then (impl_FMul.j1 kj7 (t256 != t261) x12_7 t252 t253 t256 false t258 t259 t260 t261 false t263 t264 t265) else (if t263 = true then (impl_FMul.j1 kj7 (t256 != t261) x12_7 t252 t253 t256 false t258 t259 t260 t261 false t263 t264 t265) else (impl_FMul.j1 kj7 (t256 != t261) false t252 t253 t256 false t258 t259 t260 t261 false t263 t264 t265))) = some r := by rw [if_neg (show ¬ (false = true) by decide)] at H; first | done | exact H
       clear H
       have H := H1
       clear H1
       by_cases c72 : t258 = true
       ·subst c72
        have H1 : (impl_FMul.j1 kj7 (t256 != t261) x12_7 t252 t253 t256 false true t259 t260 t261 false t263 t264 t265) = some r := by rw [if_pos rfl] at H; first | done | exact H
        clear H
        have H := H1
        clear H1
        have H' := Aside0.mk H
        clear H
        have hnb73 := NB266_255.out
        have hnc73 := NB255_266.out
        have hnb74 := NB266_267.out
        have hnc74 := NB267_266.out
        obtain ⟨_, _, _, _, _, _, _, _, _, _⟩ := zc5_ BK266.out
        have hnb76 := NB267_255.out
        have hnc76 := NB255_267.out
        obtain ⟨_, _, _, _, _, _, _, _, _, _⟩ := zc5_ BK267.out
        go_wp2
        go_meet
        case rel => exact ⟨_, (x12_7), (by first | rfl | (simp; done) | (simp [*]; done)), H', ⟨by have := HJ7.out; first | omega | exact Nat.le_refl _⟩, ⟨bk_ BK255.out⟩, ⟨bk_ BK266.out⟩, ⟨bk_ BK267.out⟩, ⟨es_⟩⟩
       ·replace c72 := Bool.eq_false_iff.mpr c72
        subst c72
        have H1 : (if t263 = true then (impl_FMul.j1 kj7 (t256 != t261) x12_7 t252 t253 t256 false false t259 t260 t261 false t263 t264 t265) else (impl_FMul.j1 kj7 (t256 != t261) false t252 t253 t256 false false t259 t260 t261 false t263 t264 t265)) = some r := by rw [if_neg (show ¬ (false = true) by decide)] at H; first | done | exact H
        clear H
        have H := H1
        clear H1
        by_cases c78 : t263 = true
        ·subst c78
         have H1 : (impl_FMul.j1 kj7 (t256 != t261) x12_7 t252 t253 t256 false false t259 t260 t261 false true t264 t265) = some r := by rw [if_pos rfl] at H; first | done | exact H
         clear H
         have H := H1
         clear H1
         have H' := Aside0.mk H
         clear H
         have hnb79 := NB266_255.out
         have hnc79 := NB255_266.out
         have hnb80 := NB266_267.out
         have hnc80 := NB267_266.out
         obtain ⟨_, _, _, _, _, _, _, _, _, _⟩ := zc5_ BK266.out
         have hnb82 := NB267_255.out
         have hnc82 := NB255_267.out
         obtain ⟨_, _, _, _, _, _, _, _, _, _⟩ := zc5_ BK267.out
         go_wp2
         go_meet
         case rel => exact ⟨_, (x12_7), (by first | rfl | (simp; done) | (simp [*]; done)), H', ⟨by have := HJ7.out; first | omega | exact Nat.le_refl _⟩, ⟨bk_ BK255.out⟩, ⟨bk_ BK266.out⟩, ⟨bk_ BK267.out⟩, ⟨es_⟩⟩
        ·replace c78 := Bool.eq_false_iff.mpr c78
         subst c78
         have H1 : (impl_FMul.j1 kj7 (t256 != t261) false t252 t253 t256 false false t259 t260 t261 false false t264 t265) = some r := by rw [if_neg (show ¬ (false = true) by decide)] at H; first | done | exact H
         clear H
         have H := H1
         clear H1
         have H' := Aside0.mk H
         clear H
         have hnb84 := NB266_255.out
         have hnc84 := NB255_266.out
         have hnb85 := NB266_267.out
         have hnc85 := NB267_266.out
         obtain ⟨_, _, _, _, _, _, _, _, _, _⟩ := zc5_ BK266.out
         have hnb87 := NB267_255.out
         have hnc87 := NB255_267.out
         obtain ⟨_, _, _, _, _, _, _, _, _, _⟩ := zc5_ BK267.out
         go_wp2
         go_meet
         case rel => exact ⟨_, (false), (by first | rfl | (simp; done) | (simp [*]; done)), H', ⟨by have := HJ7.out; first | omega | exact Nat.le_refl _⟩, ⟨bk_ BK255.out⟩, ⟨bk_ BK266.out⟩, ⟨bk_ BK267.out⟩, ⟨es_⟩⟩
    case rest =>
     clear HC61
     try clear p2
     try clear p2
     obtain ⟨kq, x49_60, rfl, HA, HJ60, BK255, BK266, BK267, HB⟩ := hcut
     cases kq with
     | zero => exact absurd HA.out (by simp [impl_FMul.j1])
     | succ kj60 =>
      have H := HA.out
      clear HA
      simp only [impl_FMul.j1] at H
      by_cases c89 : x49_60 = true
      ·subst c89
       have H1 : ((impl_format_noNumber.f t252 t253).bind fun t268 => (some t268)) = some r := by rw [if_pos rfl] at H; first | done | exact H
       clear H
       have H := H1
       clear H1
       replace H := Option.bind_eq_some_iff.mp H
       obtain ⟨t268, A900, H⟩ := H
       try dsimp only at H
       have A90 := Aside0.mk A900
       clear A900
       obtain rfl := Option.some.inj H
       have hnb91 := NB255_266.out
       have hnc91 := NB266_255.out
       have hnb92 := NB255_267.out
       have hnc92 := NB267_255.out
       obtain ⟨_, _, _, _⟩ := zc2_ BK255.out
       go_wp2_with (first | ((with_reducible refine gate_callee (f := 57) rfl ?_); refine gl_ (some 68) rfl rfl Try.func57 (by kernel_rfl) rfl #[.agg #[.int .i64 t252, .int .i64 t253]] rfl ?_; (with_reducible refine (impl_format_noNumber.calls t252 t253 t268 _ A90.out).mono ?_); rintro e w94 ⟨rfl, hb⟩; refine ⟨_, rfl, ?_⟩; replace BK255 := bb_ BK255 hb; replace BK266 := bb_ BK266 hb; replace BK267 := bb_ BK267 hb; replace HB := eh_ hb; (try clear hb)))
       go_ret
       exact ⟨by first | rfl | (simp [errW_none, errW_some] <;> rfl) | (simp [*, errW_none, errW_some] <;> rfl), es_⟩
      ·replace c89 := Bool.eq_false_iff.mpr c89
       subst c89
       have H1 : (if t258 = true then (impl_FMul.j2 kj60 (t256 != t261) true t252 t253 t256 t257 t258 t259 t260 t261 t262 t263 t264 t265) else (impl_FMul.j2 kj60 (t256 != t261) t263 t252 t253 t256 t257 t258 t259 t260 t261 t262 t263 t264 t265)) = some r := by rw [if_neg (show ¬ (false = true) by decide)] at H; first | done | exact H
       clear H
       have H := H1
       clear H1
       have HC95 := Aside0.mk H
       clear H
       go_upto_region 9 with (fail)
       go_cut [69] (fun v69 wc => ∃ (kq : Nat) (x69_94 : Bool), v69 = .bool x69_94 ∧ Aside0 (impl_FMul.j2 kq (t256 != t261) x69_94 t252 t253 t256 t257 t258 t259 t260 t261 t262 t263 t264 t265 = some r) ∧ Aside0 (kq ≤ kj60) ∧ Aside0 (wc.heap[gb255]? = some (.cells #[.int .i64 t252, .int .i64 t253] 96 (0, 0))) ∧ Aside0 (wc.heap[gb266]? = some (.cells #[.bool t256, .bool t257, .bool t258, .int .u64 t259, .int .i64 t260] 100 (0, 0))) ∧ Aside0 (wc.heap[gb267]? = some (.cells #[.bool t261, .bool t262, .bool t263, .int .u64 t264, .int .i64 t265] 100 (0, 0))) ∧ Aside0 (Below w.heap.size w wc))
       case first =>
        have H := HC95.out
        clear HC95
        by_cases c96 : t258 = true
        ·subst c96
         have H1 : (impl_FMul.j2 kj60 (t256 != t261) true t252 t253 t256 t257 true t259 t260 t261 t262 t263 t264 t265) = some r := by rw [if_pos rfl] at H; first | done | exact H
         clear H
         have H := H1
         clear H1
         have H' := Aside0.mk H
         clear H
         have hnb97 := NB266_255.out
         have hnc97 := NB255_266.out
         have hnb98 := NB266_267.out
         have hnc98 := NB267_266.out
         obtain ⟨_, _, _, _, _, _, _, _, _, _⟩ := zc5_ BK266.out
         go_wp2
         go_meet
         case rel => exact ⟨_, (true), (by first | rfl | (simp; done) | (simp [*]; done)), H', ⟨by have := HJ7.out; have := HJ60.out; first | omega | exact Nat.le_refl _⟩, ⟨bk_ BK255.out⟩, ⟨bk_ BK266.out⟩, ⟨bk_ BK267.out⟩, ⟨es_⟩⟩
        ·replace c96 := Bool.eq_false_iff.mpr c96
         subst c96
         have H1 : (impl_FMul.j2 kj60 (t256 != t261) t263 t252 t253 t256 t257 false t259 t260 t261 t262 t263 t264 t265) = some r := by rw [if_neg (show ¬ (false = true) by decide)] at H; first | done | exact H
         clear H
         have H := H1
         clear H1
         have H' := Aside0.mk H
         clear H
         have hnb100 := NB266_255.out
         have hnc100 := NB255_266.out
         have hnb101 := NB266_267.out
         have hnc101 := NB267_266.out
         obtain ⟨_, _, _, _, _, _, _, _, _, _⟩ := zc5_ BK266.out
         have hnb103 := NB267_255.out
         have hnc103 := NB255_267.out
         obtain ⟨_, _, _, _, _, _, _, _, _, _⟩ := zc5_ BK267.out
         go_wp2
         go_meet
         case rel => exact ⟨_, (t263), (by first | rfl | (simp; done) | (simp [*]; done)), H', ⟨by have := HJ7.out; have := HJ60.out; first | omega | exact Nat.le_refl _⟩, ⟨bk_ BK255.out⟩, ⟨bk_ BK266.out⟩, ⟨bk_ BK267.out⟩, ⟨es_⟩⟩
       case rest =>
        clear HC95
        try clear p2
        try clear p2
        obtain ⟨kq, x69_94, rfl, HA, HJ94, BK255, BK266, BK267, HB⟩ := hcut
        cases kq with
        | zero => exact absurd HA.out (by simp [impl_FMul.j2])
        | succ kj94 =>
         have H := HA.out
         clear HA
         simp only [impl_FMul.j2] at H
         by_cases c105 : x69_94 = true
         ·subst c105
          have H1 : ((impl_format_infinite.f t252 t253 (t256 != t261)).bind fun t269 => (some t269)) = some r := by rw [if_pos rfl] at H; first | done | exact H
          clear H
          have H := H1
          clear H1
          replace H := Option.bind_eq_some_iff.mp H
          obtain ⟨t269, A1060, H⟩ := H
          try dsimp only at H
          have A106 := Aside0.mk A1060
          clear A1060
          obtain rfl := Option.some.inj H
          have hnb107 := NB255_266.out
          have hnc107 := NB266_255.out
          have hnb108 := NB255_267.out
          have hnc108 := NB267_255.out
          obtain ⟨_, _, _, _⟩ := zc2_ BK255.out
          go_wp2_with (first | ((with_reducible refine gate_callee (f := 59) rfl ?_); refine gl_ (some 78) rfl rfl Try.func59 (by kernel_rfl) rfl #[.agg #[.int .i64 t252, .int .i64 t253], .bool (t256 != t261)] rfl ?_; (with_reducible refine (impl_format_infinite.calls t252 t253 (t256 != t261) t269 _ A106.out).mono ?_); rintro e w110 ⟨rfl, hb⟩; refine ⟨_, rfl, ?_⟩; replace BK255 := bb_ BK255 hb; replace BK266 := bb_ BK266 hb; replace BK267 := bb_ BK267 hb; replace HB := eh_ hb; (try clear hb)))
          go_ret
          exact ⟨by first | rfl | (simp [errW_none, errW_some] <;> rfl) | (simp [*, errW_none, errW_some] <;> rfl), es_⟩
         ·replace c105 := Bool.eq_false_iff.mpr c105
          subst c105
          have H1 : ((impl_format_round.f kj94 t252 t253 (t256 != t261) (IntKind.u64.wrap (t259 * t264)) (wrap64 (t260 + t265)) false).bind fun t270 => (some t270)) = some r := by rw [if_neg (show ¬ (false = true) by decide)] at H; first | done | exact H
          clear H
          have H := H1
          clear H1
          replace H := Option.bind_eq_some_iff.mp H
          obtain ⟨t270, A1110, H⟩ := H
          try dsimp only at H
          have A111 := Aside0.mk A1110
          clear A1110
          obtain rfl := Option.some.inj H
          have hnb112 := NB255_266.out
          have hnc112 := NB266_255.out
          have hnb113 := NB255_267.out
          have hnc113 := NB267_255.out
          obtain ⟨_, _, _, _⟩ := zc2_ BK255.out
          have hnb115 := NB266_267.out
          have hnc115 := NB267_266.out
          obtain ⟨_, _, _, _, _, _, _, _, _, _⟩ := zc5_ BK266.out
          obtain ⟨_, _, _, _, _, _, _, _, _, _⟩ := zc5_ BK267.out
          go_wp2_with (first | ((with_reducible refine gate_callee (f := 62) rfl ?_); refine gl_ (some 91) rfl rfl Try.func62 (by kernel_rfl) rfl #[.agg #[.int .i64 t252, .int .i64 t253], .bool (t256 != t261), .int .u64 (IntKind.u64.wrap (t259 * t264)), .int .i64 (wrap64 (t260 + t265)), .bool false] rfl ?_; (with_reducible refine (impl_format_round.calls kj94 t252 t253 (t256 != t261) (IntKind.u64.wrap (t259 * t264)) (wrap64 (t260 + t265)) false t270 _ A111.out).mono ?_); rintro e w118 ⟨rfl, hb⟩; refine ⟨_, rfl, ?_⟩; replace BK255 := bb_ BK255 hb; replace BK266 := bb_ BK266 hb; replace BK267 := bb_ BK267 hb; replace HB := eh_ hb; (try clear hb)))
          go_ret
          exact ⟨by first | rfl | (simp [errW_none, errW_some] <;> rfl) | (simp [*, errW_none, errW_some] <;> rfl), es_⟩
 ·replace c5 := Bool.eq_false_iff.mpr c5
  subst c5
  have H1 : (some 0) = some r := by rw [if_neg (show ¬ (false = true) by decide)] at H; first | done | exact H
  clear H
  have H := H1
  clear H1
  obtain rfl := Option.some.inj H
  go_enter Try.func24, Try.ntmps24
  go_wp2_with (first | ((with_reducible refine gate_callee (f := 55) rfl ?_); refine gl_ (some 15) rfl rfl Try.func55 (by kernel_rfl) rfl #[.int .i64 a0] rfl ?_; (with_reducible refine (impl_formatOf.calls a0 t252 t253 false _ A4.out).mono ?_); rintro e w119 ⟨rfl, hb⟩; refine ⟨_, rfl, ?_⟩; replace HB := eh_ hb; (try clear hb)) | ((with_reducible refine gate_dst (N := 7) rfl ?_); refine box_event ?hg (N := 7) ?hd (cs := #[.int .i64 0, .int .i64 0]) (t := 96) ?hr ?_; (case hd => rfl); (case hg => rfl); (case hr => first | (go_simp; done) | (go_simp; rfl)); intro gb255 hg w120 hbox hb; have BK255 := Aside0.mk (hbox); have GW255 := Aside0.mk (gs_ hg (eb_ HB.out) : w.heap.size ≤ gb255); have GE255 := GW255; replace HB := eh_ hb; clear hb hbox hg; obtain ⟨_, _, _, _⟩ := zc2_ BK255.out))
  go_ret
  exact ⟨by first | rfl | (simp [errW_none, errW_some] <;> rfl) | (simp [*, errW_none, errW_some] <;> rfl), es_⟩

end Go.Proofs.Ytdoflfifnkpacaa.FA
