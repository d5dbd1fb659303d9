-- Printed by a program of this session (after the kit's print.sh, with contracts of its own beside): Lean checks it.
import Derived.Test.YtdoflfifnkpacaaC18FAx0
import Derived.Test.YtdoflfifnkpacaaC18FAx4
import Derived.Test.YtdoflfifnkpacaaC18FAx5
import Derived.Test.YtdoflfifnkpacaaC18FAx6
import Derived.Test.YtdoflfifnkpacaaC18FAx8
namespace Go.Proofs.Ytdoflfifnkpacaa.FA
open Go.RowKit Go.Proofs.YtdoflfifnkpacaaW.PrintWords Go.Proofs.YtdoflfifnkpacaaW.PrintLast Go.Proofs.YtdoflfifnkpacaaW.PrintMore
attribute [local go_sem] max2_int min2_int max_two min_two max_three min_three max_four min_four   -- for this text's walks alone
set_option linter.unusedVariables false
set_option linter.unusedSimpArgs false

def impl_FAdd.j0 : Nat → Bool → Int → Int → Bool → Bool → Bool → Int → Int → Bool → Bool → Bool → Int → Int → Option (Int)
 | 0, _, _, _, _, _, _, _, _, _, _, _, _, _ => none
 | k + 1, x24, x230000, x230001, x241000, x241001, x241002, x241003, x241004, x242000, x242001, x242002, x242003, x242004 => if x24 = true then ((impl_format_noNumber.f x230000 x230001).bind fun t242 => (some t242)) else (if x241002 = true then ((impl_format_infinite.f x230000 x230001 x241000).bind fun t243 => (some t243)) else (if x242002 = true then ((impl_format_infinite.f x230000 x230001 x242000).bind fun t244 => (some t244)) else ((impl_format_sum.f k x230000 x230001 x241000 x241001 x241002 x241003 x241004 x242000 x242001 x242002 x242003 x242004).bind fun t245 => (some t245))))
def impl_FAdd.f (k : Nat) (a0 : Int) (a1 : Int) (a2 : Int) : Option (Int) := (impl_formatOf.f a0).bind fun bt226 => (if bt226.2.2 = true then ((impl_format_open.f bt226.1 bt226.2.1 a1).bind fun bt230 => ((impl_format_open.f bt226.1 bt226.2.1 a2).bind fun bt235 => (if bt230.2.1 = true then (impl_FAdd.j0 k true bt226.1 bt226.2.1 bt230.1 bt230.2.1 bt230.2.2.1 bt230.2.2.2.1 bt230.2.2.2.2 bt235.1 bt235.2.1 bt235.2.2.1 bt235.2.2.2.1 bt235.2.2.2.2) else (if bt235.2.1 = true then (impl_FAdd.j0 k true bt226.1 bt226.2.1 bt230.1 bt230.2.1 bt230.2.2.1 bt230.2.2.2.1 bt230.2.2.2.2 bt235.1 bt235.2.1 bt235.2.2.1 bt235.2.2.2.1 bt235.2.2.2.2) else (if bt230.2.2.1 = true then (if bt235.2.2.1 = true then (impl_FAdd.j0 k (bt230.1 != bt235.1) bt226.1 bt226.2.1 bt230.1 bt230.2.1 bt230.2.2.1 bt230.2.2.2.1 bt230.2.2.2.2 bt235.1 bt235.2.1 bt235.2.2.1 bt235.2.2.2.1 bt235.2.2.2.2) else (impl_FAdd.j0 k false bt226.1 bt226.2.1 bt230.1 bt230.2.1 bt230.2.2.1 bt230.2.2.2.1 bt230.2.2.2.2 bt235.1 bt235.2.1 bt235.2.2.1 bt235.2.2.2.1 bt235.2.2.2.2)) else (impl_FAdd.j0 k false bt226.1 bt226.2.1 bt230.1 bt230.2.1 bt230.2.2.1 bt230.2.2.2.1 bt230.2.2.2.2 bt235.1 bt235.2.1 bt235.2.2.1 bt235.2.2.2.1 bt235.2.2.2.2)))))) else (some 0))
def impl_FAdd.T4 : Bool × List (List Nat × List Nat) := (true, [([], []), ([], []), ([0, 1], [0, 1]), ([], []), ([], []), ([3, 4, 2], [3, 4]), ([], []), ([], []), ([6, 2, 5, 0, 1, 2, 6, 7], [2, 6]), ([7, 5, 8, 0, 1, 2, 3, 4, 5, 6, 7, 8], [5, 7])])
def impl_FAdd.B4 : List Nat := [0, 0, 3, 0, 0, 31, 0, 0, 255, 511]
theorem impl_FAdd.tab4 : rtab .any (opsOf Try.f22 4) = impl_FAdd.T4 := by kernel_rfl
theorem impl_FAdd.bits4 : waitsOk impl_FAdd.T4.2 impl_FAdd.B4 = true := by kernel_rfl
set_option maxHeartbeats 8000000 in
set_option maxRecDepth 100000 in
theorem impl_FAdd.calls (k : Nat) (a0 : Int) (a1 : Int) (a2 : Int) (r : Int) (w : World) (h : impl_FAdd.f k a0 a1 a2 = some r) :
  Calls Try.prog 22 #[.int .i64 a0, .int .u32 a1, .int .u32 a2] w fun e w' => e = .returned (.int .u32 r) ∧ Below w.heap.size w w' := by
 have hu96 := Try.underlying96
 have hu100 := Try.underlying100
 have HB := Aside0.mk (Below.refl w.heap.size w)
 have H : ((impl_formatOf.f a0).bind fun bt226 => (if bt226.2.2 = true then ((impl_format_open.f bt226.1 bt226.2.1 a1).bind fun bt230 => ((impl_format_open.f bt226.1 bt226.2.1 a2).bind fun bt235 => (if bt230.2.1 = true then (impl_FAdd.j0 k true bt226.1 bt226.2.1 bt230.1 bt230.2.1 bt230.2.2.1 bt230.2.2.2.1 bt230.2.2.2.2 bt235.1 bt235.2.1 bt235.2.2.1 bt235.2.2.2.1 bt235.2.2.2.2) else (if bt235.2.1 = true then (impl_FAdd.j0 k true bt226.1 bt226.2.1 bt230.1 bt230.2.1 bt230.2.2.1 bt230.2.2.2.1 bt230.2.2.2.2 bt235.1 bt235.2.1 bt235.2.2.1 bt235.2.2.2.1 bt235.2.2.2.2) else (if bt230.2.2.1 = true then (if bt235.2.2.1 = true then (impl_FAdd.j0 k (bt230.1 != bt235.1) bt226.1 bt226.2.1 bt230.1 bt230.2.1 bt230.2.2.1 bt230.2.2.2.1 bt230.2.2.2.2 bt235.1 bt235.2.1 bt235.2.2.1 bt235.2.2.2.1 bt235.2.2.2.2) else (impl_FAdd.j0 k false bt226.1 bt226.2.1 bt230.1 bt230.2.1 bt230.2.2.1 bt230.2.2.2.1 bt230.2.2.2.2 bt235.1 bt235.2.1 bt235.2.2.1 bt235.2.2.2.1 bt235.2.2.2.2)) else (impl_FAdd.j0 k false bt226.1 bt226.2.1 bt230.1 bt230.2.1 bt230.2.2.1 bt230.2.2.2.1 bt230.2.2.2.2 bt235.1 bt235.2.1 bt235.2.2.1 bt235.2.2.2.1 bt235.2.2.2.2)))))) else (some 0))) = some r := h
 clear h
 replace H := Option.bind_eq_some_iff.mp H
 obtain ⟨⟨t226, t227, t228⟩, A40, H⟩ := H
 try dsimp only at H
 have A4 := Aside0.mk A40
 clear A40
 by_cases c5 : t228 = true
 ·subst c5
  have H1 : ((impl_format_open.f t226 t227 a1).bind fun bt230 => ((impl_format_open.f t226 t227 a2).bind fun bt235 => (if bt230.2.1 = true then (impl_FAdd.j0 k true t226 t227 bt230.1 bt230.2.1 bt230.2.2.1 bt230.2.2.2.1 bt230.2.2.2.2 bt235.1 bt235.2.1 bt235.2.2.1 bt235.2.2.2.1 bt235.2.2.2.2) else (if bt235.2.1 = true then (impl_FAdd.j0 k true t226 t227 bt230.1 bt230.2.1 bt230.2.2.1 bt230.2.2.2.1 bt230.2.2.2.2 bt235.1 bt235.2.1 bt235.2.2.1 bt235.2.2.2.1 bt235.2.2.2.2) else (if bt230.2.2.1 = true then (if bt235.2.2.1 = true then (impl_FAdd.j0 k (bt230.1 != bt235.1) t226 t227 bt230.1 bt230.2.1 bt230.2.2.1 bt230.2.2.2.1 bt230.2.2.2.2 bt235.1 bt235.2.1 bt235.2.2.1 bt235.2.2.2.1 bt235.2.2.2.2) else (impl_FAdd.j0 k false t226 t227 bt230.1 bt230.2.1 bt230.2.2.1 bt230.2.2.2.1 bt230.2.2.2.2 bt235.1 bt235.2.1 bt235.2.2.1 bt235.2.2.2.1 bt235.2.2.2.2)) else (impl_FAdd.j0 k false t226 t227 bt230.1 bt230.2.1 bt230.2.2.1 bt230.2.2.2.1 bt230.2.2.2.2 bt235.1 bt235.2.1 bt235.2.2.1 bt235.2.2.2.1 bt235.2.2.2.2)))))) = some r := by rw [if_pos rfl] at H; first | done | exact H
  clear H
  have H := H1
  clear H1
  replace H := Option.bind_eq_some_iff.mp H
  obtain ⟨⟨t230, t231, t232, t233, t234⟩, A60, H⟩ := H
  try dsimp only at H
  have A6 := Aside0.mk A60
  clear A60
  replace H := Option.bind_eq_some_iff.mp H
  obtain ⟨⟨t235, t236, t237, t238, t239⟩, A70, H⟩ := H
  try dsimp only at H
  have A7 := Aside0.mk A70
  clear A70
  have HC8 := Aside0.mk H
  clear H
  go_enter Try.func22, Try.ntmps22
  try go_wp2_with (first | ((with_reducible refine gate_callee (f := 55) rfl ?_); refine gl_ (some 13) rfl rfl Try.func55 (by kernel_rfl) rfl #[.int .i64 a0] rfl ?_; (with_reducible refine (impl_formatOf.calls a0 t226 t227 true _ A4.out).mono ?_); rintro e w9 ⟨rfl, hb⟩; refine ⟨_, rfl, ?_⟩; replace HB := eh_ hb; (try clear hb)) | ((with_reducible refine gate_dst (N := 7) rfl ?_); refine box_event ?hg (N := 7) ?hd (cs := #[.int .i64 0, .int .i64 0]) (t := 96) ?hr ?_; (case hd => rfl); (case hg => rfl); (case hr => first | (go_simp; done) | (go_simp; rfl)); intro gb229 hg w10 hbox hb; have BK229 := Aside0.mk (hbox); have GW229 := Aside0.mk (gs_ hg (eb_ HB.out) : w.heap.size ≤ gb229); have GE229 := GW229; replace HB := eh_ hb; clear hb hbox hg; obtain ⟨_, _, _, _⟩ := zc2_ BK229.out))
  have n0_ : Aside0 (((w10.setCell ⟨gb229, 0, none⟩ (.int .i64 t226)).setCell ⟨gb229, 1, none⟩ (.int .i64 t227)).heap[gb229]? = some (.cells #[.int .i64 t226, .int .i64 t227] 96 (0, 0))) := ⟨by (with_reducible repeat first | apply bN | apply bD | apply bA); refine blk_put (cs := #[.int .i64 t226, .int .i64 0]) ?_ 1 _ rfl; (with_reducible repeat first | apply bN | apply bD | apply bA); refine blk_put (cs := #[.int .i64 0, .int .i64 0]) ?_ 0 _ rfl; (with_reducible repeat first | apply bN | apply bD | apply bA); exact BK229.out⟩
  have n1_ : Aside0 (Below w.heap.size w ((w10.setCell ⟨gb229, 0, none⟩ (.int .i64 t226)).setCell ⟨gb229, 1, none⟩ (.int .i64 t227))) := ⟨es_⟩
  (try clear BK229)
  (try clear HB)
  generalize ((w10.setCell ⟨gb229, 0, none⟩ (.int .i64 t226)).setCell ⟨gb229, 1, none⟩ (.int .i64 t227)) = w12 at n0_ n1_ ⊢
  have BK229 := n0_
  have HB := n1_
  clear n0_ n1_
  replace BK229 := Aside0.mk (blk_drew BK229.out)
  replace HB := Aside0.mk (below_drew1 HB.out)
  refine start_ (n := 10) (S := fun w' => True) (ds := []) #[false, false, false, false, false, false, false, false, false, false] (by kernel_rfl) rfl rfl trivial (fun hHeld => ?_); refine with_tabW impl_FAdd.tab4 impl_FAdd.bits4 (fun HT_ HW_ => ?_)
  generalize w12.drew = w13 at BK229 HB hHeld ⊢
  refine pure_ (i := 1) (N := some 19) (v := ?_) (a' := ?_) #[false, true, false, false, false, false, false, false, false, false] rfl rfl (any_of HT_.out (by kernel_rfl)) (fun _ _ _ h => h) (Or.inl ⟨by rfl, ?_⟩) ?_ ?_
  rotate_left
  ·intro w'
   go_simp
   with_reducible rfl
  rotate_left
  ·simp only [Act.put, List.setIfInBounds_toArray, List.set_cons_zero, List.set_cons_succ, i64_w, i32_w]
   rfl
  refine pure_ (i := 4) (N := some 22) (v := ?_) (a' := ?_) #[false, true, false, false, true, false, false, false, false, false] rfl rfl (any_of HT_.out (by kernel_rfl)) (fun _ _ _ h => h) (Or.inl ⟨by rfl, ?_⟩) ?_ ?_
  rotate_left
  ·intro w'
   go_simp
   with_reducible rfl
  rotate_left
  ·simp only [Act.put, List.setIfInBounds_toArray, List.set_cons_zero, List.set_cons_succ, i64_w, i32_w]
   rfl
  refine inv_at [0, 2, 3, 5, 6, 7, 8, 9] (fun a0_ b a w' => ∃ (gb240 : Nat) (gb241 : Nat) (m6_ : Value) (m7_ : Value), a = putSel a0_ b [(0, 18, .agg #[.int .i64 t226, .int .i64 t227]), (2, 20, .agg #[.bool t230, .bool t231, .bool t232, .int .u64 t233, .int .i64 t234]), (3, 21, .agg #[.int .i64 t226, .int .i64 t227]), (5, 23, .agg #[.bool t235, .bool t236, .bool t237, .int .u64 t238, .int .i64 t239]), (6, 9, m6_), (7, 10, m7_)] ∧ (w'.heap[gb229]? = some (.cells #[.int .i64 t226, .int .i64 t227] 96 (0, 0))) ∧ (Below w.heap.size w w') ∧ (b 6 = true → b 7 = true → gb241 ≠ gb240) ∧ (b 6 = true → b 7 = true → gb240 ≠ gb241) ∧ (b 6 = true → b 8 = false → w'.heap[gb240]? = some (.cells #[.bool false, .bool false, .bool false, .int .u64 0, .int .i64 0] 100 (0, 0))) ∧ (b 6 = true → w.heap.size ≤ gb240) ∧ (b 6 = true → w.heap.size ≤ gb240) ∧ (b 6 = true → gb229 ≠ gb240) ∧ (b 6 = true → gb240 ≠ gb229) ∧ (b 7 = true → b 9 = false → w'.heap[gb241]? = some (.cells #[.bool false, .bool false, .bool false, .int .u64 0, .int .i64 0] 100 (0, 0))) ∧ (b 7 = true → w.heap.size ≤ gb241) ∧ (b 7 = true → w.heap.size ≤ gb241) ∧ (b 7 = true → gb229 ≠ gb241) ∧ (b 7 = true → gb241 ≠ gb229) ∧ (b 8 = true → w'.heap[gb240]? = some (.cells #[.bool t230, .bool t231, .bool t232, .int .u64 t233, .int .i64 t234] 100 (0, 0))) ∧ (b 9 = true → w'.heap[gb241]? = some (.cells #[.bool t235, .bool t236, .bool t237, .int .u64 t238, .int .i64 t239] 100 (0, 0))) ∧ (b 6 = true → (m6_ : Value) = .pointer (some ⟨gb240, 0, none⟩)) ∧ (b 7 = true → (m7_ : Value) = .pointer (some ⟨gb241, 0, none⟩))) HT_.out HW_.out (by kernel_rfl) (by kernel_rfl) ?_ ?_ ?_
  ·exact ⟨0, 0, .bool false, .bool false, by simp only [putSel, Bool.false_eq_true, if_false], BK229.out, HB.out, fun h_ => absurd h_ (by decide), fun h_ => absurd h_ (by decide), fun h_ => absurd h_ (by decide), fun h_ => absurd h_ (by decide), fun h_ => absurd h_ (by decide), fun h_ => absurd h_ (by decide), fun h_ => absurd h_ (by decide), fun h_ => absurd h_ (by decide), fun h_ => absurd h_ (by decide), fun h_ => absurd h_ (by decide), fun h_ => absurd h_ (by decide), fun h_ => absurd h_ (by decide), fun h_ => absurd h_ (by decide), fun h_ => absurd h_ (by decide), fun h_ => absurd h_ (by decide), fun h_ => absurd h_ (by decide)⟩
  ·skip
   clear BK229 HB
   refine steps_cons ?_ ?_
   ·rintro b a w' ⟨gb240, gb241, m6_, m7_, ha, Q_BK229, Q_HB, Q_NB241_240, Q_NB240_241, Q_BK240, Q_GW240, Q_GE240, Q_NB229_240, Q_NB240_229, Q_BK241, Q_GW241, Q_GE241, Q_NB229_241, Q_NB241_229, Q_BK240_e8, Q_BK241_e9, Q_X6_, Q_X7_⟩ hb_ hon hoff
    refine ⟨_, rfl, fun K hK => ?_⟩
    have e7 : a.tmps[7]? = some (.pointer (some ⟨gb229, 0, none⟩)) := by rw [ha]; exact (putSel_off rfl).trans rfl
    replace ha := Aside0.mk ha
    have BK229 := Aside0.mk Q_BK229
    have HB := Aside0.mk Q_HB
    have hc0_ : w'.cell? ⟨gb229, 0, none⟩ = some (.int .i64 t226) := (blk_cell BK229.out 0).trans rfl
    have hc1_ : w'.cell? ⟨gb229, 1, none⟩ = some (.int .i64 t227) := (blk_cell BK229.out 1).trans rfl
    refine value_ (w1 := w') (v := .agg #[.int .i64 t226, .int .i64 t227]) (by rfl) rfl ?_ ?_
    ·go_simp
     (try simp only [i64_w])
     try rfl
    refine hK.out _ _ ⟨gb240, gb241, m6_, m7_, (by rw [ha.out]; exact putSel_upk 0 hb_ rfl rfl rfl), Q_BK229, Q_HB, Q_NB241_240, Q_NB240_241, Q_BK240, Q_GW240, Q_GE240, Q_NB229_240, Q_NB240_229, Q_BK241, Q_GW241, Q_GE241, Q_NB229_241, Q_NB241_229, fun h0_ => absurd ((hoff 8 (by kernel_rfl)).symm.trans h0_) (by decide), fun h0_ => absurd ((hoff 9 (by kernel_rfl)).symm.trans h0_) (by decide), Q_X6_, Q_X7_⟩
   refine steps_cons ?_ ?_
   ·rintro b a w' ⟨gb240, gb241, m6_, m7_, ha, Q_BK229, Q_HB, Q_NB241_240, Q_NB240_241, Q_BK240, Q_GW240, Q_GE240, Q_NB229_240, Q_NB240_229, Q_BK241, Q_GW241, Q_GE241, Q_NB229_241, Q_NB241_229, Q_BK240_e8, Q_BK241_e9, Q_X6_, Q_X7_⟩ hb_ hon hoff
    refine ⟨_, rfl, fun K hK => ?_⟩
    have e18 : a.tmps[18]? = some (.agg #[.int .i64 t226, .int .i64 t227]) := by rw [ha]; exact putSel_on (e := (0, 18, .agg #[.int .i64 t226, .int .i64 t227])) 0 rfl rfl (hon 0 (by kernel_rfl)) rfl
    have e19 : a.tmps[19]? = some (.int .u32 a1) := by rw [ha]; exact (putSel_off rfl).trans rfl
    replace ha := Aside0.mk ha
    have BK229 := Aside0.mk Q_BK229
    have HB := Aside0.mk Q_HB
    refine goes_ Try.func56 (by kernel_rfl) rfl #[.agg #[.int .i64 t226, .int .i64 t227], .int .u32 a1] (by rfl) rfl rfl (by first | (simp only [List.map_toArray, List.map_cons, List.map_nil, Act.eval, Array.getD_eq_getD_getElem?, Option.getD_some, e18, e19]; done) | (simp only [List.map_toArray, List.map_cons, List.map_nil, Act.eval, Array.getD_eq_getD_getElem?, Option.getD_some, e18, e19]; rfl)) ?_
    with_reducible refine (impl_format_open.calls t226 t227 a1 t230 t231 t232 t233 t234 _ A6.out).mono ?_
    rintro e w14 ⟨rfl, hb⟩
    refine ⟨_, rfl, ?_⟩
    have n0_ := Aside0.mk (blk_below (bk_ BK229.out) hb)
    have n1_ := Aside0.mk (below_step es_ hb)
    have z_BK240 := fun (h0_ : b 6 = true) (h1_ : b 8 = false) => (show w14.heap[gb240]? = some (.cells #[.bool false, .bool false, .bool false, .int .u64 0, .int .i64 0] 100 (0, 0)) from by first | exact (blk_below (g := gb240) (o := .cells #[.bool false, .bool false, .bool false, .int .u64 0, .int .i64 0] 100 (0, 0)) (by (with_reducible repeat first | apply bN | apply bD | apply bA); exact (Q_BK240 h0_ h1_)) hb))
    have z_BK241 := fun (h0_ : b 7 = true) (h1_ : b 9 = false) => (show w14.heap[gb241]? = some (.cells #[.bool false, .bool false, .bool false, .int .u64 0, .int .i64 0] 100 (0, 0)) from by first | exact (blk_below (g := gb241) (o := .cells #[.bool false, .bool false, .bool false, .int .u64 0, .int .i64 0] 100 (0, 0)) (by (with_reducible repeat first | apply bN | apply bD | apply bA); exact (Q_BK241 h0_ h1_)) hb))
    clear BK229 HB
    have BK229 := n0_
    have HB := n1_
    clear n0_ n1_
    (try clear hb)
    (try clear hb2)
    (try clear hk)
    (try clear hi)
    refine hK.out _ _ ⟨gb240, gb241, m6_, m7_, (by rw [ha.out]; exact putSel_upk 1 hb_ rfl rfl rfl), (bk_ BK229.out), es_, Q_NB241_240, Q_NB240_241, z_BK240, Q_GW240, Q_GE240, Q_NB229_240, Q_NB240_229, z_BK241, Q_GW241, Q_GE241, Q_NB229_241, Q_NB241_229, fun h0_ => absurd ((hoff 8 (by kernel_rfl)).symm.trans h0_) (by decide), fun h0_ => absurd ((hoff 9 (by kernel_rfl)).symm.trans h0_) (by decide), Q_X6_, Q_X7_⟩
   refine steps_cons ?_ ?_
   ·rintro b a w' ⟨gb240, gb241, m6_, m7_, ha, Q_BK229, Q_HB, Q_NB241_240, Q_NB240_241, Q_BK240, Q_GW240, Q_GE240, Q_NB229_240, Q_NB240_229, Q_BK241, Q_GW241, Q_GE241, Q_NB229_241, Q_NB241_229, Q_BK240_e8, Q_BK241_e9, Q_X6_, Q_X7_⟩ hb_ hon hoff
    refine ⟨_, rfl, fun K hK => ?_⟩
    have e7 : a.tmps[7]? = some (.pointer (some ⟨gb229, 0, none⟩)) := by rw [ha]; exact (putSel_off rfl).trans rfl
    replace ha := Aside0.mk ha
    have BK229 := Aside0.mk Q_BK229
    have HB := Aside0.mk Q_HB
    have hc0_ : w'.cell? ⟨gb229, 0, none⟩ = some (.int .i64 t226) := (blk_cell BK229.out 0).trans rfl
    have hc1_ : w'.cell? ⟨gb229, 1, none⟩ = some (.int .i64 t227) := (blk_cell BK229.out 1).trans rfl
    refine value_ (w1 := w') (v := .agg #[.int .i64 t226, .int .i64 t227]) (by rfl) rfl ?_ ?_
    ·go_simp
     (try simp only [i64_w])
     try rfl
    refine hK.out _ _ ⟨gb240, gb241, m6_, m7_, (by rw [ha.out]; exact putSel_upk 2 hb_ rfl rfl rfl), Q_BK229, Q_HB, Q_NB241_240, Q_NB240_241, Q_BK240, Q_GW240, Q_GE240, Q_NB229_240, Q_NB240_229, Q_BK241, Q_GW241, Q_GE241, Q_NB229_241, Q_NB241_229, fun h0_ => absurd ((hoff 8 (by kernel_rfl)).symm.trans h0_) (by decide), fun h0_ => absurd ((hoff 9 (by kernel_rfl)).symm.trans h0_) (by decide), Q_X6_, Q_X7_⟩
   refine steps_cons ?_ ?_
   ·rintro b a w' ⟨gb240, gb241, m6_, m7_, ha, Q_BK229, Q_HB, Q_NB241_240, Q_NB240_241, Q_BK240, Q_GW240, Q_GE240, Q_NB229_240, Q_NB240_229, Q_BK241, Q_GW241, Q_GE241, Q_NB229_241, Q_NB241_229, Q_BK240_e8, Q_BK241_e9, Q_X6_, Q_X7_⟩ hb_ hon hoff
    refine ⟨_, rfl, fun K hK => ?_⟩
    have e21 : a.tmps[21]? = some (.agg #[.int .i64 t226, .int .i64 t227]) := by rw [ha]; exact putSel_on (e := (3, 21, .agg #[.int .i64 t226, .int .i64 t227])) 2 rfl rfl (hon 3 (by kernel_rfl)) rfl
    have e22 : a.tmps[22]? = some (.int .u32 a2) := by rw [ha]; exact (putSel_off rfl).trans rfl
    replace ha := Aside0.mk ha
    have BK229 := Aside0.mk Q_BK229
    have HB := Aside0.mk Q_HB
    refine goes_ Try.func56 (by kernel_rfl) rfl #[.agg #[.int .i64 t226, .int .i64 t227], .int .u32 a2] (by rfl) rfl rfl (by first | (simp only [List.map_toArray, List.map_cons, List.map_nil, Act.eval, Array.getD_eq_getD_getElem?, Option.getD_some, e21, e22]; done) | (simp only [List.map_toArray, List.map_cons, List.map_nil, Act.eval, Array.getD_eq_getD_getElem?, Option.getD_some, e21, e22]; rfl)) ?_
    with_reducible refine (impl_format_open.calls t226 t227 a2 t235 t236 t237 t238 t239 _ A7.out).mono ?_
    rintro e w16 ⟨rfl, hb⟩
    refine ⟨_, rfl, ?_⟩
    have n0_ := Aside0.mk (blk_below (bk_ BK229.out) hb)
    have n1_ := Aside0.mk (below_step es_ hb)
    have z_BK240 := fun (h0_ : b 6 = true) (h1_ : b 8 = false) => (show w16.heap[gb240]? = some (.cells #[.bool false, .bool false, .bool false, .int .u64 0, .int .i64 0] 100 (0, 0)) from by first | exact (blk_below (g := gb240) (o := .cells #[.bool false, .bool false, .bool false, .int .u64 0, .int .i64 0] 100 (0, 0)) (by (with_reducible repeat first | apply bN | apply bD | apply bA); exact (Q_BK240 h0_ h1_)) hb))
    have z_BK241 := fun (h0_ : b 7 = true) (h1_ : b 9 = false) => (show w16.heap[gb241]? = some (.cells #[.bool false, .bool false, .bool false, .int .u64 0, .int .i64 0] 100 (0, 0)) from by first | exact (blk_below (g := gb241) (o := .cells #[.bool false, .bool false, .bool false, .int .u64 0, .int .i64 0] 100 (0, 0)) (by (with_reducible repeat first | apply bN | apply bD | apply bA); exact (Q_BK241 h0_ h1_)) hb))
    clear BK229 HB
    have BK229 := n0_
    have HB := n1_
    clear n0_ n1_
    (try clear hb)
    (try clear hb2)
    (try clear hk)
    (try clear hi)
    refine hK.out _ _ ⟨gb240, gb241, m6_, m7_, (by rw [ha.out]; exact putSel_upk 3 hb_ rfl rfl rfl), (bk_ BK229.out), es_, Q_NB241_240, Q_NB240_241, z_BK240, Q_GW240, Q_GE240, Q_NB229_240, Q_NB240_229, z_BK241, Q_GW241, Q_GE241, Q_NB229_241, Q_NB241_229, fun h0_ => absurd ((hoff 8 (by kernel_rfl)).symm.trans h0_) (by decide), fun h0_ => absurd ((hoff 9 (by kernel_rfl)).symm.trans h0_) (by decide), Q_X6_, Q_X7_⟩
   refine steps_cons ?_ ?_
   ·rintro b a w' ⟨gb240, gb241, m6_, m7_, ha, Q_BK229, Q_HB, Q_NB241_240, Q_NB240_241, Q_BK240, Q_GW240, Q_GE240, Q_NB229_240, Q_NB240_229, Q_BK241, Q_GW241, Q_GE241, Q_NB229_241, Q_NB241_229, Q_BK240_e8, Q_BK241_e9, Q_X6_, Q_X7_⟩ hb_ hon hoff
    refine ⟨_, rfl, fun K hK => ?_⟩
    replace ha := Aside0.mk ha
    have BK229 := Aside0.mk Q_BK229
    have HB := Aside0.mk Q_HB
    refine box_step ?hg (N := 9) ?hd (cs := #[.bool false, .bool false, .bool false, .int .u64 0, .int .i64 0]) (t := 100) ?hr ?_; (case hd => rfl); (case hg => rfl); (case hr => first | (go_simp; done) | (go_simp; rfl))
    intro gb240 hg w14 hbox hb
    have n0_ := Aside0.mk (blk_below (bk_ BK229.out) hb)
    have n1_ := Aside0.mk (below_step es_ hb)
    have n2_ := Aside0.mk (hbox)
    have n3_ := Aside0.mk (gs_ hg es_ : w.heap.size ≤ gb240)
    have n4_ := Aside0.mk (gs_ hg es_ : w.heap.size ≤ gb240)
    have n5_ := Aside0.mk ((by rw [hg]; exact Nat.ne_of_lt (blk_lt (g := gb229) (o := .cells #[.int .i64 t226, .int .i64 t227] 96 (0, 0)) (bk_ BK229.out)) : gb229 ≠ gb240))
    have n6_ := Aside0.mk ((by rw [hg]; exact Nat.ne_of_gt (blk_lt (g := gb229) (o := .cells #[.int .i64 t226, .int .i64 t227] 96 (0, 0)) (bk_ BK229.out)) : gb240 ≠ gb229))
    have z_NB241_240 := fun (h0_ : up b 6 6 = true) (h1_ : up b 6 7 = true) => (show gb241 ≠ gb240 from ((by rw [hg]; exact Nat.ne_of_lt (blk_lt (g := gb241) (o := .cells #[.bool false, .bool false, .bool false, .int .u64 0, .int .i64 0] 100 (0, 0)) (by (with_reducible repeat first | apply bN | apply bD | apply bA); exact (Q_BK241 h1_ (hoff 9 (by kernel_rfl))))) : gb241 ≠ gb240)))
    have z_NB240_241 := fun (h0_ : up b 6 6 = true) (h1_ : up b 6 7 = true) => (show gb240 ≠ gb241 from ((by rw [hg]; exact Nat.ne_of_gt (blk_lt (g := gb241) (o := .cells #[.bool false, .bool false, .bool false, .int .u64 0, .int .i64 0] 100 (0, 0)) (by (with_reducible repeat first | apply bN | apply bD | apply bA); exact (Q_BK241 h1_ (hoff 9 (by kernel_rfl))))) : gb240 ≠ gb241)))
    have z_BK241 := fun (h0_ : b 7 = true) (h1_ : b 9 = false) => (show w14.heap[gb241]? = some (.cells #[.bool false, .bool false, .bool false, .int .u64 0, .int .i64 0] 100 (0, 0)) from by first | exact (blk_below (g := gb241) (o := .cells #[.bool false, .bool false, .bool false, .int .u64 0, .int .i64 0] 100 (0, 0)) (by (with_reducible repeat first | apply bN | apply bD | apply bA); exact (Q_BK241 h0_ h1_)) hb))
    clear BK229 HB
    have BK229 := n0_
    have HB := n1_
    have BK240 := n2_
    have GW240 := n3_
    have GE240 := n4_
    have NB229_240 := n5_
    have NB240_229 := n6_
    clear n0_ n1_ n2_ n3_ n4_ n5_ n6_ hb hbox hg
    refine hK.out _ _ ⟨gb240, gb241, (.pointer (some ⟨gb240, 0, none⟩)), m7_, (by rw [ha.out]; exact putSel_upk 4 hb_ rfl rfl rfl), (bk_ BK229.out), es_, z_NB241_240, z_NB240_241, fun _ _ => (bk_ BK240.out), fun _ => GW240.out, fun _ => GE240.out, fun _ => NB229_240.out, fun _ => NB240_229.out, z_BK241, Q_GW241, Q_GE241, Q_NB229_241, Q_NB241_229, fun h0_ => absurd ((hoff 8 (by kernel_rfl)).symm.trans h0_) (by decide), fun h0_ => absurd ((hoff 9 (by kernel_rfl)).symm.trans h0_) (by decide), fun _ => rfl, Q_X7_⟩
   refine steps_cons ?_ ?_
   ·rintro b a w' ⟨gb240, gb241, m6_, m7_, ha, Q_BK229, Q_HB, Q_NB241_240, Q_NB240_241, Q_BK240, Q_GW240, Q_GE240, Q_NB229_240, Q_NB240_229, Q_BK241, Q_GW241, Q_GE241, Q_NB229_241, Q_NB241_229, Q_BK240_e8, Q_BK241_e9, Q_X6_, Q_X7_⟩ hb_ hon hoff
    refine ⟨_, rfl, fun K hK => ?_⟩
    replace ha := Aside0.mk ha
    have BK229 := Aside0.mk Q_BK229
    have HB := Aside0.mk Q_HB
    refine box_step ?hg (N := 10) ?hd (cs := #[.bool false, .bool false, .bool false, .int .u64 0, .int .i64 0]) (t := 100) ?hr ?_; (case hd => rfl); (case hg => rfl); (case hr => first | (go_simp; done) | (go_simp; rfl))
    intro gb241 hg w14 hbox hb
    have n0_ := Aside0.mk (blk_below (bk_ BK229.out) hb)
    have n1_ := Aside0.mk (below_step es_ hb)
    have n2_ := Aside0.mk (hbox)
    have n3_ := Aside0.mk (gs_ hg es_ : w.heap.size ≤ gb241)
    have n4_ := Aside0.mk (gs_ hg es_ : w.heap.size ≤ gb241)
    have n5_ := Aside0.mk ((by rw [hg]; exact Nat.ne_of_lt (blk_lt (g := gb229) (o := .cells #[.int .i64 t226, .int .i64 t227] 96 (0, 0)) (bk_ BK229.out)) : gb229 ≠ gb241))
    have n6_ := Aside0.mk ((by rw [hg]; exact Nat.ne_of_gt (blk_lt (g := gb229) (o := .cells #[.int .i64 t226, .int .i64 t227] 96 (0, 0)) (bk_ BK229.out)) : gb241 ≠ gb229))
    have z_NB241_240 := fun (h0_ : up b 7 6 = true) (h1_ : up b 7 7 = true) => (show gb241 ≠ gb240 from ((by rw [hg]; exact Nat.ne_of_gt (blk_lt (g := gb240) (o := .cells #[.bool false, .bool false, .bool false, .int .u64 0, .int .i64 0] 100 (0, 0)) (by (with_reducible repeat first | apply bN | apply bD | apply bA); exact (Q_BK240 h0_ (hoff 8 (by kernel_rfl))))) : gb241 ≠ gb240)))
    have z_NB240_241 := fun (h0_ : up b 7 6 = true) (h1_ : up b 7 7 = true) => (show gb240 ≠ gb241 from ((by rw [hg]; exact Nat.ne_of_lt (blk_lt (g := gb240) (o := .cells #[.bool false, .bool false, .bool false, .int .u64 0, .int .i64 0] 100 (0, 0)) (by (with_reducible repeat first | apply bN | apply bD | apply bA); exact (Q_BK240 h0_ (hoff 8 (by kernel_rfl))))) : gb240 ≠ gb241)))
    have z_BK240 := fun (h0_ : b 6 = true) (h1_ : b 8 = false) => (show w14.heap[gb240]? = some (.cells #[.bool false, .bool false, .bool false, .int .u64 0, .int .i64 0] 100 (0, 0)) from by first | exact (blk_below (g := gb240) (o := .cells #[.bool false, .bool false, .bool false, .int .u64 0, .int .i64 0] 100 (0, 0)) (by (with_reducible repeat first | apply bN | apply bD | apply bA); exact (Q_BK240 h0_ h1_)) hb))
    clear BK229 HB
    have BK229 := n0_
    have HB := n1_
    have BK241 := n2_
    have GW241 := n3_
    have GE241 := n4_
    have NB229_241 := n5_
    have NB241_229 := n6_
    clear n0_ n1_ n2_ n3_ n4_ n5_ n6_ hb hbox hg
    refine hK.out _ _ ⟨gb240, gb241, m6_, (.pointer (some ⟨gb241, 0, none⟩)), (by rw [ha.out]; exact putSel_upk 5 hb_ rfl rfl rfl), (bk_ BK229.out), es_, z_NB241_240, z_NB240_241, z_BK240, Q_GW240, Q_GE240, Q_NB229_240, Q_NB240_229, fun _ _ => (bk_ BK241.out), fun _ => GW241.out, fun _ => GE241.out, fun _ => NB229_241.out, fun _ => NB241_229.out, fun h0_ => absurd ((hoff 8 (by kernel_rfl)).symm.trans h0_) (by decide), fun h0_ => absurd ((hoff 9 (by kernel_rfl)).symm.trans h0_) (by decide), Q_X6_, fun _ => rfl⟩
   refine steps_cons ?_ ?_
   ·rintro b a w' ⟨gb240, gb241, m6_, m7_, ha, Q_BK229, Q_HB, Q_NB241_240, Q_NB240_241, Q_BK240, Q_GW240, Q_GE240, Q_NB229_240, Q_NB240_229, Q_BK241, Q_GW241, Q_GE241, Q_NB229_241, Q_NB241_229, Q_BK240_e8, Q_BK241_e9, Q_X6_, Q_X7_⟩ hb_ hon hoff
    refine ⟨_, rfl, fun K hK => ?_⟩
    have e9 : a.tmps[9]? = some (m6_) := by rw [ha]; exact putSel_on (e := (6, 9, m6_)) 4 rfl rfl (hon 6 (by kernel_rfl)) rfl
    rw [Q_X6_ (hon 6 (by kernel_rfl))] at e9
    have e20 : a.tmps[20]? = some (.agg #[.bool t230, .bool t231, .bool t232, .int .u64 t233, .int .i64 t234]) := by rw [ha]; exact putSel_on (e := (2, 20, .agg #[.bool t230, .bool t231, .bool t232, .int .u64 t233, .int .i64 t234])) 1 rfl rfl (hon 2 (by kernel_rfl)) rfl
    replace ha := Aside0.mk ha
    have BK229 := Aside0.mk Q_BK229
    have HB := Aside0.mk Q_HB
    have NB241_240 := Aside0.mk (Q_NB241_240 (hon 6 (by kernel_rfl)) (hon 7 (by kernel_rfl)))
    have NB240_241 := Aside0.mk (Q_NB240_241 (hon 6 (by kernel_rfl)) (hon 7 (by kernel_rfl)))
    have BK240 := Aside0.mk (Q_BK240 (hon 6 (by kernel_rfl)) hb_)
    have GW240 := Aside0.mk (Q_GW240 (hon 6 (by kernel_rfl)))
    have GE240 := Aside0.mk (Q_GE240 (hon 6 (by kernel_rfl)))
    have NB229_240 := Aside0.mk (Q_NB229_240 (hon 6 (by kernel_rfl)))
    have NB240_229 := Aside0.mk (Q_NB240_229 (hon 6 (by kernel_rfl)))
    have BK241 := Aside0.mk (Q_BK241 (hon 7 (by kernel_rfl)) (hoff 9 (by kernel_rfl)))
    have GW241 := Aside0.mk (Q_GW241 (hon 7 (by kernel_rfl)))
    have GE241 := Aside0.mk (Q_GE241 (hon 7 (by kernel_rfl)))
    have NB229_241 := Aside0.mk (Q_NB229_241 (hon 7 (by kernel_rfl)))
    have NB241_229 := Aside0.mk (Q_NB241_229 (hon 7 (by kernel_rfl)))
    have hs19 : w'.cell? ⟨gb240, 0, none⟩ = some (.bool false) := (blk_cell BK240.out 0).trans rfl
    have hfs19 := blk_frozen BK240.out 0
    have hns19_0 := NB229_240.out
    have hns19_2 := NB241_240.out
    have hms19_0 := NB240_229.out
    have hms19_2 := NB240_241.out
    have hs20 : w'.cell? ⟨gb240, 1, none⟩ = some (.bool false) := (blk_cell BK240.out 1).trans rfl
    have hfs20 := blk_frozen BK240.out 1
    have hns20_0 := NB229_240.out
    have hns20_2 := NB241_240.out
    have hms20_0 := NB240_229.out
    have hms20_2 := NB240_241.out
    have hs21 : w'.cell? ⟨gb240, 2, none⟩ = some (.bool false) := (blk_cell BK240.out 2).trans rfl
    have hfs21 := blk_frozen BK240.out 2
    have hns21_0 := NB229_240.out
    have hns21_2 := NB241_240.out
    have hms21_0 := NB240_229.out
    have hms21_2 := NB240_241.out
    have hs22 : w'.cell? ⟨gb240, 3, none⟩ = some (.int .u64 0) := (blk_cell BK240.out 3).trans rfl
    have hfs22 := blk_frozen BK240.out 3
    have hns22_0 := NB229_240.out
    have hns22_2 := NB241_240.out
    have hms22_0 := NB240_229.out
    have hms22_2 := NB240_241.out
    have hs23 : w'.cell? ⟨gb240, 4, none⟩ = some (.int .i64 0) := (blk_cell BK240.out 4).trans rfl
    have hfs23 := blk_frozen BK240.out 4
    have hns23_0 := NB229_240.out
    have hns23_2 := NB241_240.out
    have hms23_0 := NB240_229.out
    have hms23_2 := NB240_241.out
    refine skip_ (w1 := ?_) (by rfl) rfl ?_ ?_
    rotate_left
    ·go_simp
     rfl
    refine hK.out _ _ ⟨gb240, gb241, m6_, m7_, (by rw [ha.out]; exact putSel_none (v := undef) rfl), (by (with_reducible repeat first | apply bN | apply bD | apply bA); refine blk_far ?_ NB229_240.out _; (with_reducible repeat first | apply bN | apply bD | apply bA); refine blk_far ?_ NB229_240.out _; (with_reducible repeat first | apply bN | apply bD | apply bA); refine blk_far ?_ NB229_240.out _; (with_reducible repeat first | apply bN | apply bD | apply bA); refine blk_far ?_ NB229_240.out _; (with_reducible repeat first | apply bN | apply bD | apply bA); refine blk_far ?_ NB229_240.out _; (with_reducible repeat first | apply bN | apply bD | apply bA); exact BK229.out), es_, fun _ _ => NB241_240.out, fun _ _ => NB240_241.out, fun _ h1_ => absurd ((up_self b 8).symm.trans h1_) (by decide), fun _ => GW240.out, fun _ => GE240.out, fun _ => NB229_240.out, fun _ => NB240_229.out, fun _ _ => (by (with_reducible repeat first | apply bN | apply bD | apply bA); refine blk_far ?_ NB241_240.out _; (with_reducible repeat first | apply bN | apply bD | apply bA); refine blk_far ?_ NB241_240.out _; (with_reducible repeat first | apply bN | apply bD | apply bA); refine blk_far ?_ NB241_240.out _; (with_reducible repeat first | apply bN | apply bD | apply bA); refine blk_far ?_ NB241_240.out _; (with_reducible repeat first | apply bN | apply bD | apply bA); refine blk_far ?_ NB241_240.out _; (with_reducible repeat first | apply bN | apply bD | apply bA); exact BK241.out), fun _ => GW241.out, fun _ => GE241.out, fun _ => NB229_241.out, fun _ => NB241_229.out, fun _ => (by (with_reducible repeat first | apply bN | apply bD | apply bA); refine blk_put (cs := #[.bool t230, .bool t231, .bool t232, .int .u64 t233, .int .i64 0]) ?_ 4 _ rfl; (with_reducible repeat first | apply bN | apply bD | apply bA); refine blk_put (cs := #[.bool t230, .bool t231, .bool t232, .int .u64 0, .int .i64 0]) ?_ 3 _ rfl; (with_reducible repeat first | apply bN | apply bD | apply bA); refine blk_put (cs := #[.bool t230, .bool t231, .bool false, .int .u64 0, .int .i64 0]) ?_ 2 _ rfl; (with_reducible repeat first | apply bN | apply bD | apply bA); refine blk_put (cs := #[.bool t230, .bool false, .bool false, .int .u64 0, .int .i64 0]) ?_ 1 _ rfl; (with_reducible repeat first | apply bN | apply bD | apply bA); refine blk_put (cs := #[.bool false, .bool false, .bool false, .int .u64 0, .int .i64 0]) ?_ 0 _ rfl; (with_reducible repeat first | apply bN | apply bD | apply bA); exact BK240.out), fun h0_ => absurd ((hoff 9 (by kernel_rfl)).symm.trans h0_) (by decide), Q_X6_, Q_X7_⟩
   refine steps_cons ?_ ?_
   ·rintro b a w' ⟨gb240, gb241, m6_, m7_, ha, Q_BK229, Q_HB, Q_NB241_240, Q_NB240_241, Q_BK240, Q_GW240, Q_GE240, Q_NB229_240, Q_NB240_229, Q_BK241, Q_GW241, Q_GE241, Q_NB229_241, Q_NB241_229, Q_BK240_e8, Q_BK241_e9, Q_X6_, Q_X7_⟩ hb_ hon hoff
    refine ⟨_, rfl, fun K hK => ?_⟩
    have e10 : a.tmps[10]? = some (m7_) := by rw [ha]; exact putSel_on (e := (7, 10, m7_)) 5 rfl rfl (hon 7 (by kernel_rfl)) rfl
    rw [Q_X7_ (hon 7 (by kernel_rfl))] at e10
    have e23 : a.tmps[23]? = some (.agg #[.bool t235, .bool t236, .bool t237, .int .u64 t238, .int .i64 t239]) := by rw [ha]; exact putSel_on (e := (5, 23, .agg #[.bool t235, .bool t236, .bool t237, .int .u64 t238, .int .i64 t239])) 3 rfl rfl (hon 5 (by kernel_rfl)) rfl
    replace ha := Aside0.mk ha
    have BK229 := Aside0.mk Q_BK229
    have HB := Aside0.mk Q_HB
    have NB241_240 := Aside0.mk (Q_NB241_240 (hon 6 (by kernel_rfl)) (hon 7 (by kernel_rfl)))
    have NB240_241 := Aside0.mk (Q_NB240_241 (hon 6 (by kernel_rfl)) (hon 7 (by kernel_rfl)))
    have GW240 := Aside0.mk (Q_GW240 (hon 6 (by kernel_rfl)))
    have GE240 := Aside0.mk (Q_GE240 (hon 6 (by kernel_rfl)))
    have NB229_240 := Aside0.mk (Q_NB229_240 (hon 6 (by kernel_rfl)))
    have NB240_229 := Aside0.mk (Q_NB240_229 (hon 6 (by kernel_rfl)))
    have BK241 := Aside0.mk (Q_BK241 (hon 7 (by kernel_rfl)) hb_)
    have GW241 := Aside0.mk (Q_GW241 (hon 7 (by kernel_rfl)))
    have GE241 := Aside0.mk (Q_GE241 (hon 7 (by kernel_rfl)))
    have NB229_241 := Aside0.mk (Q_NB229_241 (hon 7 (by kernel_rfl)))
    have NB241_229 := Aside0.mk (Q_NB241_229 (hon 7 (by kernel_rfl)))
    have BK240 := Aside0.mk (Q_BK240_e8 (hon 8 (by kernel_rfl)))
    have hs24 : w'.cell? ⟨gb241, 0, none⟩ = some (.bool false) := (blk_cell BK241.out 0).trans rfl
    have hfs24 := blk_frozen BK241.out 0
    have hns24_0 := NB229_241.out
    have hns24_1 := NB240_241.out
    have hms24_0 := NB241_229.out
    have hms24_1 := NB241_240.out
    have hs25 : w'.cell? ⟨gb241, 1, none⟩ = some (.bool false) := (blk_cell BK241.out 1).trans rfl
    have hfs25 := blk_frozen BK241.out 1
    have hns25_0 := NB229_241.out
    have hns25_1 := NB240_241.out
    have hms25_0 := NB241_229.out
    have hms25_1 := NB241_240.out
    have hs26 : w'.cell? ⟨gb241, 2, none⟩ = some (.bool false) := (blk_cell BK241.out 2).trans rfl
    have hfs26 := blk_frozen BK241.out 2
    have hns26_0 := NB229_241.out
    have hns26_1 := NB240_241.out
    have hms26_0 := NB241_229.out
    have hms26_1 := NB241_240.out
    have hs27 : w'.cell? ⟨gb241, 3, none⟩ = some (.int .u64 0) := (blk_cell BK241.out 3).trans rfl
    have hfs27 := blk_frozen BK241.out 3
    have hns27_0 := NB229_241.out
    have hns27_1 := NB240_241.out
    have hms27_0 := NB241_229.out
    have hms27_1 := NB241_240.out
    have hs28 : w'.cell? ⟨gb241, 4, none⟩ = some (.int .i64 0) := (blk_cell BK241.out 4).trans rfl
    have hfs28 := blk_frozen BK241.out 4
    have hns28_0 := NB229_241.out
    have hns28_1 := NB240_241.out
    have hms28_0 := NB241_229.out
    have hms28_1 := NB241_240.out
    refine skip_ (w1 := ?_) (by rfl) rfl ?_ ?_
    rotate_left
    ·go_simp
     rfl
    refine hK.out _ _ ⟨gb240, gb241, m6_, m7_, (by rw [ha.out]; exact putSel_none (v := undef) rfl), (by (with_reducible repeat first | apply bN | apply bD | apply bA); refine blk_far ?_ NB229_241.out _; (with_reducible repeat first | apply bN | apply bD | apply bA); refine blk_far ?_ NB229_241.out _; (with_reducible repeat first | apply bN | apply bD | apply bA); refine blk_far ?_ NB229_241.out _; (with_reducible repeat first | apply bN | apply bD | apply bA); refine blk_far ?_ NB229_241.out _; (with_reducible repeat first | apply bN | apply bD | apply bA); refine blk_far ?_ NB229_241.out _; (with_reducible repeat first | apply bN | apply bD | apply bA); exact BK229.out), es_, fun _ _ => NB241_240.out, fun _ _ => NB240_241.out, fun _ h1_ => absurd ((hon 8 (by kernel_rfl)).symm.trans h1_) (by decide), fun _ => GW240.out, fun _ => GE240.out, fun _ => NB229_240.out, fun _ => NB240_229.out, fun _ h1_ => absurd ((up_self b 9).symm.trans h1_) (by decide), fun _ => GW241.out, fun _ => GE241.out, fun _ => NB229_241.out, fun _ => NB241_229.out, fun _ => (by (with_reducible repeat first | apply bN | apply bD | apply bA); refine blk_far ?_ NB240_241.out _; (with_reducible repeat first | apply bN | apply bD | apply bA); refine blk_far ?_ NB240_241.out _; (with_reducible repeat first | apply bN | apply bD | apply bA); refine blk_far ?_ NB240_241.out _; (with_reducible repeat first | apply bN | apply bD | apply bA); refine blk_far ?_ NB240_241.out _; (with_reducible repeat first | apply bN | apply bD | apply bA); refine blk_far ?_ NB240_241.out _; (with_reducible repeat first | apply bN | apply bD | apply bA); exact BK240.out), fun _ => (by (with_reducible repeat first | apply bN | apply bD | apply bA); refine blk_put (cs := #[.bool t235, .bool t236, .bool t237, .int .u64 t238, .int .i64 0]) ?_ 4 _ rfl; (with_reducible repeat first | apply bN | apply bD | apply bA); refine blk_put (cs := #[.bool t235, .bool t236, .bool t237, .int .u64 0, .int .i64 0]) ?_ 3 _ rfl; (with_reducible repeat first | apply bN | apply bD | apply bA); refine blk_put (cs := #[.bool t235, .bool t236, .bool false, .int .u64 0, .int .i64 0]) ?_ 2 _ rfl; (with_reducible repeat first | apply bN | apply bD | apply bA); refine blk_put (cs := #[.bool t235, .bool false, .bool false, .int .u64 0, .int .i64 0]) ?_ 1 _ rfl; (with_reducible repeat first | apply bN | apply bD | apply bA); refine blk_put (cs := #[.bool false, .bool false, .bool false, .int .u64 0, .int .i64 0]) ?_ 0 _ rfl; (with_reducible repeat first | apply bN | apply bD | apply bA); exact BK241.out), Q_X6_, Q_X7_⟩
   exact steps_nil
  rintro b a w28 hall ⟨gb240, gb241, m6_, m7_, ha, Q_BK229, Q_HB, Q_NB241_240, Q_NB240_241, Q_BK240, Q_GW240, Q_GE240, Q_NB229_240, Q_NB240_229, Q_BK241, Q_GW241, Q_GE241, Q_NB229_241, Q_NB241_229, Q_BK240_e8, Q_BK241_e9, Q_X6_, Q_X7_⟩
  clear BK229 HB
  have hb0_ := hall 0 (by kernel_rfl)
  have hb2_ := hall 2 (by kernel_rfl)
  have hb3_ := hall 3 (by kernel_rfl)
  have hb5_ := hall 5 (by kernel_rfl)
  have hb6_ := hall 6 (by kernel_rfl)
  have hb7_ := hall 7 (by kernel_rfl)
  have hb8_ := hall 8 (by kernel_rfl)
  have hb9_ := hall 9 (by kernel_rfl)
  subst ha
  obtain rfl := Q_X6_ hb6_
  obtain rfl := Q_X7_ hb7_
  simp only [putSel, hb0_, hb2_, hb3_, hb5_, hb6_, hb7_, hb8_, hb9_, if_true, Act.put, List.setIfInBounds_toArray, List.set_cons_zero, List.set_cons_succ]
  have BK229 := Aside0.mk Q_BK229
  clear Q_BK229
  have HB := Aside0.mk Q_HB
  clear Q_HB
  have NB241_240 := Aside0.mk (Q_NB241_240 hb6_ hb7_)
  clear Q_NB241_240
  have NB240_241 := Aside0.mk (Q_NB240_241 hb6_ hb7_)
  clear Q_NB240_241 Q_BK240
  have GW240 := Aside0.mk (Q_GW240 hb6_)
  clear Q_GW240
  have GE240 := Aside0.mk (Q_GE240 hb6_)
  clear Q_GE240
  have NB229_240 := Aside0.mk (Q_NB229_240 hb6_)
  clear Q_NB229_240
  have NB240_229 := Aside0.mk (Q_NB240_229 hb6_)
  clear Q_NB240_229 Q_BK241
  have GW241 := Aside0.mk (Q_GW241 hb7_)
  clear Q_GW241
  have GE241 := Aside0.mk (Q_GE241 hb7_)
  clear Q_GE241
  have NB229_241 := Aside0.mk (Q_NB229_241 hb7_)
  clear Q_NB229_241
  have NB241_229 := Aside0.mk (Q_NB241_229 hb7_)
  clear Q_NB241_229
  have BK240 := Aside0.mk (Q_BK240_e8 hb8_)
  clear Q_BK240_e8
  have BK241 := Aside0.mk (Q_BK241_e9 hb9_)
  clear Q_BK241_e9 hall hb0_ hb2_ hb3_ hb5_ hb6_ hb7_ hb8_ hb9_
  go_upto_region 5 with (fail)
  go_cut [24] (fun v24 wc => ∃ (kq : Nat) (x24_7 : Bool), v24 = .bool x24_7 ∧ Aside0 (impl_FAdd.j0 kq x24_7 t226 t227 t230 t231 t232 t233 t234 t235 t236 t237 t238 t239 = some r) ∧ Aside0 (kq ≤ k) ∧ Aside0 (wc.heap[gb229]? = some (.cells #[.int .i64 t226, .int .i64 t227] 96 (0, 0))) ∧ Aside0 (wc.heap[gb240]? = some (.cells #[.bool t230, .bool t231, .bool t232, .int .u64 t233, .int .i64 t234] 100 (0, 0))) ∧ Aside0 (wc.heap[gb241]? = some (.cells #[.bool t235, .bool t236, .bool t237, .int .u64 t238, .int .i64 t239] 100 (0, 0))) ∧ Aside0 (Below w.heap.size w wc))
  case first =>
   have H := HC8.out
   clear HC8
   by_cases c29 : t231 = true
   ·subst c29
    have H1 : (impl_FAdd.j0 k true t226 t227 t230 true t232 t233 t234 t235 t236 t237 t238 t239) = some r := by rw [if_pos rfl] at H; first | done | exact H
    clear H
    have H := H1
    clear H1
    have H' := Aside0.mk H
    clear H
    have hnb30 := NB240_229.out
    have hnc30 := NB229_240.out
    have hnb31 := NB240_241.out
    have hnc31 := NB241_240.out
    obtain ⟨_, _, _, _, _, _, _, _, _, _⟩ := zc5_ BK240.out
    go_wp2
    go_meet
    case rel => exact ⟨_, (true), (by first | rfl | (simp; done) | (simp [*]; done)), H', ⟨by first | omega | exact Nat.le_refl _⟩, ⟨bk_ BK229.out⟩, ⟨bk_ BK240.out⟩, ⟨bk_ BK241.out⟩, ⟨es_⟩⟩
   ·replace c29 := Bool.eq_false_iff.mpr c29
    subst c29
    have H1 : (if t236 = true then (impl_FAdd.j0 k true t226 t227 t230 false t232 t233 t234 t235 t236 t237 t238 t239) else (if t232 = true then (if t237 = true then (impl_FAdd.j0 k (t230 != t235) t226 t227 t230 false t232 t233 t234 t235 t236 t237 t238 t239) else (impl_FAdd.j0 k false t226 t227 t230 false t232 t233 t234 t235 t236 t237 t238 t239)) else (impl_FAdd.j0 k false t226 t227 t230 false t232 t233 t234 t235 t236 t237 t238 t239))) = some r := by rw [if_neg (show ¬ (false = true) by decide)] at H; first | done | exact H
    clear H
    have H := H1
    clear H1
    by_cases c33 : t236 = true
    ·subst c33
     have H1 : (impl_FAdd.j0 k true t226 t227 t230 false t232 t233 t234 t235 true t237 t238 t239) = some r := by rw [if_pos rfl] at H; first | done | exact H
     clear H
     have H := H1
     clear H1
     have H' := Aside0.mk H
     clear H
     have hnb34 := NB240_229.out
     have hnc34 := NB229_240.out
     have hnb35 := NB240_241.out
     have hnc35 := NB241_240.out
     obtain ⟨_, _, _, _, _, _, _, _, _, _⟩ := zc5_ BK240.out
     have hnb37 := NB241_229.out
     have hnc37 := NB229_241.out
     obtain ⟨_, _, _, _, _, _, _, _, _, _⟩ := zc5_ BK241.out
     go_wp2
     go_meet
     case rel => exact ⟨_, (true), (by first | rfl | (simp; done) | (simp [*]; done)), H', ⟨by first | omega | exact Nat.le_refl _⟩, ⟨bk_ BK229.out⟩, ⟨bk_ BK240.out⟩, ⟨bk_ BK241.out⟩, ⟨es_⟩⟩
    ·replace c33 := Bool.eq_false_iff.mpr c33
     subst c33
     have H1 : (if t232 = true then (if t237 = true then (impl_FAdd.j0 k (t230 != t235) t226 t227 t230 false t232 t233 t234 t235 false t237 t238 t239) else (impl_FAdd.j0 k false t226 t227 t230 false t232 t233 t234 t235 false t237 t238 t239)) else (impl_FAdd.j0 k false t226 t227 t230 false t232 t233 t234 t235 false t237 t238 t239)) = some r := by rw [if_neg (show ¬ (false = true) by decide)] at H; first | done | exact H
     clear H
     have H := H1
     clear H1
     by_cases c39 : t232 = true
     ·subst c39
      have H1 : (if t237 = true then (impl_FAdd.j0 k (t230 != t235) t226 t227 t230 false true t233 t234 t235 false t237 t238 t239) else (impl_FAdd.j0 k false t226 t227 t230 false true t233 t234 t235 false t237 t238 t239)) = some r := by rw [if_pos rfl] at H; first | done | exact H
      clear H
      have H := H1
      clear H1
      by_cases c40 : t237 = true
      ·subst c40
       have H1 : (impl_FAdd.j0 k (t230 != t235) t226 t227 t230 false true t233 t234 t235 false true t238 t239) = some r := by rw [if_pos rfl] at H; first | done | exact H
       clear H
       have H := H1
       clear H1
       have H' := Aside0.mk H
       clear H
       have hnb41 := NB240_229.out
       have hnc41 := NB229_240.out
       have hnb42 := NB240_241.out
       have hnc42 := NB241_240.out
       obtain ⟨_, _, _, _, _, _, _, _, _, _⟩ := zc5_ BK240.out
       have hnb44 := NB241_229.out
       have hnc44 := NB229_241.out
       obtain ⟨_, _, _, _, _, _, _, _, _, _⟩ := zc5_ BK241.out
       go_wp2
       go_meet
       case rel => exact ⟨_, ((t230 != t235)), (by first | rfl | (simp; done) | (simp [*]; done)), H', ⟨by first | omega | exact Nat.le_refl _⟩, ⟨bk_ BK229.out⟩, ⟨bk_ BK240.out⟩, ⟨bk_ BK241.out⟩, ⟨es_⟩⟩
      ·replace c40 := Bool.eq_false_iff.mpr c40
       subst c40
       have H1 : (impl_FAdd.j0 k false t226 t227 t230 false true t233 t234 t235 false false t238 t239) = some r := by rw [if_neg (show ¬ (false = true) by decide)] at H; first | done | exact H
       clear H
       have H := H1
       clear H1
       have H' := Aside0.mk H
       clear H
       have hnb46 := NB240_229.out
       have hnc46 := NB229_240.out
       have hnb47 := NB240_241.out
       have hnc47 := NB241_240.out
       obtain ⟨_, _, _, _, _, _, _, _, _, _⟩ := zc5_ BK240.out
       have hnb49 := NB241_229.out
       have hnc49 := NB229_241.out
       obtain ⟨_, _, _, _, _, _, _, _, _, _⟩ := zc5_ BK241.out
       go_wp2
       go_meet
       case rel => exact ⟨_, (false), (by first | rfl | (simp; done) | (simp [*]; done)), H', ⟨by first | omega | exact Nat.le_refl _⟩, ⟨bk_ BK229.out⟩, ⟨bk_ BK240.out⟩, ⟨bk_ BK241.out⟩, ⟨es_⟩⟩
     ·replace c39 := Bool.eq_false_iff.mpr c39
      subst c39
      have H1 : (impl_FAdd.j0 k false t226 t227 t230 false false t233 t234 t235 false t237 t238 t239) = some r := by rw [if_neg (show ¬ (false = true) by decide)] at H; first | done | exact H
      clear H
      have H := H1
      clear H1
      have H' := Aside0.mk H
      clear H
      have hnb51 := NB240_229.out
      have hnc51 := NB229_240.out
      have hnb52 := NB240_241.out
      have hnc52 := NB241_240.out
      obtain ⟨_, _, _, _, _, _, _, _, _, _⟩ := zc5_ BK240.out
      have hnb54 := NB241_229.out
      have hnc54 := NB229_241.out
      obtain ⟨_, _, _, _, _, _, _, _, _, _⟩ := zc5_ BK241.out
      go_wp2
      go_meet
      case rel => exact ⟨_, (false), (by first | rfl | (simp; done) | (simp [*]; done)), H', ⟨by first | omega | exact Nat.le_refl _⟩, ⟨bk_ BK229.out⟩, ⟨bk_ BK240.out⟩, ⟨bk_ BK241.out⟩, ⟨es_⟩⟩
  case rest =>
   clear HC8
   try clear p2
   obtain ⟨kq, x24_7, rfl, HA, HJ7, BK229, BK240, BK241, HB⟩ := hcut
   cases kq with
   | zero => exact absurd HA.out (by simp [impl_FAdd.j0])
   | succ kj7 =>
    have H := HA.out
    clear HA
    simp only [impl_FAdd.j0] at H
    by_cases c56 : x24_7 = true
    ·subst c56
     have H1 : ((impl_format_noNumber.f t226 t227).bind fun t242 => (some t242)) = some r := by rw [if_pos rfl] at H; first | done | exact H
     clear H
     have H := H1
     clear H1
     replace H := Option.bind_eq_some_iff.mp H
     obtain ⟨t242, A570, H⟩ := H
     try dsimp only at H
     have A57 := Aside0.mk A570
     clear A570
     obtain rfl := Option.some.inj H
     have hnb58 := NB229_240.out
     have hnc58 := NB240_229.out
     have hnb59 := NB229_241.out
     have hnc59 := NB241_229.out
     obtain ⟨_, _, _, _⟩ := zc2_ BK229.out
     go_wp2_with (first | ((with_reducible refine gate_callee (f := 57) rfl ?_); refine gl_ (some 47) rfl rfl Try.func57 (by kernel_rfl) rfl #[.agg #[.int .i64 t226, .int .i64 t227]] rfl ?_; (with_reducible refine (impl_format_noNumber.calls t226 t227 t242 _ A57.out).mono ?_); rintro e w61 ⟨rfl, hb⟩; refine ⟨_, rfl, ?_⟩; replace BK229 := bb_ BK229 hb; replace BK240 := bb_ BK240 hb; replace BK241 := bb_ BK241 hb; replace HB := eh_ hb; (try clear hb)))
     go_ret
     exact ⟨by first | rfl | (simp [errW_none, errW_some] <;> rfl) | (simp [*, errW_none, errW_some] <;> rfl), es_⟩
    ·replace c56 := Bool.eq_false_iff.mpr c56
     subst c56
     have H1 : (if t232 = true then ((impl_format_infinite.f t226 t227 t230).bind fun t243 => (some t243)) else (if t237 = true then ((impl_format_infinite.f t226 t227 t235).bind fun t244 => (some t244)) else ((impl_format_sum.f kj7 t226 t227 t230 t231 t232 t233 t234 t235 t236 t237 t238 t239).bind fun t245 => (some t245)))) = some r := by rw [if_neg (show ¬ (false = true) by decide)] at H; first | done | exact H
     clear H
     have H := H1
     clear H1
     by_cases c62 : t232 = true
     ·subst c62
      have H1 : ((impl_format_infinite.f t226 t227 t230).bind fun t243 => (some t243)) = some r := by rw [if_pos rfl] at H; first | done | exact H
      clear H
      have H := H1
      clear H1
      replace H := Option.bind_eq_some_iff.mp H
      obtain ⟨t243, A630, H⟩ := H
      try dsimp only at H
      have A63 := Aside0.mk A630
      clear A630
      obtain rfl := Option.some.inj H
      have hnb64 := NB240_229.out
      have hnc64 := NB229_240.out
      have hnb65 := NB240_241.out
      have hnc65 := NB241_240.out
      obtain ⟨_, _, _, _, _, _, _, _, _, _⟩ := zc5_ BK240.out
      have hnb67 := NB229_241.out
      have hnc67 := NB241_229.out
      obtain ⟨_, _, _, _⟩ := zc2_ BK229.out
      go_wp2_with (first | ((with_reducible refine gate_callee (f := 59) rfl ?_); refine gl_ (some 54) rfl rfl Try.func59 (by kernel_rfl) rfl #[.agg #[.int .i64 t226, .int .i64 t227], .bool t230] rfl ?_; (with_reducible refine (impl_format_infinite.calls t226 t227 t230 t243 _ A63.out).mono ?_); rintro e w69 ⟨rfl, hb⟩; refine ⟨_, rfl, ?_⟩; replace BK229 := bb_ BK229 hb; replace BK240 := bb_ BK240 hb; replace BK241 := bb_ BK241 hb; replace HB := eh_ hb; (try clear hb)))
      go_ret
      exact ⟨by first | rfl | (simp [errW_none, errW_some] <;> rfl) | (simp [*, errW_none, errW_some] <;> rfl), es_⟩
     ·replace c62 := Bool.eq_false_iff.mpr c62
      subst c62
      have H1 : (if t237 = true then ((impl_format_infinite.f t226 t227 t235).bind fun t244 => (some t244)) else ((impl_format_sum.f kj7 t226 t227 t230 t231 false t233 t234 t235 t236 t237 t238 t239).bind fun t245 => (some t245))) = some r := by rw [if_neg (show ¬ (false = true) by decide)] at H; first | done | exact H
      clear H
      have H := H1
      clear H1
      by_cases c70 : t237 = true
      ·subst c70
       have H1 : ((impl_format_infinite.f t226 t227 t235).bind fun t244 => (some t244)) = some r := by rw [if_pos rfl] at H; first | done | exact H
       clear H
       have H := H1
       clear H1
       replace H := Option.bind_eq_some_iff.mp H
       obtain ⟨t244, A710, H⟩ := H
       try dsimp only at H
       have A71 := Aside0.mk A710
       clear A710
       obtain rfl := Option.some.inj H
       have hnb72 := NB240_229.out
       have hnc72 := NB229_240.out
       have hnb73 := NB240_241.out
       have hnc73 := NB241_240.out
       obtain ⟨_, _, _, _, _, _, _, _, _, _⟩ := zc5_ BK240.out
       have hnb75 := NB241_229.out
       have hnc75 := NB229_241.out
       obtain ⟨_, _, _, _, _, _, _, _, _, _⟩ := zc5_ BK241.out
       obtain ⟨_, _, _, _⟩ := zc2_ BK229.out
       go_wp2_with (first | ((with_reducible refine gate_callee (f := 59) rfl ?_); refine gl_ (some 61) rfl rfl Try.func59 (by kernel_rfl) rfl #[.agg #[.int .i64 t226, .int .i64 t227], .bool t235] rfl ?_; (with_reducible refine (impl_format_infinite.calls t226 t227 t235 t244 _ A71.out).mono ?_); rintro e w78 ⟨rfl, hb⟩; refine ⟨_, rfl, ?_⟩; replace BK229 := bb_ BK229 hb; replace BK240 := bb_ BK240 hb; replace BK241 := bb_ BK241 hb; replace HB := eh_ hb; (try clear hb)))
       go_ret
       exact ⟨by first | rfl | (simp [errW_none, errW_some] <;> rfl) | (simp [*, errW_none, errW_some] <;> rfl), es_⟩
      ·replace c70 := Bool.eq_false_iff.mpr c70
       subst c70
       have H1 : ((impl_format_sum.f kj7 t226 t227 t230 t231 false t233 t234 t235 t236 false t238 t239).bind fun t245 => (some t245)) = some r := by rw [if_neg (show ¬ (false = true) by decide)] at H; first | done | exact H
       clear H
       have H := H1
       clear H1
       replace H := Option.bind_eq_some_iff.mp H
       obtain ⟨t245, A790, H⟩ := H
       try dsimp only at H
       have A79 := Aside0.mk A790
       clear A790
       obtain rfl := Option.some.inj H
       have hnb80 := NB240_229.out
       have hnc80 := NB229_240.out
       have hnb81 := NB240_241.out
       have hnc81 := NB241_240.out
       obtain ⟨_, _, _, _, _, _, _, _, _, _⟩ := zc5_ BK240.out
       have hnb83 := NB241_229.out
       have hnc83 := NB229_241.out
       obtain ⟨_, _, _, _, _, _, _, _, _, _⟩ := zc5_ BK241.out
       obtain ⟨_, _, _, _⟩ := zc2_ BK229.out
       go_wp2_with (first | ((with_reducible refine gate_callee (f := 88) rfl ?_); refine gl_ (some 65) rfl rfl Try.func88 (by kernel_rfl) rfl #[.agg #[.int .i64 t226, .int .i64 t227], .agg #[.bool t230, .bool t231, .bool false, .int .u64 t233, .int .i64 t234], .agg #[.bool t235, .bool t236, .bool false, .int .u64 t238, .int .i64 t239]] rfl ?_; (with_reducible refine (impl_format_sum.calls kj7 t226 t227 t230 t231 false t233 t234 t235 t236 false t238 t239 t245 _ A79.out).mono ?_); rintro e w86 ⟨rfl, hb⟩; refine ⟨_, rfl, ?_⟩; replace BK229 := bb_ BK229 hb; replace BK240 := bb_ BK240 hb; replace BK241 := bb_ BK241 hb; replace HB := eh_ hb; (try clear hb)))
       go_ret
       exact ⟨by first | rfl | (simp [errW_none, errW_some] <;> rfl) | (simp [*, errW_none, errW_some] <;> rfl), es_⟩
 ·replace c5 := Bool.eq_false_iff.mpr c5
  subst c5
  have H1 : (some 0) = some r := by rw [if_neg (show ¬ (false = true) by decide)] at H; first | done | exact H
  clear H
  have H := H1
  clear H1
  obtain rfl := Option.some.inj H
  go_enter Try.func22, Try.ntmps22
  go_wp2_with (first | ((with_reducible refine gate_callee (f := 55) rfl ?_); refine gl_ (some 13) rfl rfl Try.func55 (by kernel_rfl) rfl #[.int .i64 a0] rfl ?_; (with_reducible refine (impl_formatOf.calls a0 t226 t227 false _ A4.out).mono ?_); rintro e w87 ⟨rfl, hb⟩; refine ⟨_, rfl, ?_⟩; replace HB := eh_ hb; (try clear hb)) | ((with_reducible refine gate_dst (N := 7) rfl ?_); refine box_event ?hg (N := 7) ?hd (cs := #[.int .i64 0, .int .i64 0]) (t := 96) ?hr ?_; (case hd => rfl); (case hg => rfl); (case hr => first | (go_simp; done) | (go_simp; rfl)); intro gb229 hg w88 hbox hb; have BK229 := Aside0.mk (hbox); have GW229 := Aside0.mk (gs_ hg (eb_ HB.out) : w.heap.size ≤ gb229); have GE229 := GW229; replace HB := eh_ hb; clear hb hbox hg; obtain ⟨_, _, _, _⟩ := zc2_ BK229.out))
  go_ret
  exact ⟨by first | rfl | (simp [errW_none, errW_some] <;> rfl) | (simp [*, errW_none, errW_some] <;> rfl), es_⟩

end Go.Proofs.Ytdoflfifnkpacaa.FA
