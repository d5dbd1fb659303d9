-- Printed by a program of this session (after the kit's print.sh, with contracts of its own beside): Lean checks it.
import Derived.Test.YtoomeeoijbkmnaaC9PHx0
import Derived.Test.YtoomeeoijbkmnaaC9PHx12
import Derived.Test.YtoomeeoijbkmnaaC9PHx14
import Derived.Test.YtoomeeoijbkmnaaC9PHx16
import Derived.Test.YtoomeeoijbkmnaaC9PHx17
namespace Go.Proofs.Ytoomeeoijbkmnaa.PH
open Go.RowKit Go.Proofs.YtoomeeoijbkmnaaW.PrintWords Go.Proofs.YtoomeeoijbkmnaaW.PrintLast Go.Proofs.YtoomeeoijbkmnaaW.PrintMore
attribute [local go_sem] max2_int min2_int max_two min_two max_three min_three max_four min_four   -- for this text's walks alone
set_option linter.unusedVariables false
set_option linter.unusedSimpArgs false

mutual
def spec_l1Cur_tableOf.j0 : Nat → Int → List Int → Int → Int → Option ((List (S46)) × List Int × Int × Int)
 | 0, _, _, _, _ => none
 | k + 1, x4, x1000, x1001, x1002 => spec_l1Cur_tableOf.l0 k x4 x1000 x1001 x1002 ([] : List (S46)) ([] : List Int)
def spec_l1Cur_tableOf.l0 : Nat → Int → List Int → Int → Int → List (S46) → List Int → Option ((List (S46)) × List Int × Int × Int)
 | 0, _, _, _, _, _, _ => none
 | k + 1, x4, x1000, x1001, x1002, x894000, x894001 => if x4 > 0 then ((spec_l1Cur_pick.f x1000 x1001 x1002 5).bind fun bt900 => (if bt900.1 = 0 then (if (x894000.length : Int) > 0 then ((spec_l1Cur_pick.f x1000 bt900.2.1 bt900.2.2 (x894000.length : Int)).bind fun bt903 => (if 0 ≤ bt903.1 then (if bt903.1 < (x894000.length : Int) then ((spec_DropHandle.f k x894000 x894001 bt903.1 ((rd_T46 x894000 bt903.1).f1)).bind fun bt907 => (spec_l1Cur_tableOf.l0 k (wrap64 (x4 - 1)) x1000 bt903.2.1 bt903.2.2 bt907.1 bt907.2.1)) else (none)) else (none))) else (spec_l1Cur_tableOf.l0 k (wrap64 (x4 - 1)) x1000 bt900.2.1 bt900.2.2 x894000 x894001)) else (if bt900.1 = 1 then (if (x894000.length : Int) > 0 then ((spec_l1Cur_pick.f x1000 bt900.2.1 bt900.2.2 (x894000.length : Int)).bind fun bt920 => (if 0 ≤ bt920.1 then (if bt920.1 < (x894000.length : Int) then ((spec_LendHandle.f k x894000 x894001 bt920.1 ((rd_T46 x894000 bt920.1).f1)).bind fun bt924 => (spec_l1Cur_tableOf.l0 k (wrap64 (x4 - 1)) x1000 bt920.2.1 bt920.2.2 bt924.1 bt924.2.1)) else (none)) else (none))) else (spec_l1Cur_tableOf.l0 k (wrap64 (x4 - 1)) x1000 bt900.2.1 bt900.2.2 x894000 x894001)) else ((spec_l1Cur_handle.f k x1000 bt900.2.1 bt900.2.2).bind fun bt937 => ((spec_NewHandle.f k x894000 x894001 bt937.1 bt937.2.1 bt937.2.2.1 bt937.2.2.2.1 bt937.2.2.2.2.1 bt937.2.2.2.2.2.1).bind fun bt945 => (spec_l1Cur_tableOf.l0 k (wrap64 (x4 - 1)) x1000 bt937.2.2.2.2.2.2.1 bt937.2.2.2.2.2.2.2 bt945.1 bt945.2.1)))))) else ((spec_l1Cur_pick.f x1000 x1001 x1002 40).bind fun bt953 => (if bt953.1 = 0 then ((spec_l1Cur_pick.f x1000 bt953.2.1 bt953.2.2 5).bind fun bt956 => (if x894001.length < 17592186044416 then (some (x894000, (x894001 ++ [bt956.1]), bt956.2.1, bt956.2.2)) else (none))) else (if bt953.1 = 1 then (if (x894000.length : Int) > 0 then ((spec_l1Cur_among.f x1000 bt953.2.1 bt953.2.2 (([(-1), 1000, 1001] : List Int))).bind fun bt965 => (if 0 < (x894000.length : Int) then (some ((x894000.set (0 : Int).toNat (⟨(rd_T46 x894000 0).f0, (rd_T46 x894000 0).f1, (rd_T46 x894000 0).f2, (rd_T46 x894000 0).f3, bt965.1, (rd_T46 x894000 0).f5⟩ : S46)), x894001, bt965.2.1, bt965.2.2)) else (none))) else (some (x894000, x894001, bt953.2.1, bt953.2.2))) else (some (x894000, x894001, bt953.2.1, bt953.2.2)))))
end
def spec_l1Cur_tableOf.f (k : Nat) (s0_0 : List Int) (s0_1 : Int) (s0_2 : Int) : Option ((List (S46)) × List Int × Int × Int) := (spec_l1Cur_pick.f s0_0 s0_1 s0_2 10).bind fun bt894 => ((spec_l1Cur_one.f s0_0 bt894.2.1 bt894.2.2 20).bind fun bt897 => (if bt897.1 = true then (spec_l1Cur_tableOf.j0 k 50 s0_0 bt897.2.1 bt897.2.2) else (spec_l1Cur_tableOf.j0 k bt894.1 s0_0 bt897.2.1 bt897.2.2)))
def spec_l1Cur_tableOf.T8 : Bool × List (List Nat × List Nat) := (true, [([], []), ([], []), ([1], [1]), ([0, 2, 2], [0, 2]), ([3], [3]), ([4], [4]), ([4], [4]), ([4], [4]), ([5, 3, 0, 1, 2, 3, 4, 5], [5])])
def spec_l1Cur_tableOf.B8 : List Nat := [0, 0, 2, 7, 15, 31, 31, 31, 63]
theorem spec_l1Cur_tableOf.tab8 : rtab .any (opsOf Try.f82 8) = spec_l1Cur_tableOf.T8 := by kernel_rfl
theorem spec_l1Cur_tableOf.bits8 : waitsOk spec_l1Cur_tableOf.T8.2 spec_l1Cur_tableOf.B8 = true := by kernel_rfl
def spec_l1Cur_tableOf.T12 : Bool × List (List Nat × List Nat) := (true, [([], []), ([], []), ([], []), ([2], [2]), ([], []), ([3, 4], [3, 4]), ([5], [5]), ([6], [6]), ([0, 1, 7], [0, 1, 7]), ([8], [8]), ([9], [9]), ([9], [9]), ([9], [9]), ([10, 8, 0, 1, 2, 3, 4, 5, 6, 7, 8, 9, 10], [10])])
def spec_l1Cur_tableOf.B12 : List Nat := [0, 0, 0, 4, 0, 28, 60, 124, 255, 511, 1023, 1023, 1023, 2047]
theorem spec_l1Cur_tableOf.tab12 : rtab .any (opsOf Try.f82 12) = spec_l1Cur_tableOf.T12 := by kernel_rfl
theorem spec_l1Cur_tableOf.bits12 : waitsOk spec_l1Cur_tableOf.T12.2 spec_l1Cur_tableOf.B12 = true := by kernel_rfl
def spec_l1Cur_tableOf.T16 : Bool × List (List Nat × List Nat) := (true, [([], []), ([], []), ([], []), ([2], [2]), ([], []), ([3, 4], [3, 4]), ([5], [5]), ([6], [6]), ([0, 1, 7], [0, 1, 7]), ([8], [8]), ([9], [9]), ([9], [9]), ([9], [9]), ([10, 8, 0, 1, 2, 3, 4, 5, 6, 7, 8, 9, 10], [10])])
def spec_l1Cur_tableOf.B16 : List Nat := [0, 0, 0, 4, 0, 28, 60, 124, 255, 511, 1023, 1023, 1023, 2047]
theorem spec_l1Cur_tableOf.tab16 : rtab .any (opsOf Try.f82 16) = spec_l1Cur_tableOf.T16 := by kernel_rfl
theorem spec_l1Cur_tableOf.bits16 : waitsOk spec_l1Cur_tableOf.T16.2 spec_l1Cur_tableOf.B16 = true := by kernel_rfl
def spec_l1Cur_tableOf.T19 : Bool × List (List Nat × List Nat) := (true, [([], []), ([0], [0]), ([], []), ([2], [2]), ([3], [3]), ([1, 4, 3], [1, 4]), ([0, 1, 2, 3, 4, 5], []), ([6, 5, 5, 0, 1, 2, 3, 4, 5], [5, 6])])
def spec_l1Cur_tableOf.B19 : List Nat := [0, 1, 0, 4, 12, 31, 63, 127]
theorem spec_l1Cur_tableOf.tab19 : rtab .any (opsOf Try.f82 19) = spec_l1Cur_tableOf.T19 := by kernel_rfl
theorem spec_l1Cur_tableOf.bits19 : waitsOk spec_l1Cur_tableOf.T19.2 spec_l1Cur_tableOf.B19 = true := by kernel_rfl
def spec_l1Cur_tableOf.T22 : Bool × List (List Nat × List Nat) := (true, [([], []), ([0], [0]), ([], []), ([], []), ([2, 3], [2, 3]), ([1, 0, 1, 2, 3, 4], [1]), ([5, 0, 1, 2, 3, 4], [5]), ([6, 4, 4, 0, 1, 2, 3, 4], [4, 6])])
def spec_l1Cur_tableOf.B22 : List Nat := [0, 1, 0, 0, 12, 31, 63, 127]
theorem spec_l1Cur_tableOf.tab22 : rtab .any (opsOf Try.f82 22) = spec_l1Cur_tableOf.T22 := by kernel_rfl
theorem spec_l1Cur_tableOf.bits22 : waitsOk spec_l1Cur_tableOf.T22.2 spec_l1Cur_tableOf.B22 = true := by kernel_rfl
set_option maxHeartbeats 8000000 in
set_option maxRecDepth 100000 in
theorem spec_l1Cur_tableOf.calls (k : Nat) (g : Nat) (s0_0 : List Int) (s0_1 : Int) (s0_2 : Int) (r1 : List (S46)) (r2 : List Int) (r3 : Int) (r4 : Int) (w0 w : World) (hI : IsS106 w0 w g s0_0 s0_1 s0_2) (hB : Below w0.heap.size w0 w) (h : spec_l1Cur_tableOf.f k s0_0 s0_1 s0_2 = some (r1, r2, r3, r4)) :
  Calls Try.prog 82 #[.pointer (some ⟨g, 0, none⟩)] w fun e w' => ∃ v0_ v1_ : Value, e = .returned (.agg #[v0_, v1_]) ∧ Kd.R k46 46 w' w.heap.size (fun _ => True) v0_ r1 ∧ Kd.R (Kd.int .i64) 3 w' w.heap.size (fun _ => True) v1_ r2 ∧ IsS106 w0 w' g s0_0 r3 r4 ∧ Below w0.heap.size w0 w' ∧ KeepBut w w' g none := by
 have hu51 := Try.underlying51
 have HI0 := Aside0.mk hI
 have HK := Aside0.mk (KeepBut.refl w g none)
 have HL := Aside0.mk hB.size
 clear hI
 have HW0 := Aside0.mk hB.size
 have HB := Aside0.mk hB
 clear hB
 have H : ((spec_l1Cur_pick.f s0_0 s0_1 s0_2 10).bind fun bt894 => ((spec_l1Cur_one.f s0_0 bt894.2.1 bt894.2.2 20).bind fun bt897 => (if bt897.1 = true then (spec_l1Cur_tableOf.j0 k 50 s0_0 bt897.2.1 bt897.2.2) else (spec_l1Cur_tableOf.j0 k bt894.1 s0_0 bt897.2.1 bt897.2.2)))) = some (r1, r2, r3, r4) := h
 clear h
 replace H := Option.bind_eq_some_iff.mp H
 obtain ⟨⟨t894, t895, t896⟩, A20, H⟩ := H
 replace H : ((spec_l1Cur_one.f s0_0 t895 t896 20).bind fun bt897 => (if bt897.1 = true then (spec_l1Cur_tableOf.j0 k 50 s0_0 bt897.2.1 bt897.2.2) else (spec_l1Cur_tableOf.j0 k t894 s0_0 bt897.2.1 bt897.2.2))) = some (r1, r2, r3, r4) := H
 have A2 := Aside0.mk A20
 clear A20
 replace H := Option.bind_eq_some_iff.mp H
 obtain ⟨⟨t897, t898, t899⟩, A30, H⟩ := H
 replace H : (if t897 = true then (spec_l1Cur_tableOf.j0 k 50 s0_0 t898 t899) else (spec_l1Cur_tableOf.j0 k t894 s0_0 t898 t899)) = some (r1, r2, r3, r4) := H
 have A3 := Aside0.mk A30
 clear A30
 have HC4 := Aside0.mk H
 clear H
 go_enter Try.func82, Try.ntmps82
 go_upto_if 11 with (first | ((with_reducible refine gate_dst (N := 2) rfl ?_); refine box_event ?hg (N := 2) ?hd (cs := #[.slice none 0 0, .slice none 0 0]) (t := 51) ?hr ?_; (case hd => rfl); (case hg => rfl); (case hr => first | (go_simp; done) | (go_simp; rfl)); intro gb892 hg w5 hbox hb; have n0_ := Aside0.mk (IsS106.below (by repeat (first | (with_reducible first | exact HI0.out | apply IsS106.alloc | apply IsS106.drewN | apply IsS106.drew | apply IsS106.set_1 | apply IsS106.set_2) | exact HI0.out)) hb); have n1_ := Aside0.mk (KeepBut.trans (by repeat (first | (with_reducible first | exact HK.out | apply KeepBut.set_ | apply keep_drewN | apply keep_drew | apply keep_alloc) | exact HK.out)) (KeepBut.of_below hb g none) (.inl rfl)); have n2_ := Aside0.mk (below_step (by repeat (first | (with_reducible first | exact HB.out | apply eA | apply eN | apply eD | refine below_set ?_ (IsS106.ge HI0.out)) | exact HB.out)) hb); have n3_ := Aside0.mk (hbox); have n4_ := Aside0.mk ((by rw [hg]; exact (keep_size (w := w) (g := g) (row := none) (by repeat (first | (with_reducible first | exact HK.out | apply KeepBut.set_ | apply keep_drewN | apply keep_drew | apply keep_alloc) | exact HK.out))) : w.heap.size ≤ gb892)); have n5_ := Aside0.mk ((Nat.le_trans HW0.out (by rw [hg]; exact (keep_size (w := w) (g := g) (row := none) (by repeat (first | (with_reducible first | exact HK.out | apply KeepBut.set_ | apply keep_drewN | apply keep_drew | apply keep_alloc) | exact HK.out))) : w.heap.size ≤ gb892) : w0.heap.size ≤ gb892)); have n6_ := Aside0.mk ((by rw [hg]; exact Nat.ne_of_lt (IsS106.lt (show IsS106 w0 _ g s0_0 s0_1 s0_2 from by repeat (first | (with_reducible first | exact HI0.out | apply IsS106.alloc | apply IsS106.drewN | apply IsS106.drew | apply IsS106.set_1 | apply IsS106.set_2) | exact HI0.out))) : g ≠ gb892)); have n7_ := Aside0.mk ((by rw [hg]; exact Nat.ne_of_gt (IsS106.lt (show IsS106 w0 _ g s0_0 s0_1 s0_2 from by repeat (first | (with_reducible first | exact HI0.out | apply IsS106.alloc | apply IsS106.drewN | apply IsS106.drew | apply IsS106.set_1 | apply IsS106.set_2) | exact HI0.out))) : gb892 ≠ g)); clear HI0 HK HB; have HI0 := n0_; have HK := n1_; have HB := n2_; have BK892 := n3_; have GW892 := n4_; have GE892 := n5_; have NB0_892 := n6_; have NB892_0 := n7_; clear n0_ n1_ n2_ n3_ n4_ n5_ n6_ n7_; clear hb hbox hg) | ((with_reducible refine gate_dst (N := 3) rfl ?_); refine box_event ?hg (N := 3) ?hd (cs := #[.slice none 0 0, .slice none 0 0]) (t := 51) ?hr ?_; (case hd => rfl); (case hg => rfl); (case hr => first | (go_simp; done) | (go_simp; rfl)); intro gb893 hg w6 hbox hb; have n0_ := Aside0.mk (IsS106.below (by repeat (first | (with_reducible first | exact HI0.out | apply IsS106.alloc | apply IsS106.drewN | apply IsS106.drew | apply IsS106.set_1 | apply IsS106.set_2 | refine IsS106.far ?_ NB0_892.out _) | exact HI0.out)) hb); have n1_ := Aside0.mk (blk_below (g := gb892) (o := .cells #[.slice none 0 0, .slice none 0 0] 51 (0, 0)) (by (with_reducible repeat first | apply bN | apply bD | apply bA); exact BK892.out) hb); have n2_ := Aside0.mk (KeepBut.trans (by repeat (first | (with_reducible first | exact HK.out | apply KeepBut.set_ | apply keep_drewN | apply keep_drew | apply keep_alloc | refine keep_far ?_ GW892.out _) | exact HK.out)) (KeepBut.of_below hb g none) (.inl rfl)); have n3_ := Aside0.mk (below_step (by repeat (first | (with_reducible first | exact HB.out | apply eA | apply eN | apply eD | refine below_set ?_ (IsS106.ge HI0.out) | refine below_set ?_ GE892.out) | exact HB.out)) hb); have n4_ := Aside0.mk (hbox); have n5_ := Aside0.mk ((by rw [hg]; exact (keep_size (w := w) (g := g) (row := none) (by repeat (first | (with_reducible first | exact HK.out | apply KeepBut.set_ | apply keep_drewN | apply keep_drew | apply keep_alloc | refine keep_far ?_ GW892.out _) | exact HK.out))) : w.heap.size ≤ gb893)); have n6_ := Aside0.mk ((Nat.le_trans HW0.out (by rw [hg]; exact (keep_size (w := w) (g := g) (row := none) (by repeat (first | (with_reducible first | exact HK.out | apply KeepBut.set_ | apply keep_drewN | apply keep_drew | apply keep_alloc | refine keep_far ?_ GW892.out _) | exact HK.out))) : w.heap.size ≤ gb893) : w0.heap.size ≤ gb893)); have n7_ := Aside0.mk ((by rw [hg]; exact Nat.ne_of_lt (blk_lt (g := gb892) (o := .cells #[.slice none 0 0, .slice none 0 0] 51 (0, 0)) (by (with_reducible repeat first | apply bN | apply bD | apply bA); exact BK892.out)) : gb892 ≠ gb893)); have n8_ := Aside0.mk ((by rw [hg]; exact Nat.ne_of_gt (blk_lt (g := gb892) (o := .cells #[.slice none 0 0, .slice none 0 0] 51 (0, 0)) (by (with_reducible repeat first | apply bN | apply bD | apply bA); exact BK892.out)) : gb893 ≠ gb892)); have n9_ := Aside0.mk ((by rw [hg]; exact Nat.ne_of_lt (IsS106.lt (show IsS106 w0 _ g s0_0 s0_1 s0_2 from by repeat (first | (with_reducible first | exact HI0.out | apply IsS106.alloc | apply IsS106.drewN | apply IsS106.drew | apply IsS106.set_1 | apply IsS106.set_2 | refine IsS106.far ?_ NB0_892.out _) | exact HI0.out))) : g ≠ gb893)); have n10_ := Aside0.mk ((by rw [hg]; exact Nat.ne_of_gt (IsS106.lt (show IsS106 w0 _ g s0_0 s0_1 s0_2 from by repeat (first | (with_reducible first | exact HI0.out | apply IsS106.alloc | apply IsS106.drewN | apply IsS106.drew | apply IsS106.set_1 | apply IsS106.set_2 | refine IsS106.far ?_ NB0_892.out _) | exact HI0.out))) : gb893 ≠ g)); clear HI0 BK892; clear HK HB; have HI0 := n0_; have BK892 := n1_; have HK := n2_; have HB := n3_; have BK893 := n4_; have GW893 := n5_; have GE893 := n6_; have NB892_893 := n7_; have NB893_892 := n8_; have NB0_893 := n9_; have NB893_0 := n10_; clear n0_ n1_ n2_ n3_ n4_ n5_ n6_ n7_ n8_ n9_ n10_; clear hb hbox hg; have hnb7 := NB893_892.out; have hnc7 := NB892_893.out; have hnb8 := NB893_0.out; have hnc8 := NB0_893.out; have hcz9_0 : w6.cell? ⟨gb893, 0, none⟩ = some (.slice none 0 0) := (blk_cell BK893.out 0).trans rfl; have hcz9_1 : w6.cell? ⟨gb893, 1, none⟩ = some (.slice none 0 0) := (blk_cell BK893.out 1).trans rfl; have hfz9_0 := blk_frozen BK893.out 0; have hfz9_1 := blk_frozen BK893.out 1) | ((with_reducible refine gate_callee (f := 102) rfl ?_); refine goesL_ (some 9) rfl rfl Try.func102 (by kernel_rfl) rfl #[.pointer (some ⟨g, 0, none⟩), .int .i64 10] rfl (by (try simp only [List.map_toArray, List.map_cons, List.map_nil]); first | done | rfl | (simp only [List.length_drop, List.length_take]; rfl)) ?_; (with_reducible refine (spec_l1Cur_pick.calls g s0_0 s0_1 s0_2 10 t894 t895 t896 w0 _ ?side1 ?side2 A2.out).mono ?_); (case side1 => repeat (first | (with_reducible first | exact HI0.out | apply IsS106.alloc | apply IsS106.drewN | apply IsS106.drew | apply IsS106.set_1 | apply IsS106.set_2 | refine IsS106.far ?_ NB0_892.out _ | refine IsS106.far ?_ NB0_893.out _) | exact HI0.out)); (case side2 => repeat (first | (with_reducible first | exact HB.out | apply eA | apply eN | apply eD | refine below_set ?_ (IsS106.ge HI0.out) | refine below_set ?_ GE892.out | refine below_set ?_ GE893.out) | exact HB.out)); rintro e w10 ⟨rfl, hi, hb, hk⟩; refine ⟨_, rfl, ?_⟩; have n0_ := Aside0.mk (KeepBut.blk hk (g' := gb892) (o := .cells #[.slice none 0 0, .slice none 0 0] 51 (0, 0)) (by (with_reducible repeat first | apply bN | apply bD | apply bA); refine blk_far ?_ NB892_893.out _; (with_reducible repeat first | apply bN | apply bD | apply bA); refine blk_far ?_ NB892_893.out _; (with_reducible repeat first | apply bN | apply bD | apply bA); exact BK892.out) NB892_0.out (by simp)); have n1_ := Aside0.mk (KeepBut.blk hk (g' := gb893) (o := .cells #[.slice none 0 0, .slice none 0 0] 51 (0, 0)) (by (with_reducible repeat first | apply bN | apply bD | apply bA); refine blk_put (cs := #[.slice none 0 0, .slice none 0 0]) ?_ 1 _ rfl; (with_reducible repeat first | apply bN | apply bD | apply bA); refine blk_put (cs := #[.slice none 0 0, .slice none 0 0]) ?_ 0 _ rfl; (with_reducible repeat first | apply bN | apply bD | apply bA); exact BK893.out) NB893_0.out (by simp)); have n2_ := Aside0.mk (KeepBut.trans (by repeat (first | (with_reducible first | exact HK.out | apply KeepBut.set_ | apply keep_drewN | apply keep_drew | apply keep_alloc | refine keep_far ?_ GW892.out _ | refine keep_far ?_ GW893.out _) | exact HK.out)) hk (.inl rfl)); have n3_ := Aside0.mk (hb); have n4_ := Aside0.mk (hi); clear BK892 BK893; clear HK HB HI0; have BK892 := n0_; have BK893 := n1_; have HK := n2_; have HB := n3_; have HI0 := n4_; clear n0_ n1_ n2_ n3_ n4_; (try clear hb); (try clear hb2); (try clear hk); (try clear hi)) | ((with_reducible refine gate_callee (f := 103) rfl ?_); refine goesL_ (some 11) rfl rfl Try.func103 (by kernel_rfl) rfl #[.pointer (some ⟨g, 0, none⟩), .int .i64 20] rfl (by (try simp only [List.map_toArray, List.map_cons, List.map_nil]); first | done | rfl | (simp only [List.length_drop, List.length_take]; rfl)) ?_; (with_reducible refine (spec_l1Cur_one.calls g s0_0 t895 t896 20 t897 t898 t899 w0 _ ?side1 ?side2 A3.out).mono ?_); (case side1 => repeat (first | (with_reducible first | exact HI0.out | apply IsS106.alloc | apply IsS106.drewN | apply IsS106.drew | apply IsS106.set_1 | apply IsS106.set_2 | refine IsS106.far ?_ NB0_892.out _ | refine IsS106.far ?_ NB0_893.out _) | exact HI0.out)); (case side2 => repeat (first | (with_reducible first | exact HB.out | apply eA | apply eN | apply eD | refine below_set ?_ (IsS106.ge HI0.out) | refine below_set ?_ GE892.out | refine below_set ?_ GE893.out) | exact HB.out)); rintro e w11 ⟨rfl, hi, hb, hk⟩; refine ⟨_, rfl, ?_⟩; have n0_ := Aside0.mk (KeepBut.blk hk (g' := gb892) (o := .cells #[.slice none 0 0, .slice none 0 0] 51 (0, 0)) (by (with_reducible repeat first | apply bN | apply bD | apply bA); exact BK892.out) NB892_0.out (by simp)); have n1_ := Aside0.mk (KeepBut.blk hk (g' := gb893) (o := .cells #[.slice none 0 0, .slice none 0 0] 51 (0, 0)) (by (with_reducible repeat first | apply bN | apply bD | apply bA); exact BK893.out) NB893_0.out (by simp)); have n2_ := Aside0.mk (KeepBut.trans (by repeat (first | (with_reducible first | exact HK.out | apply KeepBut.set_ | apply keep_drewN | apply keep_drew | apply keep_alloc | refine keep_far ?_ GW892.out _ | refine keep_far ?_ GW893.out _) | exact HK.out)) hk (.inl rfl)); have n3_ := Aside0.mk (hb); have n4_ := Aside0.mk (hi); clear BK892 BK893; clear HK HB HI0; have BK892 := n0_; have BK893 := n1_; have HK := n2_; have HB := n3_; have HI0 := n4_; clear n0_ n1_ n2_ n3_ n4_; (try clear hb); (try clear hb2); (try clear hk); (try clear hi)))
 (try simp only [Act.put, List.setIfInBounds_toArray, List.set_cons_zero, List.set_cons_succ])
 go_cut [4] (fun v4 wc => ∃ (kq : Nat) (x4_3 : Int), v4 = .int .i64 x4_3 ∧ Aside0 (spec_l1Cur_tableOf.j0 kq x4_3 s0_0 t898 t899 = some (r1, r2, r3, r4)) ∧ Aside0 (kq ≤ k) ∧ Aside0 (wc.heap[gb892]? = some (.cells #[(.slice none 0 0), (.slice none 0 0)] 51 (0, 0))) ∧ Aside0 (wc.heap[gb893]? = some (.cells #[(.slice none 0 0), (.slice none 0 0)] 51 (0, 0))) ∧ Aside0 (IsS106 w0 wc g s0_0 t898 t899) ∧ Aside0 (KeepBut w wc g none) ∧ Aside0 (Below w0.heap.size w0 wc))
 case first =>
  have H := HC4.out
  clear HC4
  by_cases c12 : t897 = true
  ·subst c12
   have H1 : (spec_l1Cur_tableOf.j0 k 50 s0_0 t898 t899) = some (r1, r2, r3, r4) := by rw [if_pos rfl] at H; first | done | exact H
   clear H
   have H := H1
   clear H1
   have H' := Aside0.mk H
   clear H
   go_wp2
   go_meet
   case rel => exact ⟨_, (50), (by first | rfl | (simp; done) | (simp [*]; done)), H', ⟨by first | omega | exact Nat.le_refl _⟩, ⟨by (with_reducible repeat first | apply bN | apply bD | apply bA); exact BK892.out⟩, ⟨by (with_reducible repeat first | apply bN | apply bD | apply bA); exact BK893.out⟩, ⟨by repeat (first | (with_reducible first | exact HI0.out | apply IsS106.alloc | apply IsS106.drewN | apply IsS106.drew | apply IsS106.set_1 | apply IsS106.set_2 | refine IsS106.far ?_ NB0_892.out _ | refine IsS106.far ?_ NB0_893.out _) | exact HI0.out)⟩, ⟨by repeat (first | (with_reducible first | exact HK.out | apply KeepBut.set_ | apply keep_drewN | apply keep_drew | apply keep_alloc | refine keep_far ?_ GW892.out _ | refine keep_far ?_ GW893.out _) | exact HK.out)⟩, ⟨by repeat (first | (with_reducible first | exact HB.out | apply eA | apply eN | apply eD | refine below_set ?_ (IsS106.ge HI0.out) | refine below_set ?_ GE892.out | refine below_set ?_ GE893.out) | exact HB.out)⟩⟩
  ·replace c12 := Bool.eq_false_iff.mpr c12
   subst c12
   have H1 : (spec_l1Cur_tableOf.j0 k t894 s0_0 t898 t899) = some (r1, r2, r3, r4) := by rw [if_neg (show ¬ (false = true) by decide)] at H; first | done | exact H
   clear H
   have H := H1
   clear H1
   have H' := Aside0.mk H
   clear H
   go_wp2
   go_meet
   case rel => exact ⟨_, (t894), (by first | rfl | (simp; done) | (simp [*]; done)), H', ⟨by first | omega | exact Nat.le_refl _⟩, ⟨by (with_reducible repeat first | apply bN | apply bD | apply bA); exact BK892.out⟩, ⟨by (with_reducible repeat first | apply bN | apply bD | apply bA); exact BK893.out⟩, ⟨by repeat (first | (with_reducible first | exact HI0.out | apply IsS106.alloc | apply IsS106.drewN | apply IsS106.drew | apply IsS106.set_1 | apply IsS106.set_2 | refine IsS106.far ?_ NB0_892.out _ | refine IsS106.far ?_ NB0_893.out _) | exact HI0.out)⟩, ⟨by repeat (first | (with_reducible first | exact HK.out | apply KeepBut.set_ | apply keep_drewN | apply keep_drew | apply keep_alloc | refine keep_far ?_ GW892.out _ | refine keep_far ?_ GW893.out _) | exact HK.out)⟩, ⟨by repeat (first | (with_reducible first | exact HB.out | apply eA | apply eN | apply eD | refine below_set ?_ (IsS106.ge HI0.out) | refine below_set ?_ GE892.out | refine below_set ?_ GE893.out) | exact HB.out)⟩⟩
 case rest =>
  clear HC4
  try clear c1
  try clear p2
  try clear c7
  try clear c8
  try clear c10
  try clear c12
  try clear hcz9_0
  try clear hcz9_1
  try clear hfz9_0
  try clear hfz9_1
  obtain ⟨kq, x4_3, rfl, HA, HJ3, BK892, BK893, HI0, HK, HB⟩ := hcut
  cases kq with
  | zero => exact absurd HA.out (by simp [spec_l1Cur_tableOf.j0])
  | succ kj3 =>
   have H := HA.out
   clear HA
   simp only [spec_l1Cur_tableOf.j0] at H
   have H' := Aside0.mk H
   clear H
   go_wp2
   go_loopg [4] kj3 (fun kq v4 w' => ∃ (x4_2 : Int) (x1001_2 : Int) (x1002_2 : Int) (x894000_2 : List (S46)) (x894001_2 : List Int) (u894000 : Value) (u894001 : Value), v4 = .int .i64 x4_2 ∧ Aside0 (spec_l1Cur_tableOf.l0 kq x4_2 s0_0 x1001_2 x1002_2 x894000_2 x894001_2 = some (r1, r2, r3, r4)) ∧ Aside0 (kq ≤ kj3) ∧ Aside0 (Kd.R k46 46 w' w.heap.size (fun _ => True) u894000 x894000_2) ∧ Aside0 (Kd.R (Kd.int .i64) 3 w' w.heap.size (fun _ => True) u894001 x894001_2) ∧ Aside0 (w'.heap[gb892]? = some (.cells #[(.slice none 0 0), (.slice none 0 0)] 51 (0, 0))) ∧ Aside0 (w'.heap[gb893]? = some (.cells #[u894000, u894001] 51 (0, 0))) ∧ Aside0 (IsS106 w0 w' g s0_0 x1001_2 x1002_2) ∧ Aside0 (KeepBut w w' g none) ∧ Aside0 (Below w0.heap.size w0 w'))
   case atStart => exact ⟨(x4_3), (t898), (t899), (([] : List (S46))), (([] : List Int)), (.slice none 0 0), (.slice none 0 0), (by first | rfl | (simp; done) | (simp [*]; done)), H', ⟨Nat.le_refl _⟩, ⟨by first | exact Kd.R_nil _ _ _ _ _ | exact Kd.N_nil _ _ _ _ _ | exact Kd.V_nil _ _ _ _ _ | exact Kd.Q_nil _ _ _ _ _ | exact Kd.S_nil _ _ _ _ _⟩, ⟨by first | exact Kd.R_nil _ _ _ _ _ | exact Kd.N_nil _ _ _ _ _ | exact Kd.V_nil _ _ _ _ _ | exact Kd.Q_nil _ _ _ _ _ | exact Kd.S_nil _ _ _ _ _⟩, ⟨by (with_reducible repeat first | apply bN | apply bD | apply bA); exact BK892.out⟩, ⟨by (with_reducible repeat first | apply bN | apply bD | apply bA); exact BK893.out⟩, ⟨by repeat (first | (with_reducible first | exact HI0.out | apply IsS106.alloc | apply IsS106.drewN | apply IsS106.drew | apply IsS106.set_1 | apply IsS106.set_2 | refine IsS106.far ?_ NB0_892.out _ | refine IsS106.far ?_ NB0_893.out _) | exact HI0.out)⟩, ⟨by repeat (first | (with_reducible first | exact HK.out | apply KeepBut.set_ | apply keep_drewN | apply keep_drew | apply keep_alloc | refine keep_far ?_ GW892.out _ | refine keep_far ?_ GW893.out _) | exact HK.out)⟩, ⟨by repeat (first | (with_reducible first | exact HB.out | apply eA | apply eN | apply eD | refine below_set ?_ (IsS106.ge HI0.out) | refine below_set ?_ GE892.out | refine below_set ?_ GE893.out) | exact HB.out)⟩⟩
   case round =>
    clear H'
    try clear c1
    try clear p2
    try clear c7
    try clear c8
    try clear c10
    try clear c12
    try clear hcz9_0
    try clear hcz9_1
    try clear hfz9_0
    try clear hfz9_1
    try clear p2
    obtain ⟨x4_2, x1001_2, x1002_2, x894000_2, x894001_2, u894000, u894001, rfl, HA, HK2, HO_894000, HO_894001, BK892, BK893, HI0, HK, HB⟩ := hrel
    cases gk with
    | zero => exact absurd HA.out (by simp [spec_l1Cur_tableOf.l0])
    | succ k2 =>
     have H := HA.out
     clear HA
     simp only [spec_l1Cur_tableOf.l0] at H
     by_cases c13 : x4_2 > 0
     ·rw [if_pos c13] at H
      have c13b0 : decide (0 < x4_2) = true := decide_eq_true c13
      clear c13
      replace H := Option.bind_eq_some_iff.mp H
      obtain ⟨⟨t900, t901, t902⟩, A140, H⟩ := H
      replace H : (if t900 = 0 then (if (x894000_2.length : Int) > 0 then ((spec_l1Cur_pick.f s0_0 t901 t902 (x894000_2.length : Int)).bind fun bt903 => (if 0 ≤ bt903.1 then (if bt903.1 < (x894000_2.length : Int) then ((spec_DropHandle.f k2 x894000_2 x894001_2 bt903.1 ((rd_T46 x894000_2 bt903.1).f1)).bind fun bt907 => (spec_l1Cur_tableOf.l0 k2 (wrap64 (x4_2 - 1)) s0_0 bt903.2.1 bt903.2.2 bt907.1 bt907.2.1)) else (none)) else (none))) else (spec_l1Cur_tableOf.l0 k2 (wrap64 (x4_2 - 1)) s0_0 t901 t902 x894000_2 x894001_2)) else (if t900 = 1 then (if (x894000_2.length : Int) > 0 then ((spec_l1Cur_pick.f s0_0 t901 t902 (x894000_2.length : Int)).bind fun bt920 => (if 0 ≤ bt920.1 then (if bt920.1 < (x894000_2.length : Int) then ((spec_LendHandle.f k2 x894000_2 x894001_2 bt920.1 ((rd_T46 x894000_2 bt920.1).f1)).bind fun bt924 => (spec_l1Cur_tableOf.l0 k2 (wrap64 (x4_2 - 1)) s0_0 bt920.2.1 bt920.2.2 bt924.1 bt924.2.1)) else (none)) else (none))) else (spec_l1Cur_tableOf.l0 k2 (wrap64 (x4_2 - 1)) s0_0 t901 t902 x894000_2 x894001_2)) else ((spec_l1Cur_handle.f k2 s0_0 t901 t902).bind fun bt937 => ((spec_NewHandle.f k2 x894000_2 x894001_2 bt937.1 bt937.2.1 bt937.2.2.1 bt937.2.2.2.1 bt937.2.2.2.2.1 bt937.2.2.2.2.2.1).bind fun bt945 => (spec_l1Cur_tableOf.l0 k2 (wrap64 (x4_2 - 1)) s0_0 bt937.2.2.2.2.2.2.1 bt937.2.2.2.2.2.2.2 bt945.1 bt945.2.1))))) = some (r1, r2, r3, r4) := H
      have A14 := Aside0.mk A140
      clear A140
      by_cases c15 : t900 = 0
      ·rw [if_pos c15] at H
       have c15b0 : (t900 == 0) = true := beq_iff_eq.mpr c15
       have c15b1 : (t900 != 0) = false := bne_eq_false_iff_eq.mpr c15
       clear c15
       by_cases c16 : (x894000_2.length : Int) > 0
       ·rw [if_pos c16] at H
        have c16b0 : decide (0 < (x894000_2.length : Int)) = true := decide_eq_true c16
        have c16b1 : decide (0 < x894000_2.length) = true := decide_eq_true (by omega)
        clear c16
        replace H := Option.bind_eq_some_iff.mp H
        obtain ⟨⟨t903, t904, t905⟩, A170, H⟩ := H
        replace H : (if 0 ≤ t903 then (if t903 < (x894000_2.length : Int) then ((spec_DropHandle.f k2 x894000_2 x894001_2 t903 ((rd_T46 x894000_2 t903).f1)).bind fun bt907 => (spec_l1Cur_tableOf.l0 k2 (wrap64 (x4_2 - 1)) s0_0 t904 t905 bt907.1 bt907.2.1)) else (none)) else (none)) = some (r1, r2, r3, r4) := H
        have A17 := Aside0.mk A170
        clear A170
        by_cases c18 : 0 ≤ t903
        ·rw [if_pos c18] at H
         have c18b0 : decide (0 ≤ t903) = true := decide_eq_true c18
         clear c18
         by_cases c19 : t903 < (x894000_2.length : Int)
         ·rw [if_pos c19] at H
          have c19b0 : decide (t903 < (x894000_2.length : Int)) = true := decide_eq_true c19
          clear c19
          replace H := Option.bind_eq_some_iff.mp H
          obtain ⟨⟨t907, t910, t913, t914, t915, t916, t917, t918, t919⟩, A200, H⟩ := H
          replace H : (spec_l1Cur_tableOf.l0 k2 (wrap64 (x4_2 - 1)) s0_0 t904 t905 t907 t910) = some (r1, r2, r3, r4) := H
          have A20 := Aside0.mk A200
          clear A200
          have H' := Aside0.mk H
          clear H
          try go_wp2_with (first | ((with_reducible refine gate_callee (f := 102) rfl ?_); refine goesL_ (some 17) rfl rfl Try.func102 (by kernel_rfl) rfl #[.pointer (some ⟨g, 0, none⟩), .int .i64 5] rfl (by (try simp only [List.map_toArray, List.map_cons, List.map_nil]); first | done | rfl | (simp only [List.length_drop, List.length_take]; rfl)) ?_; (with_reducible refine (spec_l1Cur_pick.calls g s0_0 x1001_2 x1002_2 5 t900 t901 t902 w0 _ ?side1 ?side2 A14.out).mono ?_); (case side1 => repeat (first | (with_reducible first | exact HI0.out | apply IsS106.alloc | apply IsS106.drewN | apply IsS106.drew | apply IsS106.set_1 | apply IsS106.set_2 | refine IsS106.far ?_ NB0_892.out _ | refine IsS106.far ?_ NB0_893.out _) | exact HI0.out)); (case side2 => repeat (first | (with_reducible first | exact HB.out | apply eA | apply eN | apply eD | refine below_set ?_ (IsS106.ge HI0.out) | refine below_set ?_ GE892.out | refine below_set ?_ GE893.out) | exact HB.out)); rintro e w21 ⟨rfl, hi, hb, hk⟩; refine ⟨_, rfl, ?_⟩; have n0_ := Aside0.mk (Kd.R_mono (Kd.R_keep (IsS106.apart (show IsS106 w0 _ g s0_0 x1001_2 x1002_2 from by repeat (first | (with_reducible first | exact HI0.out | apply IsS106.alloc | apply IsS106.drewN | apply IsS106.drew | apply IsS106.set_1 | apply IsS106.set_2 | refine IsS106.far ?_ NB0_892.out _ | refine IsS106.far ?_ NB0_893.out _) | exact HI0.out)) (by (with_reducible repeat first | apply Kd.R_alloc | apply Kd.R_drewN | apply Kd.R_drew); exact HO_894000.out) (by decide)) hk (fun _ h => h.2)) (fun _ h => h.1)); have n1_ := Aside0.mk (Kd.R_mono (Kd.R_keep (IsS106.apart (show IsS106 w0 _ g s0_0 x1001_2 x1002_2 from by repeat (first | (with_reducible first | exact HI0.out | apply IsS106.alloc | apply IsS106.drewN | apply IsS106.drew | apply IsS106.set_1 | apply IsS106.set_2 | refine IsS106.far ?_ NB0_892.out _ | refine IsS106.far ?_ NB0_893.out _) | exact HI0.out)) (by (with_reducible repeat first | apply Kd.R_alloc | apply Kd.R_drewN | apply Kd.R_drew); exact HO_894001.out) (by decide)) hk (fun _ h => h.2)) (fun _ h => h.1)); have n2_ := Aside0.mk (KeepBut.blk hk (g' := gb892) (o := .cells #[.slice none 0 0, .slice none 0 0] 51 (0, 0)) (by (with_reducible repeat first | apply bN | apply bD | apply bA); exact BK892.out) NB892_0.out (by simp)); have n3_ := Aside0.mk (KeepBut.blk hk (g' := gb893) (o := .cells #[u894000, u894001] 51 (0, 0)) (by (with_reducible repeat first | apply bN | apply bD | apply bA); exact BK893.out) NB893_0.out (by simp)); have n4_ := Aside0.mk (KeepBut.trans (by repeat (first | (with_reducible first | exact HK.out | apply KeepBut.set_ | apply keep_drewN | apply keep_drew | apply keep_alloc | refine keep_far ?_ GW892.out _ | refine keep_far ?_ GW893.out _) | exact HK.out)) hk (.inl rfl)); have n5_ := Aside0.mk (hb); have n6_ := Aside0.mk (hi); clear HO_894000 HO_894001; clear BK892 BK893; clear HK HB HI0; have HO_894000 := n0_; have HO_894001 := n1_; have BK892 := n2_; have BK893 := n3_; have HK := n4_; have HB := n5_; have HI0 := n6_; clear n0_ n1_ n2_ n3_ n4_ n5_ n6_; (try clear hb); (try clear hb2); (try clear hk); (try clear hi); have hnb22 := NB893_892.out; have hnc22 := NB892_893.out; have hnb23 := NB893_0.out; have hnc23 := NB0_893.out; have hcz24_0 : w21.cell? ⟨gb893, 0, none⟩ = some (u894000) := (blk_cell BK893.out 0).trans rfl; have hcz24_1 : w21.cell? ⟨gb893, 1, none⟩ = some (u894001) := (blk_cell BK893.out 1).trans rfl; have hfz24_0 := blk_frozen BK893.out 0; have hfz24_1 := blk_frozen BK893.out 1; obtain ⟨Ao25, co25, eo25⟩ := Kd.R_slice HO_894000.out; subst eo25) | ((with_reducible refine gate_callee (f := 102) rfl ?_); refine goesL_ (some 36) rfl rfl Try.func102 (by kernel_rfl) rfl #[.pointer (some ⟨g, 0, none⟩), .int .i64 (x894000_2.length : Int)] rfl (by (try simp only [List.map_toArray, List.map_cons, List.map_nil]); first | done | rfl | (simp only [List.length_drop, List.length_take]; rfl)) ?_; (with_reducible refine (spec_l1Cur_pick.calls g s0_0 t901 t902 (x894000_2.length : Int) t903 t904 t905 w0 _ ?side1 ?side2 A17.out).mono ?_); (case side1 => repeat (first | (with_reducible first | exact HI0.out | apply IsS106.alloc | apply IsS106.drewN | apply IsS106.drew | apply IsS106.set_1 | apply IsS106.set_2 | refine IsS106.far ?_ NB0_892.out _ | refine IsS106.far ?_ NB0_893.out _) | exact HI0.out)); (case side2 => repeat (first | (with_reducible first | exact HB.out | apply eA | apply eN | apply eD | refine below_set ?_ (IsS106.ge HI0.out) | refine below_set ?_ GE892.out | refine below_set ?_ GE893.out) | exact HB.out)); rintro e w26 ⟨rfl, hi, hb, hk⟩; refine ⟨_, rfl, ?_⟩; have n0_ := Aside0.mk (Kd.R_mono (Kd.R_keep (IsS106.apart (show IsS106 w0 _ g s0_0 t901 t902 from by repeat (first | (with_reducible first | exact HI0.out | apply IsS106.alloc | apply IsS106.drewN | apply IsS106.drew | apply IsS106.set_1 | apply IsS106.set_2 | refine IsS106.far ?_ NB0_892.out _ | refine IsS106.far ?_ NB0_893.out _) | exact HI0.out)) (by (with_reducible repeat first | apply Kd.R_alloc | apply Kd.R_drewN | apply Kd.R_drew); exact HO_894000.out) (by decide)) hk (fun _ h => h.2)) (fun _ h => h.1)); have n1_ := Aside0.mk (Kd.R_mono (Kd.R_keep (IsS106.apart (show IsS106 w0 _ g s0_0 t901 t902 from by repeat (first | (with_reducible first | exact HI0.out | apply IsS106.alloc | apply IsS106.drewN | apply IsS106.drew | apply IsS106.set_1 | apply IsS106.set_2 | refine IsS106.far ?_ NB0_892.out _ | refine IsS106.far ?_ NB0_893.out _) | exact HI0.out)) (by (with_reducible repeat first | apply Kd.R_alloc | apply Kd.R_drewN | apply Kd.R_drew); exact HO_894001.out) (by decide)) hk (fun _ h => h.2)) (fun _ h => h.1)); have n2_ := Aside0.mk (KeepBut.blk hk (g' := gb892) (o := .cells #[.slice none 0 0, .slice none 0 0] 51 (0, 0)) (by (with_reducible repeat first | apply bN | apply bD | apply bA); exact BK892.out) NB892_0.out (by simp)); have n3_ := Aside0.mk (KeepBut.blk hk (g' := gb893) (o := .cells #[.slice Ao25 x894000_2.length co25, u894001] 51 (0, 0)) (by (with_reducible repeat first | apply bN | apply bD | apply bA); exact BK893.out) NB893_0.out (by simp)); have n4_ := Aside0.mk (KeepBut.trans (by repeat (first | (with_reducible first | exact HK.out | apply KeepBut.set_ | apply keep_drewN | apply keep_drew | apply keep_alloc | refine keep_far ?_ GW892.out _ | refine keep_far ?_ GW893.out _) | exact HK.out)) hk (.inl rfl)); have n5_ := Aside0.mk (hb); have n6_ := Aside0.mk (hi); clear HO_894000 HO_894001; clear BK892 BK893; clear HK HB HI0; have HO_894000 := n0_; have HO_894001 := n1_; have BK892 := n2_; have BK893 := n3_; have HK := n4_; have HB := n5_; have HI0 := n6_; clear n0_ n1_ n2_ n3_ n4_ n5_ n6_; (try clear hb); (try clear hb2); (try clear hk); (try clear hi)))
          have n0_ := Aside0.mk (Kd.R_drew HO_894000.out)
          have n1_ := Aside0.mk (Kd.R_drew HO_894001.out)
          have n2_ := Aside0.mk (blk_drew BK892.out)
          have n3_ := Aside0.mk (blk_drew BK893.out)
          have n4_ := Aside0.mk (IsS106.drew HI0.out)
          have n5_ := Aside0.mk (keep_drew HK.out)
          have n6_ := Aside0.mk (below_drew1 HB.out)
          clear HO_894000 HO_894001 BK892 BK893 HI0 HK HB
          have HO_894000 := n0_
          have HO_894001 := n1_
          have BK892 := n2_
          have BK893 := n3_
          have HI0 := n4_
          have HK := n5_
          have HB := n6_
          clear n0_ n1_ n2_ n3_ n4_ n5_ n6_
          have p906 : 0 ≤ (t903 : Int) := of_decide_eq_true (by first | (with_reducible assumption) | assumption)
          have q906 : t903 < (x894000_2.length : Int) := of_decide_eq_true (by first | (with_reducible assumption) | assumption)
          obtain ⟨ad906, e906, hx906_0, hx906_1, hx906_2, hx906_3, hx906_4, hx906_5⟩ := at_T46 (Kd.R_reads' HO_894000.out).2.2 t903 p906 q906
          cases e906
          replace p906 := eq_true p906
          replace q906 := eq_true q906
          obtain ⟨Ao28, co28, eo28⟩ := Kd.R_slice HO_894001.out
          (first | subst eo28 | (injection eo28 with f1_ f2_ f3_; have f4_ := f1_.symm; have f5_ := f3_.symm; clear f1_ f2_ f3_; subst f4_; subst f5_))
          refine start_ (n := 14) (S := fun w' => w'.cell? ⟨gb893, 0, none⟩ = some (.slice (some ad906) x894000_2.length co25) ∧ w'.cell? ⟨gb893, 1, none⟩ = some (.slice Ao28 x894001_2.length co28) ∧ w'.cell? (ad906.add ((t903).toNat * 6)) = some (.bool ((rd_T46 x894000_2 t903).f0)) ∧ w'.cell? ⟨(ad906.add ((t903).toNat * 6)).block, (ad906.add ((t903).toNat * 6)).off + 1, none⟩ = some (.int .i64 ((rd_T46 x894000_2 t903).f1)) ∧ w'.cell? ⟨(ad906.add ((t903).toNat * 6)).block, (ad906.add ((t903).toNat * 6)).off + 2, none⟩ = some (.int .i64 ((rd_T46 x894000_2 t903).f2)) ∧ w'.cell? ⟨(ad906.add ((t903).toNat * 6)).block, (ad906.add ((t903).toNat * 6)).off + 3, none⟩ = some (.bool ((rd_T46 x894000_2 t903).f3)) ∧ w'.cell? ⟨(ad906.add ((t903).toNat * 6)).block, (ad906.add ((t903).toNat * 6)).off + 4, none⟩ = some (.int .i64 ((rd_T46 x894000_2 t903).f4)) ∧ w'.cell? ⟨(ad906.add ((t903).toNat * 6)).block, (ad906.add ((t903).toNat * 6)).off + 5, none⟩ = some (.int .i64 ((rd_T46 x894000_2 t903).f5))) (ds := [13]) #[false, false, false, false, false, false, false, false, false, false, false, false, false, false] (by kernel_rfl) rfl rfl ⟨(blk_cell BK893.out 0).trans rfl, (blk_cell BK893.out 1).trans rfl, hx906_0, hx906_1, hx906_2, hx906_3, hx906_4, hx906_5⟩ (fun hHeld => ?_); refine with_tabW spec_l1Cur_tableOf.tab12 spec_l1Cur_tableOf.bits12 (fun HT_ HW_ => ?_)
          generalize w26.drew = w27 at HO_894000 HO_894001 BK892 BK893 HI0 HK HB hx906_0 hx906_1 hx906_2 hx906_3 hx906_4 hx906_5 hHeld ⊢
          refine pure_ (i := 1) (N := some 39) (v := ?_) (a' := ?_) #[false, true, false, false, false, false, false, false, false, false, false, false, false, false] rfl rfl (any_of HT_.out (by kernel_rfl)) (fun _ _ _ h => h) (Or.inl ⟨by rfl, ?_⟩) ?_ ?_
          rotate_left
          ·intro w'
           go_simp
           with_reducible rfl
          rotate_left
          ·simp only [Act.put, List.setIfInBounds_toArray, List.set_cons_zero, List.set_cons_succ, i64_w, i32_w]
           rfl
          refine pure_ (i := 2) (N := some 40) (v := ?_) (a' := ?_) #[false, true, true, false, false, false, false, false, false, false, false, false, false, false] rfl rfl (any_of HT_.out (by kernel_rfl)) (fun _ _ _ h => h) (Or.inl ⟨by rfl, ?_⟩) ?_ ?_
          rotate_left
          ·intro w'
           go_simp
           with_reducible rfl
          rotate_left
          ·simp only [Act.put, List.setIfInBounds_toArray, List.set_cons_zero, List.set_cons_succ, i64_w, i32_w]
           rfl
          refine pure_ (i := 4) (N := some 42) (v := ?_) (a' := ?_) #[false, true, true, false, true, false, false, false, false, false, false, false, false, false] rfl rfl (any_of HT_.out (by kernel_rfl)) (fun _ _ _ h => h) (Or.inl ⟨by rfl, ?_⟩) ?_ ?_
          rotate_left
          ·intro w'
           go_simp
           with_reducible rfl
          rotate_left
          ·simp only [Act.put, List.setIfInBounds_toArray, List.set_cons_zero, List.set_cons_succ, i64_w, i32_w]
           rfl
          refine take_ (i := 0) (N := some 38) (v := ?_) (a' := ?_) #[true, true, true, false, true, false, false, false, false, false, false, false, false, false] rfl rfl (take_ofW HT_.out HW_.out (by kernel_rfl)) (fun _ _ _ h => h) (Or.inl ⟨by rfl, ?_⟩) hHeld ?_ ?_
          rotate_left
          ·rintro w' ⟨s0, s1, s2, s3, s4, s5, s6, s7⟩
           go_simp
           with_reducible rfl
          rotate_left
          ·simp only [Act.put, List.setIfInBounds_toArray, List.set_cons_zero, List.set_cons_succ, i64_w, i32_w]
           rfl
          refine take_ (i := 3) (N := some 41) (v := ?_) (a' := ?_) #[true, true, true, true, true, false, false, false, false, false, false, false, false, false] rfl rfl (take_ofW HT_.out HW_.out (by kernel_rfl)) (fun _ _ _ h => h) (Or.inl ⟨by rfl, ?_⟩) hHeld ?_ ?_
          rotate_left
          ·rintro w' ⟨s0, s1, s2, s3, s4, s5, s6, s7⟩
           go_simp
           with_reducible rfl
          rotate_left
          ·simp only [Act.put, List.setIfInBounds_toArray, List.set_cons_zero, List.set_cons_succ, i64_w, i32_w]
           rfl
          refine pure_ (i := 5) (N := some 43) (v := ?_) (a' := ?_) #[true, true, true, true, true, true, false, false, false, false, false, false, false, false] rfl rfl (any_of HT_.out (by kernel_rfl)) (fun _ _ _ h => h) (Or.inl ⟨by rfl, ?_⟩) ?_ ?_
          rotate_left
          ·intro w'
           go_simp
           with_reducible rfl
          rotate_left
          ·simp only [Act.put, List.setIfInBounds_toArray, List.set_cons_zero, List.set_cons_succ, i64_w, i32_w]
           rfl
          refine pure_ (i := 6) (N := some 44) (v := ?_) (a' := ?_) #[true, true, true, true, true, true, true, false, false, false, false, false, false, false] rfl rfl (any_of HT_.out (by kernel_rfl)) (fun _ _ _ h => h) (Or.inl ⟨by rfl, ?_⟩) ?_ ?_
          rotate_left
          ·intro w'
           go_simp
           with_reducible rfl
          rotate_left
          ·simp only [Act.put, List.setIfInBounds_toArray, List.set_cons_zero, List.set_cons_succ, i64_w, i32_w]
           rfl
          refine take_ (i := 7) (N := some 45) (v := ?_) (a' := ?_) #[true, true, true, true, true, true, true, true, false, false, false, false, false, false] rfl rfl (take_ofW HT_.out HW_.out (by kernel_rfl)) (fun _ _ _ h => h) (Or.inl ⟨by rfl, ?_⟩) hHeld ?_ ?_
          rotate_left
          ·rintro w' ⟨s0, s1, s2, s3, s4, s5, s6, s7⟩
           go_simp
           with_reducible rfl
          rotate_left
          ·simp only [Act.put, List.setIfInBounds_toArray, List.set_cons_zero, List.set_cons_succ, i64_w, i32_w]
           rfl
          refine one_ (i := 8) (N := some 46) #[true, true, true, true, true, true, true, true, true, false, false, false, false, false] rfl rfl (one_of HT_.out (by kernel_rfl)) (by decide) (fun K hK => ?_)
          refine goes_ Try.func51 (by kernel_rfl) rfl #[.agg #[.slice (some ad906) x894000_2.length co25, .slice Ao28 x894001_2.length co28], .int .i64 t903, .int .i64 ((rd_T46 x894000_2 t903).f1)] (by rfl) rfl rfl (by (try simp only [List.map_toArray, List.map_cons, List.map_nil]); first | done | rfl | (simp only [List.length_drop, List.length_take]; rfl)) ?_
          with_reducible refine (spec_DropHandle.calls k2 _ _ x894000_2 _ _ x894001_2 t903 ((rd_T46 x894000_2 t903).f1) t907 t910 t913 t914 t915 t916 t917 t918 t919 _ ?side1 ?side2 ?side3 ?side4 A20.out).mono ?_
          (case side1 => repeat (first | exact (Kd.R_reads' HO_894000.out).2.2 | (with_reducible refine Kd.C_alloc ?_ _) | (with_reducible refine Kd.C_drewN ?_ _) | (with_reducible refine Kd.C_drew ?_)))
          (case side2 => exact (Kd.R_reads' HO_894000.out).2.1)
          (case side3 => repeat (first | exact (Kd.R_reads' HO_894001.out).2.2 | (with_reducible refine Kd.C_alloc ?_ _) | (with_reducible refine Kd.C_drewN ?_ _) | (with_reducible refine Kd.C_drew ?_)))
          (case side4 => exact (Kd.R_reads' HO_894001.out).2.1)
          rintro e w29 ⟨v908, v911, rfl, ho0, ho1, hb⟩
          have HS2_ := (hb.cell (World.block_lt_of_cell? _ _ (hHeld.2.2.1))).trans (hHeld.2.2.1)
          have HS3_ := (hb.cell (World.block_lt_of_cell? _ _ (hHeld.2.2.2.1))).trans (hHeld.2.2.2.1)
          have HS4_ := (hb.cell (World.block_lt_of_cell? _ _ (hHeld.2.2.2.2.1))).trans (hHeld.2.2.2.2.1)
          have HS5_ := (hb.cell (World.block_lt_of_cell? _ _ (hHeld.2.2.2.2.2.1))).trans (hHeld.2.2.2.2.2.1)
          have HS6_ := (hb.cell (World.block_lt_of_cell? _ _ (hHeld.2.2.2.2.2.2.1))).trans (hHeld.2.2.2.2.2.2.1)
          have HS7_ := (hb.cell (World.block_lt_of_cell? _ _ (hHeld.2.2.2.2.2.2.2))).trans (hHeld.2.2.2.2.2.2.2)
          refine ⟨_, rfl, ?_⟩
          have n0_ := Aside0.mk (Kd.R_elder' (by (with_reducible repeat first | apply Kd.R_alloc | apply Kd.R_drewN | apply Kd.R_drew); exact HO_894000.out) (Kd.R_base ho0) hb)
          have n1_ := Aside0.mk (Kd.R_elder' (by (with_reducible repeat first | apply Kd.R_alloc | apply Kd.R_drewN | apply Kd.R_drew); exact HO_894001.out) (Kd.R_base ho1) hb)
          have n2_ := Aside0.mk (Kd.R_lower (Kd.R_new' ho0 (Kd.R_lt (by (with_reducible repeat first | apply Kd.R_alloc | apply Kd.R_drewN | apply Kd.R_drew); exact HO_894000.out))) (keep_size (w := w) (g := g) (row := none) (by repeat (first | (with_reducible first | exact HK.out | apply KeepBut.set_ | apply keep_drewN | apply keep_drew | apply keep_alloc | refine keep_far ?_ GW892.out _ | refine keep_far ?_ GW893.out _) | exact HK.out))))
          have n3_ := Aside0.mk (Kd.R_lower (Kd.R_new' ho1 (Kd.R_lt (by (with_reducible repeat first | apply Kd.R_alloc | apply Kd.R_drewN | apply Kd.R_drew); exact HO_894001.out))) (keep_size (w := w) (g := g) (row := none) (by repeat (first | (with_reducible first | exact HK.out | apply KeepBut.set_ | apply keep_drewN | apply keep_drew | apply keep_alloc | refine keep_far ?_ GW892.out _ | refine keep_far ?_ GW893.out _) | exact HK.out))))
          have n4_ := Aside0.mk (blk_below (g := gb892) (o := .cells #[.slice none 0 0, .slice none 0 0] 51 (0, 0)) (by (with_reducible repeat first | apply bN | apply bD | apply bA); exact BK892.out) hb)
          have n5_ := Aside0.mk (blk_below (g := gb893) (o := .cells #[.slice (some ad906) x894000_2.length co25, .slice Ao28 x894001_2.length co28] 51 (0, 0)) (by (with_reducible repeat first | apply bN | apply bD | apply bA); exact BK893.out) hb)
          have n6_ := Aside0.mk (IsS106.below (by repeat (first | (with_reducible first | exact HI0.out | apply IsS106.alloc | apply IsS106.drewN | apply IsS106.drew | apply IsS106.set_1 | apply IsS106.set_2 | refine IsS106.far ?_ NB0_892.out _ | refine IsS106.far ?_ NB0_893.out _) | exact HI0.out)) hb)
          have n7_ := Aside0.mk (KeepBut.trans (by repeat (first | (with_reducible first | exact HK.out | apply KeepBut.set_ | apply keep_drewN | apply keep_drew | apply keep_alloc | refine keep_far ?_ GW892.out _ | refine keep_far ?_ GW893.out _) | exact HK.out)) (KeepBut.of_below hb g none) (.inl rfl))
          have n8_ := Aside0.mk (below_step (by repeat (first | (with_reducible first | exact HB.out | apply eA | apply eN | apply eD | refine below_set ?_ (IsS106.ge HI0.out) | refine below_set ?_ GE892.out | refine below_set ?_ GE893.out) | exact HB.out)) hb)
          clear HO_894000 HO_894001 BK892 BK893 HI0 HK HB
          have HO_894000 := n0_
          have HO_894001 := n1_
          have HO909 := n2_
          have HO912 := n3_
          have BK892 := n4_
          have BK893 := n5_
          have HI0 := n6_
          have HK := n7_
          have HB := n8_
          clear n0_ n1_ n2_ n3_ n4_ n5_ n6_ n7_ n8_
          (try clear hb)
          (try clear hb2)
          (try clear hk)
          (try clear hi)
          (try clear ho0)
          (try clear ho1)
          obtain ⟨Ao30, co30, eo30⟩ := Kd.R_slice HO909.out
          (first | subst eo30 | (injection eo30 with f1_ f2_ f3_; have f4_ := f1_.symm; have f5_ := f3_.symm; clear f1_ f2_ f3_; subst f4_; subst f5_))
          obtain ⟨Ao32, co32, eo32⟩ := Kd.R_slice HO912.out
          (first | subst eo32 | (injection eo32 with f1_ f2_ f3_; have f4_ := f1_.symm; have f5_ := f3_.symm; clear f1_ f2_ f3_; subst f4_; subst f5_))
          refine hK.out _ _ ⟨(blk_cell BK893.out 0).trans rfl, (blk_cell BK893.out 1).trans rfl, HS2_, HS3_, HS4_, HS5_, HS6_, HS7_⟩ (fun hHeld => ?_)
          clear hK K
          refine norm_ (a' := ?_) ?_ ?_
          rotate_left
          ·show Act.put _ (some 46) _ = _
           simp only [Act.put, List.setIfInBounds_toArray, List.set_cons_zero, List.set_cons_succ, i64_w, i32_w]
           rfl
          refine pure_ (i := 9) (N := some 37) (v := ?_) (a' := ?_) #[true, true, true, true, true, true, true, true, true, true, false, false, false, false] rfl rfl (any_of HT_.out (by kernel_rfl)) (fun _ _ _ h => h) (Or.inl ⟨by rfl, ?_⟩) ?_ ?_
          rotate_left
          ·intro w'
           go_simp
           with_reducible rfl
          rotate_left
          ·simp only [Act.put, List.setIfInBounds_toArray, List.set_cons_zero, List.set_cons_succ, i64_w, i32_w]
           rfl
          refine pure_ (i := 10) (N := some 47) (v := ?_) (a' := ?_) #[true, true, true, true, true, true, true, true, true, true, true, false, false, false] rfl rfl (any_of HT_.out (by kernel_rfl)) (fun _ _ _ h => h) (Or.inl ⟨by rfl, ?_⟩) ?_ ?_
          rotate_left
          ·intro w'
           go_simp
           with_reducible rfl
          rotate_left
          ·simp only [Act.put, List.setIfInBounds_toArray, List.set_cons_zero, List.set_cons_succ, i64_w, i32_w]
           rfl
          refine pure_ (i := 11) (N := some 48) (v := ?_) (a' := ?_) #[true, true, true, true, true, true, true, true, true, true, true, true, false, false] rfl rfl (any_of HT_.out (by kernel_rfl)) (fun _ _ _ h => h) (Or.inl ⟨by rfl, ?_⟩) ?_ ?_
          rotate_left
          ·intro w'
           go_simp
           with_reducible rfl
          rotate_left
          ·simp only [Act.put, List.setIfInBounds_toArray, List.set_cons_zero, List.set_cons_succ, i64_w, i32_w]
           rfl
          refine pure_ (i := 12) (N := some 49) (v := ?_) (a' := ?_) #[true, true, true, true, true, true, true, true, true, true, true, true, true, false] rfl rfl (any_of HT_.out (by kernel_rfl)) (fun _ _ _ h => h) (Or.inl ⟨by rfl, ?_⟩) ?_ ?_
          rotate_left
          ·intro w'
           go_simp
           with_reducible rfl
          rotate_left
          ·simp only [Act.put, List.setIfInBounds_toArray, List.set_cons_zero, List.set_cons_succ, i64_w, i32_w]
           rfl
          refine last_ (i := 13) (N := none) #[true, true, true, true, true, true, true, true, true, true, true, true, true, true] rfl rfl (one_of HT_.out (by kernel_rfl)) (by decide) (fun K hK => ?_)
          have hs31 : w29.cell? ⟨gb893, 0, none⟩ = some (.slice (some ad906) x894000_2.length co25) := (blk_cell BK893.out 0).trans rfl
          have hfs31 := blk_frozen BK893.out 0
          have hns31_0 := NB892_893.out
          have hms31_0 := NB893_892.out
          have hs33 : w29.cell? ⟨gb893, 1, none⟩ = some (.slice Ao28 x894001_2.length co28) := (blk_cell BK893.out 1).trans rfl
          have hfs33 := blk_frozen BK893.out 1
          have hns33_0 := NB892_893.out
          have hms33_0 := NB893_892.out
          refine skip_ (w1 := ?_) (by rfl) rfl ?_ ?_
          rotate_left
          ·go_simp
           rfl
          refine hK.out _ _ ?_
          clear hK K
          refine done_ (done_of HT_.out (by kernel_rfl)) ?_
          try go_wp2
          go_roundg k2
          case measure => have := HJ3.out; have := HK2.out; omega
          case rel => exact ⟨(wrap64 (x4_2 - 1)), (t904), (t905), (t907), (t910), (.slice Ao30 t907.length co30), (.slice Ao32 t910.length co32), (by first | rfl | (simp; done) | (simp [*]; done)), H', ⟨by have := HJ3.out; have := HK2.out; omega⟩, ⟨by (with_reducible repeat first | apply Kd.R_alloc | apply Kd.R_drewN | apply Kd.R_drew); exact Kd.R_mono (Kd.R_far (p := ⟨gb893, 1, none⟩) (Kd.R_far (p := ⟨gb893, 0, none⟩) (Kd.R_types HO909.out BK893.out (by decide)) (fun _ hk => hk.2) (.slice Ao30 t907.length co30)) (fun _ hk => hk.2) (.slice Ao32 t910.length co32)) (fun _ hk => trivial)⟩, ⟨by (with_reducible repeat first | apply Kd.R_alloc | apply Kd.R_drewN | apply Kd.R_drew); exact Kd.R_mono (Kd.R_far (p := ⟨gb893, 1, none⟩) (Kd.R_far (p := ⟨gb893, 0, none⟩) (Kd.R_types HO912.out BK893.out (by decide)) (fun _ hk => hk.2) (.slice Ao30 t907.length co30)) (fun _ hk => hk.2) (.slice Ao32 t910.length co32)) (fun _ hk => trivial)⟩, ⟨by (with_reducible repeat first | apply bN | apply bD | apply bA); refine blk_far ?_ NB892_893.out _; (with_reducible repeat first | apply bN | apply bD | apply bA); refine blk_far ?_ NB892_893.out _; (with_reducible repeat first | apply bN | apply bD | apply bA); exact BK892.out⟩, ⟨by (with_reducible repeat first | apply bN | apply bD | apply bA); refine blk_put (cs := #[.slice Ao30 t907.length co30, .slice Ao28 x894001_2.length co28]) ?_ 1 _ rfl; (with_reducible repeat first | apply bN | apply bD | apply bA); refine blk_put (cs := #[.slice (some ad906) x894000_2.length co25, .slice Ao28 x894001_2.length co28]) ?_ 0 _ rfl; (with_reducible repeat first | apply bN | apply bD | apply bA); exact BK893.out⟩, ⟨by repeat (first | (with_reducible first | exact HI0.out | apply IsS106.alloc | apply IsS106.drewN | apply IsS106.drew | apply IsS106.set_1 | apply IsS106.set_2 | refine IsS106.far ?_ NB0_892.out _ | refine IsS106.far ?_ NB0_893.out _) | exact HI0.out)⟩, ⟨by repeat (first | (with_reducible first | exact HK.out | apply KeepBut.set_ | apply keep_drewN | apply keep_drew | apply keep_alloc | refine keep_far ?_ GW892.out _ | refine keep_far ?_ GW893.out _) | exact HK.out)⟩, ⟨by repeat (first | (with_reducible first | exact HB.out | apply eA | apply eN | apply eD | refine below_set ?_ (IsS106.ge HI0.out) | refine below_set ?_ GE892.out | refine below_set ?_ GE893.out) | exact HB.out)⟩⟩
         ·rw [if_neg c19] at H
          exact absurd H (by simp)
        ·rw [if_neg c18] at H
         exact absurd H (by simp)
       ·rw [if_neg c16] at H
        have c16b0 : decide (0 < (x894000_2.length : Int)) = false := decide_eq_false c16
        have c16b1 : decide (0 < x894000_2.length) = false := decide_eq_false (by omega)
        clear c16
        have H' := Aside0.mk H
        clear H
        go_wp2_with (first | ((with_reducible refine gate_callee (f := 102) rfl ?_); refine goesL_ (some 17) rfl rfl Try.func102 (by kernel_rfl) rfl #[.pointer (some ⟨g, 0, none⟩), .int .i64 5] rfl (by (try simp only [List.map_toArray, List.map_cons, List.map_nil]); first | done | rfl | (simp only [List.length_drop, List.length_take]; rfl)) ?_; (with_reducible refine (spec_l1Cur_pick.calls g s0_0 x1001_2 x1002_2 5 t900 t901 t902 w0 _ ?side1 ?side2 A14.out).mono ?_); (case side1 => repeat (first | (with_reducible first | exact HI0.out | apply IsS106.alloc | apply IsS106.drewN | apply IsS106.drew | apply IsS106.set_1 | apply IsS106.set_2 | refine IsS106.far ?_ NB0_892.out _ | refine IsS106.far ?_ NB0_893.out _) | exact HI0.out)); (case side2 => repeat (first | (with_reducible first | exact HB.out | apply eA | apply eN | apply eD | refine below_set ?_ (IsS106.ge HI0.out) | refine below_set ?_ GE892.out | refine below_set ?_ GE893.out) | exact HB.out)); rintro e w34 ⟨rfl, hi, hb, hk⟩; refine ⟨_, rfl, ?_⟩; have n0_ := Aside0.mk (Kd.R_mono (Kd.R_keep (IsS106.apart (show IsS106 w0 _ g s0_0 x1001_2 x1002_2 from by repeat (first | (with_reducible first | exact HI0.out | apply IsS106.alloc | apply IsS106.drewN | apply IsS106.drew | apply IsS106.set_1 | apply IsS106.set_2 | refine IsS106.far ?_ NB0_892.out _ | refine IsS106.far ?_ NB0_893.out _) | exact HI0.out)) (by (with_reducible repeat first | apply Kd.R_alloc | apply Kd.R_drewN | apply Kd.R_drew); exact HO_894000.out) (by decide)) hk (fun _ h => h.2)) (fun _ h => h.1)); have n1_ := Aside0.mk (Kd.R_mono (Kd.R_keep (IsS106.apart (show IsS106 w0 _ g s0_0 x1001_2 x1002_2 from by repeat (first | (with_reducible first | exact HI0.out | apply IsS106.alloc | apply IsS106.drewN | apply IsS106.drew | apply IsS106.set_1 | apply IsS106.set_2 | refine IsS106.far ?_ NB0_892.out _ | refine IsS106.far ?_ NB0_893.out _) | exact HI0.out)) (by (with_reducible repeat first | apply Kd.R_alloc | apply Kd.R_drewN | apply Kd.R_drew); exact HO_894001.out) (by decide)) hk (fun _ h => h.2)) (fun _ h => h.1)); have n2_ := Aside0.mk (KeepBut.blk hk (g' := gb892) (o := .cells #[.slice none 0 0, .slice none 0 0] 51 (0, 0)) (by (with_reducible repeat first | apply bN | apply bD | apply bA); exact BK892.out) NB892_0.out (by simp)); have n3_ := Aside0.mk (KeepBut.blk hk (g' := gb893) (o := .cells #[u894000, u894001] 51 (0, 0)) (by (with_reducible repeat first | apply bN | apply bD | apply bA); exact BK893.out) NB893_0.out (by simp)); have n4_ := Aside0.mk (KeepBut.trans (by repeat (first | (with_reducible first | exact HK.out | apply KeepBut.set_ | apply keep_drewN | apply keep_drew | apply keep_alloc | refine keep_far ?_ GW892.out _ | refine keep_far ?_ GW893.out _) | exact HK.out)) hk (.inl rfl)); have n5_ := Aside0.mk (hb); have n6_ := Aside0.mk (hi); clear HO_894000 HO_894001; clear BK892 BK893; clear HK HB HI0; have HO_894000 := n0_; have HO_894001 := n1_; have BK892 := n2_; have BK893 := n3_; have HK := n4_; have HB := n5_; have HI0 := n6_; clear n0_ n1_ n2_ n3_ n4_ n5_ n6_; (try clear hb); (try clear hb2); (try clear hk); (try clear hi); have hnb35 := NB893_892.out; have hnc35 := NB892_893.out; have hnb36 := NB893_0.out; have hnc36 := NB0_893.out; have hcz37_0 : w34.cell? ⟨gb893, 0, none⟩ = some (u894000) := (blk_cell BK893.out 0).trans rfl; have hcz37_1 : w34.cell? ⟨gb893, 1, none⟩ = some (u894001) := (blk_cell BK893.out 1).trans rfl; have hfz37_0 := blk_frozen BK893.out 0; have hfz37_1 := blk_frozen BK893.out 1; obtain ⟨Ao38, co38, eo38⟩ := Kd.R_slice HO_894000.out; subst eo38))
        go_roundg k2
        case measure => have := HJ3.out; have := HK2.out; omega
        case rel => exact ⟨(wrap64 (x4_2 - 1)), (t901), (t902), (x894000_2), (x894001_2), (.slice Ao38 x894000_2.length co38), (u894001), (by first | rfl | (simp; done) | (simp [*]; done)), H', ⟨by have := HJ3.out; have := HK2.out; omega⟩, ⟨by (with_reducible repeat first | apply Kd.R_alloc | apply Kd.R_drewN | apply Kd.R_drew); exact HO_894000.out⟩, ⟨by (with_reducible repeat first | apply Kd.R_alloc | apply Kd.R_drewN | apply Kd.R_drew); exact HO_894001.out⟩, ⟨by (with_reducible repeat first | apply bN | apply bD | apply bA); exact BK892.out⟩, ⟨by (with_reducible repeat first | apply bN | apply bD | apply bA); exact BK893.out⟩, ⟨by repeat (first | (with_reducible first | exact HI0.out | apply IsS106.alloc | apply IsS106.drewN | apply IsS106.drew | apply IsS106.set_1 | apply IsS106.set_2 | refine IsS106.far ?_ NB0_892.out _ | refine IsS106.far ?_ NB0_893.out _) | exact HI0.out)⟩, ⟨by repeat (first | (with_reducible first | exact HK.out | apply KeepBut.set_ | apply keep_drewN | apply keep_drew | apply keep_alloc | refine keep_far ?_ GW892.out _ | refine keep_far ?_ GW893.out _) | exact HK.out)⟩, ⟨by repeat (first | (with_reducible first | exact HB.out | apply eA | apply eN | apply eD | refine below_set ?_ (IsS106.ge HI0.out) | refine below_set ?_ GE892.out | refine below_set ?_ GE893.out) | exact HB.out)⟩⟩
      ·rw [if_neg c15] at H
       have c15b0 : (t900 == 0) = false := beq_eq_false_iff_ne.mpr c15
       have c15b1 : (t900 != 0) = true := bne_iff_ne.mpr c15
       by_cases c39 : t900 = 1
       ·rw [if_pos c39] at H
        have c39b0 : (t900 == 1) = true := beq_iff_eq.mpr c39
        have c39b1 : (t900 != 1) = false := bne_eq_false_iff_eq.mpr c39
        clear c39
        by_cases c40 : (x894000_2.length : Int) > 0
        ·rw [if_pos c40] at H
         have c40b0 : decide (0 < (x894000_2.length : Int)) = true := decide_eq_true c40
         have c40b1 : decide (0 < x894000_2.length) = true := decide_eq_true (by omega)
         clear c40
         replace H := Option.bind_eq_some_iff.mp H
         obtain ⟨⟨t920, t921, t922⟩, A410, H⟩ := H
         replace H : (if 0 ≤ t920 then (if t920 < (x894000_2.length : Int) then ((spec_LendHandle.f k2 x894000_2 x894001_2 t920 ((rd_T46 x894000_2 t920).f1)).bind fun bt924 => (spec_l1Cur_tableOf.l0 k2 (wrap64 (x4_2 - 1)) s0_0 t921 t922 bt924.1 bt924.2.1)) else (none)) else (none)) = some (r1, r2, r3, r4) := H
         have A41 := Aside0.mk A410
         clear A410
         by_cases c42 : 0 ≤ t920
         ·rw [if_pos c42] at H
          have c42b0 : decide (0 ≤ t920) = true := decide_eq_true c42
          clear c42
          by_cases c43 : t920 < (x894000_2.length : Int)
          ·rw [if_pos c43] at H
           have c43b0 : decide (t920 < (x894000_2.length : Int)) = true := decide_eq_true c43
           clear c43
           replace H := Option.bind_eq_some_iff.mp H
           obtain ⟨⟨t924, t927, t930, t931, t932, t933, t934, t935, t936⟩, A440, H⟩ := H
           replace H : (spec_l1Cur_tableOf.l0 k2 (wrap64 (x4_2 - 1)) s0_0 t921 t922 t924 t927) = some (r1, r2, r3, r4) := H
           have A44 := Aside0.mk A440
           clear A440
           have H' := Aside0.mk H
           clear H
           try go_wp2_with (first | ((with_reducible refine gate_callee (f := 102) rfl ?_); refine goesL_ (some 17) rfl rfl Try.func102 (by kernel_rfl) rfl #[.pointer (some ⟨g, 0, none⟩), .int .i64 5] rfl (by (try simp only [List.map_toArray, List.map_cons, List.map_nil]); first | done | rfl | (simp only [List.length_drop, List.length_take]; rfl)) ?_; (with_reducible refine (spec_l1Cur_pick.calls g s0_0 x1001_2 x1002_2 5 t900 t901 t902 w0 _ ?side1 ?side2 A14.out).mono ?_); (case side1 => repeat (first | (with_reducible first | exact HI0.out | apply IsS106.alloc | apply IsS106.drewN | apply IsS106.drew | apply IsS106.set_1 | apply IsS106.set_2 | refine IsS106.far ?_ NB0_892.out _ | refine IsS106.far ?_ NB0_893.out _) | exact HI0.out)); (case side2 => repeat (first | (with_reducible first | exact HB.out | apply eA | apply eN | apply eD | refine below_set ?_ (IsS106.ge HI0.out) | refine below_set ?_ GE892.out | refine below_set ?_ GE893.out) | exact HB.out)); rintro e w45 ⟨rfl, hi, hb, hk⟩; refine ⟨_, rfl, ?_⟩; have n0_ := Aside0.mk (Kd.R_mono (Kd.R_keep (IsS106.apart (show IsS106 w0 _ g s0_0 x1001_2 x1002_2 from by repeat (first | (with_reducible first | exact HI0.out | apply IsS106.alloc | apply IsS106.drewN | apply IsS106.drew | apply IsS106.set_1 | apply IsS106.set_2 | refine IsS106.far ?_ NB0_892.out _ | refine IsS106.far ?_ NB0_893.out _) | exact HI0.out)) (by (with_reducible repeat first | apply Kd.R_alloc | apply Kd.R_drewN | apply Kd.R_drew); exact HO_894000.out) (by decide)) hk (fun _ h => h.2)) (fun _ h => h.1)); have n1_ := Aside0.mk (Kd.R_mono (Kd.R_keep (IsS106.apart (show IsS106 w0 _ g s0_0 x1001_2 x1002_2 from by repeat (first | (with_reducible first | exact HI0.out | apply IsS106.alloc | apply IsS106.drewN | apply IsS106.drew | apply IsS106.set_1 | apply IsS106.set_2 | refine IsS106.far ?_ NB0_892.out _ | refine IsS106.far ?_ NB0_893.out _) | exact HI0.out)) (by (with_reducible repeat first | apply Kd.R_alloc | apply Kd.R_drewN | apply Kd.R_drew); exact HO_894001.out) (by decide)) hk (fun _ h => h.2)) (fun _ h => h.1)); have n2_ := Aside0.mk (KeepBut.blk hk (g' := gb892) (o := .cells #[.slice none 0 0, .slice none 0 0] 51 (0, 0)) (by (with_reducible repeat first | apply bN | apply bD | apply bA); exact BK892.out) NB892_0.out (by simp)); have n3_ := Aside0.mk (KeepBut.blk hk (g' := gb893) (o := .cells #[u894000, u894001] 51 (0, 0)) (by (with_reducible repeat first | apply bN | apply bD | apply bA); exact BK893.out) NB893_0.out (by simp)); have n4_ := Aside0.mk (KeepBut.trans (by repeat (first | (with_reducible first | exact HK.out | apply KeepBut.set_ | apply keep_drewN | apply keep_drew | apply keep_alloc | refine keep_far ?_ GW892.out _ | refine keep_far ?_ GW893.out _) | exact HK.out)) hk (.inl rfl)); have n5_ := Aside0.mk (hb); have n6_ := Aside0.mk (hi); clear HO_894000 HO_894001; clear BK892 BK893; clear HK HB HI0; have HO_894000 := n0_; have HO_894001 := n1_; have BK892 := n2_; have BK893 := n3_; have HK := n4_; have HB := n5_; have HI0 := n6_; clear n0_ n1_ n2_ n3_ n4_ n5_ n6_; (try clear hb); (try clear hb2); (try clear hk); (try clear hi); have hnb46 := NB893_892.out; have hnc46 := NB892_893.out; have hnb47 := NB893_0.out; have hnc47 := NB0_893.out; have hcz48_0 : w45.cell? ⟨gb893, 0, none⟩ = some (u894000) := (blk_cell BK893.out 0).trans rfl; have hcz48_1 : w45.cell? ⟨gb893, 1, none⟩ = some (u894001) := (blk_cell BK893.out 1).trans rfl; have hfz48_0 := blk_frozen BK893.out 0; have hfz48_1 := blk_frozen BK893.out 1; obtain ⟨Ao49, co49, eo49⟩ := Kd.R_slice HO_894000.out; subst eo49) | ((with_reducible refine gate_callee (f := 102) rfl ?_); refine goesL_ (some 60) rfl rfl Try.func102 (by kernel_rfl) rfl #[.pointer (some ⟨g, 0, none⟩), .int .i64 (x894000_2.length : Int)] rfl (by (try simp only [List.map_toArray, List.map_cons, List.map_nil]); first | done | rfl | (simp only [List.length_drop, List.length_take]; rfl)) ?_; (with_reducible refine (spec_l1Cur_pick.calls g s0_0 t901 t902 (x894000_2.length : Int) t920 t921 t922 w0 _ ?side1 ?side2 A41.out).mono ?_); (case side1 => repeat (first | (with_reducible first | exact HI0.out | apply IsS106.alloc | apply IsS106.drewN | apply IsS106.drew | apply IsS106.set_1 | apply IsS106.set_2 | refine IsS106.far ?_ NB0_892.out _ | refine IsS106.far ?_ NB0_893.out _) | exact HI0.out)); (case side2 => repeat (first | (with_reducible first | exact HB.out | apply eA | apply eN | apply eD | refine below_set ?_ (IsS106.ge HI0.out) | refine below_set ?_ GE892.out | refine below_set ?_ GE893.out) | exact HB.out)); rintro e w50 ⟨rfl, hi, hb, hk⟩; refine ⟨_, rfl, ?_⟩; have n0_ := Aside0.mk (Kd.R_mono (Kd.R_keep (IsS106.apart (show IsS106 w0 _ g s0_0 t901 t902 from by repeat (first | (with_reducible first | exact HI0.out | apply IsS106.alloc | apply IsS106.drewN | apply IsS106.drew | apply IsS106.set_1 | apply IsS106.set_2 | refine IsS106.far ?_ NB0_892.out _ | refine IsS106.far ?_ NB0_893.out _) | exact HI0.out)) (by (with_reducible repeat first | apply Kd.R_alloc | apply Kd.R_drewN | apply Kd.R_drew); exact HO_894000.out) (by decide)) hk (fun _ h => h.2)) (fun _ h => h.1)); have n1_ := Aside0.mk (Kd.R_mono (Kd.R_keep (IsS106.apart (show IsS106 w0 _ g s0_0 t901 t902 from by repeat (first | (with_reducible first | exact HI0.out | apply IsS106.alloc | apply IsS106.drewN | apply IsS106.drew | apply IsS106.set_1 | apply IsS106.set_2 | refine IsS106.far ?_ NB0_892.out _ | refine IsS106.far ?_ NB0_893.out _) | exact HI0.out)) (by (with_reducible repeat first | apply Kd.R_alloc | apply Kd.R_drewN | apply Kd.R_drew); exact HO_894001.out) (by decide)) hk (fun _ h => h.2)) (fun _ h => h.1)); have n2_ := Aside0.mk (KeepBut.blk hk (g' := gb892) (o := .cells #[.slice none 0 0, .slice none 0 0] 51 (0, 0)) (by (with_reducible repeat first | apply bN | apply bD | apply bA); exact BK892.out) NB892_0.out (by simp)); have n3_ := Aside0.mk (KeepBut.blk hk (g' := gb893) (o := .cells #[.slice Ao49 x894000_2.length co49, u894001] 51 (0, 0)) (by (with_reducible repeat first | apply bN | apply bD | apply bA); exact BK893.out) NB893_0.out (by simp)); have n4_ := Aside0.mk (KeepBut.trans (by repeat (first | (with_reducible first | exact HK.out | apply KeepBut.set_ | apply keep_drewN | apply keep_drew | apply keep_alloc | refine keep_far ?_ GW892.out _ | refine keep_far ?_ GW893.out _) | exact HK.out)) hk (.inl rfl)); have n5_ := Aside0.mk (hb); have n6_ := Aside0.mk (hi); clear HO_894000 HO_894001; clear BK892 BK893; clear HK HB HI0; have HO_894000 := n0_; have HO_894001 := n1_; have BK892 := n2_; have BK893 := n3_; have HK := n4_; have HB := n5_; have HI0 := n6_; clear n0_ n1_ n2_ n3_ n4_ n5_ n6_; (try clear hb); (try clear hb2); (try clear hk); (try clear hi)))
           have n0_ := Aside0.mk (Kd.R_drew HO_894000.out)
           have n1_ := Aside0.mk (Kd.R_drew HO_894001.out)
           have n2_ := Aside0.mk (blk_drew BK892.out)
           have n3_ := Aside0.mk (blk_drew BK893.out)
           have n4_ := Aside0.mk (IsS106.drew HI0.out)
           have n5_ := Aside0.mk (keep_drew HK.out)
           have n6_ := Aside0.mk (below_drew1 HB.out)
           clear HO_894000 HO_894001 BK892 BK893 HI0 HK HB
           have HO_894000 := n0_
           have HO_894001 := n1_
           have BK892 := n2_
           have BK893 := n3_
           have HI0 := n4_
           have HK := n5_
           have HB := n6_
           clear n0_ n1_ n2_ n3_ n4_ n5_ n6_
           have p923 : 0 ≤ (t920 : Int) := of_decide_eq_true (by first | (with_reducible assumption) | assumption)
           have q923 : t920 < (x894000_2.length : Int) := of_decide_eq_true (by first | (with_reducible assumption) | assumption)
           obtain ⟨ad923, e923, hx923_0, hx923_1, hx923_2, hx923_3, hx923_4, hx923_5⟩ := at_T46 (Kd.R_reads' HO_894000.out).2.2 t920 p923 q923
           cases e923
           replace p923 := eq_true p923
           replace q923 := eq_true q923
           obtain ⟨Ao52, co52, eo52⟩ := Kd.R_slice HO_894001.out
           (first | subst eo52 | (injection eo52 with f1_ f2_ f3_; have f4_ := f1_.symm; have f5_ := f3_.symm; clear f1_ f2_ f3_; subst f4_; subst f5_))
           refine start_ (n := 14) (S := fun w' => w'.cell? ⟨gb893, 0, none⟩ = some (.slice (some ad923) x894000_2.length co49) ∧ w'.cell? ⟨gb893, 1, none⟩ = some (.slice Ao52 x894001_2.length co52) ∧ w'.cell? (ad923.add ((t920).toNat * 6)) = some (.bool ((rd_T46 x894000_2 t920).f0)) ∧ w'.cell? ⟨(ad923.add ((t920).toNat * 6)).block, (ad923.add ((t920).toNat * 6)).off + 1, none⟩ = some (.int .i64 ((rd_T46 x894000_2 t920).f1)) ∧ w'.cell? ⟨(ad923.add ((t920).toNat * 6)).block, (ad923.add ((t920).toNat * 6)).off + 2, none⟩ = some (.int .i64 ((rd_T46 x894000_2 t920).f2)) ∧ w'.cell? ⟨(ad923.add ((t920).toNat * 6)).block, (ad923.add ((t920).toNat * 6)).off + 3, none⟩ = some (.bool ((rd_T46 x894000_2 t920).f3)) ∧ w'.cell? ⟨(ad923.add ((t920).toNat * 6)).block, (ad923.add ((t920).toNat * 6)).off + 4, none⟩ = some (.int .i64 ((rd_T46 x894000_2 t920).f4)) ∧ w'.cell? ⟨(ad923.add ((t920).toNat * 6)).block, (ad923.add ((t920).toNat * 6)).off + 5, none⟩ = some (.int .i64 ((rd_T46 x894000_2 t920).f5))) (ds := [13]) #[false, false, false, false, false, false, false, false, false, false, false, false, false, false] (by kernel_rfl) rfl rfl ⟨(blk_cell BK893.out 0).trans rfl, (blk_cell BK893.out 1).trans rfl, hx923_0, hx923_1, hx923_2, hx923_3, hx923_4, hx923_5⟩ (fun hHeld => ?_); refine with_tabW spec_l1Cur_tableOf.tab16 spec_l1Cur_tableOf.bits16 (fun HT_ HW_ => ?_)
           generalize w50.drew = w51 at HO_894000 HO_894001 BK892 BK893 HI0 HK HB hx923_0 hx923_1 hx923_2 hx923_3 hx923_4 hx923_5 hHeld ⊢
           refine pure_ (i := 1) (N := some 63) (v := ?_) (a' := ?_) #[false, true, false, false, false, false, false, false, false, false, false, false, false, false] rfl rfl (any_of HT_.out (by kernel_rfl)) (fun _ _ _ h => h) (Or.inl ⟨by rfl, ?_⟩) ?_ ?_
           rotate_left
           ·intro w'
            go_simp
            with_reducible rfl
           rotate_left
           ·simp only [Act.put, List.setIfInBounds_toArray, List.set_cons_zero, List.set_cons_succ, i64_w, i32_w]
            rfl
           refine pure_ (i := 2) (N := some 64) (v := ?_) (a' := ?_) #[false, true, true, false, false, false, false, false, false, false, false, false, false, false] rfl rfl (any_of HT_.out (by kernel_rfl)) (fun _ _ _ h => h) (Or.inl ⟨by rfl, ?_⟩) ?_ ?_
           rotate_left
           ·intro w'
            go_simp
            with_reducible rfl
           rotate_left
           ·simp only [Act.put, List.setIfInBounds_toArray, List.set_cons_zero, List.set_cons_succ, i64_w, i32_w]
            rfl
           refine pure_ (i := 4) (N := some 66) (v := ?_) (a' := ?_) #[false, true, true, false, true, false, false, false, false, false, false, false, false, false] rfl rfl (any_of HT_.out (by kernel_rfl)) (fun _ _ _ h => h) (Or.inl ⟨by rfl, ?_⟩) ?_ ?_
           rotate_left
           ·intro w'
            go_simp
            with_reducible rfl
           rotate_left
           ·simp only [Act.put, List.setIfInBounds_toArray, List.set_cons_zero, List.set_cons_succ, i64_w, i32_w]
            rfl
           refine take_ (i := 0) (N := some 62) (v := ?_) (a' := ?_) #[true, true, true, false, true, false, false, false, false, false, false, false, false, false] rfl rfl (take_ofW HT_.out HW_.out (by kernel_rfl)) (fun _ _ _ h => h) (Or.inl ⟨by rfl, ?_⟩) hHeld ?_ ?_
           rotate_left
           ·rintro w' ⟨s0, s1, s2, s3, s4, s5, s6, s7⟩
            go_simp
            with_reducible rfl
           rotate_left
           ·simp only [Act.put, List.setIfInBounds_toArray, List.set_cons_zero, List.set_cons_succ, i64_w, i32_w]
            rfl
           refine take_ (i := 3) (N := some 65) (v := ?_) (a' := ?_) #[true, true, true, true, true, false, false, false, false, false, false, false, false, false] rfl rfl (take_ofW HT_.out HW_.out (by kernel_rfl)) (fun _ _ _ h => h) (Or.inl ⟨by rfl, ?_⟩) hHeld ?_ ?_
           rotate_left
           ·rintro w' ⟨s0, s1, s2, s3, s4, s5, s6, s7⟩
            go_simp
            with_reducible rfl
           rotate_left
           ·simp only [Act.put, List.setIfInBounds_toArray, List.set_cons_zero, List.set_cons_succ, i64_w, i32_w]
            rfl
           refine pure_ (i := 5) (N := some 67) (v := ?_) (a' := ?_) #[true, true, true, true, true, true, false, false, false, false, false, false, false, false] rfl rfl (any_of HT_.out (by kernel_rfl)) (fun _ _ _ h => h) (Or.inl ⟨by rfl, ?_⟩) ?_ ?_
           rotate_left
           ·intro w'
            go_simp
            with_reducible rfl
           rotate_left
           ·simp only [Act.put, List.setIfInBounds_toArray, List.set_cons_zero, List.set_cons_succ, i64_w, i32_w]
            rfl
           refine pure_ (i := 6) (N := some 68) (v := ?_) (a' := ?_) #[true, true, true, true, true, true, true, false, false, false, false, false, false, false] rfl rfl (any_of HT_.out (by kernel_rfl)) (fun _ _ _ h => h) (Or.inl ⟨by rfl, ?_⟩) ?_ ?_
           rotate_left
           ·intro w'
            go_simp
            with_reducible rfl
           rotate_left
           ·simp only [Act.put, List.setIfInBounds_toArray, List.set_cons_zero, List.set_cons_succ, i64_w, i32_w]
            rfl
           refine take_ (i := 7) (N := some 69) (v := ?_) (a' := ?_) #[true, true, true, true, true, true, true, true, false, false, false, false, false, false] rfl rfl (take_ofW HT_.out HW_.out (by kernel_rfl)) (fun _ _ _ h => h) (Or.inl ⟨by rfl, ?_⟩) hHeld ?_ ?_
           rotate_left
           ·rintro w' ⟨s0, s1, s2, s3, s4, s5, s6, s7⟩
            go_simp
            with_reducible rfl
           rotate_left
           ·simp only [Act.put, List.setIfInBounds_toArray, List.set_cons_zero, List.set_cons_succ, i64_w, i32_w]
            rfl
           refine one_ (i := 8) (N := some 70) #[true, true, true, true, true, true, true, true, true, false, false, false, false, false] rfl rfl (one_of HT_.out (by kernel_rfl)) (by decide) (fun K hK => ?_)
           refine goes_ Try.func44 (by kernel_rfl) rfl #[.agg #[.slice (some ad923) x894000_2.length co49, .slice Ao52 x894001_2.length co52], .int .i64 t920, .int .i64 ((rd_T46 x894000_2 t920).f1)] (by rfl) rfl rfl (by (try simp only [List.map_toArray, List.map_cons, List.map_nil]); first | done | rfl | (simp only [List.length_drop, List.length_take]; rfl)) ?_
           with_reducible refine (spec_LendHandle.calls k2 _ _ x894000_2 _ _ x894001_2 t920 ((rd_T46 x894000_2 t920).f1) t924 t927 t930 t931 t932 t933 t934 t935 t936 _ ?side1 ?side2 ?side3 ?side4 A44.out).mono ?_
           (case side1 => repeat (first | exact (Kd.R_reads' HO_894000.out).2.2 | (with_reducible refine Kd.C_alloc ?_ _) | (with_reducible refine Kd.C_drewN ?_ _) | (with_reducible refine Kd.C_drew ?_)))
           (case side2 => exact (Kd.R_reads' HO_894000.out).2.1)
           (case side3 => repeat (first | exact (Kd.R_reads' HO_894001.out).2.2 | (with_reducible refine Kd.C_alloc ?_ _) | (with_reducible refine Kd.C_drewN ?_ _) | (with_reducible refine Kd.C_drew ?_)))
           (case side4 => exact (Kd.R_reads' HO_894001.out).2.1)
           rintro e w53 ⟨v925, v928, rfl, ho0, ho1, hb⟩
           have HS2_ := (hb.cell (World.block_lt_of_cell? _ _ (hHeld.2.2.1))).trans (hHeld.2.2.1)
           have HS3_ := (hb.cell (World.block_lt_of_cell? _ _ (hHeld.2.2.2.1))).trans (hHeld.2.2.2.1)
           have HS4_ := (hb.cell (World.block_lt_of_cell? _ _ (hHeld.2.2.2.2.1))).trans (hHeld.2.2.2.2.1)
           have HS5_ := (hb.cell (World.block_lt_of_cell? _ _ (hHeld.2.2.2.2.2.1))).trans (hHeld.2.2.2.2.2.1)
           have HS6_ := (hb.cell (World.block_lt_of_cell? _ _ (hHeld.2.2.2.2.2.2.1))).trans (hHeld.2.2.2.2.2.2.1)
           have HS7_ := (hb.cell (World.block_lt_of_cell? _ _ (hHeld.2.2.2.2.2.2.2))).trans (hHeld.2.2.2.2.2.2.2)
           refine ⟨_, rfl, ?_⟩
           have n0_ := Aside0.mk (Kd.R_elder' (by (with_reducible repeat first | apply Kd.R_alloc | apply Kd.R_drewN | apply Kd.R_drew); exact HO_894000.out) (Kd.R_base ho0) hb)
           have n1_ := Aside0.mk (Kd.R_elder' (by (with_reducible repeat first | apply Kd.R_alloc | apply Kd.R_drewN | apply Kd.R_drew); exact HO_894001.out) (Kd.R_base ho1) hb)
           have n2_ := Aside0.mk (Kd.R_lower (Kd.R_new' ho0 (Kd.R_lt (by (with_reducible repeat first | apply Kd.R_alloc | apply Kd.R_drewN | apply Kd.R_drew); exact HO_894000.out))) (keep_size (w := w) (g := g) (row := none) (by repeat (first | (with_reducible first | exact HK.out | apply KeepBut.set_ | apply keep_drewN | apply keep_drew | apply keep_alloc | refine keep_far ?_ GW892.out _ | refine keep_far ?_ GW893.out _) | exact HK.out))))
           have n3_ := Aside0.mk (Kd.R_lower (Kd.R_new' ho1 (Kd.R_lt (by (with_reducible repeat first | apply Kd.R_alloc | apply Kd.R_drewN | apply Kd.R_drew); exact HO_894001.out))) (keep_size (w := w) (g := g) (row := none) (by repeat (first | (with_reducible first | exact HK.out | apply KeepBut.set_ | apply keep_drewN | apply keep_drew | apply keep_alloc | refine keep_far ?_ GW892.out _ | refine keep_far ?_ GW893.out _) | exact HK.out))))
           have n4_ := Aside0.mk (blk_below (g := gb892) (o := .cells #[.slice none 0 0, .slice none 0 0] 51 (0, 0)) (by (with_reducible repeat first | apply bN | apply bD | apply bA); exact BK892.out) hb)
           have n5_ := Aside0.mk (blk_below (g := gb893) (o := .cells #[.slice (some ad923) x894000_2.length co49, .slice Ao52 x894001_2.length co52] 51 (0, 0)) (by (with_reducible repeat first | apply bN | apply bD | apply bA); exact BK893.out) hb)
           have n6_ := Aside0.mk (IsS106.below (by repeat (first | (with_reducible first | exact HI0.out | apply IsS106.alloc | apply IsS106.drewN | apply IsS106.drew | apply IsS106.set_1 | apply IsS106.set_2 | refine IsS106.far ?_ NB0_892.out _ | refine IsS106.far ?_ NB0_893.out _) | exact HI0.out)) hb)
           have n7_ := Aside0.mk (KeepBut.trans (by repeat (first | (with_reducible first | exact HK.out | apply KeepBut.set_ | apply keep_drewN | apply keep_drew | apply keep_alloc | refine keep_far ?_ GW892.out _ | refine keep_far ?_ GW893.out _) | exact HK.out)) (KeepBut.of_below hb g none) (.inl rfl))
           have n8_ := Aside0.mk (below_step (by repeat (first | (with_reducible first | exact HB.out | apply eA | apply eN | apply eD | refine below_set ?_ (IsS106.ge HI0.out) | refine below_set ?_ GE892.out | refine below_set ?_ GE893.out) | exact HB.out)) hb)
           clear HO_894000 HO_894001 BK892 BK893 HI0 HK HB
           have HO_894000 := n0_
           have HO_894001 := n1_
           have HO926 := n2_
           have HO929 := n3_
           have BK892 := n4_
           have BK893 := n5_
           have HI0 := n6_
           have HK := n7_
           have HB := n8_
           clear n0_ n1_ n2_ n3_ n4_ n5_ n6_ n7_ n8_
           (try clear hb)
           (try clear hb2)
           (try clear hk)
           (try clear hi)
           (try clear ho0)
           (try clear ho1)
           obtain ⟨Ao54, co54, eo54⟩ := Kd.R_slice HO926.out
           (first | subst eo54 | (injection eo54 with f1_ f2_ f3_; have f4_ := f1_.symm; have f5_ := f3_.symm; clear f1_ f2_ f3_; subst f4_; subst f5_))
           obtain ⟨Ao56, co56, eo56⟩ := Kd.R_slice HO929.out
           (first | subst eo56 | (injection eo56 with f1_ f2_ f3_; have f4_ := f1_.symm; have f5_ := f3_.symm; clear f1_ f2_ f3_; subst f4_; subst f5_))
           refine hK.out _ _ ⟨(blk_cell BK893.out 0).trans rfl, (blk_cell BK893.out 1).trans rfl, HS2_, HS3_, HS4_, HS5_, HS6_, HS7_⟩ (fun hHeld => ?_)
           clear hK K
           refine norm_ (a' := ?_) ?_ ?_
           rotate_left
           ·show Act.put _ (some 70) _ = _
            simp only [Act.put, List.setIfInBounds_toArray, List.set_cons_zero, List.set_cons_succ, i64_w, i32_w]
            rfl
           refine pure_ (i := 9) (N := some 61) (v := ?_) (a' := ?_) #[true, true, true, true, true, true, true, true, true, true, false, false, false, false] rfl rfl (any_of HT_.out (by kernel_rfl)) (fun _ _ _ h => h) (Or.inl ⟨by rfl, ?_⟩) ?_ ?_
           rotate_left
           ·intro w'
            go_simp
            with_reducible rfl
           rotate_left
           ·simp only [Act.put, List.setIfInBounds_toArray, List.set_cons_zero, List.set_cons_succ, i64_w, i32_w]
            rfl
           refine pure_ (i := 10) (N := some 71) (v := ?_) (a' := ?_) #[true, true, true, true, true, true, true, true, true, true, true, false, false, false] rfl rfl (any_of HT_.out (by kernel_rfl)) (fun _ _ _ h => h) (Or.inl ⟨by rfl, ?_⟩) ?_ ?_
           rotate_left
           ·intro w'
            go_simp
            with_reducible rfl
           rotate_left
           ·simp only [Act.put, List.setIfInBounds_toArray, List.set_cons_zero, List.set_cons_succ, i64_w, i32_w]
            rfl
           refine pure_ (i := 11) (N := some 72) (v := ?_) (a' := ?_) #[true, true, true, true, true, true, true, true, true, true, true, true, false, false] rfl rfl (any_of HT_.out (by kernel_rfl)) (fun _ _ _ h => h) (Or.inl ⟨by rfl, ?_⟩) ?_ ?_
           rotate_left
           ·intro w'
            go_simp
            with_reducible rfl
           rotate_left
           ·simp only [Act.put, List.setIfInBounds_toArray, List.set_cons_zero, List.set_cons_succ, i64_w, i32_w]
            rfl
           refine pure_ (i := 12) (N := some 73) (v := ?_) (a' := ?_) #[true, true, true, true, true, true, true, true, true, true, true, true, true, false] rfl rfl (any_of HT_.out (by kernel_rfl)) (fun _ _ _ h => h) (Or.inl ⟨by rfl, ?_⟩) ?_ ?_
           rotate_left
           ·intro w'
            go_simp
            with_reducible rfl
           rotate_left
           ·simp only [Act.put, List.setIfInBounds_toArray, List.set_cons_zero, List.set_cons_succ, i64_w, i32_w]
            rfl
           refine last_ (i := 13) (N := none) #[true, true, true, true, true, true, true, true, true, true, true, true, true, true] rfl rfl (one_of HT_.out (by kernel_rfl)) (by decide) (fun K hK => ?_)
           have hs55 : w53.cell? ⟨gb893, 0, none⟩ = some (.slice (some ad923) x894000_2.length co49) := (blk_cell BK893.out 0).trans rfl
           have hfs55 := blk_frozen BK893.out 0
           have hns55_0 := NB892_893.out
           have hms55_0 := NB893_892.out
           have hs57 : w53.cell? ⟨gb893, 1, none⟩ = some (.slice Ao52 x894001_2.length co52) := (blk_cell BK893.out 1).trans rfl
           have hfs57 := blk_frozen BK893.out 1
           have hns57_0 := NB892_893.out
           have hms57_0 := NB893_892.out
           refine skip_ (w1 := ?_) (by rfl) rfl ?_ ?_
           rotate_left
           ·go_simp
            rfl
           refine hK.out _ _ ?_
           clear hK K
           refine done_ (done_of HT_.out (by kernel_rfl)) ?_
           try go_wp2
           go_roundg k2
           case measure => have := HJ3.out; have := HK2.out; omega
           case rel => exact ⟨(wrap64 (x4_2 - 1)), (t921), (t922), (t924), (t927), (.slice Ao54 t924.length co54), (.slice Ao56 t927.length co56), (by first | rfl | (simp; done) | (simp [*]; done)), H', ⟨by have := HJ3.out; have := HK2.out; omega⟩, ⟨by (with_reducible repeat first | apply Kd.R_alloc | apply Kd.R_drewN | apply Kd.R_drew); exact Kd.R_mono (Kd.R_far (p := ⟨gb893, 1, none⟩) (Kd.R_far (p := ⟨gb893, 0, none⟩) (Kd.R_types HO926.out BK893.out (by decide)) (fun _ hk => hk.2) (.slice Ao54 t924.length co54)) (fun _ hk => hk.2) (.slice Ao56 t927.length co56)) (fun _ hk => trivial)⟩, ⟨by (with_reducible repeat first | apply Kd.R_alloc | apply Kd.R_drewN | apply Kd.R_drew); exact Kd.R_mono (Kd.R_far (p := ⟨gb893, 1, none⟩) (Kd.R_far (p := ⟨gb893, 0, none⟩) (Kd.R_types HO929.out BK893.out (by decide)) (fun _ hk => hk.2) (.slice Ao54 t924.length co54)) (fun _ hk => hk.2) (.slice Ao56 t927.length co56)) (fun _ hk => trivial)⟩, ⟨by (with_reducible repeat first | apply bN | apply bD | apply bA); refine blk_far ?_ NB892_893.out _; (with_reducible repeat first | apply bN | apply bD | apply bA); refine blk_far ?_ NB892_893.out _; (with_reducible repeat first | apply bN | apply bD | apply bA); exact BK892.out⟩, ⟨by (with_reducible repeat first | apply bN | apply bD | apply bA); refine blk_put (cs := #[.slice Ao54 t924.length co54, .slice Ao52 x894001_2.length co52]) ?_ 1 _ rfl; (with_reducible repeat first | apply bN | apply bD | apply bA); refine blk_put (cs := #[.slice (some ad923) x894000_2.length co49, .slice Ao52 x894001_2.length co52]) ?_ 0 _ rfl; (with_reducible repeat first | apply bN | apply bD | apply bA); exact BK893.out⟩, ⟨by repeat (first | (with_reducible first | exact HI0.out | apply IsS106.alloc | apply IsS106.drewN | apply IsS106.drew | apply IsS106.set_1 | apply IsS106.set_2 | refine IsS106.far ?_ NB0_892.out _ | refine IsS106.far ?_ NB0_893.out _) | exact HI0.out)⟩, ⟨by repeat (first | (with_reducible first | exact HK.out | apply KeepBut.set_ | apply keep_drewN | apply keep_drew | apply keep_alloc | refine keep_far ?_ GW892.out _ | refine keep_far ?_ GW893.out _) | exact HK.out)⟩, ⟨by repeat (first | (with_reducible first | exact HB.out | apply eA | apply eN | apply eD | refine below_set ?_ (IsS106.ge HI0.out) | refine below_set ?_ GE892.out | refine below_set ?_ GE893.out) | exact HB.out)⟩⟩
          ·rw [if_neg c43] at H
           exact absurd H (by simp)
         ·rw [if_neg c42] at H
          exact absurd H (by simp)
        ·rw [if_neg c40] at H
         have c40b0 : decide (0 < (x894000_2.length : Int)) = false := decide_eq_false c40
         have c40b1 : decide (0 < x894000_2.length) = false := decide_eq_false (by omega)
         clear c40
         have H' := Aside0.mk H
         clear H
         go_wp2_with (first | ((with_reducible refine gate_callee (f := 102) rfl ?_); refine goesL_ (some 17) rfl rfl Try.func102 (by kernel_rfl) rfl #[.pointer (some ⟨g, 0, none⟩), .int .i64 5] rfl (by (try simp only [List.map_toArray, List.map_cons, List.map_nil]); first | done | rfl | (simp only [List.length_drop, List.length_take]; rfl)) ?_; (with_reducible refine (spec_l1Cur_pick.calls g s0_0 x1001_2 x1002_2 5 t900 t901 t902 w0 _ ?side1 ?side2 A14.out).mono ?_); (case side1 => repeat (first | (with_reducible first | exact HI0.out | apply IsS106.alloc | apply IsS106.drewN | apply IsS106.drew | apply IsS106.set_1 | apply IsS106.set_2 | refine IsS106.far ?_ NB0_892.out _ | refine IsS106.far ?_ NB0_893.out _) | exact HI0.out)); (case side2 => repeat (first | (with_reducible first | exact HB.out | apply eA | apply eN | apply eD | refine below_set ?_ (IsS106.ge HI0.out) | refine below_set ?_ GE892.out | refine below_set ?_ GE893.out) | exact HB.out)); rintro e w58 ⟨rfl, hi, hb, hk⟩; refine ⟨_, rfl, ?_⟩; have n0_ := Aside0.mk (Kd.R_mono (Kd.R_keep (IsS106.apart (show IsS106 w0 _ g s0_0 x1001_2 x1002_2 from by repeat (first | (with_reducible first | exact HI0.out | apply IsS106.alloc | apply IsS106.drewN | apply IsS106.drew | apply IsS106.set_1 | apply IsS106.set_2 | refine IsS106.far ?_ NB0_892.out _ | refine IsS106.far ?_ NB0_893.out _) | exact HI0.out)) (by (with_reducible repeat first | apply Kd.R_alloc | apply Kd.R_drewN | apply Kd.R_drew); exact HO_894000.out) (by decide)) hk (fun _ h => h.2)) (fun _ h => h.1)); have n1_ := Aside0.mk (Kd.R_mono (Kd.R_keep (IsS106.apart (show IsS106 w0 _ g s0_0 x1001_2 x1002_2 from by repeat (first | (with_reducible first | exact HI0.out | apply IsS106.alloc | apply IsS106.drewN | apply IsS106.drew | apply IsS106.set_1 | apply IsS106.set_2 | refine IsS106.far ?_ NB0_892.out _ | refine IsS106.far ?_ NB0_893.out _) | exact HI0.out)) (by (with_reducible repeat first | apply Kd.R_alloc | apply Kd.R_drewN | apply Kd.R_drew); exact HO_894001.out) (by decide)) hk (fun _ h => h.2)) (fun _ h => h.1)); have n2_ := Aside0.mk (KeepBut.blk hk (g' := gb892) (o := .cells #[.slice none 0 0, .slice none 0 0] 51 (0, 0)) (by (with_reducible repeat first | apply bN | apply bD | apply bA); exact BK892.out) NB892_0.out (by simp)); have n3_ := Aside0.mk (KeepBut.blk hk (g' := gb893) (o := .cells #[u894000, u894001] 51 (0, 0)) (by (with_reducible repeat first | apply bN | apply bD | apply bA); exact BK893.out) NB893_0.out (by simp)); have n4_ := Aside0.mk (KeepBut.trans (by repeat (first | (with_reducible first | exact HK.out | apply KeepBut.set_ | apply keep_drewN | apply keep_drew | apply keep_alloc | refine keep_far ?_ GW892.out _ | refine keep_far ?_ GW893.out _) | exact HK.out)) hk (.inl rfl)); have n5_ := Aside0.mk (hb); have n6_ := Aside0.mk (hi); clear HO_894000 HO_894001; clear BK892 BK893; clear HK HB HI0; have HO_894000 := n0_; have HO_894001 := n1_; have BK892 := n2_; have BK893 := n3_; have HK := n4_; have HB := n5_; have HI0 := n6_; clear n0_ n1_ n2_ n3_ n4_ n5_ n6_; (try clear hb); (try clear hb2); (try clear hk); (try clear hi); have hnb59 := NB893_892.out; have hnc59 := NB892_893.out; have hnb60 := NB893_0.out; have hnc60 := NB0_893.out; have hcz61_0 : w58.cell? ⟨gb893, 0, none⟩ = some (u894000) := (blk_cell BK893.out 0).trans rfl; have hcz61_1 : w58.cell? ⟨gb893, 1, none⟩ = some (u894001) := (blk_cell BK893.out 1).trans rfl; have hfz61_0 := blk_frozen BK893.out 0; have hfz61_1 := blk_frozen BK893.out 1; obtain ⟨Ao62, co62, eo62⟩ := Kd.R_slice HO_894000.out; subst eo62))
         go_roundg k2
         case measure => have := HJ3.out; have := HK2.out; omega
         case rel => exact ⟨(wrap64 (x4_2 - 1)), (t901), (t902), (x894000_2), (x894001_2), (.slice Ao62 x894000_2.length co62), (u894001), (by first | rfl | (simp; done) | (simp [*]; done)), H', ⟨by have := HJ3.out; have := HK2.out; omega⟩, ⟨by (with_reducible repeat first | apply Kd.R_alloc | apply Kd.R_drewN | apply Kd.R_drew); exact HO_894000.out⟩, ⟨by (with_reducible repeat first | apply Kd.R_alloc | apply Kd.R_drewN | apply Kd.R_drew); exact HO_894001.out⟩, ⟨by (with_reducible repeat first | apply bN | apply bD | apply bA); exact BK892.out⟩, ⟨by (with_reducible repeat first | apply bN | apply bD | apply bA); exact BK893.out⟩, ⟨by repeat (first | (with_reducible first | exact HI0.out | apply IsS106.alloc | apply IsS106.drewN | apply IsS106.drew | apply IsS106.set_1 | apply IsS106.set_2 | refine IsS106.far ?_ NB0_892.out _ | refine IsS106.far ?_ NB0_893.out _) | exact HI0.out)⟩, ⟨by repeat (first | (with_reducible first | exact HK.out | apply KeepBut.set_ | apply keep_drewN | apply keep_drew | apply keep_alloc | refine keep_far ?_ GW892.out _ | refine keep_far ?_ GW893.out _) | exact HK.out)⟩, ⟨by repeat (first | (with_reducible first | exact HB.out | apply eA | apply eN | apply eD | refine below_set ?_ (IsS106.ge HI0.out) | refine below_set ?_ GE892.out | refine below_set ?_ GE893.out) | exact HB.out)⟩⟩
       ·rw [if_neg c39] at H
        have c39b0 : (t900 == 1) = false := beq_eq_false_iff_ne.mpr c39
        have c39b1 : (t900 != 1) = true := bne_iff_ne.mpr c39
        replace H := Option.bind_eq_some_iff.mp H
        obtain ⟨⟨t937, t938, t939, t940, t941, t942, t943, t944⟩, A630, H⟩ := H
        replace H : ((spec_NewHandle.f k2 x894000_2 x894001_2 t937 t938 t939 t940 t941 t942).bind fun bt945 => (spec_l1Cur_tableOf.l0 k2 (wrap64 (x4_2 - 1)) s0_0 t943 t944 bt945.1 bt945.2.1)) = some (r1, r2, r3, r4) := H
        have A63 := Aside0.mk A630
        clear A630
        replace H := Option.bind_eq_some_iff.mp H
        obtain ⟨⟨t945, t948, t951, t952⟩, A640, H⟩ := H
        replace H : (spec_l1Cur_tableOf.l0 k2 (wrap64 (x4_2 - 1)) s0_0 t943 t944 t945 t948) = some (r1, r2, r3, r4) := H
        have A64 := Aside0.mk A640
        clear A640
        have H' := Aside0.mk H
        clear H
        try go_wp2_with (first | ((with_reducible refine gate_callee (f := 102) rfl ?_); refine goesL_ (some 17) rfl rfl Try.func102 (by kernel_rfl) rfl #[.pointer (some ⟨g, 0, none⟩), .int .i64 5] rfl (by (try simp only [List.map_toArray, List.map_cons, List.map_nil]); first | done | rfl | (simp only [List.length_drop, List.length_take]; rfl)) ?_; (with_reducible refine (spec_l1Cur_pick.calls g s0_0 x1001_2 x1002_2 5 t900 t901 t902 w0 _ ?side1 ?side2 A14.out).mono ?_); (case side1 => repeat (first | (with_reducible first | exact HI0.out | apply IsS106.alloc | apply IsS106.drewN | apply IsS106.drew | apply IsS106.set_1 | apply IsS106.set_2 | refine IsS106.far ?_ NB0_892.out _ | refine IsS106.far ?_ NB0_893.out _) | exact HI0.out)); (case side2 => repeat (first | (with_reducible first | exact HB.out | apply eA | apply eN | apply eD | refine below_set ?_ (IsS106.ge HI0.out) | refine below_set ?_ GE892.out | refine below_set ?_ GE893.out) | exact HB.out)); rintro e w65 ⟨rfl, hi, hb, hk⟩; refine ⟨_, rfl, ?_⟩; have n0_ := Aside0.mk (Kd.R_mono (Kd.R_keep (IsS106.apart (show IsS106 w0 _ g s0_0 x1001_2 x1002_2 from by repeat (first | (with_reducible first | exact HI0.out | apply IsS106.alloc | apply IsS106.drewN | apply IsS106.drew | apply IsS106.set_1 | apply IsS106.set_2 | refine IsS106.far ?_ NB0_892.out _ | refine IsS106.far ?_ NB0_893.out _) | exact HI0.out)) (by (with_reducible repeat first | apply Kd.R_alloc | apply Kd.R_drewN | apply Kd.R_drew); exact HO_894000.out) (by decide)) hk (fun _ h => h.2)) (fun _ h => h.1)); have n1_ := Aside0.mk (Kd.R_mono (Kd.R_keep (IsS106.apart (show IsS106 w0 _ g s0_0 x1001_2 x1002_2 from by repeat (first | (with_reducible first | exact HI0.out | apply IsS106.alloc | apply IsS106.drewN | apply IsS106.drew | apply IsS106.set_1 | apply IsS106.set_2 | refine IsS106.far ?_ NB0_892.out _ | refine IsS106.far ?_ NB0_893.out _) | exact HI0.out)) (by (with_reducible repeat first | apply Kd.R_alloc | apply Kd.R_drewN | apply Kd.R_drew); exact HO_894001.out) (by decide)) hk (fun _ h => h.2)) (fun _ h => h.1)); have n2_ := Aside0.mk (KeepBut.blk hk (g' := gb892) (o := .cells #[.slice none 0 0, .slice none 0 0] 51 (0, 0)) (by (with_reducible repeat first | apply bN | apply bD | apply bA); exact BK892.out) NB892_0.out (by simp)); have n3_ := Aside0.mk (KeepBut.blk hk (g' := gb893) (o := .cells #[u894000, u894001] 51 (0, 0)) (by (with_reducible repeat first | apply bN | apply bD | apply bA); exact BK893.out) NB893_0.out (by simp)); have n4_ := Aside0.mk (KeepBut.trans (by repeat (first | (with_reducible first | exact HK.out | apply KeepBut.set_ | apply keep_drewN | apply keep_drew | apply keep_alloc | refine keep_far ?_ GW892.out _ | refine keep_far ?_ GW893.out _) | exact HK.out)) hk (.inl rfl)); have n5_ := Aside0.mk (hb); have n6_ := Aside0.mk (hi); clear HO_894000 HO_894001; clear BK892 BK893; clear HK HB HI0; have HO_894000 := n0_; have HO_894001 := n1_; have BK892 := n2_; have BK893 := n3_; have HK := n4_; have HB := n5_; have HI0 := n6_; clear n0_ n1_ n2_ n3_ n4_ n5_ n6_; (try clear hb); (try clear hb2); (try clear hk); (try clear hi)))
        have n0_ := Aside0.mk (Kd.R_drew HO_894000.out)
        have n1_ := Aside0.mk (Kd.R_drew HO_894001.out)
        have n2_ := Aside0.mk (blk_drew BK892.out)
        have n3_ := Aside0.mk (blk_drew BK893.out)
        have n4_ := Aside0.mk (IsS106.drew HI0.out)
        have n5_ := Aside0.mk (keep_drew HK.out)
        have n6_ := Aside0.mk (below_drew1 HB.out)
        clear HO_894000 HO_894001 BK892 BK893 HI0 HK HB
        have HO_894000 := n0_
        have HO_894001 := n1_
        have BK892 := n2_
        have BK893 := n3_
        have HI0 := n4_
        have HK := n5_
        have HB := n6_
        clear n0_ n1_ n2_ n3_ n4_ n5_ n6_
        refine start_ (n := 9) (S := fun w' => w'.cell? ⟨gb893, 0, none⟩ = some (u894000) ∧ w'.cell? ⟨gb893, 1, none⟩ = some (u894001)) (ds := [8]) #[false, false, false, false, false, false, false, false, false] (by kernel_rfl) rfl rfl ⟨(blk_cell BK893.out 0).trans rfl, (blk_cell BK893.out 1).trans rfl⟩ (fun hHeld => ?_); refine with_tabW spec_l1Cur_tableOf.tab8 spec_l1Cur_tableOf.bits8 (fun HT_ HW_ => ?_)
        generalize w65.drew = w66 at HO_894000 HO_894001 BK892 BK893 HI0 HK HB hHeld ⊢
        refine pure_ (i := 1) (N := some 20) (v := ?_) (a' := ?_) #[false, true, false, false, false, false, false, false, false] rfl rfl (any_of HT_.out (by kernel_rfl)) (fun _ _ _ h => h) (Or.inl ⟨by rfl, ?_⟩) ?_ ?_
        rotate_left
        ·intro w'
         go_simp
         with_reducible rfl
        rotate_left
        ·simp only [Act.put, List.setIfInBounds_toArray, List.set_cons_zero, List.set_cons_succ, i64_w, i32_w]
         rfl
        refine take_ (i := 0) (N := some 19) (v := ?_) (a' := ?_) #[true, true, false, false, false, false, false, false, false] rfl rfl (take_ofW HT_.out HW_.out (by kernel_rfl)) (fun _ _ _ h => h) (Or.inl ⟨by rfl, ?_⟩) hHeld ?_ ?_
        rotate_left
        ·rintro w' ⟨s0, s1⟩
         go_simp
         with_reducible rfl
        rotate_left
        ·simp only [Act.put, List.setIfInBounds_toArray, List.set_cons_zero, List.set_cons_succ, i64_w, i32_w]
         rfl
        refine one_ (i := 2) (N := some 21) #[true, true, true, false, false, false, false, false, false] rfl rfl (one_of HT_.out (by kernel_rfl)) (by decide) (fun K hK => ?_)
        refine goes_ Try.func83 (by kernel_rfl) rfl #[.pointer (some ⟨g, 0, none⟩)] (by rfl) rfl rfl (by (try simp only [List.map_toArray, List.map_cons, List.map_nil]); first | done | rfl | (simp only [List.length_drop, List.length_take]; rfl)) ?_
        with_reducible refine (spec_l1Cur_handle.calls k2 g s0_0 t901 t902 t937 t938 t939 t940 t941 t942 t943 t944 w0 _ ?side1 ?side2 A63.out).mono ?_
        (case side1 => repeat (first | (with_reducible first | exact HI0.out | apply IsS106.alloc | apply IsS106.drewN | apply IsS106.drew | apply IsS106.set_1 | apply IsS106.set_2 | refine IsS106.far ?_ NB0_892.out _ | refine IsS106.far ?_ NB0_893.out _) | exact HI0.out))
        (case side2 => repeat (first | (with_reducible first | exact HB.out | apply eA | apply eN | apply eD | refine below_set ?_ (IsS106.ge HI0.out) | refine below_set ?_ GE892.out | refine below_set ?_ GE893.out) | exact HB.out))
        rintro e w67 ⟨rfl, hi, hb, hk⟩
        refine ⟨_, rfl, ?_⟩
        have n0_ := Aside0.mk (Kd.R_mono (Kd.R_keep (IsS106.apart (show IsS106 w0 _ g s0_0 t901 t902 from by repeat (first | (with_reducible first | exact HI0.out | apply IsS106.alloc | apply IsS106.drewN | apply IsS106.drew | apply IsS106.set_1 | apply IsS106.set_2 | refine IsS106.far ?_ NB0_892.out _ | refine IsS106.far ?_ NB0_893.out _) | exact HI0.out)) (by (with_reducible repeat first | apply Kd.R_alloc | apply Kd.R_drewN | apply Kd.R_drew); exact HO_894000.out) (by decide)) hk (fun _ h => h.2)) (fun _ h => h.1))
        have n1_ := Aside0.mk (Kd.R_mono (Kd.R_keep (IsS106.apart (show IsS106 w0 _ g s0_0 t901 t902 from by repeat (first | (with_reducible first | exact HI0.out | apply IsS106.alloc | apply IsS106.drewN | apply IsS106.drew | apply IsS106.set_1 | apply IsS106.set_2 | refine IsS106.far ?_ NB0_892.out _ | refine IsS106.far ?_ NB0_893.out _) | exact HI0.out)) (by (with_reducible repeat first | apply Kd.R_alloc | apply Kd.R_drewN | apply Kd.R_drew); exact HO_894001.out) (by decide)) hk (fun _ h => h.2)) (fun _ h => h.1))
        have n2_ := Aside0.mk (KeepBut.blk hk (g' := gb892) (o := .cells #[.slice none 0 0, .slice none 0 0] 51 (0, 0)) (by (with_reducible repeat first | apply bN | apply bD | apply bA); exact BK892.out) NB892_0.out (by simp))
        have n3_ := Aside0.mk (KeepBut.blk hk (g' := gb893) (o := .cells #[u894000, u894001] 51 (0, 0)) (by (with_reducible repeat first | apply bN | apply bD | apply bA); exact BK893.out) NB893_0.out (by simp))
        have n4_ := Aside0.mk (KeepBut.trans (by repeat (first | (with_reducible first | exact HK.out | apply KeepBut.set_ | apply keep_drewN | apply keep_drew | apply keep_alloc | refine keep_far ?_ GW892.out _ | refine keep_far ?_ GW893.out _) | exact HK.out)) hk (.inl rfl))
        have n5_ := Aside0.mk (hb)
        have n6_ := Aside0.mk (hi)
        clear HO_894000 HO_894001 BK892 BK893 HK HB HI0
        have HO_894000 := n0_
        have HO_894001 := n1_
        have BK892 := n2_
        have BK893 := n3_
        have HK := n4_
        have HB := n5_
        have HI0 := n6_
        clear n0_ n1_ n2_ n3_ n4_ n5_ n6_
        (try clear hb)
        (try clear hb2)
        (try clear hk)
        (try clear hi)
        obtain ⟨Ao68, co68, eo68⟩ := Kd.R_slice HO_894000.out
        (first | subst eo68 | (injection eo68 with f1_ f2_ f3_; have f4_ := f1_.symm; have f5_ := f3_.symm; clear f1_ f2_ f3_; subst f4_; subst f5_))
        obtain ⟨Ao69, co69, eo69⟩ := Kd.R_slice HO_894001.out
        (first | subst eo69 | (injection eo69 with f1_ f2_ f3_; have f4_ := f1_.symm; have f5_ := f3_.symm; clear f1_ f2_ f3_; subst f4_; subst f5_))
        refine hK.out _ _ ⟨(blk_cell BK893.out 0).trans rfl, (blk_cell BK893.out 1).trans rfl⟩ (fun hHeld => ?_)
        clear hK K
        refine norm_ (a' := ?_) ?_ ?_
        rotate_left
        ·show Act.put _ (some 21) _ = _
         simp only [Act.put, List.setIfInBounds_toArray, List.set_cons_zero, List.set_cons_succ, i64_w, i32_w]
         rfl
        refine one_ (i := 3) (N := some 22) #[true, true, true, true, false, false, false, false, false] rfl rfl (one_of HT_.out (by kernel_rfl)) (by decide) (fun K hK => ?_)
        refine goes_ Try.func34 (by kernel_rfl) rfl #[.agg #[.slice Ao68 x894000_2.length co68, .slice Ao69 x894001_2.length co69], .agg #[.bool t937, .int .i64 t938, .int .i64 t939, .bool t940, .int .i64 t941, .int .i64 t942]] (by rfl) rfl rfl (by (try simp only [List.map_toArray, List.map_cons, List.map_nil]); first | done | rfl | (simp only [List.length_drop, List.length_take]; rfl)) ?_
        with_reducible refine (spec_NewHandle.calls k2 _ _ x894000_2 _ _ x894001_2 t937 t938 t939 t940 t941 t942 t945 t948 t951 t952 _ ?side1 ?side2 ?side3 ?side4 A64.out).mono ?_
        (case side1 => repeat (first | exact (Kd.R_reads' HO_894000.out).2.2 | (with_reducible refine Kd.C_alloc ?_ _) | (with_reducible refine Kd.C_drewN ?_ _) | (with_reducible refine Kd.C_drew ?_)))
        (case side2 => exact (Kd.R_reads' HO_894000.out).2.1)
        (case side3 => repeat (first | exact (Kd.R_reads' HO_894001.out).2.2 | (with_reducible refine Kd.C_alloc ?_ _) | (with_reducible refine Kd.C_drewN ?_ _) | (with_reducible refine Kd.C_drew ?_)))
        (case side4 => exact (Kd.R_reads' HO_894001.out).2.1)
        rintro e w70 ⟨v946, v949, rfl, ho0, ho1, hb⟩
        refine ⟨_, rfl, ?_⟩
        have n0_ := Aside0.mk (Kd.R_elder' (by (with_reducible repeat first | apply Kd.R_alloc | apply Kd.R_drewN | apply Kd.R_drew); exact HO_894000.out) (Kd.R_base ho0) hb)
        have n1_ := Aside0.mk (Kd.R_elder' (by (with_reducible repeat first | apply Kd.R_alloc | apply Kd.R_drewN | apply Kd.R_drew); exact HO_894001.out) (Kd.R_base ho1) hb)
        have n2_ := Aside0.mk (Kd.R_lower (Kd.R_new' ho0 (Kd.R_lt (by (with_reducible repeat first | apply Kd.R_alloc | apply Kd.R_drewN | apply Kd.R_drew); exact HO_894000.out))) (keep_size (w := w) (g := g) (row := none) (by repeat (first | (with_reducible first | exact HK.out | apply KeepBut.set_ | apply keep_drewN | apply keep_drew | apply keep_alloc | refine keep_far ?_ GW892.out _ | refine keep_far ?_ GW893.out _) | exact HK.out))))
        have n3_ := Aside0.mk (Kd.R_lower (Kd.R_new' ho1 (Kd.R_lt (by (with_reducible repeat first | apply Kd.R_alloc | apply Kd.R_drewN | apply Kd.R_drew); exact HO_894001.out))) (keep_size (w := w) (g := g) (row := none) (by repeat (first | (with_reducible first | exact HK.out | apply KeepBut.set_ | apply keep_drewN | apply keep_drew | apply keep_alloc | refine keep_far ?_ GW892.out _ | refine keep_far ?_ GW893.out _) | exact HK.out))))
        have n4_ := Aside0.mk (blk_below (g := gb892) (o := .cells #[.slice none 0 0, .slice none 0 0] 51 (0, 0)) (by (with_reducible repeat first | apply bN | apply bD | apply bA); exact BK892.out) hb)
        have n5_ := Aside0.mk (blk_below (g := gb893) (o := .cells #[.slice Ao68 x894000_2.length co68, .slice Ao69 x894001_2.length co69] 51 (0, 0)) (by (with_reducible repeat first | apply bN | apply bD | apply bA); exact BK893.out) hb)
        have n6_ := Aside0.mk (IsS106.below (by repeat (first | (with_reducible first | exact HI0.out | apply IsS106.alloc | apply IsS106.drewN | apply IsS106.drew | apply IsS106.set_1 | apply IsS106.set_2 | refine IsS106.far ?_ NB0_892.out _ | refine IsS106.far ?_ NB0_893.out _) | exact HI0.out)) hb)
        have n7_ := Aside0.mk (KeepBut.trans (by repeat (first | (with_reducible first | exact HK.out | apply KeepBut.set_ | apply keep_drewN | apply keep_drew | apply keep_alloc | refine keep_far ?_ GW892.out _ | refine keep_far ?_ GW893.out _) | exact HK.out)) (KeepBut.of_below hb g none) (.inl rfl))
        have n8_ := Aside0.mk (below_step (by repeat (first | (with_reducible first | exact HB.out | apply eA | apply eN | apply eD | refine below_set ?_ (IsS106.ge HI0.out) | refine below_set ?_ GE892.out | refine below_set ?_ GE893.out) | exact HB.out)) hb)
        clear HO_894000 HO_894001 BK892 BK893 HI0 HK HB
        have HO_894000 := n0_
        have HO_894001 := n1_
        have HO947 := n2_
        have HO950 := n3_
        have BK892 := n4_
        have BK893 := n5_
        have HI0 := n6_
        have HK := n7_
        have HB := n8_
        clear n0_ n1_ n2_ n3_ n4_ n5_ n6_ n7_ n8_
        (try clear hb)
        (try clear hb2)
        (try clear hk)
        (try clear hi)
        (try clear ho0)
        (try clear ho1)
        obtain ⟨Ao71, co71, eo71⟩ := Kd.R_slice HO947.out
        (first | subst eo71 | (injection eo71 with f1_ f2_ f3_; have f4_ := f1_.symm; have f5_ := f3_.symm; clear f1_ f2_ f3_; subst f4_; subst f5_))
        obtain ⟨Ao73, co73, eo73⟩ := Kd.R_slice HO950.out
        (first | subst eo73 | (injection eo73 with f1_ f2_ f3_; have f4_ := f1_.symm; have f5_ := f3_.symm; clear f1_ f2_ f3_; subst f4_; subst f5_))
        refine hK.out _ _ ⟨(blk_cell BK893.out 0).trans rfl, (blk_cell BK893.out 1).trans rfl⟩ (fun hHeld => ?_)
        clear hK K
        refine norm_ (a' := ?_) ?_ ?_
        rotate_left
        ·show Act.put _ (some 22) _ = _
         simp only [Act.put, List.setIfInBounds_toArray, List.set_cons_zero, List.set_cons_succ, i64_w, i32_w]
         rfl
        refine pure_ (i := 4) (N := some 18) (v := ?_) (a' := ?_) #[true, true, true, true, true, false, false, false, false] rfl rfl (any_of HT_.out (by kernel_rfl)) (fun _ _ _ h => h) (Or.inl ⟨by rfl, ?_⟩) ?_ ?_
        rotate_left
        ·intro w'
         go_simp
         with_reducible rfl
        rotate_left
        ·simp only [Act.put, List.setIfInBounds_toArray, List.set_cons_zero, List.set_cons_succ, i64_w, i32_w]
         rfl
        refine pure_ (i := 5) (N := some 23) (v := ?_) (a' := ?_) #[true, true, true, true, true, true, false, false, false] rfl rfl (any_of HT_.out (by kernel_rfl)) (fun _ _ _ h => h) (Or.inl ⟨by rfl, ?_⟩) ?_ ?_
        rotate_left
        ·intro w'
         go_simp
         with_reducible rfl
        rotate_left
        ·simp only [Act.put, List.setIfInBounds_toArray, List.set_cons_zero, List.set_cons_succ, i64_w, i32_w]
         rfl
        refine pure_ (i := 6) (N := some 24) (v := ?_) (a' := ?_) #[true, true, true, true, true, true, true, false, false] rfl rfl (any_of HT_.out (by kernel_rfl)) (fun _ _ _ h => h) (Or.inl ⟨by rfl, ?_⟩) ?_ ?_
        rotate_left
        ·intro w'
         go_simp
         with_reducible rfl
        rotate_left
        ·simp only [Act.put, List.setIfInBounds_toArray, List.set_cons_zero, List.set_cons_succ, i64_w, i32_w]
         rfl
        refine pure_ (i := 7) (N := some 25) (v := ?_) (a' := ?_) #[true, true, true, true, true, true, true, true, false] rfl rfl (any_of HT_.out (by kernel_rfl)) (fun _ _ _ h => h) (Or.inl ⟨by rfl, ?_⟩) ?_ ?_
        rotate_left
        ·intro w'
         go_simp
         with_reducible rfl
        rotate_left
        ·simp only [Act.put, List.setIfInBounds_toArray, List.set_cons_zero, List.set_cons_succ, i64_w, i32_w]
         rfl
        refine last_ (i := 8) (N := none) #[true, true, true, true, true, true, true, true, true] rfl rfl (one_of HT_.out (by kernel_rfl)) (by decide) (fun K hK => ?_)
        have hs72 : w70.cell? ⟨gb893, 0, none⟩ = some (.slice Ao68 x894000_2.length co68) := (blk_cell BK893.out 0).trans rfl
        have hfs72 := blk_frozen BK893.out 0
        have hns72_0 := NB892_893.out
        have hms72_0 := NB893_892.out
        have hs74 : w70.cell? ⟨gb893, 1, none⟩ = some (.slice Ao69 x894001_2.length co69) := (blk_cell BK893.out 1).trans rfl
        have hfs74 := blk_frozen BK893.out 1
        have hns74_0 := NB892_893.out
        have hms74_0 := NB893_892.out
        refine skip_ (w1 := ?_) (by rfl) rfl ?_ ?_
        rotate_left
        ·go_simp
         rfl
        refine hK.out _ _ ?_
        clear hK K
        refine done_ (done_of HT_.out (by kernel_rfl)) ?_
        try go_wp2
        go_roundg k2
        case measure => have := HJ3.out; have := HK2.out; omega
        case rel => exact ⟨(wrap64 (x4_2 - 1)), (t943), (t944), (t945), (t948), (.slice Ao71 t945.length co71), (.slice Ao73 t948.length co73), (by first | rfl | (simp; done) | (simp [*]; done)), H', ⟨by have := HJ3.out; have := HK2.out; omega⟩, ⟨by (with_reducible repeat first | apply Kd.R_alloc | apply Kd.R_drewN | apply Kd.R_drew); exact Kd.R_mono (Kd.R_far (p := ⟨gb893, 1, none⟩) (Kd.R_far (p := ⟨gb893, 0, none⟩) (Kd.R_types HO947.out BK893.out (by decide)) (fun _ hk => hk.2) (.slice Ao71 t945.length co71)) (fun _ hk => hk.2) (.slice Ao73 t948.length co73)) (fun _ hk => trivial)⟩, ⟨by (with_reducible repeat first | apply Kd.R_alloc | apply Kd.R_drewN | apply Kd.R_drew); exact Kd.R_mono (Kd.R_far (p := ⟨gb893, 1, none⟩) (Kd.R_far (p := ⟨gb893, 0, none⟩) (Kd.R_types HO950.out BK893.out (by decide)) (fun _ hk => hk.2) (.slice Ao71 t945.length co71)) (fun _ hk => hk.2) (.slice Ao73 t948.length co73)) (fun _ hk => trivial)⟩, ⟨by (with_reducible repeat first | apply bN | apply bD | apply bA); refine blk_far ?_ NB892_893.out _; (with_reducible repeat first | apply bN | apply bD | apply bA); refine blk_far ?_ NB892_893.out _; (with_reducible repeat first | apply bN | apply bD | apply bA); exact BK892.out⟩, ⟨by (with_reducible repeat first | apply bN | apply bD | apply bA); refine blk_put (cs := #[.slice Ao71 t945.length co71, .slice Ao69 x894001_2.length co69]) ?_ 1 _ rfl; (with_reducible repeat first | apply bN | apply bD | apply bA); refine blk_put (cs := #[.slice Ao68 x894000_2.length co68, .slice Ao69 x894001_2.length co69]) ?_ 0 _ rfl; (with_reducible repeat first | apply bN | apply bD | apply bA); exact BK893.out⟩, ⟨by repeat (first | (with_reducible first | exact HI0.out | apply IsS106.alloc | apply IsS106.drewN | apply IsS106.drew | apply IsS106.set_1 | apply IsS106.set_2 | refine IsS106.far ?_ NB0_892.out _ | refine IsS106.far ?_ NB0_893.out _) | exact HI0.out)⟩, ⟨by repeat (first | (with_reducible first | exact HK.out | apply KeepBut.set_ | apply keep_drewN | apply keep_drew | apply keep_alloc | refine keep_far ?_ GW892.out _ | refine keep_far ?_ GW893.out _) | exact HK.out)⟩, ⟨by repeat (first | (with_reducible first | exact HB.out | apply eA | apply eN | apply eD | refine below_set ?_ (IsS106.ge HI0.out) | refine below_set ?_ GE892.out | refine below_set ?_ GE893.out) | exact HB.out)⟩⟩
     ·rw [if_neg c13] at H
      have c13b0 : decide (0 < x4_2) = false := decide_eq_false c13
      clear c13
      replace H := Option.bind_eq_some_iff.mp H
      obtain ⟨⟨t953, t954, t955⟩, A750, H⟩ := H
      replace H : (if t953 = 0 then ((spec_l1Cur_pick.f s0_0 t954 t955 5).bind fun bt956 => (if x894001_2.length < 17592186044416 then (some (x894000_2, (x894001_2 ++ [bt956.1]), bt956.2.1, bt956.2.2)) else (none))) else (if t953 = 1 then (if (x894000_2.length : Int) > 0 then ((spec_l1Cur_among.f s0_0 t954 t955 (([(-1), 1000, 1001] : List Int))).bind fun bt965 => (if 0 < (x894000_2.length : Int) then (some ((x894000_2.set (0 : Int).toNat (⟨(rd_T46 x894000_2 0).f0, (rd_T46 x894000_2 0).f1, (rd_T46 x894000_2 0).f2, (rd_T46 x894000_2 0).f3, bt965.1, (rd_T46 x894000_2 0).f5⟩ : S46)), x894001_2, bt965.2.1, bt965.2.2)) else (none))) else (some (x894000_2, x894001_2, t954, t955))) else (some (x894000_2, x894001_2, t954, t955)))) = some (r1, r2, r3, r4) := H
      have A75 := Aside0.mk A750
      clear A750
      by_cases c76 : t953 = 0
      ·rw [if_pos c76] at H
       have c76b0 : (t953 == 0) = true := beq_iff_eq.mpr c76
       have c76b1 : (t953 != 0) = false := bne_eq_false_iff_eq.mpr c76
       clear c76
       replace H := Option.bind_eq_some_iff.mp H
       obtain ⟨⟨t956, t957, t958⟩, A770, H⟩ := H
       replace H : (if x894001_2.length < 17592186044416 then (some (x894000_2, (x894001_2 ++ [t956]), t957, t958)) else (none)) = some (r1, r2, r3, r4) := H
       have A77 := Aside0.mk A770
       clear A770
       by_cases c78 : x894001_2.length < 17592186044416
       ·rw [if_pos c78] at H
        have LMc78 := Aside0.mk c78
        clear c78
        obtain ⟨y959, hy959⟩ : ∃ y_ : List Int, y_ = (x894001_2 ++ [t956]) := ⟨_, rfl⟩
        replace H : (some (x894000_2, y959, t957, t958)) = some (r1, r2, r3, r4) := by first | (rw [hy959]; with_reducible exact H) | (have H2_ := (Option.bind_some _ _).symm.trans H; rw [hy959]; with_reducible exact H2_) | (have H2_ := (Option.bind_some _ _).symm.trans H; with_reducible exact H2_) | with_reducible exact H | (rw [hy959]; exact H) | exact H
        have Ny959 := Aside0.mk hy959
        clear hy959
        simp only [Option.some.injEq, Prod.mk.injEq] at H
        obtain ⟨rfl, rfl, rfl, rfl⟩ := H
        try go_wp2_with (first | ((with_reducible refine gate_callee (f := 102) rfl ?_); refine goesL_ (some 75) rfl rfl Try.func102 (by kernel_rfl) rfl #[.pointer (some ⟨g, 0, none⟩), .int .i64 40] rfl (by (try simp only [List.map_toArray, List.map_cons, List.map_nil]); first | done | rfl | (simp only [List.length_drop, List.length_take]; rfl)) ?_; (with_reducible refine (spec_l1Cur_pick.calls g s0_0 x1001_2 x1002_2 40 t953 t954 t955 w0 _ ?side1 ?side2 A75.out).mono ?_); (case side1 => repeat (first | (with_reducible first | exact HI0.out | apply IsS106.alloc | apply IsS106.drewN | apply IsS106.drew | apply IsS106.set_1 | apply IsS106.set_2 | refine IsS106.far ?_ NB0_892.out _ | refine IsS106.far ?_ NB0_893.out _) | exact HI0.out)); (case side2 => repeat (first | (with_reducible first | exact HB.out | apply eA | apply eN | apply eD | refine below_set ?_ (IsS106.ge HI0.out) | refine below_set ?_ GE892.out | refine below_set ?_ GE893.out) | exact HB.out)); rintro e w79 ⟨rfl, hi, hb, hk⟩; refine ⟨_, rfl, ?_⟩; have n0_ := Aside0.mk (Kd.R_mono (Kd.R_keep (IsS106.apart (show IsS106 w0 _ g s0_0 x1001_2 x1002_2 from by repeat (first | (with_reducible first | exact HI0.out | apply IsS106.alloc | apply IsS106.drewN | apply IsS106.drew | apply IsS106.set_1 | apply IsS106.set_2 | refine IsS106.far ?_ NB0_892.out _ | refine IsS106.far ?_ NB0_893.out _) | exact HI0.out)) (by (with_reducible repeat first | apply Kd.R_alloc | apply Kd.R_drewN | apply Kd.R_drew); exact HO_894000.out) (by decide)) hk (fun _ h => h.2)) (fun _ h => h.1)); have n1_ := Aside0.mk (Kd.R_mono (Kd.R_keep (IsS106.apart (show IsS106 w0 _ g s0_0 x1001_2 x1002_2 from by repeat (first | (with_reducible first | exact HI0.out | apply IsS106.alloc | apply IsS106.drewN | apply IsS106.drew | apply IsS106.set_1 | apply IsS106.set_2 | refine IsS106.far ?_ NB0_892.out _ | refine IsS106.far ?_ NB0_893.out _) | exact HI0.out)) (by (with_reducible repeat first | apply Kd.R_alloc | apply Kd.R_drewN | apply Kd.R_drew); exact HO_894001.out) (by decide)) hk (fun _ h => h.2)) (fun _ h => h.1)); have n2_ := Aside0.mk (KeepBut.blk hk (g' := gb892) (o := .cells #[.slice none 0 0, .slice none 0 0] 51 (0, 0)) (by (with_reducible repeat first | apply bN | apply bD | apply bA); exact BK892.out) NB892_0.out (by simp)); have n3_ := Aside0.mk (KeepBut.blk hk (g' := gb893) (o := .cells #[u894000, u894001] 51 (0, 0)) (by (with_reducible repeat first | apply bN | apply bD | apply bA); exact BK893.out) NB893_0.out (by simp)); have n4_ := Aside0.mk (KeepBut.trans (by repeat (first | (with_reducible first | exact HK.out | apply KeepBut.set_ | apply keep_drewN | apply keep_drew | apply keep_alloc | refine keep_far ?_ GW892.out _ | refine keep_far ?_ GW893.out _) | exact HK.out)) hk (.inl rfl)); have n5_ := Aside0.mk (hb); have n6_ := Aside0.mk (hi); clear HO_894000 HO_894001; clear BK892 BK893; clear HK HB HI0; have HO_894000 := n0_; have HO_894001 := n1_; have BK892 := n2_; have BK893 := n3_; have HK := n4_; have HB := n5_; have HI0 := n6_; clear n0_ n1_ n2_ n3_ n4_ n5_ n6_; (try clear hb); (try clear hb2); (try clear hk); (try clear hi)))
        have n0_ := Aside0.mk (Kd.R_drew HO_894000.out)
        have n1_ := Aside0.mk (Kd.R_drew HO_894001.out)
        have n2_ := Aside0.mk (blk_drew BK892.out)
        have n3_ := Aside0.mk (blk_drew BK893.out)
        have n4_ := Aside0.mk (IsS106.drew HI0.out)
        have n5_ := Aside0.mk (keep_drew HK.out)
        have n6_ := Aside0.mk (below_drew1 HB.out)
        clear HO_894000 HO_894001 BK892 BK893 HI0 HK HB
        have HO_894000 := n0_
        have HO_894001 := n1_
        have BK892 := n2_
        have BK893 := n3_
        have HI0 := n4_
        have HK := n5_
        have HB := n6_
        clear n0_ n1_ n2_ n3_ n4_ n5_ n6_
        refine start_ (n := 8) (S := fun w' => w'.cell? ⟨gb893, 0, none⟩ = some (u894000) ∧ w'.cell? ⟨gb893, 1, none⟩ = some (u894001)) (ds := [7]) #[false, false, false, false, false, false, false, false] (by kernel_rfl) rfl rfl ⟨(blk_cell BK893.out 0).trans rfl, (blk_cell BK893.out 1).trans rfl⟩ (fun hHeld => ?_); refine with_tabW spec_l1Cur_tableOf.tab19 spec_l1Cur_tableOf.bits19 (fun HT_ HW_ => ?_)
        generalize w79.drew = w80 at HO_894000 HO_894001 BK892 BK893 HI0 HK HB hHeld ⊢
        refine pure_ (i := 0) (N := some 78) (v := ?_) (a' := ?_) #[true, false, false, false, false, false, false, false] rfl rfl (any_of HT_.out (by kernel_rfl)) (fun _ _ _ h => h) (Or.inl ⟨by rfl, ?_⟩) ?_ ?_
        rotate_left
        ·intro w'
         go_simp
         with_reducible rfl
        rotate_left
        ·simp only [Act.put, List.setIfInBounds_toArray, List.set_cons_zero, List.set_cons_succ, i64_w, i32_w]
         rfl
        refine pure_ (i := 2) (N := some 80) (v := ?_) (a' := ?_) #[true, false, true, false, false, false, false, false] rfl rfl (any_of HT_.out (by kernel_rfl)) (fun _ _ _ h => h) (Or.inl ⟨by rfl, ?_⟩) ?_ ?_
        rotate_left
        ·intro w'
         go_simp
         with_reducible rfl
        rotate_left
        ·simp only [Act.put, List.setIfInBounds_toArray, List.set_cons_zero, List.set_cons_succ, i64_w, i32_w]
         rfl
        refine take_ (i := 1) (N := some 79) (v := ?_) (a' := ?_) #[true, true, true, false, false, false, false, false] rfl rfl (take_ofW HT_.out HW_.out (by kernel_rfl)) (fun _ _ _ h => h) (Or.inl ⟨by rfl, ?_⟩) hHeld ?_ ?_
        rotate_left
        ·rintro w' ⟨s0, s1⟩
         go_simp
         with_reducible rfl
        rotate_left
        ·simp only [Act.put, List.setIfInBounds_toArray, List.set_cons_zero, List.set_cons_succ, i64_w, i32_w]
         rfl
        refine one_ (i := 3) (N := some 81) #[true, true, true, true, false, false, false, false] rfl rfl (one_of HT_.out (by kernel_rfl)) (by decide) (fun K hK => ?_)
        refine goes_ Try.func102 (by kernel_rfl) rfl #[.pointer (some ⟨g, 0, none⟩), .int .i64 5] (by rfl) rfl rfl (by (try simp only [List.map_toArray, List.map_cons, List.map_nil]); first | done | rfl | (simp only [List.length_drop, List.length_take]; rfl)) ?_
        with_reducible refine (spec_l1Cur_pick.calls g s0_0 t954 t955 5 t956 t957 t958 w0 _ ?side1 ?side2 A77.out).mono ?_
        (case side1 => repeat (first | (with_reducible first | exact HI0.out | apply IsS106.alloc | apply IsS106.drewN | apply IsS106.drew | apply IsS106.set_1 | apply IsS106.set_2 | refine IsS106.far ?_ NB0_892.out _ | refine IsS106.far ?_ NB0_893.out _) | exact HI0.out))
        (case side2 => repeat (first | (with_reducible first | exact HB.out | apply eA | apply eN | apply eD | refine below_set ?_ (IsS106.ge HI0.out) | refine below_set ?_ GE892.out | refine below_set ?_ GE893.out) | exact HB.out))
        rintro e w81 ⟨rfl, hi, hb, hk⟩
        refine ⟨_, rfl, ?_⟩
        have n0_ := Aside0.mk (Kd.R_mono (Kd.R_keep (IsS106.apart (show IsS106 w0 _ g s0_0 t954 t955 from by repeat (first | (with_reducible first | exact HI0.out | apply IsS106.alloc | apply IsS106.drewN | apply IsS106.drew | apply IsS106.set_1 | apply IsS106.set_2 | refine IsS106.far ?_ NB0_892.out _ | refine IsS106.far ?_ NB0_893.out _) | exact HI0.out)) (by (with_reducible repeat first | apply Kd.R_alloc | apply Kd.R_drewN | apply Kd.R_drew); exact HO_894000.out) (by decide)) hk (fun _ h => h.2)) (fun _ h => h.1))
        have n1_ := Aside0.mk (Kd.R_mono (Kd.R_keep (IsS106.apart (show IsS106 w0 _ g s0_0 t954 t955 from by repeat (first | (with_reducible first | exact HI0.out | apply IsS106.alloc | apply IsS106.drewN | apply IsS106.drew | apply IsS106.set_1 | apply IsS106.set_2 | refine IsS106.far ?_ NB0_892.out _ | refine IsS106.far ?_ NB0_893.out _) | exact HI0.out)) (by (with_reducible repeat first | apply Kd.R_alloc | apply Kd.R_drewN | apply Kd.R_drew); exact HO_894001.out) (by decide)) hk (fun _ h => h.2)) (fun _ h => h.1))
        have n2_ := Aside0.mk (KeepBut.blk hk (g' := gb892) (o := .cells #[.slice none 0 0, .slice none 0 0] 51 (0, 0)) (by (with_reducible repeat first | apply bN | apply bD | apply bA); exact BK892.out) NB892_0.out (by simp))
        have n3_ := Aside0.mk (KeepBut.blk hk (g' := gb893) (o := .cells #[u894000, u894001] 51 (0, 0)) (by (with_reducible repeat first | apply bN | apply bD | apply bA); exact BK893.out) NB893_0.out (by simp))
        have n4_ := Aside0.mk (KeepBut.trans (by repeat (first | (with_reducible first | exact HK.out | apply KeepBut.set_ | apply keep_drewN | apply keep_drew | apply keep_alloc | refine keep_far ?_ GW892.out _ | refine keep_far ?_ GW893.out _) | exact HK.out)) hk (.inl rfl))
        have n5_ := Aside0.mk (hb)
        have n6_ := Aside0.mk (hi)
        clear HO_894000 HO_894001 BK892 BK893 HK HB HI0
        have HO_894000 := n0_
        have HO_894001 := n1_
        have BK892 := n2_
        have BK893 := n3_
        have HK := n4_
        have HB := n5_
        have HI0 := n6_
        clear n0_ n1_ n2_ n3_ n4_ n5_ n6_
        (try clear hb)
        (try clear hb2)
        (try clear hk)
        (try clear hi)
        refine hK.out _ _ ⟨(blk_cell BK893.out 0).trans rfl, (blk_cell BK893.out 1).trans rfl⟩ (fun hHeld => ?_)
        clear hK K
        refine norm_ (a' := ?_) ?_ ?_
        rotate_left
        ·show Act.put _ (some 81) _ = _
         simp only [Act.put, List.setIfInBounds_toArray, List.set_cons_zero, List.set_cons_succ, i64_w, i32_w]
         rfl
        refine one_ (i := 4) (N := some 82) #[true, true, true, true, true, false, false, false] rfl rfl (one_of HT_.out (by kernel_rfl)) (by decide) (fun K hK => ?_)
        refine value_ (w1 := ?_) (v := ?_) (by rfl) rfl ?_ ?_
        rotate_left 2
        ·go_simp
         constructor
         ·rfl
         ·rfl
        refine hK.out _ _ ⟨(blk_cell (blk_alloc BK893.out _) 0).trans rfl, (blk_cell (blk_alloc BK893.out _) 1).trans rfl⟩ (fun hHeld => ?_)
        clear hK K
        refine norm_ (a' := ?_) ?_ ?_
        rotate_left
        ·show Act.put _ (some 82) _ = _
         simp only [Act.put, List.setIfInBounds_toArray, List.set_cons_zero, List.set_cons_succ, i64_w, i32_w]
         rfl
        refine one_ (i := 5) (N := some 83) #[true, true, true, true, true, true, false, false] rfl rfl (one_of HT_.out (by kernel_rfl)) (by decide) (fun K hK => ?_)
        refine Kd.R_append_step (Kd.int .i64) w.heap.size (by rfl) (.tmp 79) (.tmp 82) 41 3 (.int .i64 0) 8 rfl Try.underlying41 info3 rfl (by decide) (by omega) u894001 x894001_2 t956 [.int .i64 t956] (fun _ => True) (fun _ => False) rfl rfl ?aP (fun _ hk => hk.elim) ?aF ?aO (Below.refl _ _) ?aS ?aL ?_
        (case aP => exact rfl)
        (case aF => exact (fun _ _ => trivial))
        (case aO => exact (by (with_reducible repeat first | apply Kd.R_alloc | apply Kd.R_drewN | apply Kd.R_drew); exact HO_894001.out))
        (case aS => exact (keep_size (w := w) (g := g) (row := none) (by repeat (first | (with_reducible first | exact HK.out | apply KeepBut.set_ | apply keep_drewN | apply keep_drew | apply keep_alloc | refine keep_far ?_ GW892.out _ | refine keep_far ?_ GW893.out _) | exact HK.out))))
        (case aL => have := LMc78.out; omega)
        intro v960 w82 ho hb hg hat
        rw [← Ny959.out] at ho
        have n0_ := Aside0.mk (Kd.R_over' (by (with_reducible repeat first | apply Kd.R_alloc | apply Kd.R_drewN | apply Kd.R_drew); exact HO_894000.out) (Kd.R_typed (by (with_reducible repeat first | apply Kd.R_alloc | apply Kd.R_drewN | apply Kd.R_drew); exact HO_894001.out)) (by decide) hg)
        have n1_ := Aside0.mk (blk_grown (g := gb892) (o := .cells #[.slice none 0 0, .slice none 0 0] 51 (0, 0)) (by (with_reducible repeat first | apply bN | apply bD | apply bA); exact BK892.out) hg (Kd.R_ne HO_894001.out BK892.out (by decide)))
        have n2_ := Aside0.mk (blk_grown (g := gb893) (o := .cells #[u894000, u894001] 51 (0, 0)) (by (with_reducible repeat first | apply bN | apply bD | apply bA); exact BK893.out) hg (Kd.R_ne HO_894001.out BK893.out (by decide)))
        have n3_ := Aside0.mk (IsS106.grown (by repeat (first | (with_reducible first | exact HI0.out | apply IsS106.alloc | apply IsS106.drewN | apply IsS106.drew | apply IsS106.set_1 | apply IsS106.set_2 | refine IsS106.far ?_ NB0_892.out _ | refine IsS106.far ?_ NB0_893.out _) | exact HI0.out)) hg (IsS106.own_ne HI0.out HO_894001.out (by decide)))
        have n4_ := Aside0.mk (below_weaken (by repeat (first | (with_reducible first | exact HB.out | apply eA | apply eN | apply eD | refine below_set ?_ (IsS106.ge HI0.out) | refine below_set ?_ GE892.out | refine below_set ?_ GE893.out) | exact HB.out)) HL.out hb)
        have n5_ := Aside0.mk (KeepBut.trans (by repeat (first | (with_reducible first | exact HK.out | apply KeepBut.set_ | apply keep_drewN | apply keep_drew | apply keep_alloc | refine keep_far ?_ GW892.out _ | refine keep_far ?_ GW893.out _) | exact HK.out)) (KeepBut.of_grown hg g) (Kd.R_base2 HO_894001.out))
        have n6_ := Aside0.mk (ho)
        clear HO_894000 BK892 BK893 HI0 HB HK HO_894001
        have HO_894000 := n0_
        have BK892 := n1_
        have BK893 := n2_
        have HI0 := n3_
        have HB := n4_
        have HK := n5_
        have HO961 := n6_
        clear n0_ n1_ n2_ n3_ n4_ n5_ n6_ ho hb hg hat
        obtain ⟨Ao83, co83, eo83⟩ := Kd.R_slice HO961.out
        (first | subst eo83 | (injection eo83 with f1_ f2_ f3_; have f4_ := f1_.symm; have f5_ := f3_.symm; clear f1_ f2_ f3_; subst f4_; subst f5_))
        refine hK.out _ _ ⟨(blk_cell BK893.out 0).trans rfl, (blk_cell BK893.out 1).trans rfl⟩ (fun hHeld => ?_)
        clear hK K
        refine norm_ (a' := ?_) ?_ ?_
        rotate_left
        ·show Act.put _ (some 83) _ = _
         simp only [Act.put, List.setIfInBounds_toArray, List.set_cons_zero, List.set_cons_succ, i64_w, i32_w]
         rfl
        refine pure_ (i := 6) (N := some 84) (v := ?_) (a' := ?_) #[true, true, true, true, true, true, true, false] rfl rfl (any_of HT_.out (by kernel_rfl)) (fun _ _ _ h => h) (Or.inl ⟨by rfl, ?_⟩) ?_ ?_
        rotate_left
        ·intro w'
         go_simp
         with_reducible rfl
        rotate_left
        ·simp only [Act.put, List.setIfInBounds_toArray, List.set_cons_zero, List.set_cons_succ, i64_w, i32_w]
         rfl
        refine last_ (i := 7) (N := none) #[true, true, true, true, true, true, true, true] rfl rfl (one_of HT_.out (by kernel_rfl)) (by decide) (fun K hK => ?_)
        have hs84 : w82.cell? ⟨gb893, 1, none⟩ = some (u894001) := (blk_cell BK893.out 1).trans rfl
        have hfs84 := blk_frozen BK893.out 1
        have hns84_0 := NB892_893.out
        have hms84_0 := NB893_892.out
        refine skip_ (w1 := ?_) (by rfl) rfl ?_ ?_
        rotate_left
        ·go_simp
         rfl
        refine hK.out _ _ ?_
        clear hK K
        refine done_ (done_of HT_.out (by kernel_rfl)) ?_
        have hnb85 := NB893_892.out
        have hnc85 := NB892_893.out
        have hnb86 := NB893_0.out
        have hnc86 := NB0_893.out
        have hcz87_0 : w82.cell? ⟨gb893, 0, none⟩ = some (u894000) := (blk_cell BK893.out 0).trans rfl
        have hcz87_1 : w82.cell? ⟨gb893, 1, none⟩ = some (u894001) := (blk_cell BK893.out 1).trans rfl
        have hfz87_0 := blk_frozen BK893.out 0
        have hfz87_1 := blk_frozen BK893.out 1
        obtain ⟨Ao88, co88, eo88⟩ := Kd.R_slice HO_894000.out
        subst eo88
        have hnb89 := NB892_0.out
        have hnc89 := NB0_892.out
        have hcz90_0 : w82.cell? ⟨gb892, 0, none⟩ = some (.slice none 0 0) := (blk_cell BK892.out 0).trans rfl
        have hcz90_1 : w82.cell? ⟨gb892, 1, none⟩ = some (.slice none 0 0) := (blk_cell BK892.out 1).trans rfl
        have hfz90_0 := blk_frozen BK892.out 0
        have hfz90_1 := blk_frozen BK892.out 1
        try go_wp2
        refine bodyPost_ret (results_cell_row rfl _ _ gb892 51 #[.slice Ao88 x894000_2.length co88, .slice Ao83 y959.length co83] (0, 0) _ rfl (by (with_reducible repeat first | apply bN | apply bD | apply bA); refine blk_put (cs := #[.slice Ao88 x894000_2.length co88, .slice none 0 0]) ?_ 1 _ rfl; (with_reducible repeat first | apply bN | apply bD | apply bA); refine blk_put (cs := #[.slice none 0 0, .slice none 0 0]) ?_ 0 _ rfl; (with_reducible repeat first | apply bN | apply bD | apply bA); refine blk_far ?_ NB892_893.out _; (with_reducible repeat first | apply bN | apply bD | apply bA); exact BK892.out) Try.underlying51 rfl (by kernel_rfl)) rfl ?_
        exact ⟨_, _, by first | rfl | (simp [errW_none, errW_some] <;> rfl) | (simp [*, errW_none, errW_some] <;> rfl), by (with_reducible repeat first | apply Kd.R_alloc | apply Kd.R_drewN | apply Kd.R_drew); exact Kd.R_mono (Kd.R_far (p := ⟨gb892, 1, none⟩) (Kd.R_far (p := ⟨gb892, 0, none⟩) (Kd.R_far (p := ⟨gb893, 1, none⟩) (Kd.R_types (Kd.R_types HO_894000.out BK893.out (by decide)) BK892.out (by decide)) (fun _ hk => hk.1.2) (.slice Ao83 y959.length co83)) (fun _ hk => hk.2) (.slice Ao88 x894000_2.length co88)) (fun _ hk => hk.2) (.slice Ao83 y959.length co83)) (fun _ hk => trivial), by (with_reducible repeat first | apply Kd.R_alloc | apply Kd.R_drewN | apply Kd.R_drew); exact Kd.R_mono (Kd.R_far (p := ⟨gb892, 1, none⟩) (Kd.R_far (p := ⟨gb892, 0, none⟩) (Kd.R_far (p := ⟨gb893, 1, none⟩) (Kd.R_types (Kd.R_types HO961.out BK893.out (by decide)) BK892.out (by decide)) (fun _ hk => hk.1.2) (.slice Ao83 y959.length co83)) (fun _ hk => hk.2) (.slice Ao88 x894000_2.length co88)) (fun _ hk => hk.2) (.slice Ao83 y959.length co83)) (fun _ hk => trivial), by repeat (first | (with_reducible first | exact HI0.out | apply IsS106.alloc | apply IsS106.drewN | apply IsS106.drew | apply IsS106.set_1 | apply IsS106.set_2 | refine IsS106.far ?_ NB0_892.out _ | refine IsS106.far ?_ NB0_893.out _) | exact HI0.out), by repeat (first | (with_reducible first | exact HB.out | apply eA | apply eN | apply eD | refine below_set ?_ (IsS106.ge HI0.out) | refine below_set ?_ GE892.out | refine below_set ?_ GE893.out) | exact HB.out), by repeat (first | (with_reducible first | exact HK.out | apply KeepBut.set_ | apply keep_drewN | apply keep_drew | apply keep_alloc | refine keep_far ?_ GW892.out _ | refine keep_far ?_ GW893.out _) | exact HK.out)⟩
       ·rw [if_neg c78] at H
        exact absurd H (by simp)
      ·rw [if_neg c76] at H
       have c76b0 : (t953 == 0) = false := beq_eq_false_iff_ne.mpr c76
       have c76b1 : (t953 != 0) = true := bne_iff_ne.mpr c76
       by_cases c91 : t953 = 1
       ·rw [if_pos c91] at H
        have c91b0 : (t953 == 1) = true := beq_iff_eq.mpr c91
        have c91b1 : (t953 != 1) = false := bne_eq_false_iff_eq.mpr c91
        clear c91
        by_cases c92 : (x894000_2.length : Int) > 0
        ·rw [if_pos c92] at H
         have c92b0 : decide (0 < (x894000_2.length : Int)) = true := decide_eq_true c92
         have c92b1 : decide (0 < x894000_2.length) = true := decide_eq_true (by omega)
         clear c92
         obtain ⟨y962, hy962⟩ : ∃ y_ : List Int, y_ = (([(-1), 1000, 1001] : List Int)) := ⟨_, rfl⟩
         replace H : ((spec_l1Cur_among.f s0_0 t954 t955 y962).bind fun bt965 => (if 0 < (x894000_2.length : Int) then (some ((x894000_2.set (0 : Int).toNat (⟨(rd_T46 x894000_2 0).f0, (rd_T46 x894000_2 0).f1, (rd_T46 x894000_2 0).f2, (rd_T46 x894000_2 0).f3, bt965.1, (rd_T46 x894000_2 0).f5⟩ : S46)), x894001_2, bt965.2.1, bt965.2.2)) else (none))) = some (r1, r2, r3, r4) := by first | (rw [hy962]; with_reducible exact H) | (have H2_ := (Option.bind_some _ _).symm.trans H; rw [hy962]; with_reducible exact H2_) | (have H2_ := (Option.bind_some _ _).symm.trans H; with_reducible exact H2_) | with_reducible exact H | (rw [hy962]; exact H) | exact H
         have Ny962 := Aside0.mk hy962
         clear hy962
         replace H := Option.bind_eq_some_iff.mp H
         obtain ⟨⟨t965, t966, t967⟩, A930, H⟩ := H
         replace H : (if 0 < (x894000_2.length : Int) then (some ((x894000_2.set (0 : Int).toNat (⟨(rd_T46 x894000_2 0).f0, (rd_T46 x894000_2 0).f1, (rd_T46 x894000_2 0).f2, (rd_T46 x894000_2 0).f3, t965, (rd_T46 x894000_2 0).f5⟩ : S46)), x894001_2, t966, t967)) else (none)) = some (r1, r2, r3, r4) := H
         have A93 := Aside0.mk A930
         clear A930
         by_cases c94 : 0 < (x894000_2.length : Int)
         ·rw [if_pos c94] at H
          have c94b0 : decide (0 < (x894000_2.length : Int)) = true := decide_eq_true c94
          have c94b1 : decide (0 < x894000_2.length) = true := decide_eq_true (by omega)
          clear c94
          obtain ⟨y968, hy968⟩ : ∃ y_ : List (S46), y_ = (x894000_2.set (0 : Int).toNat (⟨(rd_T46 x894000_2 0).f0, (rd_T46 x894000_2 0).f1, (rd_T46 x894000_2 0).f2, (rd_T46 x894000_2 0).f3, t965, (rd_T46 x894000_2 0).f5⟩ : S46)) := ⟨_, rfl⟩
          replace H : (some (y968, x894001_2, t966, t967)) = some (r1, r2, r3, r4) := by first | (rw [hy968]; with_reducible exact H) | (have H2_ := (Option.bind_some _ _).symm.trans H; rw [hy968]; with_reducible exact H2_) | (have H2_ := (Option.bind_some _ _).symm.trans H; with_reducible exact H2_) | with_reducible exact H | (rw [hy968]; exact H) | exact H
          have Ny968 := Aside0.mk hy968
          clear hy968
          simp only [Option.some.injEq, Prod.mk.injEq] at H
          obtain ⟨rfl, rfl, rfl, rfl⟩ := H
          try go_wp2_with (first | ((with_reducible refine gate_callee (f := 102) rfl ?_); refine goesL_ (some 75) rfl rfl Try.func102 (by kernel_rfl) rfl #[.pointer (some ⟨g, 0, none⟩), .int .i64 40] rfl (by (try simp only [List.map_toArray, List.map_cons, List.map_nil]); first | done | rfl | (simp only [List.length_drop, List.length_take]; rfl)) ?_; (with_reducible refine (spec_l1Cur_pick.calls g s0_0 x1001_2 x1002_2 40 t953 t954 t955 w0 _ ?side1 ?side2 A75.out).mono ?_); (case side1 => repeat (first | (with_reducible first | exact HI0.out | apply IsS106.alloc | apply IsS106.drewN | apply IsS106.drew | apply IsS106.set_1 | apply IsS106.set_2 | refine IsS106.far ?_ NB0_892.out _ | refine IsS106.far ?_ NB0_893.out _) | exact HI0.out)); (case side2 => repeat (first | (with_reducible first | exact HB.out | apply eA | apply eN | apply eD | refine below_set ?_ (IsS106.ge HI0.out) | refine below_set ?_ GE892.out | refine below_set ?_ GE893.out) | exact HB.out)); rintro e w96 ⟨rfl, hi, hb, hk⟩; refine ⟨_, rfl, ?_⟩; have n0_ := Aside0.mk (Kd.R_mono (Kd.R_keep (IsS106.apart (show IsS106 w0 _ g s0_0 x1001_2 x1002_2 from by repeat (first | (with_reducible first | exact HI0.out | apply IsS106.alloc | apply IsS106.drewN | apply IsS106.drew | apply IsS106.set_1 | apply IsS106.set_2 | refine IsS106.far ?_ NB0_892.out _ | refine IsS106.far ?_ NB0_893.out _) | exact HI0.out)) (by (with_reducible repeat first | apply Kd.R_alloc | apply Kd.R_drewN | apply Kd.R_drew); exact HO_894000.out) (by decide)) hk (fun _ h => h.2)) (fun _ h => h.1)); have n1_ := Aside0.mk (Kd.R_mono (Kd.R_keep (IsS106.apart (show IsS106 w0 _ g s0_0 x1001_2 x1002_2 from by repeat (first | (with_reducible first | exact HI0.out | apply IsS106.alloc | apply IsS106.drewN | apply IsS106.drew | apply IsS106.set_1 | apply IsS106.set_2 | refine IsS106.far ?_ NB0_892.out _ | refine IsS106.far ?_ NB0_893.out _) | exact HI0.out)) (by (with_reducible repeat first | apply Kd.R_alloc | apply Kd.R_drewN | apply Kd.R_drew); exact HO_894001.out) (by decide)) hk (fun _ h => h.2)) (fun _ h => h.1)); have n2_ := Aside0.mk (KeepBut.blk hk (g' := gb892) (o := .cells #[.slice none 0 0, .slice none 0 0] 51 (0, 0)) (by (with_reducible repeat first | apply bN | apply bD | apply bA); exact BK892.out) NB892_0.out (by simp)); have n3_ := Aside0.mk (KeepBut.blk hk (g' := gb893) (o := .cells #[u894000, u894001] 51 (0, 0)) (by (with_reducible repeat first | apply bN | apply bD | apply bA); exact BK893.out) NB893_0.out (by simp)); have n4_ := Aside0.mk (KeepBut.trans (by repeat (first | (with_reducible first | exact HK.out | apply KeepBut.set_ | apply keep_drewN | apply keep_drew | apply keep_alloc | refine keep_far ?_ GW892.out _ | refine keep_far ?_ GW893.out _) | exact HK.out)) hk (.inl rfl)); have n5_ := Aside0.mk (hb); have n6_ := Aside0.mk (hi); clear HO_894000 HO_894001; clear BK892 BK893; clear HK HB HI0; have HO_894000 := n0_; have HO_894001 := n1_; have BK892 := n2_; have BK893 := n3_; have HK := n4_; have HB := n5_; have HI0 := n6_; clear n0_ n1_ n2_ n3_ n4_ n5_ n6_; (try clear hb); (try clear hb2); (try clear hk); (try clear hi); have hnb97 := NB893_892.out; have hnc97 := NB892_893.out; have hnb98 := NB893_0.out; have hnc98 := NB0_893.out; have hcz99_0 : w96.cell? ⟨gb893, 0, none⟩ = some (u894000) := (blk_cell BK893.out 0).trans rfl; have hcz99_1 : w96.cell? ⟨gb893, 1, none⟩ = some (u894001) := (blk_cell BK893.out 1).trans rfl; have hfz99_0 := blk_frozen BK893.out 0; have hfz99_1 := blk_frozen BK893.out 1; obtain ⟨Ao100, co100, eo100⟩ := Kd.R_slice HO_894000.out; subst eo100))
          have n0_ := Aside0.mk (Kd.R_drew HO_894000.out)
          have n1_ := Aside0.mk (Kd.R_drew HO_894001.out)
          have n2_ := Aside0.mk (blk_drew BK892.out)
          have n3_ := Aside0.mk (blk_drew BK893.out)
          have n4_ := Aside0.mk (IsS106.drew HI0.out)
          have n5_ := Aside0.mk (keep_drew HK.out)
          have n6_ := Aside0.mk (below_drew1 HB.out)
          clear HO_894000 HO_894001 BK892 BK893 HI0 HK HB
          have HO_894000 := n0_
          have HO_894001 := n1_
          have BK892 := n2_
          have BK893 := n3_
          have HI0 := n4_
          have HK := n5_
          have HB := n6_
          clear n0_ n1_ n2_ n3_ n4_ n5_ n6_
          refine start_ (n := 8) (S := fun w' => w'.cell? ⟨gb893, 0, none⟩ = some (.slice Ao100 x894000_2.length co100) ∧ w'.cell? ⟨gb893, 1, none⟩ = some (u894001)) (ds := [7]) #[false, false, false, false, false, false, false, false] (by kernel_rfl) rfl rfl ⟨(blk_cell BK893.out 0).trans rfl, (blk_cell BK893.out 1).trans rfl⟩ (fun hHeld => ?_); refine with_tabW spec_l1Cur_tableOf.tab22 spec_l1Cur_tableOf.bits22 (fun HT_ HW_ => ?_)
          generalize w96.drew = w101 at HO_894000 HO_894001 BK892 BK893 HI0 HK HB hHeld ⊢
          refine pure_ (i := 0) (N := some 91) (v := ?_) (a' := ?_) #[true, false, false, false, false, false, false, false] rfl rfl (any_of HT_.out (by kernel_rfl)) (fun _ _ _ h => h) (Or.inl ⟨by rfl, ?_⟩) ?_ ?_
          rotate_left
          ·intro w'
           go_simp
           with_reducible rfl
          rotate_left
          ·simp only [Act.put, List.setIfInBounds_toArray, List.set_cons_zero, List.set_cons_succ, i64_w, i32_w]
           rfl
          refine pure_ (i := 2) (N := some 93) (v := ?_) (a' := ?_) #[true, false, true, false, false, false, false, false] rfl rfl (any_of HT_.out (by kernel_rfl)) (fun _ _ _ h => h) (Or.inl ⟨by rfl, ?_⟩) ?_ ?_
          rotate_left
          ·intro w'
           go_simp
           with_reducible rfl
          rotate_left
          ·simp only [Act.put, List.setIfInBounds_toArray, List.set_cons_zero, List.set_cons_succ, i64_w, i32_w]
           rfl
          refine take_ (i := 1) (N := some 92) (v := ?_) (a' := ?_) #[true, true, true, false, false, false, false, false] rfl rfl (take_ofW HT_.out HW_.out (by kernel_rfl)) (fun _ _ _ h => h) (Or.inl ⟨by rfl, ?_⟩) hHeld ?_ ?_
          rotate_left
          ·rintro w' ⟨s0, s1⟩
           go_simp
           with_reducible rfl
          rotate_left
          ·simp only [Act.put, List.setIfInBounds_toArray, List.set_cons_zero, List.set_cons_succ, i64_w, i32_w]
           rfl
          refine one_ (i := 3) (N := some 94) #[true, true, true, true, false, false, false, false] rfl rfl (one_of HT_.out (by kernel_rfl)) (by decide) (fun K hK => ?_)
          refine Kd.R_lit_step (Kd.int .i64) _ 3 ?hg (N := 94) ?hd (xs := ([(-1), 1000, 1001] : List Int)) (inner := [.int .i64 (-1), .int .i64 1000, .int .i64 1001]) (ok := fun _ => True) (okp := fun _ => True) ?hr ?hp (fun _ hk => hk) trivial (Below.refl _ _) (Nat.le_refl _) (by simp) ?_; (case hd => rfl); (case hg => rfl); (case hr => first | (go_simp; done) | (go_simp; rfl)); (case hp => exact (Reps.one (show Kd.M (Kd.int .i64) _ _ _ (-1) [.int .i64 (-1)] from rfl) (Reps.one (show Kd.M (Kd.int .i64) _ _ _ 1000 [.int .i64 1000] from rfl) (Reps.one (show Kd.M (Kd.int .i64) _ _ _ 1001 [.int .i64 1001] from rfl) (Reps.none _ _)))))
          intro v963 w102 ho103 hb hg_ hnew_
          clear hg_ hnew_
          (first | rw [← Ny962.out] at ho103 | (simp only [Int.reduceToNat] at ho103; rw [← Ny962.out] at ho103))
          have n0_ := Aside0.mk (Kd.R_below (by (with_reducible repeat first | apply Kd.R_alloc | apply Kd.R_drewN | apply Kd.R_drew); exact HO_894000.out) hb)
          have n1_ := Aside0.mk (Kd.R_elder' (by (with_reducible repeat first | apply Kd.R_alloc | apply Kd.R_drewN | apply Kd.R_drew); exact HO_894001.out) (Kd.R_base ho103) hb)
          have n2_ := Aside0.mk (Kd.R_lower (Kd.R_new' ho103 (Kd.R_lt (by (with_reducible repeat first | apply Kd.R_alloc | apply Kd.R_drewN | apply Kd.R_drew); exact HO_894001.out))) (keep_size (w := w) (g := g) (row := none) (by repeat (first | (with_reducible first | exact HK.out | apply KeepBut.set_ | apply keep_drewN | apply keep_drew | apply keep_alloc | refine keep_far ?_ GW892.out _ | refine keep_far ?_ GW893.out _) | exact HK.out))))
          have n3_ := Aside0.mk (blk_below (g := gb892) (o := .cells #[.slice none 0 0, .slice none 0 0] 51 (0, 0)) (by (with_reducible repeat first | apply bN | apply bD | apply bA); exact BK892.out) hb)
          have n4_ := Aside0.mk (blk_below (g := gb893) (o := .cells #[.slice Ao100 x894000_2.length co100, u894001] 51 (0, 0)) (by (with_reducible repeat first | apply bN | apply bD | apply bA); exact BK893.out) hb)
          have n5_ := Aside0.mk (IsS106.below (by repeat (first | (with_reducible first | exact HI0.out | apply IsS106.alloc | apply IsS106.drewN | apply IsS106.drew | apply IsS106.set_1 | apply IsS106.set_2 | refine IsS106.far ?_ NB0_892.out _ | refine IsS106.far ?_ NB0_893.out _) | exact HI0.out)) hb)
          have n6_ := Aside0.mk (KeepBut.trans (by repeat (first | (with_reducible first | exact HK.out | apply KeepBut.set_ | apply keep_drewN | apply keep_drew | apply keep_alloc | refine keep_far ?_ GW892.out _ | refine keep_far ?_ GW893.out _) | exact HK.out)) (KeepBut.of_below hb g none) (.inl rfl))
          have n7_ := Aside0.mk (below_step (by repeat (first | (with_reducible first | exact HB.out | apply eA | apply eN | apply eD | refine below_set ?_ (IsS106.ge HI0.out) | refine below_set ?_ GE892.out | refine below_set ?_ GE893.out) | exact HB.out)) hb)
          clear HO_894000 HO_894001 BK892 BK893 HI0 HK HB
          have HO_894000 := n0_
          have HO_894001 := n1_
          have HO964 := n2_
          have BK892 := n3_
          have BK893 := n4_
          have HI0 := n5_
          have HK := n6_
          have HB := n7_
          clear n0_ n1_ n2_ n3_ n4_ n5_ n6_ n7_ hb ho103
          obtain ⟨Ao104, co104, eo104⟩ := Kd.R_slice HO964.out
          (first | subst eo104 | (injection eo104 with f1_ f2_ f3_; have f4_ := f1_.symm; have f5_ := f3_.symm; clear f1_ f2_ f3_; subst f4_; subst f5_))
          refine hK.out _ _ ⟨(blk_cell BK893.out 0).trans rfl, (blk_cell BK893.out 1).trans rfl⟩ (fun hHeld => ?_)
          clear hK K
          refine norm_ (a' := ?_) ?_ ?_
          rotate_left
          ·show Act.put _ (some 94) _ = _
           simp only [Act.put, List.setIfInBounds_toArray, List.set_cons_zero, List.set_cons_succ, i64_w, i32_w]
           rfl
          refine one_ (i := 4) (N := some 95) #[true, true, true, true, true, false, false, false] rfl rfl (one_of HT_.out (by kernel_rfl)) (by decide) (fun K hK => ?_)
          refine goes_ Try.func104 (by kernel_rfl) rfl #[.pointer (some ⟨g, 0, none⟩), .slice Ao104 y962.length co104] (by rfl) rfl rfl (by (try simp only [List.map_toArray, List.map_cons, List.map_nil]); first | done | rfl | (simp only [List.length_drop, List.length_take]; rfl)) ?_
          with_reducible refine (spec_l1Cur_among.calls g s0_0 t954 t955 _ _ y962 t965 t966 t967 w0 _ ?side1 ?side2 ?side3 ?side4 ?side5 A93.out).mono ?_
          (case side1 => repeat (first | (with_reducible first | exact HI0.out | apply IsS106.alloc | apply IsS106.drewN | apply IsS106.drew | apply IsS106.set_1 | apply IsS106.set_2 | refine IsS106.far ?_ NB0_892.out _ | refine IsS106.far ?_ NB0_893.out _) | exact HI0.out))
          (case side2 => repeat (first | (with_reducible first | exact HB.out | apply eA | apply eN | apply eD | refine below_set ?_ (IsS106.ge HI0.out) | refine below_set ?_ GE892.out | refine below_set ?_ GE893.out) | exact HB.out))
          (case side3 => repeat (first | exact (Kd.R_reads' HO964.out).2.2 | (with_reducible refine Kd.C_alloc ?_ _) | (with_reducible refine Kd.C_drewN ?_ _) | (with_reducible refine Kd.C_drew ?_)))
          (case side4 => exact (Kd.R_reads' HO964.out).2.1)
          (case side5 => exact far_slice (IsS106.own_ne HI0.out HO964.out (by decide)))
          rintro e w105 ⟨rfl, hi, hb, hk⟩
          refine ⟨_, rfl, ?_⟩
          have n0_ := Aside0.mk (Kd.R_mono (Kd.R_keep (IsS106.apart (show IsS106 w0 _ g s0_0 t954 t955 from by repeat (first | (with_reducible first | exact HI0.out | apply IsS106.alloc | apply IsS106.drewN | apply IsS106.drew | apply IsS106.set_1 | apply IsS106.set_2 | refine IsS106.far ?_ NB0_892.out _ | refine IsS106.far ?_ NB0_893.out _) | exact HI0.out)) (by (with_reducible repeat first | apply Kd.R_alloc | apply Kd.R_drewN | apply Kd.R_drew); exact HO_894000.out) (by decide)) hk (fun _ h => h.2)) (fun _ h => h.1))
          have n1_ := Aside0.mk (Kd.R_mono (Kd.R_keep (IsS106.apart (show IsS106 w0 _ g s0_0 t954 t955 from by repeat (first | (with_reducible first | exact HI0.out | apply IsS106.alloc | apply IsS106.drewN | apply IsS106.drew | apply IsS106.set_1 | apply IsS106.set_2 | refine IsS106.far ?_ NB0_892.out _ | refine IsS106.far ?_ NB0_893.out _) | exact HI0.out)) (by (with_reducible repeat first | apply Kd.R_alloc | apply Kd.R_drewN | apply Kd.R_drew); exact HO_894001.out) (by decide)) hk (fun _ h => h.2)) (fun _ h => h.1))
          have n2_ := Aside0.mk (KeepBut.blk hk (g' := gb892) (o := .cells #[.slice none 0 0, .slice none 0 0] 51 (0, 0)) (by (with_reducible repeat first | apply bN | apply bD | apply bA); exact BK892.out) NB892_0.out (by simp))
          have n3_ := Aside0.mk (KeepBut.blk hk (g' := gb893) (o := .cells #[.slice Ao100 x894000_2.length co100, u894001] 51 (0, 0)) (by (with_reducible repeat first | apply bN | apply bD | apply bA); exact BK893.out) NB893_0.out (by simp))
          have n4_ := Aside0.mk (Kd.R_mono (Kd.R_keep (IsS106.apart (show IsS106 w0 _ g s0_0 t954 t955 from by repeat (first | (with_reducible first | exact HI0.out | apply IsS106.alloc | apply IsS106.drewN | apply IsS106.drew | apply IsS106.set_1 | apply IsS106.set_2 | refine IsS106.far ?_ NB0_892.out _ | refine IsS106.far ?_ NB0_893.out _) | exact HI0.out)) (by (with_reducible repeat first | apply Kd.R_alloc | apply Kd.R_drewN | apply Kd.R_drew); exact HO964.out) (by decide)) hk (fun _ h => h.2)) (fun _ h => h.1))
          have n5_ := Aside0.mk (KeepBut.trans (by repeat (first | (with_reducible first | exact HK.out | apply KeepBut.set_ | apply keep_drewN | apply keep_drew | apply keep_alloc | refine keep_far ?_ GW892.out _ | refine keep_far ?_ GW893.out _) | exact HK.out)) hk (.inl rfl))
          have n6_ := Aside0.mk (hb)
          have n7_ := Aside0.mk (hi)
          clear HO_894000 HO_894001 BK892 BK893 HO964 HK HB HI0
          have HO_894000 := n0_
          have HO_894001 := n1_
          have BK892 := n2_
          have BK893 := n3_
          have HO964 := n4_
          have HK := n5_
          have HB := n6_
          have HI0 := n7_
          clear n0_ n1_ n2_ n3_ n4_ n5_ n6_ n7_
          (try clear hb)
          (try clear hb2)
          (try clear hk)
          (try clear hi)
          have p95 : 0 ≤ (0 : Int) := (by omega)
          have q95 : (0 : Int) < ((x894000_2.length : Int) : Int) := of_decide_eq_true (by first | (with_reducible assumption) | assumption)
          have qi95 : (0 < x894000_2.length) = True := eq_true (by omega)
          obtain ⟨go95, co95, eo95, gb95, gl95, cl95, HG95⟩ := Kd.R_form HO_894000.out (by omega)
          (first | cases eo95 | (injection eo95 with ea_ en_ ec_; (first | subst ea_ | (injection ea_ with ea_; subst ea_)); subst ec_; clear en_))
          have GB95 := Aside0.mk gb95
          have GG95 := Aside0.mk HG95
          clear gb95 gl95 HG95
          obtain ⟨ce95, hcl95, hM95, hcc95, hfr95⟩ := Kd.R_elem HO_894000.out z46 (0 : Int) p95 q95
          obtain rfl := k46_openM hM95
          have hx95_0 : World.cell? _ ⟨go95, (0 : Int).toNat * 6, none⟩ = some (.bool ((rd_T46 x894000_2 0).f0)) := hcc95 0 _ rfl
          have hx95_1 : World.cell? _ ⟨go95, (0 : Int).toNat * 6 + 1, none⟩ = some (.int .i64 ((rd_T46 x894000_2 0).f1)) := hcc95 1 _ rfl
          have hx95_2 : World.cell? _ ⟨go95, (0 : Int).toNat * 6 + 2, none⟩ = some (.int .i64 ((rd_T46 x894000_2 0).f2)) := hcc95 2 _ rfl
          have hx95_3 : World.cell? _ ⟨go95, (0 : Int).toNat * 6 + 3, none⟩ = some (.bool ((rd_T46 x894000_2 0).f3)) := hcc95 3 _ rfl
          have hx95_4 : World.cell? _ ⟨go95, (0 : Int).toNat * 6 + 4, none⟩ = some (.int .i64 ((rd_T46 x894000_2 0).f4)) := hcc95 4 _ rfl
          have hx95_5 : World.cell? _ ⟨go95, (0 : Int).toNat * 6 + 5, none⟩ = some (.int .i64 ((rd_T46 x894000_2 0).f5)) := hcc95 5 _ rfl
          have hf95_0 : World.frozen? _ ⟨go95, (0 : Int).toNat * 6, none⟩ = false := hfr95 0
          have hf95_1 : World.frozen? _ ⟨go95, (0 : Int).toNat * 6 + 1, none⟩ = false := hfr95 1
          have hf95_2 : World.frozen? _ ⟨go95, (0 : Int).toNat * 6 + 2, none⟩ = false := hfr95 2
          have hf95_3 : World.frozen? _ ⟨go95, (0 : Int).toNat * 6 + 3, none⟩ = false := hfr95 3
          have hf95_4 : World.frozen? _ ⟨go95, (0 : Int).toNat * 6 + 4, none⟩ = false := hfr95 4
          have hf95_5 : World.frozen? _ ⟨go95, (0 : Int).toNat * 6 + 5, none⟩ = false := hfr95 5
          clear hcl95 hcc95 hfr95 hM95
          (try rw [show ((0 : Int)).toNat = 0 from rfl] at hx95_0)
          (try simp only [Nat.reduceMul, Nat.zero_mul, Nat.zero_add, Nat.reduceAdd] at hx95_0)
          (try rw [show ((0 : Int)).toNat = 0 from rfl] at hf95_0)
          (try simp only [Nat.reduceMul, Nat.zero_mul, Nat.zero_add, Nat.reduceAdd] at hf95_0)
          (try rw [show ((0 : Int)).toNat = 0 from rfl] at hx95_1)
          (try simp only [Nat.reduceMul, Nat.zero_mul, Nat.zero_add, Nat.reduceAdd] at hx95_1)
          (try rw [show ((0 : Int)).toNat = 0 from rfl] at hf95_1)
          (try simp only [Nat.reduceMul, Nat.zero_mul, Nat.zero_add, Nat.reduceAdd] at hf95_1)
          (try rw [show ((0 : Int)).toNat = 0 from rfl] at hx95_2)
          (try simp only [Nat.reduceMul, Nat.zero_mul, Nat.zero_add, Nat.reduceAdd] at hx95_2)
          (try rw [show ((0 : Int)).toNat = 0 from rfl] at hf95_2)
          (try simp only [Nat.reduceMul, Nat.zero_mul, Nat.zero_add, Nat.reduceAdd] at hf95_2)
          (try rw [show ((0 : Int)).toNat = 0 from rfl] at hx95_3)
          (try simp only [Nat.reduceMul, Nat.zero_mul, Nat.zero_add, Nat.reduceAdd] at hx95_3)
          (try rw [show ((0 : Int)).toNat = 0 from rfl] at hf95_3)
          (try simp only [Nat.reduceMul, Nat.zero_mul, Nat.zero_add, Nat.reduceAdd] at hf95_3)
          (try rw [show ((0 : Int)).toNat = 0 from rfl] at hx95_4)
          (try simp only [Nat.reduceMul, Nat.zero_mul, Nat.zero_add, Nat.reduceAdd] at hx95_4)
          (try rw [show ((0 : Int)).toNat = 0 from rfl] at hf95_4)
          (try simp only [Nat.reduceMul, Nat.zero_mul, Nat.zero_add, Nat.reduceAdd] at hf95_4)
          (try rw [show ((0 : Int)).toNat = 0 from rfl] at hx95_5)
          (try simp only [Nat.reduceMul, Nat.zero_mul, Nat.zero_add, Nat.reduceAdd] at hx95_5)
          (try rw [show ((0 : Int)).toNat = 0 from rfl] at hf95_5)
          (try simp only [Nat.reduceMul, Nat.zero_mul, Nat.zero_add, Nat.reduceAdd] at hf95_5)
          replace p95 := eq_true p95
          replace q95 := eq_true q95
          have HN0_go95 := Aside0.mk (show g ≠ go95 from by have h_ := IsS106.own_ne HI0.out HO_894000.out (by decide); intro e_; exact h_ (by rw [e_]; rfl))
          obtain ⟨ce106, hcl106, hM106, hcc106, hfr106⟩ := Kd.R_elem HO_894000.out z46 (0 : Int) (by omega) (by have h_ : (0 : Int) < ((x894000_2.length : Int) : Int) := of_decide_eq_true (by first | (with_reducible assumption) | assumption); first | exact h_ | (have e_ := (Kd.R_reads' HO_894000.out).1; omega) | simpa using h_)
          obtain rfl := k46_openM hM106
          have HP106 := (Kd.R_seg HO_894000.out (0 : Int) (by omega) (by have h_ : (0 : Int) < ((x894000_2.length : Int) : Int) := of_decide_eq_true (by first | (with_reducible assumption) | assumption); first | exact h_ | (have e_ := (Kd.R_reads' HO_894000.out).1; omega) | simpa using h_) (seg := [.int .i64 t965]) (j := 4) hcl106 hcc106 (show 5 ≤ 6 from by decide) (x' := (⟨(rd_T46 x894000_2 0).f0, (rd_T46 x894000_2 0).f1, (rd_T46 x894000_2 0).f2, (rd_T46 x894000_2 0).f3, t965, (rd_T46 x894000_2 0).f5⟩ : S46)) (k46_mkM _ _ _ (⟨(rd_T46 x894000_2 0).f0, (rd_T46 x894000_2 0).f1, (rd_T46 x894000_2 0).f2, (rd_T46 x894000_2 0).f3, t965, (rd_T46 x894000_2 0).f5⟩ : S46) ) (fun _ hk => hk)).1
          rw [← Ny968.out] at HP106
          have HQ106 := Aside0.mk HP106
          clear hcl106 hcc106 hfr106 hM106 HP106
          refine hK.out _ _ ⟨(blk_cell BK893.out 0).trans rfl, (blk_cell BK893.out 1).trans rfl⟩ (fun hHeld => ?_)
          clear hK K
          refine norm_ (a' := ?_) ?_ ?_
          rotate_left
          ·show Act.put _ (some 95) _ = _
           simp only [Act.put, List.setIfInBounds_toArray, List.set_cons_zero, List.set_cons_succ, i64_w, i32_w]
           rfl
          refine pure_ (i := 5) (N := some 96) (v := ?_) (a' := ?_) #[true, true, true, true, true, true, false, false] rfl rfl (any_of HT_.out (by kernel_rfl)) (fun _ _ _ h => h) (Or.inl ⟨by rfl, ?_⟩) ?_ ?_
          rotate_left
          ·intro w'
           go_simp
           with_reducible rfl
          rotate_left
          ·simp only [Act.put, List.setIfInBounds_toArray, List.set_cons_zero, List.set_cons_succ, i64_w, i32_w]
           rfl
          refine pure_ (i := 6) (N := some 97) (v := ?_) (a' := ?_) #[true, true, true, true, true, true, true, false] rfl rfl (any_of HT_.out (by kernel_rfl)) (fun _ _ _ h => h) (Or.inl ⟨by rfl, ?_⟩) ?_ ?_
          rotate_left
          ·intro w'
           go_simp
           with_reducible rfl
          rotate_left
          ·simp only [Act.put, List.setIfInBounds_toArray, List.set_cons_zero, List.set_cons_succ, i64_w, i32_w]
           rfl
          refine last_ (i := 7) (N := none) #[true, true, true, true, true, true, true, true] rfl rfl (one_of HT_.out (by kernel_rfl)) (by decide) (fun K hK => ?_)
          refine skip_ (w1 := ?_) (by rfl) rfl ?_ ?_
          rotate_left
          ·go_simp
           rfl
          refine hK.out _ _ ?_
          clear hK K
          refine done_ (done_of HT_.out (by kernel_rfl)) ?_
          have n0_ : Aside0 (Kd.R k46 46 (w105.setCell ⟨go95, 4, none⟩ (.int .i64 t965)) w.heap.size (fun _ => True) (.slice (some ⟨go95, 0, none⟩) x894000_2.length co100) y968) := ⟨by (with_reducible repeat first | apply Kd.R_alloc | apply Kd.R_drewN | apply Kd.R_drew); exact HQ106.out⟩
          have n1_ : Aside0 (Kd.R (Kd.int .i64) 3 (w105.setCell ⟨go95, 4, none⟩ (.int .i64 t965)) w.heap.size (fun k_ => some k_ ≠ (.slice Ao104 y962.length co104 : Value).ownBlock) u894001 x894001_2) := ⟨by (with_reducible repeat first | apply Kd.R_alloc | apply Kd.R_drewN | apply Kd.R_drew); exact Kd.R_mono (Kd.R_far (p := ⟨go95, 4, none⟩) (Kd.R_types HO_894001.out GG95.out (by decide)) (fun _ hk => hk.2) (.int .i64 t965)) (fun _ hk => hk.1.2)⟩
          have n2_ : Aside0 (Kd.R (Kd.int .i64) 3 (w105.setCell ⟨go95, 4, none⟩ (.int .i64 t965)) w.heap.size (fun k_ => some k_ ≠ (u894001 : Value).ownBlock) (.slice Ao104 y962.length co104) y962) := ⟨by (with_reducible repeat first | apply Kd.R_alloc | apply Kd.R_drewN | apply Kd.R_drew); exact Kd.R_mono (Kd.R_far (p := ⟨go95, 4, none⟩) (Kd.R_types HO964.out GG95.out (by decide)) (fun _ hk => hk.2) (.int .i64 t965)) (fun _ hk => hk.1.2)⟩
          have n3_ : Aside0 ((w105.setCell ⟨go95, 4, none⟩ (.int .i64 t965)).heap[gb892]? = some (.cells #[.slice none 0 0, .slice none 0 0] 51 (0, 0))) := ⟨by (with_reducible repeat first | apply bN | apply bD | apply bA); refine blk_far ?_ (by have h_ := Kd.R_ne HO_894000.out BK892.out (by decide); intro e_; exact h_ (by rw [e_]; rfl)) _; (with_reducible repeat first | apply bN | apply bD | apply bA); exact BK892.out⟩
          have n4_ : Aside0 ((w105.setCell ⟨go95, 4, none⟩ (.int .i64 t965)).heap[gb893]? = some (.cells #[.slice (some ⟨go95, 0, none⟩) x894000_2.length co100, u894001] 51 (0, 0))) := ⟨by (with_reducible repeat first | apply bN | apply bD | apply bA); refine blk_far ?_ (by have h_ := Kd.R_ne HO_894000.out BK893.out (by decide); intro e_; exact h_ (by rw [e_]; rfl)) _; (with_reducible repeat first | apply bN | apply bD | apply bA); exact BK893.out⟩
          have n5_ : Aside0 (IsS106 w0 (w105.setCell ⟨go95, 4, none⟩ (.int .i64 t965)) g s0_0 t966 t967) := ⟨by repeat (first | (with_reducible first | exact HI0.out | apply IsS106.alloc | apply IsS106.drewN | apply IsS106.drew | apply IsS106.set_1 | apply IsS106.set_2 | refine IsS106.far ?_ HN0_go95.out _ | refine IsS106.far ?_ NB0_892.out _ | refine IsS106.far ?_ NB0_893.out _) | exact HI0.out)⟩
          have n6_ : Aside0 (KeepBut w (w105.setCell ⟨go95, 4, none⟩ (.int .i64 t965)) g none) := ⟨by repeat (first | (with_reducible first | exact HK.out | apply KeepBut.set_ | apply keep_drewN | apply keep_drew | apply keep_alloc | refine keep_far ?_ GB95.out _ | refine keep_far ?_ GW892.out _ | refine keep_far ?_ GW893.out _) | exact HK.out)⟩
          have n7_ : Aside0 (Below w0.heap.size w0 (w105.setCell ⟨go95, 4, none⟩ (.int .i64 t965))) := ⟨by repeat (first | (with_reducible first | exact HB.out | apply eA | apply eN | apply eD | refine below_set ?_ (Nat.le_trans HL.out GB95.out) | refine below_set ?_ (IsS106.ge HI0.out) | refine below_set ?_ GE892.out | refine below_set ?_ GE893.out) | exact HB.out)⟩
          (try clear HO_894000)
          (try clear HO_894001)
          (try clear HO964)
          (try clear BK892)
          (try clear BK893)
          (try clear HI0)
          (try clear HK)
          (try clear HB)
          generalize (w105.setCell ⟨go95, 4, none⟩ (.int .i64 t965)) = w107 at n0_ n1_ n2_ n3_ n4_ n5_ n6_ n7_ ⊢
          have HO_894000 := n0_
          have HO_894001 := n1_
          have HO964 := n2_
          have BK892 := n3_
          have BK893 := n4_
          have HI0 := n5_
          have HK := n6_
          have HB := n7_
          clear n0_ n1_ n2_ n3_ n4_ n5_ n6_ n7_
          have hcz108_0 : w107.cell? ⟨gb893, 0, none⟩ = some (.slice (some ⟨go95, 0, none⟩) x894000_2.length co100) := (blk_cell BK893.out 0).trans rfl
          have hcz108_1 : w107.cell? ⟨gb893, 1, none⟩ = some (u894001) := (blk_cell BK893.out 1).trans rfl
          have hfz108_0 := blk_frozen BK893.out 0
          have hfz108_1 := blk_frozen BK893.out 1
          have hnb109 := NB892_0.out
          have hnc109 := NB0_892.out
          have hcz110_0 : w107.cell? ⟨gb892, 0, none⟩ = some (.slice none 0 0) := (blk_cell BK892.out 0).trans rfl
          have hcz110_1 : w107.cell? ⟨gb892, 1, none⟩ = some (.slice none 0 0) := (blk_cell BK892.out 1).trans rfl
          have hfz110_0 := blk_frozen BK892.out 0
          have hfz110_1 := blk_frozen BK892.out 1
          obtain ⟨Ao111, co111, eo111⟩ := Kd.R_slice HO_894001.out
          subst eo111
          try go_wp2
          refine bodyPost_ret (results_cell_row rfl _ _ gb892 51 #[.slice (some ⟨go95, 0, none⟩) x894000_2.length co100, .slice Ao111 x894001_2.length co111] (0, 0) _ rfl (by (with_reducible repeat first | apply bN | apply bD | apply bA); refine blk_put (cs := #[.slice (some ⟨go95, 0, none⟩) x894000_2.length co100, .slice none 0 0]) ?_ 1 _ rfl; (with_reducible repeat first | apply bN | apply bD | apply bA); refine blk_put (cs := #[.slice none 0 0, .slice none 0 0]) ?_ 0 _ rfl; (with_reducible repeat first | apply bN | apply bD | apply bA); exact BK892.out) Try.underlying51 rfl (by kernel_rfl)) rfl ?_
          exact ⟨_, _, by first | rfl | (simp [errW_none, errW_some] <;> rfl) | (simp [*, errW_none, errW_some] <;> rfl), by (with_reducible repeat first | apply Kd.R_alloc | apply Kd.R_drewN | apply Kd.R_drew); exact Kd.R_mono (Kd.R_far (p := ⟨gb892, 1, none⟩) (Kd.R_far (p := ⟨gb892, 0, none⟩) (Kd.R_types HO_894000.out BK892.out (by decide)) (fun _ hk => hk.2) (.slice (some ⟨go95, 0, none⟩) x894000_2.length co100)) (fun _ hk => hk.2) (.slice Ao111 x894001_2.length co111)) (fun _ hk => trivial), by (with_reducible repeat first | apply Kd.R_alloc | apply Kd.R_drewN | apply Kd.R_drew); exact Kd.R_mono (Kd.R_far (p := ⟨gb892, 1, none⟩) (Kd.R_far (p := ⟨gb892, 0, none⟩) (Kd.R_types HO_894001.out BK892.out (by decide)) (fun _ hk => hk.2) (.slice (some ⟨go95, 0, none⟩) x894000_2.length co100)) (fun _ hk => hk.2) (.slice Ao111 x894001_2.length co111)) (fun _ hk => trivial), by repeat (first | (with_reducible first | exact HI0.out | apply IsS106.alloc | apply IsS106.drewN | apply IsS106.drew | apply IsS106.set_1 | apply IsS106.set_2 | refine IsS106.far ?_ NB0_892.out _ | refine IsS106.far ?_ NB0_893.out _) | exact HI0.out), by repeat (first | (with_reducible first | exact HB.out | apply eA | apply eN | apply eD | refine below_set ?_ (IsS106.ge HI0.out) | refine below_set ?_ GE892.out | refine below_set ?_ GE893.out) | exact HB.out), by repeat (first | (with_reducible first | exact HK.out | apply KeepBut.set_ | apply keep_drewN | apply keep_drew | apply keep_alloc | refine keep_far ?_ GW892.out _ | refine keep_far ?_ GW893.out _) | exact HK.out)⟩
         ·rw [if_neg c94] at H
          exact absurd H (by simp)
        ·rw [if_neg c92] at H
         have c92b0 : decide (0 < (x894000_2.length : Int)) = false := decide_eq_false c92
         have c92b1 : decide (0 < x894000_2.length) = false := decide_eq_false (by omega)
         clear c92
         simp only [Option.some.injEq, Prod.mk.injEq] at H
         obtain ⟨rfl, rfl, rfl, rfl⟩ := H
         go_wp2_with (first | ((with_reducible refine gate_callee (f := 102) rfl ?_); refine goesL_ (some 75) rfl rfl Try.func102 (by kernel_rfl) rfl #[.pointer (some ⟨g, 0, none⟩), .int .i64 40] rfl (by (try simp only [List.map_toArray, List.map_cons, List.map_nil]); first | done | rfl | (simp only [List.length_drop, List.length_take]; rfl)) ?_; (with_reducible refine (spec_l1Cur_pick.calls g s0_0 x1001_2 x1002_2 40 t953 t954 t955 w0 _ ?side1 ?side2 A75.out).mono ?_); (case side1 => repeat (first | (with_reducible first | exact HI0.out | apply IsS106.alloc | apply IsS106.drewN | apply IsS106.drew | apply IsS106.set_1 | apply IsS106.set_2 | refine IsS106.far ?_ NB0_892.out _ | refine IsS106.far ?_ NB0_893.out _) | exact HI0.out)); (case side2 => repeat (first | (with_reducible first | exact HB.out | apply eA | apply eN | apply eD | refine below_set ?_ (IsS106.ge HI0.out) | refine below_set ?_ GE892.out | refine below_set ?_ GE893.out) | exact HB.out)); rintro e w112 ⟨rfl, hi, hb, hk⟩; refine ⟨_, rfl, ?_⟩; have n0_ := Aside0.mk (Kd.R_mono (Kd.R_keep (IsS106.apart (show IsS106 w0 _ g s0_0 x1001_2 x1002_2 from by repeat (first | (with_reducible first | exact HI0.out | apply IsS106.alloc | apply IsS106.drewN | apply IsS106.drew | apply IsS106.set_1 | apply IsS106.set_2 | refine IsS106.far ?_ NB0_892.out _ | refine IsS106.far ?_ NB0_893.out _) | exact HI0.out)) (by (with_reducible repeat first | apply Kd.R_alloc | apply Kd.R_drewN | apply Kd.R_drew); exact HO_894000.out) (by decide)) hk (fun _ h => h.2)) (fun _ h => h.1)); have n1_ := Aside0.mk (Kd.R_mono (Kd.R_keep (IsS106.apart (show IsS106 w0 _ g s0_0 x1001_2 x1002_2 from by repeat (first | (with_reducible first | exact HI0.out | apply IsS106.alloc | apply IsS106.drewN | apply IsS106.drew | apply IsS106.set_1 | apply IsS106.set_2 | refine IsS106.far ?_ NB0_892.out _ | refine IsS106.far ?_ NB0_893.out _) | exact HI0.out)) (by (with_reducible repeat first | apply Kd.R_alloc | apply Kd.R_drewN | apply Kd.R_drew); exact HO_894001.out) (by decide)) hk (fun _ h => h.2)) (fun _ h => h.1)); have n2_ := Aside0.mk (KeepBut.blk hk (g' := gb892) (o := .cells #[.slice none 0 0, .slice none 0 0] 51 (0, 0)) (by (with_reducible repeat first | apply bN | apply bD | apply bA); exact BK892.out) NB892_0.out (by simp)); have n3_ := Aside0.mk (KeepBut.blk hk (g' := gb893) (o := .cells #[u894000, u894001] 51 (0, 0)) (by (with_reducible repeat first | apply bN | apply bD | apply bA); exact BK893.out) NB893_0.out (by simp)); have n4_ := Aside0.mk (KeepBut.trans (by repeat (first | (with_reducible first | exact HK.out | apply KeepBut.set_ | apply keep_drewN | apply keep_drew | apply keep_alloc | refine keep_far ?_ GW892.out _ | refine keep_far ?_ GW893.out _) | exact HK.out)) hk (.inl rfl)); have n5_ := Aside0.mk (hb); have n6_ := Aside0.mk (hi); clear HO_894000 HO_894001; clear BK892 BK893; clear HK HB HI0; have HO_894000 := n0_; have HO_894001 := n1_; have BK892 := n2_; have BK893 := n3_; have HK := n4_; have HB := n5_; have HI0 := n6_; clear n0_ n1_ n2_ n3_ n4_ n5_ n6_; (try clear hb); (try clear hb2); (try clear hk); (try clear hi); have hnb113 := NB893_892.out; have hnc113 := NB892_893.out; have hnb114 := NB893_0.out; have hnc114 := NB0_893.out; have hcz115_0 : w112.cell? ⟨gb893, 0, none⟩ = some (u894000) := (blk_cell BK893.out 0).trans rfl; have hcz115_1 : w112.cell? ⟨gb893, 1, none⟩ = some (u894001) := (blk_cell BK893.out 1).trans rfl; have hfz115_0 := blk_frozen BK893.out 0; have hfz115_1 := blk_frozen BK893.out 1; obtain ⟨Ao116, co116, eo116⟩ := Kd.R_slice HO_894000.out; subst eo116; have hnb117 := NB892_0.out; have hnc117 := NB0_892.out; have hcz118_0 : w112.cell? ⟨gb892, 0, none⟩ = some (.slice none 0 0) := (blk_cell BK892.out 0).trans rfl; have hcz118_1 : w112.cell? ⟨gb892, 1, none⟩ = some (.slice none 0 0) := (blk_cell BK892.out 1).trans rfl; have hfz118_0 := blk_frozen BK892.out 0; have hfz118_1 := blk_frozen BK892.out 1; obtain ⟨Ao119, co119, eo119⟩ := Kd.R_slice HO_894001.out; subst eo119))
         refine bodyPost_ret (results_cell_row rfl _ _ gb892 51 #[.slice Ao116 x894000_2.length co116, .slice Ao119 x894001_2.length co119] (0, 0) _ rfl (by (with_reducible repeat first | apply bN | apply bD | apply bA); refine blk_put (cs := #[.slice Ao116 x894000_2.length co116, .slice none 0 0]) ?_ 1 _ rfl; (with_reducible repeat first | apply bN | apply bD | apply bA); refine blk_put (cs := #[.slice none 0 0, .slice none 0 0]) ?_ 0 _ rfl; (with_reducible repeat first | apply bN | apply bD | apply bA); exact BK892.out) Try.underlying51 rfl (by kernel_rfl)) rfl ?_
         exact ⟨_, _, by first | rfl | (simp [errW_none, errW_some] <;> rfl) | (simp [*, errW_none, errW_some] <;> rfl), by (with_reducible repeat first | apply Kd.R_alloc | apply Kd.R_drewN | apply Kd.R_drew); exact Kd.R_mono (Kd.R_far (p := ⟨gb892, 1, none⟩) (Kd.R_far (p := ⟨gb892, 0, none⟩) (Kd.R_types HO_894000.out BK892.out (by decide)) (fun _ hk => hk.2) (.slice Ao116 x894000_2.length co116)) (fun _ hk => hk.2) (.slice Ao119 x894001_2.length co119)) (fun _ hk => trivial), by (with_reducible repeat first | apply Kd.R_alloc | apply Kd.R_drewN | apply Kd.R_drew); exact Kd.R_mono (Kd.R_far (p := ⟨gb892, 1, none⟩) (Kd.R_far (p := ⟨gb892, 0, none⟩) (Kd.R_types HO_894001.out BK892.out (by decide)) (fun _ hk => hk.2) (.slice Ao116 x894000_2.length co116)) (fun _ hk => hk.2) (.slice Ao119 x894001_2.length co119)) (fun _ hk => trivial), by repeat (first | (with_reducible first | exact HI0.out | apply IsS106.alloc | apply IsS106.drewN | apply IsS106.drew | apply IsS106.set_1 | apply IsS106.set_2 | refine IsS106.far ?_ NB0_892.out _ | refine IsS106.far ?_ NB0_893.out _) | exact HI0.out), by repeat (first | (with_reducible first | exact HB.out | apply eA | apply eN | apply eD | refine below_set ?_ (IsS106.ge HI0.out) | refine below_set ?_ GE892.out | refine below_set ?_ GE893.out) | exact HB.out), by repeat (first | (with_reducible first | exact HK.out | apply KeepBut.set_ | apply keep_drewN | apply keep_drew | apply keep_alloc | refine keep_far ?_ GW892.out _ | refine keep_far ?_ GW893.out _) | exact HK.out)⟩
       ·rw [if_neg c91] at H
        have c91b0 : (t953 == 1) = false := beq_eq_false_iff_ne.mpr c91
        have c91b1 : (t953 != 1) = true := bne_iff_ne.mpr c91
        simp only [Option.some.injEq, Prod.mk.injEq] at H
        obtain ⟨rfl, rfl, rfl, rfl⟩ := H
        go_wp2_with (first | ((with_reducible refine gate_callee (f := 102) rfl ?_); refine goesL_ (some 75) rfl rfl Try.func102 (by kernel_rfl) rfl #[.pointer (some ⟨g, 0, none⟩), .int .i64 40] rfl (by (try simp only [List.map_toArray, List.map_cons, List.map_nil]); first | done | rfl | (simp only [List.length_drop, List.length_take]; rfl)) ?_; (with_reducible refine (spec_l1Cur_pick.calls g s0_0 x1001_2 x1002_2 40 t953 t954 t955 w0 _ ?side1 ?side2 A75.out).mono ?_); (case side1 => repeat (first | (with_reducible first | exact HI0.out | apply IsS106.alloc | apply IsS106.drewN | apply IsS106.drew | apply IsS106.set_1 | apply IsS106.set_2 | refine IsS106.far ?_ NB0_892.out _ | refine IsS106.far ?_ NB0_893.out _) | exact HI0.out)); (case side2 => repeat (first | (with_reducible first | exact HB.out | apply eA | apply eN | apply eD | refine below_set ?_ (IsS106.ge HI0.out) | refine below_set ?_ GE892.out | refine below_set ?_ GE893.out) | exact HB.out)); rintro e w120 ⟨rfl, hi, hb, hk⟩; refine ⟨_, rfl, ?_⟩; have n0_ := Aside0.mk (Kd.R_mono (Kd.R_keep (IsS106.apart (show IsS106 w0 _ g s0_0 x1001_2 x1002_2 from by repeat (first | (with_reducible first | exact HI0.out | apply IsS106.alloc | apply IsS106.drewN | apply IsS106.drew | apply IsS106.set_1 | apply IsS106.set_2 | refine IsS106.far ?_ NB0_892.out _ | refine IsS106.far ?_ NB0_893.out _) | exact HI0.out)) (by (with_reducible repeat first | apply Kd.R_alloc | apply Kd.R_drewN | apply Kd.R_drew); exact HO_894000.out) (by decide)) hk (fun _ h => h.2)) (fun _ h => h.1)); have n1_ := Aside0.mk (Kd.R_mono (Kd.R_keep (IsS106.apart (show IsS106 w0 _ g s0_0 x1001_2 x1002_2 from by repeat (first | (with_reducible first | exact HI0.out | apply IsS106.alloc | apply IsS106.drewN | apply IsS106.drew | apply IsS106.set_1 | apply IsS106.set_2 | refine IsS106.far ?_ NB0_892.out _ | refine IsS106.far ?_ NB0_893.out _) | exact HI0.out)) (by (with_reducible repeat first | apply Kd.R_alloc | apply Kd.R_drewN | apply Kd.R_drew); exact HO_894001.out) (by decide)) hk (fun _ h => h.2)) (fun _ h => h.1)); have n2_ := Aside0.mk (KeepBut.blk hk (g' := gb892) (o := .cells #[.slice none 0 0, .slice none 0 0] 51 (0, 0)) (by (with_reducible repeat first | apply bN | apply bD | apply bA); exact BK892.out) NB892_0.out (by simp)); have n3_ := Aside0.mk (KeepBut.blk hk (g' := gb893) (o := .cells #[u894000, u894001] 51 (0, 0)) (by (with_reducible repeat first | apply bN | apply bD | apply bA); exact BK893.out) NB893_0.out (by simp)); have n4_ := Aside0.mk (KeepBut.trans (by repeat (first | (with_reducible first | exact HK.out | apply KeepBut.set_ | apply keep_drewN | apply keep_drew | apply keep_alloc | refine keep_far ?_ GW892.out _ | refine keep_far ?_ GW893.out _) | exact HK.out)) hk (.inl rfl)); have n5_ := Aside0.mk (hb); have n6_ := Aside0.mk (hi); clear HO_894000 HO_894001; clear BK892 BK893; clear HK HB HI0; have HO_894000 := n0_; have HO_894001 := n1_; have BK892 := n2_; have BK893 := n3_; have HK := n4_; have HB := n5_; have HI0 := n6_; clear n0_ n1_ n2_ n3_ n4_ n5_ n6_; (try clear hb); (try clear hb2); (try clear hk); (try clear hi); have hnb121 := NB893_892.out; have hnc121 := NB892_893.out; have hnb122 := NB893_0.out; have hnc122 := NB0_893.out; have hcz123_0 : w120.cell? ⟨gb893, 0, none⟩ = some (u894000) := (blk_cell BK893.out 0).trans rfl; have hcz123_1 : w120.cell? ⟨gb893, 1, none⟩ = some (u894001) := (blk_cell BK893.out 1).trans rfl; have hfz123_0 := blk_frozen BK893.out 0; have hfz123_1 := blk_frozen BK893.out 1; obtain ⟨Ao124, co124, eo124⟩ := Kd.R_slice HO_894000.out; subst eo124; have hnb125 := NB892_0.out; have hnc125 := NB0_892.out; have hcz126_0 : w120.cell? ⟨gb892, 0, none⟩ = some (.slice none 0 0) := (blk_cell BK892.out 0).trans rfl; have hcz126_1 : w120.cell? ⟨gb892, 1, none⟩ = some (.slice none 0 0) := (blk_cell BK892.out 1).trans rfl; have hfz126_0 := blk_frozen BK892.out 0; have hfz126_1 := blk_frozen BK892.out 1; obtain ⟨Ao127, co127, eo127⟩ := Kd.R_slice HO_894001.out; subst eo127))
        refine bodyPost_ret (results_cell_row rfl _ _ gb892 51 #[.slice Ao124 x894000_2.length co124, .slice Ao127 x894001_2.length co127] (0, 0) _ rfl (by (with_reducible repeat first | apply bN | apply bD | apply bA); refine blk_put (cs := #[.slice Ao124 x894000_2.length co124, .slice none 0 0]) ?_ 1 _ rfl; (with_reducible repeat first | apply bN | apply bD | apply bA); refine blk_put (cs := #[.slice none 0 0, .slice none 0 0]) ?_ 0 _ rfl; (with_reducible repeat first | apply bN | apply bD | apply bA); exact BK892.out) Try.underlying51 rfl (by kernel_rfl)) rfl ?_
        exact ⟨_, _, by first | rfl | (simp [errW_none, errW_some] <;> rfl) | (simp [*, errW_none, errW_some] <;> rfl), by (with_reducible repeat first | apply Kd.R_alloc | apply Kd.R_drewN | apply Kd.R_drew); exact Kd.R_mono (Kd.R_far (p := ⟨gb892, 1, none⟩) (Kd.R_far (p := ⟨gb892, 0, none⟩) (Kd.R_types HO_894000.out BK892.out (by decide)) (fun _ hk => hk.2) (.slice Ao124 x894000_2.length co124)) (fun _ hk => hk.2) (.slice Ao127 x894001_2.length co127)) (fun _ hk => trivial), by (with_reducible repeat first | apply Kd.R_alloc | apply Kd.R_drewN | apply Kd.R_drew); exact Kd.R_mono (Kd.R_far (p := ⟨gb892, 1, none⟩) (Kd.R_far (p := ⟨gb892, 0, none⟩) (Kd.R_types HO_894001.out BK892.out (by decide)) (fun _ hk => hk.2) (.slice Ao124 x894000_2.length co124)) (fun _ hk => hk.2) (.slice Ao127 x894001_2.length co127)) (fun _ hk => trivial), by repeat (first | (with_reducible first | exact HI0.out | apply IsS106.alloc | apply IsS106.drewN | apply IsS106.drew | apply IsS106.set_1 | apply IsS106.set_2 | refine IsS106.far ?_ NB0_892.out _ | refine IsS106.far ?_ NB0_893.out _) | exact HI0.out), by repeat (first | (with_reducible first | exact HB.out | apply eA | apply eN | apply eD | refine below_set ?_ (IsS106.ge HI0.out) | refine below_set ?_ GE892.out | refine below_set ?_ GE893.out) | exact HB.out), by repeat (first | (with_reducible first | exact HK.out | apply KeepBut.set_ | apply keep_drewN | apply keep_drew | apply keep_alloc | refine keep_far ?_ GW892.out _ | refine keep_far ?_ GW893.out _) | exact HK.out)⟩

end Go.Proofs.Ytoomeeoijbkmnaa.PH
