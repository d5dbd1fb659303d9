/-
  The functions of worlds: what they compute, and the laws of it.
-/
import Derived.StillTailTactics
import Derived.Lib.Hide
import Derived.Test.YtdoflfifnkpacaaC19WqMk
namespace Go.Proofs.Ytdoflfifnkpacaa.WO.LA
open Go Go.RowKit Go.Proofs.YtdoflfifnkpacaaW.PrintWords Go.Proofs.YtdoflfifnkpacaaW.PrintLast Go.Proofs.YtdoflfifnkpacaaW.PrintMore
attribute [local go_sem] max2_int min2_int max_two min_two max_three min_three max_four min_four
set_option linter.unusedVariables false
set_option linter.unusedSimpArgs false
theorem at_I {w : World} {A : Option Addr} {n : Nat} {xs : List Int} (h : Kd.C (Kd.int .i64) w A n xs) (i : Int) (h0 : 0 ≤ i) (h1 : i < n) : ∃ ad, A = some ad ∧ w.cell? (ad.add i.toNat) = some (.int .i64 (rd xs i)) := by
  obtain ⟨ad, c, e, _, hK, hc0⟩ := Kd.C_get h (0 : Int) i h0 h1
  have hc : ∀ j u, c[j]? = some u → w.cell? (ad.add (i.toNat * 1 + j)) = some u := hc0
  obtain rfl := hK
  have := hc 0 _ rfl
  rw [Nat.mul_one, Nat.add_zero] at this
  exact ⟨ad, e, this⟩
set_option maxHeartbeats 2000000 in
set_option maxRecDepth 100000 in
theorem eqIntS_ (l : List Int) {A D : Option Addr} {c d : Nat} (w : World) (hA : Kd.C (Kd.int .i64) w A l.length l) (hD : Kd.C (Kd.int .i64) w D l.length l) (la : l.length ≤ c) (ld : l.length ≤ d) :
    Calls Try.prog 34 #[.slice A l.length c, .slice D l.length d] w fun e w' => e = .returned (.bool true) ∧ Below w.heap.size w w' := by
  have HA := Aside0.mk hA
  have HD := Aside0.mk hD
  have HB := Aside0.mk (Below.refl w.heap.size w)
  have BL := Aside0.mk (show l.length ≤ 9223372036854775807 from hA.2.1)
  clear hA hD la ld
  go_enter Try.func34, Try.ntmps34
  go_wp2
  go_loopw [5] (fun v5 wr => ∃ x : Int, v5 = .int .i64 x ∧ Aside0 (0 ≤ x) ∧ Aside0 (x ≤ l.length) ∧ Aside0 (Below w.heap.size w wr)) (fun v5 _ => l.length - (intOf v5).toNat)
  case atStart => exact ⟨0, rfl, ⟨Int.le_refl _⟩, ⟨by omega⟩, HB⟩
  case round =>
    clear HB
    obtain ⟨x, rfl, X0, X1, HB⟩ := hrel
    by_cases hlt : x < (l.length : Int)
    case neg =>
      have nlt : decide (x < (l.length : Int)) = false := decide_eq_false hlt
      go_wp2
      go_ret
      exact ⟨rfl, HB.out⟩
    have nlt : decide (x < (l.length : Int)) = true := decide_eq_true hlt
    have q0 : (0 ≤ x) = True := eq_true X0.out
    have q1 : (x < (l.length : Int)) = True := eq_true hlt
    have w64 : IntKind.i64.wrap (x + 1) = x + 1 := IntWalk.i64_in _ (by have := BL.out; have := X0.out; omega)
    obtain ⟨ad, ea, x0⟩ := at_I (Kd.C_below HA.out HB.out) x X0.out hlt
    obtain ⟨dd, ed, y0⟩ := at_I (Kd.C_below HD.out HB.out) x X0.out hlt
    subst ea ed
    have HI := Aside0.mk hlt
    clear hlt
    go_wp2
    repeat (go_quiet (fail); try go_wp2)
    go_roundw
    case rel => exact ⟨x + 1, rfl, ⟨by have := X0.out; omega⟩, ⟨by have := HI.out; omega⟩, ⟨pw_below_drewN HB.out _⟩⟩
    case measure => simp [intOf]; have := HI.out; have := X0.out; omega
set_option maxHeartbeats 2000000 in
set_option maxRecDepth 100000 in
theorem eqThing_ (x : S67) (w : World)  :
    Calls Try.prog 131 #[.agg #[.int .i64 x.f0, .bool x.f1], .agg #[.int .i64 x.f0, .bool x.f1]] w fun e w' => e = .returned (.bool true) ∧ Below w.heap.size w w' := by
  have HL := Aside0.mk (Lay.nil w w.heap.size)
  have HB := Aside0.mk (Below.refl w.heap.size w)
  have HZ := Aside0.mk (Nat.le_refl w.heap.size)
  go_enter Try.func131, Try.ntmps131
  go_upto_region 1 with (first | ((with_reducible refine gate_dst (N := 2) rfl ?_); refine HL.out.box_ev HB.out HZ.out rfl (N := 2) rfl [.int .i64 x.f0, .bool x.f1] 67 (by first | (go_simp; done) | (go_simp; rfl)) ?_; intro g2 w1 hl_ hb_ hz_; replace HL := Aside0.mk hl_; replace HB := Aside0.mk hb_; replace HZ := Aside0.mk hz_; clear hl_ hb_ hz_) | ((with_reducible refine gate_dst (N := 3) rfl ?_); refine HL.out.box_ev HB.out HZ.out rfl (N := 3) rfl [.int .i64 x.f0, .bool x.f1] 67 (by first | (go_simp; done) | (go_simp; rfl)) ?_; intro g3 w2 hl_ hb_ hz_; replace HL := Aside0.mk hl_; replace HB := Aside0.mk hb_; replace HZ := Aside0.mk hz_; clear hl_ hb_ hz_))
  have b0 := HL.out.cell 0 rfl; have e0 := HL.out.tail.cell 0 rfl; have b1 := HL.out.cell 1 rfl; have e1 := HL.out.tail.cell 1 rfl
  go_wp2
  go_ret
  exact ⟨rfl, HB.out⟩
set_option maxHeartbeats 2000000 in
set_option maxRecDepth 100000 in
theorem eqThingS_ (l : List S67) {A D : Option Addr} {c d : Nat} (w : World) (hA : Kd.C k67 w A l.length l) (hD : Kd.C k67 w D l.length l) (la : l.length ≤ c) (ld : l.length ≤ d) :
    Calls Try.prog 84 #[.slice A l.length c, .slice D l.length d] w fun e w' => e = .returned (.bool true) ∧ Below w.heap.size w w' := by
  have HA := Aside0.mk hA
  have HD := Aside0.mk hD
  have HB := Aside0.mk (Below.refl w.heap.size w)
  have BL := Aside0.mk (show l.length ≤ 9223372036854775807 from hA.2.1)
  clear hA hD la ld
  go_enter Try.func84, Try.ntmps84
  go_wp2
  go_loopw [5] (fun v5 wr => ∃ x : Int, v5 = .int .i64 x ∧ Aside0 (0 ≤ x) ∧ Aside0 (x ≤ l.length) ∧ Aside0 (Below w.heap.size w wr)) (fun v5 _ => l.length - (intOf v5).toNat)
  case atStart => exact ⟨0, rfl, ⟨Int.le_refl _⟩, ⟨by omega⟩, HB⟩
  case round =>
    clear HB
    obtain ⟨x, rfl, X0, X1, HB⟩ := hrel
    by_cases hlt : x < (l.length : Int)
    case neg =>
      have nlt : decide (x < (l.length : Int)) = false := decide_eq_false hlt
      go_wp2
      go_ret
      exact ⟨rfl, HB.out⟩
    have nlt : decide (x < (l.length : Int)) = true := decide_eq_true hlt
    have q0 : (0 ≤ x) = True := eq_true X0.out
    have q1 : (x < (l.length : Int)) = True := eq_true hlt
    have w64 : IntKind.i64.wrap (x + 1) = x + 1 := IntWalk.i64_in _ (by have := BL.out; have := X0.out; omega)
    obtain ⟨ad, ead, x0, x1⟩ := at_T67 (Kd.C_below HA.out HB.out) x X0.out hlt
    obtain ⟨dd, edd, y0, y1⟩ := at_T67 (Kd.C_below HD.out HB.out) x X0.out hlt
    subst ead edd
    have HI := Aside0.mk hlt
    clear hlt
    go_upto_region 6 with (fail)
    refine draw_call (A := ?_) 8 1 [false, false, false, true, false, false, false, true] [false] Try.func131 (by kernel_rfl) rfl #[.agg #[.int .i64 (rd_T67 l x).f0, .bool (rd_T67 l x).f1], .agg #[.int .i64 (rd_T67 l x).f0, .bool (rd_T67 l x).f1]] (by kernel_rfl) rfl _ rfl rfl rfl (S := fun W => Below wr.heap.size wr W) (by kernel_rfl) (fun _ _ _ d _ h => by cases d <;> exact h) (pw_below_drewN (Below.refl _ _) 1) ?_ ?_ ?_
    rotate_left
    · simp only [List.take_succ_cons, List.take_zero, List.drop_succ_cons, List.drop_zero]
      repeat (first | (refine hdF_ _ rfl (by rfl) (v := ?_) (a' := ?_) (fun W => by go_simp; with_reducible rfl) (by simp only [Act.put, List.setIfInBounds_toArray, List.set_cons_zero, List.set_cons_succ, i64_w, i32_w]; rfl) ?_) | (refine hdT_ _ rfl (by rfl) (v := ?_) (a' := ?_) (fun W hW => by have x0 := pw_cell_below hW x0; have x1 := pw_cell_below hW x1; have y0 := pw_cell_below hW y0; have y1 := pw_cell_below hW y1; go_simp; with_reducible rfl) (by simp only [Act.put, List.setIfInBounds_toArray, List.set_cons_zero, List.set_cons_succ, i64_w, i32_w]; rfl) ?_))
      exact hd_end
    · first | rfl | (go_simp; done) | (go_simp; rfl)
    refine (eqThing_ (rd_T67 l x) wr.drew).mono ?_
    rintro e_ w2_ ⟨rfl, hb_⟩
    refine ⟨_, rfl, (pw_below_drewN (Below.refl _ _) 1).trans hb_, ?_, ?_, ?_⟩
    rotate_left
    · simp only [List.take_succ_cons, List.take_zero, List.drop_succ_cons, List.drop_zero]
      repeat (first | (refine hdF_ _ rfl (by rfl) (v := ?_) (a' := ?_) (fun W => by go_simp; with_reducible rfl) (by simp only [Act.put, List.setIfInBounds_toArray, List.set_cons_zero, List.set_cons_succ, i64_w, i32_w]; rfl) ?_) | (refine hdT_ _ rfl (by rfl) (v := ?_) (a' := ?_) (fun W hW => by go_simp; with_reducible rfl) (by simp only [Act.put, List.setIfInBounds_toArray, List.set_cons_zero, List.set_cons_succ, i64_w, i32_w]; rfl) ?_))
      exact hd_end
    simp only [List.drop_succ_cons, List.drop_zero, Act.put, List.setIfInBounds_toArray, List.set_cons_zero, List.set_cons_succ]
    replace HB := Aside0.mk (below_up HB.out HB.out.size ((pw_below_drewN (Below.refl _ _) 1).trans hb_))
    clear hb_ x0 x1 y0 y1
    go_wp2
    go_roundw
    case rel => exact ⟨x + 1, rfl, ⟨by have := X0.out; omega⟩, ⟨by have := HI.out; omega⟩, HB⟩
    case measure => simp [intOf]; have := HI.out; have := X0.out; omega
set_option maxHeartbeats 2000000 in
set_option maxRecDepth 100000 in
theorem eqHandle_ (x : S75) (w : World)  :
    Calls Try.prog 161 #[.agg #[.bool x.f0, .int .i64 x.f1, .int .i64 x.f2, .bool x.f3, .int .i64 x.f4, .int .i64 x.f5], .agg #[.bool x.f0, .int .i64 x.f1, .int .i64 x.f2, .bool x.f3, .int .i64 x.f4, .int .i64 x.f5]] w fun e w' => e = .returned (.bool true) ∧ Below w.heap.size w w' := by
  have HL := Aside0.mk (Lay.nil w w.heap.size)
  have HB := Aside0.mk (Below.refl w.heap.size w)
  have HZ := Aside0.mk (Nat.le_refl w.heap.size)
  go_enter Try.func161, Try.ntmps161
  go_upto_region 1 with (first | ((with_reducible refine gate_dst (N := 2) rfl ?_); refine HL.out.box_ev HB.out HZ.out rfl (N := 2) rfl [.bool x.f0, .int .i64 x.f1, .int .i64 x.f2, .bool x.f3, .int .i64 x.f4, .int .i64 x.f5] 75 (by first | (go_simp; done) | (go_simp; rfl)) ?_; intro g2 w1 hl_ hb_ hz_; replace HL := Aside0.mk hl_; replace HB := Aside0.mk hb_; replace HZ := Aside0.mk hz_; clear hl_ hb_ hz_) | ((with_reducible refine gate_dst (N := 3) rfl ?_); refine HL.out.box_ev HB.out HZ.out rfl (N := 3) rfl [.bool x.f0, .int .i64 x.f1, .int .i64 x.f2, .bool x.f3, .int .i64 x.f4, .int .i64 x.f5] 75 (by first | (go_simp; done) | (go_simp; rfl)) ?_; intro g3 w2 hl_ hb_ hz_; replace HL := Aside0.mk hl_; replace HB := Aside0.mk hb_; replace HZ := Aside0.mk hz_; clear hl_ hb_ hz_))
  have b0 := HL.out.cell 0 rfl; have e0 := HL.out.tail.cell 0 rfl; have b1 := HL.out.cell 1 rfl; have e1 := HL.out.tail.cell 1 rfl; have b2 := HL.out.cell 2 rfl; have e2 := HL.out.tail.cell 2 rfl; have b3 := HL.out.cell 3 rfl; have e3 := HL.out.tail.cell 3 rfl; have b4 := HL.out.cell 4 rfl; have e4 := HL.out.tail.cell 4 rfl; have b5 := HL.out.cell 5 rfl; have e5 := HL.out.tail.cell 5 rfl
  go_wp2
  go_ret
  exact ⟨rfl, HB.out⟩
set_option maxHeartbeats 2000000 in
set_option maxRecDepth 100000 in
theorem eqHandleS_ (l : List S75) {A D : Option Addr} {c d : Nat} (w : World) (hA : Kd.C k75 w A l.length l) (hD : Kd.C k75 w D l.length l) (la : l.length ≤ c) (ld : l.length ≤ d) :
    Calls Try.prog 153 #[.slice A l.length c, .slice D l.length d] w fun e w' => e = .returned (.bool true) ∧ Below w.heap.size w w' := by
  have HA := Aside0.mk hA
  have HD := Aside0.mk hD
  have HB := Aside0.mk (Below.refl w.heap.size w)
  have BL := Aside0.mk (show l.length ≤ 9223372036854775807 from hA.2.1)
  clear hA hD la ld
  go_enter Try.func153, Try.ntmps153
  go_wp2
  go_loopw [5] (fun v5 wr => ∃ x : Int, v5 = .int .i64 x ∧ Aside0 (0 ≤ x) ∧ Aside0 (x ≤ l.length) ∧ Aside0 (Below w.heap.size w wr)) (fun v5 _ => l.length - (intOf v5).toNat)
  case atStart => exact ⟨0, rfl, ⟨Int.le_refl _⟩, ⟨by omega⟩, HB⟩
  case round =>
    clear HB
    obtain ⟨x, rfl, X0, X1, HB⟩ := hrel
    by_cases hlt : x < (l.length : Int)
    case neg =>
      have nlt : decide (x < (l.length : Int)) = false := decide_eq_false hlt
      go_wp2
      go_ret
      exact ⟨rfl, HB.out⟩
    have nlt : decide (x < (l.length : Int)) = true := decide_eq_true hlt
    have q0 : (0 ≤ x) = True := eq_true X0.out
    have q1 : (x < (l.length : Int)) = True := eq_true hlt
    have w64 : IntKind.i64.wrap (x + 1) = x + 1 := IntWalk.i64_in _ (by have := BL.out; have := X0.out; omega)
    obtain ⟨ad, ead, x0, x1, x2, x3, x4, x5⟩ := at_T75 (Kd.C_below HA.out HB.out) x X0.out hlt
    obtain ⟨dd, edd, y0, y1, y2, y3, y4, y5⟩ := at_T75 (Kd.C_below HD.out HB.out) x X0.out hlt
    subst ead edd
    have HI := Aside0.mk hlt
    clear hlt
    go_upto_region 6 with (fail)
    refine draw_call (A := ?_) 8 1 [false, false, false, true, false, false, false, true] [false] Try.func161 (by kernel_rfl) rfl #[.agg #[.bool (rd_T75 l x).f0, .int .i64 (rd_T75 l x).f1, .int .i64 (rd_T75 l x).f2, .bool (rd_T75 l x).f3, .int .i64 (rd_T75 l x).f4, .int .i64 (rd_T75 l x).f5], .agg #[.bool (rd_T75 l x).f0, .int .i64 (rd_T75 l x).f1, .int .i64 (rd_T75 l x).f2, .bool (rd_T75 l x).f3, .int .i64 (rd_T75 l x).f4, .int .i64 (rd_T75 l x).f5]] (by kernel_rfl) rfl _ rfl rfl rfl (S := fun W => Below wr.heap.size wr W) (by kernel_rfl) (fun _ _ _ d _ h => by cases d <;> exact h) (pw_below_drewN (Below.refl _ _) 1) ?_ ?_ ?_
    rotate_left
    · simp only [List.take_succ_cons, List.take_zero, List.drop_succ_cons, List.drop_zero]
      repeat (first | (refine hdF_ _ rfl (by rfl) (v := ?_) (a' := ?_) (fun W => by go_simp; with_reducible rfl) (by simp only [Act.put, List.setIfInBounds_toArray, List.set_cons_zero, List.set_cons_succ, i64_w, i32_w]; rfl) ?_) | (refine hdT_ _ rfl (by rfl) (v := ?_) (a' := ?_) (fun W hW => by have x0 := pw_cell_below hW x0; have x1 := pw_cell_below hW x1; have x2 := pw_cell_below hW x2; have x3 := pw_cell_below hW x3; have x4 := pw_cell_below hW x4; have x5 := pw_cell_below hW x5; have y0 := pw_cell_below hW y0; have y1 := pw_cell_below hW y1; have y2 := pw_cell_below hW y2; have y3 := pw_cell_below hW y3; have y4 := pw_cell_below hW y4; have y5 := pw_cell_below hW y5; go_simp; with_reducible rfl) (by simp only [Act.put, List.setIfInBounds_toArray, List.set_cons_zero, List.set_cons_succ, i64_w, i32_w]; rfl) ?_))
      exact hd_end
    · first | rfl | (go_simp; done) | (go_simp; rfl)
    refine (eqHandle_ (rd_T75 l x) wr.drew).mono ?_
    rintro e_ w2_ ⟨rfl, hb_⟩
    refine ⟨_, rfl, (pw_below_drewN (Below.refl _ _) 1).trans hb_, ?_, ?_, ?_⟩
    rotate_left
    · simp only [List.take_succ_cons, List.take_zero, List.drop_succ_cons, List.drop_zero]
      repeat (first | (refine hdF_ _ rfl (by rfl) (v := ?_) (a' := ?_) (fun W => by go_simp; with_reducible rfl) (by simp only [Act.put, List.setIfInBounds_toArray, List.set_cons_zero, List.set_cons_succ, i64_w, i32_w]; rfl) ?_) | (refine hdT_ _ rfl (by rfl) (v := ?_) (a' := ?_) (fun W hW => by go_simp; with_reducible rfl) (by simp only [Act.put, List.setIfInBounds_toArray, List.set_cons_zero, List.set_cons_succ, i64_w, i32_w]; rfl) ?_))
      exact hd_end
    simp only [List.drop_succ_cons, List.drop_zero, Act.put, List.setIfInBounds_toArray, List.set_cons_zero, List.set_cons_succ]
    replace HB := Aside0.mk (below_up HB.out HB.out.size ((pw_below_drewN (Below.refl _ _) 1).trans hb_))
    clear hb_ x0 x1 x2 x3 x4 x5 y0 y1 y2 y3 y4 y5
    go_wp2
    go_roundw
    case rel => exact ⟨x + 1, rfl, ⟨by have := X0.out; omega⟩, ⟨by have := HI.out; omega⟩, HB⟩
    case measure => simp [intOf]; have := HI.out; have := X0.out; omega
set_option maxHeartbeats 2000000 in
set_option maxRecDepth 100000 in
theorem eqTable_ (x : S78) {A0 D0 : Option Addr} {c0 d0 : Nat} {A1 D1 : Option Addr} {c1 d1 : Nat} (w : World) (hA0 : Kd.C k75 w A0 x.f0.length x.f0) (hD0 : Kd.C k75 w D0 x.f0.length x.f0) (la0 : x.f0.length ≤ c0) (ld0 : x.f0.length ≤ d0) (hA1 : Kd.C (Kd.int .i64) w A1 x.f1.length x.f1) (hD1 : Kd.C (Kd.int .i64) w D1 x.f1.length x.f1) (la1 : x.f1.length ≤ c1) (ld1 : x.f1.length ≤ d1) :
    Calls Try.prog 132 #[.agg #[.slice A0 x.f0.length c0, .slice A1 x.f1.length c1], .agg #[.slice D0 x.f0.length d0, .slice D1 x.f1.length d1]] w fun e w' => e = .returned (.bool true) ∧ Below w.heap.size w w' := by
  have HL := Aside0.mk (Lay.nil w w.heap.size)
  have HB := Aside0.mk (Below.refl w.heap.size w)
  have HZ := Aside0.mk (Nat.le_refl w.heap.size)
  have HA0 := Aside0.mk (And.intro hA0 (And.intro hD0 (And.intro la0 ld0)))
  clear hA0 hD0 la0 ld0
  have HA1 := Aside0.mk (And.intro hA1 (And.intro hD1 (And.intro la1 ld1)))
  clear hA1 hD1 la1 ld1
  go_enter Try.func132, Try.ntmps132
  go_upto_region 1 with (first | ((with_reducible refine gate_dst (N := 2) rfl ?_); refine HL.out.box_ev HB.out HZ.out rfl (N := 2) rfl [.slice A0 x.f0.length c0, .slice A1 x.f1.length c1] 78 (by first | (go_simp; done) | (go_simp; rfl)) ?_; intro g2 w1 hl_ hb_ hz_; replace HL := Aside0.mk hl_; replace HB := Aside0.mk hb_; replace HZ := Aside0.mk hz_; clear hl_ hb_ hz_) | ((with_reducible refine gate_dst (N := 3) rfl ?_); refine HL.out.box_ev HB.out HZ.out rfl (N := 3) rfl [.slice D0 x.f0.length d0, .slice D1 x.f1.length d1] 78 (by first | (go_simp; done) | (go_simp; rfl)) ?_; intro g3 w2 hl_ hb_ hz_; replace HL := Aside0.mk hl_; replace HB := Aside0.mk hb_; replace HZ := Aside0.mk hz_; clear hl_ hb_ hz_))
  have b0 := HL.out.cell 0 rfl; have e0 := HL.out.tail.cell 0 rfl; have b1 := HL.out.cell 1 rfl; have e1 := HL.out.tail.cell 1 rfl
  go_wp2_with (first | (go_at_call 153; refine (eqHandleS_ x.f0 _ (Kd.C_below HA0.out.1 HB.out) (Kd.C_below HA0.out.2.1 HB.out) HA0.out.2.2.1 HA0.out.2.2.2).mono ?_; rintro e_ w_ ⟨rfl, hb_⟩; replace HL := Aside0.mk (HL.out.below hb_); replace HB := Aside0.mk (below_up HB.out HZ.out hb_); replace HZ := Aside0.mk (Nat.le_trans HZ.out hb_.size); clear hb_ b0 e0 b1 e1; have b0 := HL.out.cell 0 rfl; have e0 := HL.out.tail.cell 0 rfl; have b1 := HL.out.cell 1 rfl; have e1 := HL.out.tail.cell 1 rfl) | (go_at_call 34; refine (eqIntS_ x.f1 _ (Kd.C_below HA1.out.1 HB.out) (Kd.C_below HA1.out.2.1 HB.out) HA1.out.2.2.1 HA1.out.2.2.2).mono ?_; rintro e_ w_ ⟨rfl, hb_⟩; replace HL := Aside0.mk (HL.out.below hb_); replace HB := Aside0.mk (below_up HB.out HZ.out hb_); replace HZ := Aside0.mk (Nat.le_trans HZ.out hb_.size); clear hb_ b0 e0 b1 e1; have b0 := HL.out.cell 0 rfl; have e0 := HL.out.tail.cell 0 rfl; have b1 := HL.out.cell 1 rfl; have e1 := HL.out.tail.cell 1 rfl))
  go_ret
  exact ⟨rfl, HB.out⟩
set_option maxHeartbeats 2000000 in
set_option maxRecDepth 100000 in
theorem eqTableS_ (l : List S78) {A D : Option Addr} {c d : Nat} (w : World) (hA : Kd.C k78 w A l.length l) (hD : Kd.C k78 w D l.length l) (la : l.length ≤ c) (ld : l.length ≤ d) :
    Calls Try.prog 85 #[.slice A l.length c, .slice D l.length d] w fun e w' => e = .returned (.bool true) ∧ Below w.heap.size w w' := by
  have HA := Aside0.mk hA
  have HD := Aside0.mk hD
  have HB := Aside0.mk (Below.refl w.heap.size w)
  have BL := Aside0.mk (show l.length ≤ 9223372036854775807 from hA.2.1)
  clear hA hD la ld
  go_enter Try.func85, Try.ntmps85
  go_wp2
  go_loopw [5] (fun v5 wr => ∃ x : Int, v5 = .int .i64 x ∧ Aside0 (0 ≤ x) ∧ Aside0 (x ≤ l.length) ∧ Aside0 (Below w.heap.size w wr)) (fun v5 _ => l.length - (intOf v5).toNat)
  case atStart => exact ⟨0, rfl, ⟨Int.le_refl _⟩, ⟨by omega⟩, HB⟩
  case round =>
    clear HB
    obtain ⟨x, rfl, X0, X1, HB⟩ := hrel
    by_cases hlt : x < (l.length : Int)
    case neg =>
      have nlt : decide (x < (l.length : Int)) = false := decide_eq_false hlt
      go_wp2
      go_ret
      exact ⟨rfl, HB.out⟩
    have nlt : decide (x < (l.length : Int)) = true := decide_eq_true hlt
    have q0 : (0 ≤ x) = True := eq_true X0.out
    have q1 : (x < (l.length : Int)) = True := eq_true hlt
    have w64 : IntKind.i64.wrap (x + 1) = x + 1 := IntWalk.i64_in _ (by have := BL.out; have := X0.out; omega)
    obtain ⟨ad, sA0, sc0, sA1, sc1, ead, x0, x1, sl0, sg0, sl1, sg1⟩ := at_T78 (Kd.C_below HA.out HB.out) x X0.out hlt
    obtain ⟨dd, uA0, uc0, uA1, uc1, edd, y0, y1, ul0, ug0, ul1, ug1⟩ := at_T78 (Kd.C_below HD.out HB.out) x X0.out hlt
    subst ead edd
    have HI := Aside0.mk hlt
    clear hlt
    go_upto_region 6 with (fail)
    refine draw_call (A := ?_) 8 1 [false, false, false, true, false, false, false, true] [false] Try.func132 (by kernel_rfl) rfl #[.agg #[.slice sA0 (rd_T78 l x).f0.length sc0, .slice sA1 (rd_T78 l x).f1.length sc1], .agg #[.slice uA0 (rd_T78 l x).f0.length uc0, .slice uA1 (rd_T78 l x).f1.length uc1]] (by kernel_rfl) rfl _ rfl rfl rfl (S := fun W => Below wr.heap.size wr W) (by kernel_rfl) (fun _ _ _ d _ h => by cases d <;> exact h) (pw_below_drewN (Below.refl _ _) 1) ?_ ?_ ?_
    rotate_left
    · simp only [List.take_succ_cons, List.take_zero, List.drop_succ_cons, List.drop_zero]
      repeat (first | (refine hdF_ _ rfl (by rfl) (v := ?_) (a' := ?_) (fun W => by go_simp; with_reducible rfl) (by simp only [Act.put, List.setIfInBounds_toArray, List.set_cons_zero, List.set_cons_succ, i64_w, i32_w]; rfl) ?_) | (refine hdT_ _ rfl (by rfl) (v := ?_) (a' := ?_) (fun W hW => by have x0 := pw_cell_below hW x0; have x1 := pw_cell_below hW x1; have y0 := pw_cell_below hW y0; have y1 := pw_cell_below hW y1; go_simp; with_reducible rfl) (by simp only [Act.put, List.setIfInBounds_toArray, List.set_cons_zero, List.set_cons_succ, i64_w, i32_w]; rfl) ?_))
      exact hd_end
    · first | rfl | (go_simp; done) | (go_simp; rfl)
    refine (eqTable_ (rd_T78 l x) wr.drew sg0 ug0 sl0 ul0 sg1 ug1 sl1 ul1).mono ?_
    rintro e_ w2_ ⟨rfl, hb_⟩
    refine ⟨_, rfl, (pw_below_drewN (Below.refl _ _) 1).trans hb_, ?_, ?_, ?_⟩
    rotate_left
    · simp only [List.take_succ_cons, List.take_zero, List.drop_succ_cons, List.drop_zero]
      repeat (first | (refine hdF_ _ rfl (by rfl) (v := ?_) (a' := ?_) (fun W => by go_simp; with_reducible rfl) (by simp only [Act.put, List.setIfInBounds_toArray, List.set_cons_zero, List.set_cons_succ, i64_w, i32_w]; rfl) ?_) | (refine hdT_ _ rfl (by rfl) (v := ?_) (a' := ?_) (fun W hW => by go_simp; with_reducible rfl) (by simp only [Act.put, List.setIfInBounds_toArray, List.set_cons_zero, List.set_cons_succ, i64_w, i32_w]; rfl) ?_))
      exact hd_end
    simp only [List.drop_succ_cons, List.drop_zero, Act.put, List.setIfInBounds_toArray, List.set_cons_zero, List.set_cons_succ]
    replace HB := Aside0.mk (below_up HB.out HB.out.size ((pw_below_drewN (Below.refl _ _) 1).trans hb_))
    clear hb_ x0 x1 y0 y1
    go_wp2
    go_roundw
    case rel => exact ⟨x + 1, rfl, ⟨by have := X0.out; omega⟩, ⟨by have := HI.out; omega⟩, HB⟩
    case measure => simp [intOf]; have := HI.out; have := X0.out; omega
set_option maxHeartbeats 2000000 in
set_option maxRecDepth 100000 in
theorem eqLoan_ (x : S155) (w : World)  :
    Calls Try.prog 133 #[.agg #[.int .i64 x.f0, .int .i64 x.f1, .int .i64 x.f2, .int .i64 x.f3], .agg #[.int .i64 x.f0, .int .i64 x.f1, .int .i64 x.f2, .int .i64 x.f3]] w fun e w' => e = .returned (.bool true) ∧ Below w.heap.size w w' := by
  have HL := Aside0.mk (Lay.nil w w.heap.size)
  have HB := Aside0.mk (Below.refl w.heap.size w)
  have HZ := Aside0.mk (Nat.le_refl w.heap.size)
  go_enter Try.func133, Try.ntmps133
  go_upto_region 1 with (first | ((with_reducible refine gate_dst (N := 2) rfl ?_); refine HL.out.box_ev HB.out HZ.out rfl (N := 2) rfl [.int .i64 x.f0, .int .i64 x.f1, .int .i64 x.f2, .int .i64 x.f3] 155 (by first | (go_simp; done) | (go_simp; rfl)) ?_; intro g2 w1 hl_ hb_ hz_; replace HL := Aside0.mk hl_; replace HB := Aside0.mk hb_; replace HZ := Aside0.mk hz_; clear hl_ hb_ hz_) | ((with_reducible refine gate_dst (N := 3) rfl ?_); refine HL.out.box_ev HB.out HZ.out rfl (N := 3) rfl [.int .i64 x.f0, .int .i64 x.f1, .int .i64 x.f2, .int .i64 x.f3] 155 (by first | (go_simp; done) | (go_simp; rfl)) ?_; intro g3 w2 hl_ hb_ hz_; replace HL := Aside0.mk hl_; replace HB := Aside0.mk hb_; replace HZ := Aside0.mk hz_; clear hl_ hb_ hz_))
  have b0 := HL.out.cell 0 rfl; have e0 := HL.out.tail.cell 0 rfl; have b1 := HL.out.cell 1 rfl; have e1 := HL.out.tail.cell 1 rfl; have b2 := HL.out.cell 2 rfl; have e2 := HL.out.tail.cell 2 rfl; have b3 := HL.out.cell 3 rfl; have e3 := HL.out.tail.cell 3 rfl
  go_wp2
  go_ret
  exact ⟨rfl, HB.out⟩
set_option maxHeartbeats 2000000 in
set_option maxRecDepth 100000 in
theorem eqLoanS_ (l : List S155) {A D : Option Addr} {c d : Nat} (w : World) (hA : Kd.C k155 w A l.length l) (hD : Kd.C k155 w D l.length l) (la : l.length ≤ c) (ld : l.length ≤ d) :
    Calls Try.prog 86 #[.slice A l.length c, .slice D l.length d] w fun e w' => e = .returned (.bool true) ∧ Below w.heap.size w w' := by
  have HA := Aside0.mk hA
  have HD := Aside0.mk hD
  have HB := Aside0.mk (Below.refl w.heap.size w)
  have BL := Aside0.mk (show l.length ≤ 9223372036854775807 from hA.2.1)
  clear hA hD la ld
  go_enter Try.func86, Try.ntmps86
  go_wp2
  go_loopw [5] (fun v5 wr => ∃ x : Int, v5 = .int .i64 x ∧ Aside0 (0 ≤ x) ∧ Aside0 (x ≤ l.length) ∧ Aside0 (Below w.heap.size w wr)) (fun v5 _ => l.length - (intOf v5).toNat)
  case atStart => exact ⟨0, rfl, ⟨Int.le_refl _⟩, ⟨by omega⟩, HB⟩
  case round =>
    clear HB
    obtain ⟨x, rfl, X0, X1, HB⟩ := hrel
    by_cases hlt : x < (l.length : Int)
    case neg =>
      have nlt : decide (x < (l.length : Int)) = false := decide_eq_false hlt
      go_wp2
      go_ret
      exact ⟨rfl, HB.out⟩
    have nlt : decide (x < (l.length : Int)) = true := decide_eq_true hlt
    have q0 : (0 ≤ x) = True := eq_true X0.out
    have q1 : (x < (l.length : Int)) = True := eq_true hlt
    have w64 : IntKind.i64.wrap (x + 1) = x + 1 := IntWalk.i64_in _ (by have := BL.out; have := X0.out; omega)
    obtain ⟨ad, ead, x0, x1, x2, x3⟩ := at_T155 (Kd.C_below HA.out HB.out) x X0.out hlt
    obtain ⟨dd, edd, y0, y1, y2, y3⟩ := at_T155 (Kd.C_below HD.out HB.out) x X0.out hlt
    subst ead edd
    have HI := Aside0.mk hlt
    clear hlt
    go_upto_region 6 with (fail)
    refine draw_call (A := ?_) 8 1 [false, false, false, true, false, false, false, true] [false] Try.func133 (by kernel_rfl) rfl #[.agg #[.int .i64 (rd_T155 l x).f0, .int .i64 (rd_T155 l x).f1, .int .i64 (rd_T155 l x).f2, .int .i64 (rd_T155 l x).f3], .agg #[.int .i64 (rd_T155 l x).f0, .int .i64 (rd_T155 l x).f1, .int .i64 (rd_T155 l x).f2, .int .i64 (rd_T155 l x).f3]] (by kernel_rfl) rfl _ rfl rfl rfl (S := fun W => Below wr.heap.size wr W) (by kernel_rfl) (fun _ _ _ d _ h => by cases d <;> exact h) (pw_below_drewN (Below.refl _ _) 1) ?_ ?_ ?_
    rotate_left
    · simp only [List.take_succ_cons, List.take_zero, List.drop_succ_cons, List.drop_zero]
      repeat (first | (refine hdF_ _ rfl (by rfl) (v := ?_) (a' := ?_) (fun W => by go_simp; with_reducible rfl) (by simp only [Act.put, List.setIfInBounds_toArray, List.set_cons_zero, List.set_cons_succ, i64_w, i32_w]; rfl) ?_) | (refine hdT_ _ rfl (by rfl) (v := ?_) (a' := ?_) (fun W hW => by have x0 := pw_cell_below hW x0; have x1 := pw_cell_below hW x1; have x2 := pw_cell_below hW x2; have x3 := pw_cell_below hW x3; have y0 := pw_cell_below hW y0; have y1 := pw_cell_below hW y1; have y2 := pw_cell_below hW y2; have y3 := pw_cell_below hW y3; go_simp; with_reducible rfl) (by simp only [Act.put, List.setIfInBounds_toArray, List.set_cons_zero, List.set_cons_succ, i64_w, i32_w]; rfl) ?_))
      exact hd_end
    · first | rfl | (go_simp; done) | (go_simp; rfl)
    refine (eqLoan_ (rd_T155 l x) wr.drew).mono ?_
    rintro e_ w2_ ⟨rfl, hb_⟩
    refine ⟨_, rfl, (pw_below_drewN (Below.refl _ _) 1).trans hb_, ?_, ?_, ?_⟩
    rotate_left
    · simp only [List.take_succ_cons, List.take_zero, List.drop_succ_cons, List.drop_zero]
      repeat (first | (refine hdF_ _ rfl (by rfl) (v := ?_) (a' := ?_) (fun W => by go_simp; with_reducible rfl) (by simp only [Act.put, List.setIfInBounds_toArray, List.set_cons_zero, List.set_cons_succ, i64_w, i32_w]; rfl) ?_) | (refine hdT_ _ rfl (by rfl) (v := ?_) (a' := ?_) (fun W hW => by go_simp; with_reducible rfl) (by simp only [Act.put, List.setIfInBounds_toArray, List.set_cons_zero, List.set_cons_succ, i64_w, i32_w]; rfl) ?_))
      exact hd_end
    simp only [List.drop_succ_cons, List.drop_zero, Act.put, List.setIfInBounds_toArray, List.set_cons_zero, List.set_cons_succ]
    replace HB := Aside0.mk (below_up HB.out HB.out.size ((pw_below_drewN (Below.refl _ _) 1).trans hb_))
    clear hb_ x0 x1 x2 x3 y0 y1 y2 y3
    go_wp2
    go_roundw
    case rel => exact ⟨x + 1, rfl, ⟨by have := X0.out; omega⟩, ⟨by have := HI.out; omega⟩, HB⟩
    case measure => simp [intOf]; have := HI.out; have := X0.out; omega
set_option maxHeartbeats 2000000 in
set_option maxRecDepth 100000 in
theorem eqWorld_ (x0 : List S67) (x1 : List S78) (x2 : List S155) (x3 : List Int) {A0 D0 : Option Addr} {c0 d0 : Nat} {A1 D1 : Option Addr} {c1 d1 : Nat} {A2 D2 : Option Addr} {c2 d2 : Nat} {A3 D3 : Option Addr} {c3 d3 : Nat} (w : World) (hA0 : Kd.C k67 w A0 x0.length x0) (hD0 : Kd.C k67 w D0 x0.length x0) (la0 : x0.length ≤ c0) (ld0 : x0.length ≤ d0) (hA1 : Kd.C k78 w A1 x1.length x1) (hD1 : Kd.C k78 w D1 x1.length x1) (la1 : x1.length ≤ c1) (ld1 : x1.length ≤ d1) (hA2 : Kd.C k155 w A2 x2.length x2) (hD2 : Kd.C k155 w D2 x2.length x2) (la2 : x2.length ≤ c2) (ld2 : x2.length ≤ d2) (hA3 : Kd.C (Kd.int .i64) w A3 x3.length x3) (hD3 : Kd.C (Kd.int .i64) w D3 x3.length x3) (la3 : x3.length ≤ c3) (ld3 : x3.length ≤ d3) :
    Calls Try.prog 20 #[.agg #[.slice A0 x0.length c0, .slice A1 x1.length c1, .slice A2 x2.length c2, .slice A3 x3.length c3], .agg #[.slice D0 x0.length d0, .slice D1 x1.length d1, .slice D2 x2.length d2, .slice D3 x3.length d3]] w fun e w' => e = .returned (.bool true) ∧ Below w.heap.size w w' := by
  have HL := Aside0.mk (Lay.nil w w.heap.size)
  have HB := Aside0.mk (Below.refl w.heap.size w)
  have HZ := Aside0.mk (Nat.le_refl w.heap.size)
  have HA0 := Aside0.mk (And.intro hA0 (And.intro hD0 (And.intro la0 ld0)))
  clear hA0 hD0 la0 ld0
  have HA1 := Aside0.mk (And.intro hA1 (And.intro hD1 (And.intro la1 ld1)))
  clear hA1 hD1 la1 ld1
  have HA2 := Aside0.mk (And.intro hA2 (And.intro hD2 (And.intro la2 ld2)))
  clear hA2 hD2 la2 ld2
  have HA3 := Aside0.mk (And.intro hA3 (And.intro hD3 (And.intro la3 ld3)))
  clear hA3 hD3 la3 ld3
  go_enter Try.func20, Try.ntmps20
  go_upto_region 1 with (first | ((with_reducible refine gate_dst (N := 2) rfl ?_); refine HL.out.box_ev HB.out HZ.out rfl (N := 2) rfl [.slice A0 x0.length c0, .slice A1 x1.length c1, .slice A2 x2.length c2, .slice A3 x3.length c3] 45 (by first | (go_simp; done) | (go_simp; rfl)) ?_; intro g2 w1 hl_ hb_ hz_; replace HL := Aside0.mk hl_; replace HB := Aside0.mk hb_; replace HZ := Aside0.mk hz_; clear hl_ hb_ hz_) | ((with_reducible refine gate_dst (N := 3) rfl ?_); refine HL.out.box_ev HB.out HZ.out rfl (N := 3) rfl [.slice D0 x0.length d0, .slice D1 x1.length d1, .slice D2 x2.length d2, .slice D3 x3.length d3] 45 (by first | (go_simp; done) | (go_simp; rfl)) ?_; intro g3 w2 hl_ hb_ hz_; replace HL := Aside0.mk hl_; replace HB := Aside0.mk hb_; replace HZ := Aside0.mk hz_; clear hl_ hb_ hz_))
  have b0 := HL.out.cell 0 rfl; have e0 := HL.out.tail.cell 0 rfl; have b1 := HL.out.cell 1 rfl; have e1 := HL.out.tail.cell 1 rfl; have b2 := HL.out.cell 2 rfl; have e2 := HL.out.tail.cell 2 rfl; have b3 := HL.out.cell 3 rfl; have e3 := HL.out.tail.cell 3 rfl
  go_wp2_with (first | (go_at_call 84; refine (eqThingS_ x0 _ (Kd.C_below HA0.out.1 HB.out) (Kd.C_below HA0.out.2.1 HB.out) HA0.out.2.2.1 HA0.out.2.2.2).mono ?_; rintro e_ w_ ⟨rfl, hb_⟩; replace HL := Aside0.mk (HL.out.below hb_); replace HB := Aside0.mk (below_up HB.out HZ.out hb_); replace HZ := Aside0.mk (Nat.le_trans HZ.out hb_.size); clear hb_ b0 e0 b1 e1 b2 e2 b3 e3; have b0 := HL.out.cell 0 rfl; have e0 := HL.out.tail.cell 0 rfl; have b1 := HL.out.cell 1 rfl; have e1 := HL.out.tail.cell 1 rfl; have b2 := HL.out.cell 2 rfl; have e2 := HL.out.tail.cell 2 rfl; have b3 := HL.out.cell 3 rfl; have e3 := HL.out.tail.cell 3 rfl) | (go_at_call 85; refine (eqTableS_ x1 _ (Kd.C_below HA1.out.1 HB.out) (Kd.C_below HA1.out.2.1 HB.out) HA1.out.2.2.1 HA1.out.2.2.2).mono ?_; rintro e_ w_ ⟨rfl, hb_⟩; replace HL := Aside0.mk (HL.out.below hb_); replace HB := Aside0.mk (below_up HB.out HZ.out hb_); replace HZ := Aside0.mk (Nat.le_trans HZ.out hb_.size); clear hb_ b0 e0 b1 e1 b2 e2 b3 e3; have b0 := HL.out.cell 0 rfl; have e0 := HL.out.tail.cell 0 rfl; have b1 := HL.out.cell 1 rfl; have e1 := HL.out.tail.cell 1 rfl; have b2 := HL.out.cell 2 rfl; have e2 := HL.out.tail.cell 2 rfl; have b3 := HL.out.cell 3 rfl; have e3 := HL.out.tail.cell 3 rfl) | (go_at_call 86; refine (eqLoanS_ x2 _ (Kd.C_below HA2.out.1 HB.out) (Kd.C_below HA2.out.2.1 HB.out) HA2.out.2.2.1 HA2.out.2.2.2).mono ?_; rintro e_ w_ ⟨rfl, hb_⟩; replace HL := Aside0.mk (HL.out.below hb_); replace HB := Aside0.mk (below_up HB.out HZ.out hb_); replace HZ := Aside0.mk (Nat.le_trans HZ.out hb_.size); clear hb_ b0 e0 b1 e1 b2 e2 b3 e3; have b0 := HL.out.cell 0 rfl; have e0 := HL.out.tail.cell 0 rfl; have b1 := HL.out.cell 1 rfl; have e1 := HL.out.tail.cell 1 rfl; have b2 := HL.out.cell 2 rfl; have e2 := HL.out.tail.cell 2 rfl; have b3 := HL.out.cell 3 rfl; have e3 := HL.out.tail.cell 3 rfl) | (go_at_call 34; refine (eqIntS_ x3 _ (Kd.C_below HA3.out.1 HB.out) (Kd.C_below HA3.out.2.1 HB.out) HA3.out.2.2.1 HA3.out.2.2.2).mono ?_; rintro e_ w_ ⟨rfl, hb_⟩; replace HL := Aside0.mk (HL.out.below hb_); replace HB := Aside0.mk (below_up HB.out HZ.out hb_); replace HZ := Aside0.mk (Nat.le_trans HZ.out hb_.size); clear hb_ b0 e0 b1 e1 b2 e2 b3 e3; have b0 := HL.out.cell 0 rfl; have e0 := HL.out.tail.cell 0 rfl; have b1 := HL.out.cell 1 rfl; have e1 := HL.out.tail.cell 1 rfl; have b2 := HL.out.cell 2 rfl; have e2 := HL.out.tail.cell 2 rfl; have b3 := HL.out.cell 3 rfl; have e3 := HL.out.tail.cell 3 rfl))
  go_ret
  exact ⟨rfl, HB.out⟩
theorem mk_get {α : Type} (mk : Int → α) (nxt : Int → Int) : ∀ (n i : Nat) (a : Int), i < n → (mkL mk nxt n a)[i]? = some (mk (mkF nxt i a))
  | n + 1, 0, a, _ => rfl
  | n + 1, i + 1, a, h => by
    have := mk_get mk nxt n i (nxt a) (by omega)
    simpa [mkL, mkF] using this
theorem mk_rdI (mk : Int → Int) (nxt : Int → Int) (n : Nat) (a x : Int) (h0 : 0 ≤ x) (h1 : x < (n : Int)) : rd (mkL mk nxt n a) x = mk (mkF nxt x.toNat a) := by
  unfold rd
  rw [List.getD_eq_getElem?_getD, mk_get mk nxt n x.toNat a (by omega), Option.getD_some]
set_option maxHeartbeats 2000000 in
set_option maxRecDepth 100000 in
theorem heldIntS_ (n : Nat) (a : Int) {A : Option Addr} {c : Nat} (w : World) (hA : Kd.C (Kd.int .i64) w A n (mkL (fun x => x) nx n a)) :
    Calls Try.prog 37 #[.slice A n c, .int .i64 a] w fun e w' => e = .returned (.int .i64 (mkF nx n a)) ∧ Below w.heap.size w w' := by
  have HA := Aside0.mk hA
  have HB := Aside0.mk (Below.refl w.heap.size w)
  have BL := Aside0.mk (show n ≤ 9223372036854775807 from hA.2.1)
  clear hA
  go_enter Try.func37, Try.ntmps37
  go_wp2
  go_loopw [1, 5] (fun v1 v5 wr => ∃ x : Int, v5 = .int .i64 x ∧ v1 = .int .i64 (mkF nx x.toNat a) ∧ Aside0 (0 ≤ x) ∧ Aside0 (x ≤ n) ∧ Aside0 (Below w.heap.size w wr)) (fun _ v5 _ => n - (intOf v5).toNat)
  case atStart => exact ⟨0, rfl, rfl, ⟨Int.le_refl _⟩, ⟨by omega⟩, HB⟩
  case round =>
    clear HB
    obtain ⟨x, rfl, rfl, X0, X1, HB⟩ := hrel
    by_cases hlt : x < (n : Int)
    case neg =>
      have nlt : decide (x < (n : Int)) = false := decide_eq_false hlt
      have hx : x.toNat = n := by have := X0.out; have := X1.out; omega
      go_wp2
      go_ret
      exact ⟨rfl, HB.out⟩
    have nlt : decide (x < (n : Int)) = true := decide_eq_true hlt
    have q0 : (0 ≤ x) = True := eq_true X0.out
    have q1 : (x < (n : Int)) = True := eq_true hlt
    have w64 : IntKind.i64.wrap (x + 1) = x + 1 := IntWalk.i64_in _ (by have := BL.out; have := X0.out; omega)
    have hrd := mk_rdI (fun x => x) nx n a x X0.out hlt
    obtain ⟨ad, ea, x0⟩ := at_I (Kd.C_below HA.out HB.out) x X0.out hlt
    subst ea
    rw [hrd] at x0
    have HI := Aside0.mk hlt
    have E := Aside0.mk (mkF_last nx x.toNat a)
    clear hlt hrd
    generalize mkF nx x.toNat a = y at *
    go_wp2
    repeat (go_quiet (fail); try go_wp2)
    go_roundw
    case rel => exact ⟨x + 1, rfl, by rw [show (x + 1).toNat = x.toNat + 1 by have := X0.out; omega, E.out]; rfl, ⟨by have := X0.out; omega⟩, ⟨by have := HI.out; omega⟩, ⟨pw_below_drewN HB.out 0⟩⟩
    case measure => simp [intOf]; have := HI.out; have := X0.out; omega
end Go.Proofs.Ytdoflfifnkpacaa.WO.LA
