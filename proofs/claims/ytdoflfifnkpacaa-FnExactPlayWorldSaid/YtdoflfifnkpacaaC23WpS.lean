/-
  The functions of worlds: what they compute, and the laws of it.
-/
import Derived.StillTailTactics
import Derived.Lib.Hide
import Derived.Test.YtdoflfifnkpacaaC23WpLay5
namespace Go.Proofs.Ytdoflfifnkpacaa.WP
open Go Go.RowKit Go.Proofs.YtdoflfifnkpacaaW.PrintWords Go.Proofs.YtdoflfifnkpacaaW.PrintLast Go.Proofs.YtdoflfifnkpacaaW.PrintMore
attribute [local go_sem] max2_int min2_int max_two min_two max_three min_three max_four min_four
set_option linter.unusedVariables false
set_option linter.unusedSimpArgs false
set_option maxHeartbeats 4000000 in
set_option maxRecDepth 100000 in
theorem spec_l16End.lay (base : Nat) (v0 v1 v2 v3 : Value) (hs : List (Value × Value)) (T : List S67) (B : List S78) (C : List S155) (E : List Int) (F : List Row) (k : Nat) (B' : List S78) (C' : List S155) (told code : Int) (w0 w : World)
    (hW : WR w base v0 v1 v2 v3 hs T B C E F) (hb : Below base w0 w) (hz : base ≤ w.heap.size) (hr : sEnd k B C = some (B', C', told, code)) :
    Calls Try.prog 141 #[.agg #[v0, v1, v2, v3]] w fun e_ w' => SPost w0 base T B' C' E told code F e_ w' := by
  obtain ⟨A0, c0, A1, c1, A2, c2, A3, c3, rfl, rfl, rfl, rfl⟩ := hW.forms
  have HR := Aside0.mk hW
  have HB := Aside0.mk hb
  have HZ := Aside0.mk hz
  have HH := Aside0.mk hr
  clear hW hb hz hr
  go_enter Try.func141, Try.ntmps141
  go_upto_region 1 with (first | ((with_reducible refine gate_dst (N := 1) rfl ?_); refine HR.out.2.box_ev HB.out HZ.out rfl (N := 1) rfl [.slice A0 T.length c0, .slice A1 B.length c1, .slice A2 C.length c2, .slice A3 E.length c3] 45 (by first | (go_simp; done) | (go_simp; rfl)) ?_; intro g w1 hl_ hb_ hz_; have HW := Aside0.mk (WR.box HR.out.1 hl_); replace HB := Aside0.mk hb_; replace HZ := Aside0.mk hz_; clear hl_ hb_ hz_) | ((with_reducible refine gate_dst (N := 2) rfl ?_); refine HW.out.2.box_ev HB.out HZ.out rfl (N := 2) rfl [.slice none 0 0, .slice none 0 0, .slice none 0 0, .slice none 0 0] 45 (by first | (go_simp; done) | (go_simp; rfl)) ?_; intro gr w2 hl_ hb_ hz_; replace HW := Aside0.mk (WW.tuck HW.out.1 hl_); replace HB := Aside0.mk hb_; replace HZ := Aside0.mk hz_; clear hl_ hb_ hz_))
  clear HR
  have hr := HH.out
  clear HH
  unfold sEnd at hr
  have b0 := HW.out.at 0 rfl
  have b1 := HW.out.at 1 rfl
  have b2 := HW.out.at 2 rfl
  have b3 := HW.out.at 3 rfl
  by_cases q0 : C.length = 0
  · rw [if_pos q0] at hr
    simp only [Option.some.injEq, Prod.mk.injEq] at hr
    obtain ⟨rfl, rfl, rfl, rfl⟩ := hr
    have KM : IntKind.i64.wrap ((C.length : Int) - 1) = (C.length : Int) - 1 := IntWalk.i64_in _ (by omega)
    have e1 : decide ((C.length : Int) - 1 < 0) = true := decide_eq_true (by omega)
    clear q0
    go_wp2_with ((with_reducible refine gate_store (t := 45) (p := 2) rfl ?_); refine HW.out.out.store_ev HB.out rfl rfl rfl 0 (by first | rfl | (go_simp; done) | (go_simp; rfl)) (u := .agg #[.slice A0 T.length c0, .slice A1 B.length c1, .slice A2 C.length c2, .slice A3 E.length c3]) (by first | rfl | (go_simp; done) | (go_simp; rfl)) (seg := [.slice A0 T.length c0, .slice A1 B.length c1, .slice A2 C.length c2, .slice A3 E.length c3]) rfl (by kernel_rfl) (by simp [Value.oneCell']) (by simp) ?_; intro w3 hl_ hb_ hs_; replace HW := Aside0.mk (WW.tuck (r := box gr 45 [.slice A0 T.length c0, .slice A1 B.length c1, .slice A2 C.length c2, .slice A3 E.length c3]) HW.out.1 hl_); replace HB := Aside0.mk hb_; replace HZ := Aside0.mk (Nat.le_trans HZ.out (Nat.le_of_eq hs_)); clear hl_ hb_ hs_)
    exact bodyPost_ret (results_list (rs := [.cell 2 45, .tmp 3, .tmp 4]) rfl (by simp) (.cell gr 45 #[.slice A0 T.length c0, .slice A1 B.length c1, .slice A2 C.length c2, .slice A3 E.length c3] (0, 0) _ rfl HW.out.out.boxB Try.underlying45 rfl (by kernel_rfl) (.tmp (.tmp .nil)))) rfl ⟨_, rfl, AfterR.mk HW.out.less.less0 HB.out HZ.out⟩
  rw [if_neg q0] at hr
  generalize hx : rd_T155 C ((C.length : Int) - 1) = x at hr
  obtain ⟨x0, x1, x2, x3⟩ := x
  dsimp only at hr
  by_cases q1 : x2 < 0
  · rw [if_pos q1] at hr
    exact absurd hr (by simp)
  rw [if_neg q1] at hr
  by_cases q2 : x2 ≥ (B.length : Int)
  · rw [if_pos q2] at hr
    exact absurd hr (by simp)
  rw [if_neg q2] at hr
  by_cases q3 : x3 < 0
  · rw [if_pos q3] at hr
    exact absurd hr (by simp)
  rw [if_neg q3] at hr
  by_cases q4 : x3 ≥ ((rd_T78 B x2).f0.length : Int)
  · rw [if_pos q4] at hr
    exact absurd hr (by simp)
  rw [if_neg q4] at hr
  replace hr := Option.bind_eq_some_iff.mp hr
  obtain ⟨⟨D1, D2, D3, D4, D5, D6, D7, D8, D9⟩, hD, hr⟩ := hr
  dsimp only at hr
  have HD := Aside0.mk hD
  clear hD
  by_cases q5 : x0 < 0
  · rw [if_pos q5] at hr
    exact absurd hr (by simp)
  rw [if_neg q5] at hr
  by_cases q6 : x0 ≥ (B.length : Int)
  · rw [if_pos q6] at hr
    exact absurd hr (by simp)
  rw [if_neg q6] at hr
  by_cases q7 : x1 < 0
  · rw [if_pos q7] at hr
    exact absurd hr (by simp)
  rw [if_neg q7] at hr
  by_cases q8 : x1 ≥ ((rd_T78 (B.set x2.toNat ⟨D1, D2⟩) x0).f0.length : Int)
  · rw [if_pos q8] at hr
    exact absurd hr (by simp)
  rw [if_neg q8] at hr
  simp only [Option.some.injEq, Prod.mk.injEq] at hr
  obtain ⟨rfl, rfl, rfl, rfl⟩ := hr
  have h0 := Aside0.mk (show 0 ≤ x2 by omega)
  have h1 := Aside0.mk (show x2 < (B.length : Int) by omega)
  have h2 := Aside0.mk (show 0 ≤ x3 by omega)
  have h3 := Aside0.mk (show x3 < ((rd_T78 B x2).f0.length : Int) by omega)
  have h4 := Aside0.mk (show 0 ≤ x0 by omega)
  have h5 := Aside0.mk (show x0 < ((B.set x2.toNat ⟨D1, D2⟩).length : Int) by rw [List.length_set]; omega)
  have h6 := Aside0.mk (show 0 ≤ x1 by omega)
  have h7 := Aside0.mk (show x1 < ((rd_T78 (B.set x2.toNat ⟨D1, D2⟩) x0).f0.length : Int) by omega)
  have p0 : (0 ≤ x2) = True := eq_true h0.out
  have p1 : (x2 < (B.length : Int)) = True := eq_true h1.out
  have p2 : (0 ≤ x3) = True := eq_true h2.out
  have p3 : (x3 < ((rd_T78 B x2).f0.length : Int)) = True := eq_true h3.out
  have p4 : (0 ≤ x0) = True := eq_true h4.out
  have p5 : (x0 < (B.length : Int)) = True := eq_true (by omega)
  have p6 : (0 ≤ x1) = True := eq_true h6.out
  have p7 : (x1 < ((rd_T78 (B.set x2.toNat ⟨D1, D2⟩) x0).f0.length : Int)) = True := eq_true h7.out
  obtain ⟨gB, rfl, -, -, -⟩ := HW.out.heads x2 h0.out h1.out
  obtain ⟨gc, rfl, hc2, lj⟩ := HW.out.loan ((C.length : Int) - 1) (by omega) (by omega)
  rw [hx] at lj
  have LJ := Aside0.mk lj
  have CL := Aside0.mk (show C.length - 1 ≤ C.length by omega)
  have KM : IntKind.i64.wrap ((C.length : Int) - 1) = (C.length : Int) - 1 := IntWalk.i64_in _ (by have := (C155 HW.out.fC).2.2.2.1; omega)
  have e0 : decide ((C.length : Int) - 1 < 0) = false := decide_eq_false (by omega)
  have e1 : (0 ≤ (C.length : Int) - 1) = True := eq_true (by omega)
  have e2 : ((C.length : Int) - 1 < (C.length : Int)) = True := eq_true (by omega)
  have e3 : (1 ≤ (C.length : Int)) = True := eq_true (by omega)
  have e4 : (1 ≤ C.length) = True := eq_true (by omega)
  have e5 : (0 < C.length) = True := eq_true (by omega)
  have hcut := run_cut (P := Try.prog) 43 155 4 Try.underlying43 (by kernel_rfl) (some ⟨gc, 0, none⟩) C.length c2 ((C.length : Int) - 1) (C.length - 1) (by omega) (by omega) hc2
  have et : ((C.length : Int) - 1).toNat = C.length - 1 := by omega
  have l0 := LJ.out 0 _ rfl
  have l1 := LJ.out 1 _ rfl
  have l2 := LJ.out 2 _ rfl
  have l3 := LJ.out 3 _ rfl
  rw [et] at l0 l1 l2 l3
  have m0 := LJ.out 0 _ rfl
  have m1 := LJ.out 1 _ rfl
  have m2 := LJ.out 2 _ rfl
  have m3 := LJ.out 3 _ rfl
  rw [Nat.add_zero] at l0 m0
  clear q0 q1 q2 q3 q4 q5 q6 q7 q8 lj LJ hx hc2 et
  go_upto_region 5 with (first | ((with_reducible refine gate_dst (N := 6) rfl ?_); refine HW.out.2.box_ev HB.out HZ.out rfl (N := 6) rfl [.int .i64 0, .int .i64 0, .int .i64 0, .int .i64 0] 155 (by first | (go_simp; done) | (go_simp; rfl)) ?_; intro gx w3 hl_ hb_ hz_; replace HW := Aside0.mk (WW.tuck HW.out.1 hl_); replace HB := Aside0.mk hb_; replace HZ := Aside0.mk hz_; clear hl_ hb_ hz_) | ((with_reducible refine gate_store (t := 155) (p := 6) rfl ?_); refine HW.out.out.store_ev HB.out rfl rfl rfl 0 (by first | rfl | (go_simp; done) | (go_simp; rfl)) (u := .agg #[.int .i64 x0, .int .i64 x1, .int .i64 x2, .int .i64 x3]) (by first | rfl | (go_simp; done) | (go_simp; rfl)) (seg := [.int .i64 x0, .int .i64 x1, .int .i64 x2, .int .i64 x3]) rfl (by kernel_rfl) (by simp [Value.oneCell']) (by simp) ?_; intro w4 hl_ hb_ hs_; replace HW := Aside0.mk (WW.tuck (r := box gx 155 [.int .i64 x0, .int .i64 x1, .int .i64 x2, .int .i64 x3]) HW.out.1 hl_); replace HB := Aside0.mk hb_; replace HZ := Aside0.mk (Nat.le_trans HZ.out (Nat.le_of_eq hs_)); clear hl_ hb_ hs_))
  clear l0 l1 l2 l3 m0 m1 m2 m3 b0 b1 b2 b3
  have b1 := HW.out.at 1 rfl
  have y2 := HW.out.out.cell 2 rfl
  have y3 := HW.out.out.cell 3 rfl
  obtain ⟨gs, cs, hh, s0, sj⟩ := HW.out.slot x2 h0.out h1.out x3 h2.out h3.out
  generalize hbb : rd_T75 (rd_T78 B x2).f0 x3 = bb at *
  obtain ⟨bu, bf1, bf2, bf3, bf4, bf5⟩ := bb
  have s1 := sj 0 _ rfl
  have s2 := sj 1 _ rfl
  have s3 := sj 2 _ rfl
  have s4 := sj 3 _ rfl
  have s5 := sj 4 _ rfl
  have s6 := sj 5 _ rfl
  rw [Nat.add_zero] at s1
  have HBB := Aside0.mk hbb
  clear sj hh hbb
  refine draw_new 11 [false, true, false, true, false, false, true, false, true, false, true] (by kernel_rfl) rfl (S := fun W => Below w4.heap.size w4 W) (A := ?_) (v := .pointer (some ⟨w4.drew.heap.size, 0, none⟩)) (ob := .cells #[.bool false, .int .i64 0, .int .i64 0, .bool false, .int .i64 0, .int .i64 0] 75 (0, 0)) (by kernel_rfl) (fun _ _ _ d _ h => by cases d <;> exact h) (pw_below_drewN (Below.refl _ _) 1) (below_alloc (pw_below_drewN (Below.refl _ _) 1) _) ?_ rfl ?_ ?_
  rotate_left
  · simp only [List.take_succ_cons, List.take_zero]
    repeat (first | (refine hdF_ _ rfl (by rfl) (v := ?_) (a' := ?_) (fun W => by go_simp; with_reducible rfl) (by simp only [Act.put, List.setIfInBounds_toArray, List.set_cons_zero, List.set_cons_succ, i64_w, i32_w]; rfl) ?_) | (refine hdT_ _ rfl (by rfl) (v := ?_) (a' := ?_) (fun W hW => by have b1 := pw_cell_below hW b1; have y2 := pw_cell_below hW y2; have y3 := pw_cell_below hW y3; have s0 := pw_cell_below hW s0; have s1 := pw_cell_below hW s1; have s2 := pw_cell_below hW s2; have s3 := pw_cell_below hW s3; have s4 := pw_cell_below hW s4; have s5 := pw_cell_below hW s5; have s6 := pw_cell_below hW s6; go_simp; with_reducible rfl) (by simp only [Act.put, List.setIfInBounds_toArray, List.set_cons_zero, List.set_cons_succ, i64_w, i32_w]; rfl) ?_))
    exact hd_end
  · first | (go_simp; done) | (go_simp; rfl)
  simp only [List.drop_succ_cons, List.drop_zero, Act.put, List.setIfInBounds_toArray, List.set_cons_zero, List.set_cons_succ]
  replace HW := Aside0.mk (WW.newbox HW.out.drew (show base ≤ w4.drew.heap.size from HZ.out) 75 [.bool false, .int .i64 0, .int .i64 0, .bool false, .int .i64 0, .int .i64 0])
  replace HB := Aside0.mk (HB.out.drew.alloc (show base ≤ w4.drew.heap.size from HZ.out) (.cells #[.bool false, .int .i64 0, .int .i64 0, .bool false, .int .i64 0, .int .i64 0] 75 (0, 0)))
  replace HZ := Aside0.mk (Nat.le_trans (show base ≤ w4.drew.heap.size from HZ.out) (below_alloc (Below.refl _ _) (.cells #[.bool false, .int .i64 0, .int .i64 0, .bool false, .int .i64 0, .int .i64 0] 75 (0, 0))).size)
  clear b1 y2 y3 s0 s1 s2 s3 s4 s5 s6
  generalize w4.drew.heap.size = gh at *
  generalize hwx : w4.drew.alloc (.cells #[.bool false, .int .i64 0, .int .i64 0, .bool false, .int .i64 0, .int .i64 0] 75 (0, 0)) = w5 at *
  clear hwx
  go_upto_region 6 with ((with_reducible refine gate_store (t := 75) (p := 7) rfl ?_); refine HW.out.out.store_ev HB.out rfl rfl rfl 0 (by first | rfl | (go_simp; done) | (go_simp; rfl)) (u := .agg #[.bool bu, .int .i64 bf1, .int .i64 bf2, .bool bf3, .int .i64 bf4, .int .i64 bf5]) (by first | rfl | (go_simp; done) | (go_simp; rfl)) (seg := [.bool bu, .int .i64 bf1, .int .i64 bf2, .bool bf3, .int .i64 bf4, .int .i64 bf5]) rfl (by kernel_rfl) (by simp [Value.oneCell']) (by simp) ?_; intro w6 hl_ hb_ hs_; replace HW := Aside0.mk (WW.tuck (r := box gh 75 [.bool bu, .int .i64 bf1, .int .i64 bf2, .bool bf3, .int .i64 bf4, .int .i64 bf5]) HW.out.1 hl_); replace HB := Aside0.mk hb_; replace HZ := Aside0.mk (Nat.le_trans HZ.out (Nat.le_of_eq hs_)); clear hl_ hb_ hs_)
  have z1 := HW.out.out.cell 1 rfl
  have y2 := HW.out.less.out.cell 2 rfl
  have y3 := HW.out.less.out.cell 3 rfl
  have b1 := HW.out.at 1 rfl
  obtain ⟨Aa, ca, Ab, cb, -, t0, t1, la, Ca, lb, Cb⟩ := HW.out.table x2 h0.out h1.out
  have HTa := Aside0.mk Ca
  have HTb := Aside0.mk Cb
  clear Ca Cb
  refine draw_call (A := ?_) 14 5 [false, true, false, true, false, true, false, true, false, true, false, true, false, true] [false, false, false, false, false] Try.func158 (by kernel_rfl) rfl #[.agg #[.slice Aa (rd_T78 B x2).f0.length ca, .slice Ab (rd_T78 B x2).f1.length cb], .int .i64 x3, .int .i64 bf1] (by kernel_rfl) rfl _ rfl rfl rfl (S := fun W => Below w6.heap.size w6 W) (by kernel_rfl) (fun _ _ _ d _ h => by cases d <;> exact h) (pw_below_drewN (Below.refl _ _) 1) ?_ ?_ ?_
  rotate_left
  · simp only [List.take_succ_cons, List.take_zero, List.drop_succ_cons, List.drop_zero]
    repeat (first | (refine hdF_ _ rfl (by rfl) (v := ?_) (a' := ?_) (fun W => by go_simp; with_reducible rfl) (by simp only [Act.put, List.setIfInBounds_toArray, List.set_cons_zero, List.set_cons_succ, i64_w, i32_w]; rfl) ?_) | (refine hdT_ _ rfl (by rfl) (v := ?_) (a' := ?_) (fun W hW => by have b1 := pw_cell_below hW b1; have y2 := pw_cell_below hW y2; have y3 := pw_cell_below hW y3; have z1 := pw_cell_below hW z1; have t0 := pw_cell_below hW t0; have t1 := pw_cell_below hW t1; go_simp; with_reducible rfl) (by simp only [Act.put, List.setIfInBounds_toArray, List.set_cons_zero, List.set_cons_succ, i64_w, i32_w]; rfl) ?_))
    exact hd_end
  · first | rfl | (go_simp; done) | (go_simp; rfl)
  refine (spec_DropHandle.calls k Aa ca (rd_T78 B x2).f0 Ab cb (rd_T78 B x2).f1 x3 bf1 D1 D2 D3 D4 D5 D6 D7 D8 D9 w6.drew HTa.out la HTb.out lb HD.out).mono ?_
  rintro e_ w2_ ⟨u0_, u1_, rfl, ra_, rb_, hb_⟩
  refine ⟨_, rfl, (pw_below_drewN (Below.refl _ _) 1).trans hb_, ?_, ?_, ?_⟩
  rotate_left
  · simp only [List.take_succ_cons, List.take_zero, List.drop_succ_cons, List.drop_zero]
    repeat (first | (refine hdF_ _ rfl (by rfl) (v := ?_) (a' := ?_) (fun W => by go_simp; with_reducible rfl) (by simp only [Act.put, List.setIfInBounds_toArray, List.set_cons_zero, List.set_cons_succ, i64_w, i32_w]; rfl) ?_) | (refine hdT_ _ rfl (by rfl) (v := ?_) (a' := ?_) (fun W hW => by go_simp; with_reducible rfl) (by simp only [Act.put, List.setIfInBounds_toArray, List.set_cons_zero, List.set_cons_succ, i64_w, i32_w]; rfl) ?_))
    exact hd_end
  simp only [List.drop_succ_cons, List.drop_zero, Act.put, List.setIfInBounds_toArray, List.set_cons_zero, List.set_cons_succ]
  replace HW := Aside0.mk (WW.newtab HW.out.drew hb_ (show base ≤ w6.drew.heap.size from HZ.out) ra_ rb_)
  replace HB := Aside0.mk (below_up HB.out.drew (show base ≤ w6.drew.heap.size from HZ.out) hb_)
  replace HZ := Aside0.mk (Nat.le_trans (show base ≤ w6.drew.heap.size from HZ.out) hb_.size)
  clear hb_ ra_ rb_ z1 y2 y3 b1 t0 t1 la lb HTa HTb
  go_upto_region 7 with ((with_reducible refine gate_store (t := 78) (p := 50) rfl ?_); refine HW.out.settab HB.out HZ.out rfl rfl rfl x2 h0.out h1.out (by first | rfl | (go_simp; done) | (go_simp; rfl)) (by first | rfl | (go_simp; done) | (go_simp; rfl)) (by kernel_rfl) ?_; intro w7 hw_ hb_ hz_; replace HW := Aside0.mk hw_; replace HB := Aside0.mk hb_; replace HZ := Aside0.mk hz_; clear hw_ hb_ hz_)
  have b1 := HW.out.at 1 rfl
  have y0 := HW.out.less.out.cell 0 rfl
  have y1 := HW.out.less.out.cell 1 rfl
  obtain ⟨gs2, cs2, hh, s0, sj⟩ := HW.out.slot x0 h4.out h5.out x1 h6.out h7.out
  have s4 := sj 4 _ rfl
  have Hh := Aside0.mk hh
  clear sj hh
  refine draw_ 15 [false, true, false, true, false, false, true, false, true, false, false, true, false, false, false] (by kernel_rfl) (S := fun W => Below w7.heap.size w7 W) (A := ?_) (by kernel_rfl) (fun _ _ _ d _ h => by cases d <;> exact h) (pw_below_drewN (Below.refl _ _) 1) ?_ ?_
  rotate_left
  · simp only [List.take_succ_cons, List.take_zero]
    repeat (first | (refine hdF_ _ rfl (by rfl) (v := ?_) (a' := ?_) (fun W => by go_simp; with_reducible rfl) (by simp only [Act.put, List.setIfInBounds_toArray, List.set_cons_zero, List.set_cons_succ, i64_w, i32_w]; rfl) ?_) | (refine hdT_ _ rfl (by rfl) (v := ?_) (a' := ?_) (fun W hW => by have b1 := pw_cell_below hW b1; have y0 := pw_cell_below hW y0; have y1 := pw_cell_below hW y1; have s0 := pw_cell_below hW s0; have s4 := pw_cell_below hW s4; go_simp; with_reducible rfl) (by simp only [Act.put, List.setIfInBounds_toArray, List.set_cons_zero, List.set_cons_succ, i64_w, i32_w]; rfl) ?_))
    exact hd_end
  simp only [List.drop_succ_cons, List.drop_zero, Act.put, List.setIfInBounds_toArray, List.set_cons_zero, List.set_cons_succ]
  replace HW := Aside0.mk HW.out.drew
  replace HB := Aside0.mk HB.out.drew
  replace HZ := Aside0.mk (show base ≤ w7.drew.heap.size from HZ.out)
  clear b1 y0 y1 s0 s4
  generalize w7.drew = w8 at *
  go_upto_region 8 with ((with_reducible refine gate_store (t := 3) (p := 65) rfl ?_); refine HW.out.lends HB.out HZ.out rfl rfl rfl x0 h4.out h5.out x1 h6.out h7.out Hh.out (by first | rfl | (go_simp; done) | (go_simp; rfl)) (by first | rfl | (go_simp; done) | (go_simp; rfl)) (by kernel_rfl) ?_; intro w9 hw_ hb_ hz_; replace HW := Aside0.mk hw_; replace HB := Aside0.mk hb_; replace HZ := Aside0.mk hz_; clear hw_ hb_ hz_)
  have b2 := HW.out.at 2 rfl
  go_upto_region 9 with ((with_reducible refine gate_store (t := 43) (p := 70) rfl ?_); refine HW.out.setbox HB.out HZ.out rfl rfl rfl 2 (by first | rfl | (go_simp; done) | (go_simp; rfl)) (by first | rfl | (go_simp; done) | (go_simp; rfl)) (by kernel_rfl) (by simp) ?_; intro w10 hw_ hb_ hz_; replace HW := Aside0.mk hw_; replace HB := Aside0.mk hb_; replace HZ := Aside0.mk hz_; clear hw_ hb_ hz_; replace HW := Aside0.mk (HW.out.cutC CL.out))
  clear b2 hcut
  replace HW := Aside0.mk HW.out.rot2
  have b0 := HW.out.at 0 rfl
  have b1 := HW.out.at 1 rfl
  have b2 := HW.out.at 2 rfl
  have b3 := HW.out.at 3 rfl
  have z2 := HW.out.less.out.cell 2 rfl
  obtain ⟨w11, hrun_, hl_, hb_, hs_⟩ := Lay.store_run (P := Try.prog) HW.out.drew.out HB.out.drew 45 0 (.agg #[.slice A0 T.length c0, .slice (some ⟨gB, 0, none⟩) B.length c1, .slice (some ⟨gc, 0, none⟩) (C.length - 1) c2, .slice A3 E.length c3]) (seg := [.slice A0 T.length c0, .slice (some ⟨gB, 0, none⟩) B.length c1, .slice (some ⟨gc, 0, none⟩) (C.length - 1) c2, .slice A3 E.length c3]) rfl (by kernel_rfl) (by simp [Value.oneCell']) (by simp)
  have HW2 := Aside0.mk (WW.tuck (r := box gr 45 [.slice A0 T.length c0, .slice (some ⟨gB, 0, none⟩) B.length c1, .slice (some ⟨gc, 0, none⟩) (C.length - 1) c2, .slice A3 E.length c3]) HW.out.1 hl_)
  have HB2 := Aside0.mk hb_
  have HZ2 := Aside0.mk (Nat.le_trans (show base ≤ w10.drew.heap.size from HZ.out) (Nat.le_of_eq hs_))
  clear hl_ hb_ hs_
  refine draw_store (A := ?_) (w1 := w11) 3 [true, false, true] (by kernel_rfl) rfl (S := fun W => W.cell? ⟨g, 0, none⟩ = some (.slice A0 T.length c0) ∧ W.cell? ⟨g, 1, none⟩ = some (.slice (some ⟨gB, 0, none⟩) B.length c1) ∧ W.cell? ⟨g, 2, none⟩ = some (.slice (some ⟨gc, 0, none⟩) (C.length - 1) c2) ∧ W.cell? ⟨g, 3, none⟩ = some (.slice A3 E.length c3) ∧ W.cell? ⟨gh, 2, none⟩ = some (.int .i64 bf2)) (by kernel_rfl) (fun _ _ _ d _ h => by cases d <;> exact h) rfl rfl ⟨b0, b1, b2, b3, z2⟩ ?_ ⟨HW2.out.at 0 rfl, HW2.out.at 1 rfl, HW2.out.at 2 rfl, HW2.out.at 3 rfl, HW2.out.less.out.cell 2 rfl⟩ ?_ ?_
  rotate_left
  · simp only [List.take_succ_cons, List.take_zero, List.drop_succ_cons, List.drop_zero]
    repeat (first | (refine hdF_ _ rfl (by rfl) (v := ?_) (a' := ?_) (fun W => by go_simp; with_reducible rfl) (by simp only [Act.put, List.setIfInBounds_toArray, List.set_cons_zero, List.set_cons_succ, i64_w, i32_w]; rfl) ?_) | (refine hdT_ _ rfl (by rfl) (v := ?_) (a' := ?_) (fun W hW => by obtain ⟨b0, b1, b2, b3, z2⟩ := hW; go_simp; with_reducible rfl) (by simp only [Act.put, List.setIfInBounds_toArray, List.set_cons_zero, List.set_cons_succ, i64_w, i32_w]; rfl) ?_))
    exact hd_end
  · exact hrun_ _ _ 2 _ rfl rfl (by first | rfl | (go_simp; done) | (go_simp; rfl))
  clear hrun_ b0 b1 b2 b3 z2
  have HW := HW2
  have HB := HB2
  have HZ := HZ2
  clear HW2 HB2 HZ2
  simp only [List.drop_succ_cons, List.drop_zero, Act.put, List.setIfInBounds_toArray, List.set_cons_zero, List.set_cons_succ]
  go_wp2
  exact bodyPost_ret (results_list (rs := [.cell 2 45, .tmp 3, .tmp 4]) rfl (by simp) (.cell gr 45 #[.slice A0 T.length c0, .slice (some ⟨gB, 0, none⟩) B.length c1, .slice (some ⟨gc, 0, none⟩) (C.length - 1) c2, .slice A3 E.length c3] (0, 0) _ rfl HW.out.out.boxB Try.underlying45 rfl (by kernel_rfl) (.tmp (.tmp .nil)))) rfl ⟨_, by rw [HBB.out]; try rfl, AfterR.mk HW.out.less.less.less.less0 HB.out HZ.out⟩
set_option maxHeartbeats 4000000 in
set_option maxRecDepth 100000 in
theorem spec_l16Make.lay (base : Nat) (v0 v1 v2 v3 : Value) (hs : List (Value × Value)) (T : List S67) (B : List S78) (C : List S155) (E : List Int) (F : List Row) (k : Nat) (kind part at_ to_ n : Int) (T' : List S67) (B' : List S78) (told code : Int) (w0 w : World)
    (hW : WR w base v0 v1 v2 v3 hs T B C E F) (hb : Below base w0 w) (hz : base ≤ w.heap.size) (hr : sMake k T B part n = some (T', B', told, code)) :
    Calls Try.prog 142 #[.agg #[v0, v1, v2, v3], .agg #[.int .i64 kind, .int .i64 part, .int .i64 at_, .int .i64 to_, .int .i64 n]] w fun e_ w' => SPost w0 base T' B' C E told code F e_ w' := by
  obtain ⟨A0, c0, A1, c1, A2, c2, A3, c3, rfl, rfl, rfl, rfl⟩ := hW.forms
  have HR := Aside0.mk hW
  have HB := Aside0.mk hb
  have HZ := Aside0.mk hz
  have HH := Aside0.mk hr
  clear hW hb hz hr
  go_enter Try.func142, Try.ntmps142
  go_upto_region 1 with (first | ((with_reducible refine gate_dst (N := 2) rfl ?_); refine HR.out.2.box_ev HB.out HZ.out rfl (N := 2) rfl [.slice A0 T.length c0, .slice A1 B.length c1, .slice A2 C.length c2, .slice A3 E.length c3] 45 (by first | (go_simp; done) | (go_simp; rfl)) ?_; intro g w1 hl_ hb_ hz_; have HW := Aside0.mk (WR.box HR.out.1 hl_); replace HB := Aside0.mk hb_; replace HZ := Aside0.mk hz_; clear hl_ hb_ hz_) | ((with_reducible refine gate_dst (N := 3) rfl ?_); refine HW.out.2.box_ev HB.out HZ.out rfl (N := 3) rfl [.int .i64 kind, .int .i64 part, .int .i64 at_, .int .i64 to_, .int .i64 n] 69 (by first | (go_simp; done) | (go_simp; rfl)) ?_; intro ga w2 hl_ hb_ hz_; replace HW := Aside0.mk (WW.tuck HW.out.1 hl_); replace HB := Aside0.mk hb_; replace HZ := Aside0.mk hz_; clear hl_ hb_ hz_) | ((with_reducible refine gate_dst (N := 4) rfl ?_); refine HW.out.2.box_ev HB.out HZ.out rfl (N := 4) rfl [.slice none 0 0, .slice none 0 0, .slice none 0 0, .slice none 0 0] 45 (by first | (go_simp; done) | (go_simp; rfl)) ?_; intro gr w3 hl_ hb_ hz_; replace HW := Aside0.mk (WW.tuck HW.out.1 hl_); replace HB := Aside0.mk hb_; replace HZ := Aside0.mk hz_; clear hl_ hb_ hz_))
  clear HR
  have hr := HH.out
  clear HH
  unfold sMake at hr
  have a4 := HW.out.less.out.cell 4 rfl
  cases q0 : inB n 0 9 with
  | false =>
    rw [if_pos q0] at hr
    simp only [Option.some.injEq, Prod.mk.injEq] at hr
    obtain ⟨rfl, rfl, rfl, rfl⟩ := hr
    go_upto_region 2 with (go_at_call 72; (with_reducible refine (spec_l1In.calls n 0 9 _ _ (l1In_f n 0 9)).mono ?_); rintro e_ w' ⟨rfl, ⟨nd, rfl⟩⟩; rw [q0])
    refine WW.named (HW.out.drewN _) (pw_below_drewN HB.out _) HZ.out ?_
    intro w4 hw_ hb_ hz_
    replace HW := Aside0.mk hw_
    replace HB := Aside0.mk hb_
    replace HZ := Aside0.mk hz_
    clear hw_ hb_ hz_
    have b0 := HW.out.at 0 rfl
    have b1 := HW.out.at 1 rfl
    have b2 := HW.out.at 2 rfl
    have b3 := HW.out.at 3 rfl
    go_wp2_with ((with_reducible refine gate_store (t := 45) (p := 4) rfl ?_); refine HW.out.out.store_ev HB.out rfl rfl rfl 0 (by first | rfl | (go_simp; done) | (go_simp; rfl)) (u := .agg #[.slice A0 T.length c0, .slice A1 B.length c1, .slice A2 C.length c2, .slice A3 E.length c3]) (by first | rfl | (go_simp; done) | (go_simp; rfl)) (seg := [.slice A0 T.length c0, .slice A1 B.length c1, .slice A2 C.length c2, .slice A3 E.length c3]) rfl (by kernel_rfl) (by simp [Value.oneCell']) (by simp) ?_; intro w5 hl_ hb_ hs_; replace HW := Aside0.mk (WW.tuck (r := box gr 45 [.slice A0 T.length c0, .slice A1 B.length c1, .slice A2 C.length c2, .slice A3 E.length c3]) HW.out.1 hl_); replace HB := Aside0.mk hb_; replace HZ := Aside0.mk (Nat.le_trans HZ.out (Nat.le_of_eq hs_)); clear hl_ hb_ hs_)
    exact bodyPost_ret (results_list (rs := [.cell 4 45, .tmp 5, .tmp 6]) rfl (by simp) (.cell gr 45 #[.slice A0 T.length c0, .slice A1 B.length c1, .slice A2 C.length c2, .slice A3 E.length c3] (0, 0) _ rfl HW.out.out.boxB Try.underlying45 rfl (by kernel_rfl) (.tmp (.tmp .nil)))) rfl ⟨_, rfl, AfterR.mk HW.out.less.less.less0 HB.out HZ.out⟩
  | true =>
    rw [if_neg (by rw [q0]; simp)] at hr
    go_upto_region 3 with (go_at_call 72; (with_reducible refine (spec_l1In.calls n 0 9 _ _ (l1In_f n 0 9)).mono ?_); rintro e_ w' ⟨rfl, ⟨nd, rfl⟩⟩; rw [q0])
    clear a4 q0
    refine WW.named (HW.out.drewN _) (pw_below_drewN HB.out _) HZ.out ?_
    intro w4 hw_ hb_ hz_
    replace HW := Aside0.mk hw_
    replace HB := Aside0.mk hb_
    replace HZ := Aside0.mk hz_
    clear hw_ hb_ hz_
    have b0 := HW.out.at 0 rfl
    have b1 := HW.out.at 1 rfl
    have a1 := HW.out.less.out.cell 1 rfl
    by_cases q1 : (T.length : Int) = 40
    · rw [if_pos q1] at hr
      simp only [Option.some.injEq, Prod.mk.injEq] at hr
      obtain ⟨rfl, rfl, rfl, rfl⟩ := hr
      have e1 : ((T.length : Int) == 40) = true := by simpa using q1
      clear q1
      have b2 := HW.out.at 2 rfl
      have b3 := HW.out.at 3 rfl
      go_wp2_with ((with_reducible refine gate_store (t := 45) (p := 4) rfl ?_); refine HW.out.out.store_ev HB.out rfl rfl rfl 0 (by first | rfl | (go_simp; done) | (go_simp; rfl)) (u := .agg #[.slice A0 T.length c0, .slice A1 B.length c1, .slice A2 C.length c2, .slice A3 E.length c3]) (by first | rfl | (go_simp; done) | (go_simp; rfl)) (seg := [.slice A0 T.length c0, .slice A1 B.length c1, .slice A2 C.length c2, .slice A3 E.length c3]) rfl (by kernel_rfl) (by simp [Value.oneCell']) (by simp) ?_; intro w5 hl_ hb_ hs_; replace HW := Aside0.mk (WW.tuck (r := box gr 45 [.slice A0 T.length c0, .slice A1 B.length c1, .slice A2 C.length c2, .slice A3 E.length c3]) HW.out.1 hl_); replace HB := Aside0.mk hb_; replace HZ := Aside0.mk (Nat.le_trans HZ.out (Nat.le_of_eq hs_)); clear hl_ hb_ hs_)
      exact bodyPost_ret (results_list (rs := [.cell 4 45, .tmp 5, .tmp 6]) rfl (by simp) (.cell gr 45 #[.slice A0 T.length c0, .slice A1 B.length c1, .slice A2 C.length c2, .slice A3 E.length c3] (0, 0) _ rfl HW.out.out.boxB Try.underlying45 rfl (by kernel_rfl) (.tmp (.tmp .nil)))) rfl ⟨_, rfl, AfterR.mk HW.out.less.less.less0 HB.out HZ.out⟩
    rw [if_neg q1] at hr
    have e1 : ((T.length : Int) == 40) = false := by simpa using q1
    clear q1
    by_cases q2 : part < 0
    · rw [if_pos q2] at hr
      exact absurd hr (by simp)
    rw [if_neg q2] at hr
    by_cases q3 : part ≥ (B.length : Int)
    · rw [if_pos q3] at hr
      exact absurd hr (by simp)
    rw [if_neg q3] at hr
    have h0 := Aside0.mk (show 0 ≤ part by omega)
    have h1 := Aside0.mk (show part < (B.length : Int) by omega)
    have p0 : (0 ≤ part) = True := eq_true h0.out
    have p1 : (part < (B.length : Int)) = True := eq_true h1.out
    clear q2 q3
    obtain ⟨gB, rfl, -, -, -⟩ := HW.out.heads part h0.out h1.out
    replace hr := Option.bind_eq_some_iff.mp hr
    obtain ⟨fl, hfu, hr⟩ := hr
    have HFU := Aside0.mk hfu
    clear hfu
    obtain ⟨Aa, ca, Ab, cb, -, t0, t1, la, Ca, lb, Cb⟩ := HW.out.table part h0.out h1.out
    have HTa := Aside0.mk Ca
    have HTb := Aside0.mk Cb
    clear Ca Cb
    cases fl with
    | true =>
      rw [if_pos rfl] at hr
      simp only [Option.some.injEq, Prod.mk.injEq] at hr
      obtain ⟨rfl, rfl, rfl, rfl⟩ := hr
      go_upto_region 4 with (go_at_call 145; (with_reducible refine (spec_l16Full.calls Aa ca (rd_T78 B part).f0 Ab cb (rd_T78 B part).f1 _ _ HTa.out la HTb.out lb HFU.out).mono ?_); rintro e_ w5 ⟨rfl, hb_⟩; replace HB := Aside0.mk (below_up HB.out HZ.out hb_); replace HZ := Aside0.mk (Nat.le_trans HZ.out hb_.size); replace HW := Aside0.mk (HW.out.below hb_); clear hb_)
      clear b0 b1 a1 t0 t1
      have b0 := HW.out.at 0 rfl
      have b1 := HW.out.at 1 rfl
      have b2 := HW.out.at 2 rfl
      have b3 := HW.out.at 3 rfl
      go_wp2_with ((with_reducible refine gate_store (t := 45) (p := 4) rfl ?_); refine HW.out.out.store_ev HB.out rfl rfl rfl 0 (by first | rfl | (go_simp; done) | (go_simp; rfl)) (u := .agg #[.slice A0 T.length c0, .slice (some ⟨gB, 0, none⟩) B.length c1, .slice A2 C.length c2, .slice A3 E.length c3]) (by first | rfl | (go_simp; done) | (go_simp; rfl)) (seg := [.slice A0 T.length c0, .slice (some ⟨gB, 0, none⟩) B.length c1, .slice A2 C.length c2, .slice A3 E.length c3]) rfl (by kernel_rfl) (by simp [Value.oneCell']) (by simp) ?_; intro w6 hl_ hb_ hs_; replace HW := Aside0.mk (WW.tuck (r := box gr 45 [.slice A0 T.length c0, .slice (some ⟨gB, 0, none⟩) B.length c1, .slice A2 C.length c2, .slice A3 E.length c3]) HW.out.1 hl_); replace HB := Aside0.mk hb_; replace HZ := Aside0.mk (Nat.le_trans HZ.out (Nat.le_of_eq hs_)); clear hl_ hb_ hs_)
      exact bodyPost_ret (results_list (rs := [.cell 4 45, .tmp 5, .tmp 6]) rfl (by simp) (.cell gr 45 #[.slice A0 T.length c0, .slice (some ⟨gB, 0, none⟩) B.length c1, .slice A2 C.length c2, .slice A3 E.length c3] (0, 0) _ rfl HW.out.out.boxB Try.underlying45 rfl (by kernel_rfl) (.tmp (.tmp .nil)))) rfl ⟨_, rfl, AfterR.mk HW.out.less.less.less0 HB.out HZ.out⟩
    | false =>
      rw [if_neg (by simp)] at hr
      by_cases q4 : T.length < 1048576
      case neg =>
        rw [if_neg q4] at hr
        exact absurd hr (by simp)
      rw [if_pos q4] at hr
      have K4 := Aside0.mk q4
      clear q4
      replace hr := Option.bind_eq_some_iff.mp hr
      obtain ⟨⟨r1, r2, r3, r4⟩, hN, hr⟩ := hr
      dsimp only at hr
      simp only [Option.some.injEq, Prod.mk.injEq] at hr
      obtain ⟨rfl, rfl, rfl, rfl⟩ := hr
      have HN := Aside0.mk hN
      clear hN
      go_upto_region 5 with (go_at_call 145; (with_reducible refine (spec_l16Full.calls Aa ca (rd_T78 B part).f0 Ab cb (rd_T78 B part).f1 _ _ HTa.out la HTb.out lb HFU.out).mono ?_); rintro e_ w5 ⟨rfl, hb_⟩; replace HB := Aside0.mk (below_up HB.out HZ.out hb_); replace HZ := Aside0.mk (Nat.le_trans HZ.out hb_.size); replace HW := Aside0.mk (HW.out.below hb_); clear hb_)
      clear b0 b1 a1 t0 t1 la lb HTa HTb HFU
      have b0 := HW.out.at 0 rfl
      have a4 := HW.out.less.out.cell 4 rfl
      go_upto_region 6 with (first | ((with_reducible refine gate_builtin (b := .append) (xs := #[.tmp 30, .tmp 34]) rfl ?_); at_builtin; refine HW.out.appT HB.out HZ.out rfl (.tmp 30) (.tmp 34) 41 (.agg (tc z67).toArray) 16 rfl Try.underlying41 (by kernel_rfl) rfl (by decide) rfl rfl ⟨n, true⟩ (show (T.length + 1) * 16 ≤ 140737488355328 from by have := K4.out; omega) ?_; intro AT cT w6 hw_ hb_ hz_; replace HW := Aside0.mk hw_; replace HB := Aside0.mk hb_; replace HZ := Aside0.mk hz_; clear hw_ hb_ hz_) | ((with_reducible refine gate_store (t := 41) (p := 36) rfl ?_); refine HW.out.setbox HB.out HZ.out rfl rfl rfl 0 (by first | rfl | (go_simp; done) | (go_simp; rfl)) (by first | rfl | (go_simp; done) | (go_simp; rfl)) (by kernel_rfl) (by simp) ?_; intro w7 hw_ hb_ hz_; replace HW := Aside0.mk hw_; replace HB := Aside0.mk hb_; replace HZ := Aside0.mk hz_; clear hw_ hb_ hz_))
      clear b0 a4
      have b0 := HW.out.at 0 rfl
      have b1 := HW.out.at 1 rfl
      have a1 := HW.out.less.out.cell 1 rfl
      have a4 := HW.out.less.out.cell 4 rfl
      have KW : IntKind.i64.wrap (T.length : Int) = T.length := IntWalk.i64_in _ (by have := K4.out; omega)
      have KV : wrap64 (T.length : Int) = T.length := by rw [← i64_w]; exact KW
      obtain ⟨Aa, ca, Ab, cb, -, t0, t1, la, Ca, lb, Cb⟩ := HW.out.table part h0.out h1.out
      have HTa := Aside0.mk Ca
      have HTb := Aside0.mk Cb
      clear Ca Cb
      obtain ⟨DD_, hDD_⟩ := HW.out.asD
      refine draw_call2 (A := ?_) 13 4 [false, true, false, true, false, true, false, true, false, true, false, false, false] Try.func147 (by kernel_rfl) rfl #[.agg #[.slice Aa (rd_T78 B part).f0.length ca, .slice Ab (rd_T78 B part).f1.length cb], .agg #[.bool true, .int .i64 n, .int .i64 (T.length : Int), .bool true, .int .i64 0, .int .i64 0]] (fun b : Value × Value => .tuple #[.agg #[b.1, b.2], .int .i64 r3, .int .i64 r4]) (fun b gn W => DD_ [box gn 78 [.slice none 0 0, .slice none 0 0], rS b.1 r1, rI b.2 r2] W ∧ Below base w0 W ∧ base ≤ W.heap.size) ?A2_1 (.cells #[.slice none 0 0, .slice none 0 0] 78 (0, 0)) (by kernel_rfl) rfl _ rfl rfl rfl rfl _ rfl rfl (S := fun W => Below w7.heap.size w7 W) (by kernel_rfl) (fun _ _ _ d _ h => by cases d <;> exact h) (pw_below_drewN (Below.refl _ _) 1) (fun W h => below_alloc h _) ?hh_1 ?hargs_1 ?hargs2_1 ?hrun_1 ?hc0_1 ?hc1_1 ?hb1_1 ?hb2_1 ?hrest_1
      case hh_1 =>
        simp only [List.take_succ_cons, List.take_zero, List.drop_succ_cons, List.drop_zero]
        repeat (first | (refine hdF_ _ rfl (by rfl) (v := ?_) (a' := ?_) (fun W => by go_simp; with_reducible rfl) (by simp only [Act.put, List.setIfInBounds_toArray, List.set_cons_zero, List.set_cons_succ, i64_w, i32_w]; rfl) ?_) | (refine hdT_ _ rfl (by rfl) (v := ?_) (a' := ?_) (fun W hW => by have b0 := pw_cell_below hW b0; have b1 := pw_cell_below hW b1; have a1 := pw_cell_below hW a1; have a4 := pw_cell_below hW a4; have t0 := pw_cell_below hW t0; have t1 := pw_cell_below hW t1; go_simp; with_reducible rfl) (by simp only [Act.put, List.setIfInBounds_toArray, List.set_cons_zero, List.set_cons_succ, i64_w, i32_w]; rfl) ?_))
        exact hd_end
      case hargs_1 => first | rfl | (go_simp; done) | (go_simp; rfl)
      case hargs2_1 =>
        intro u
        first | rfl | (go_simp; done) | (go_simp; rfl)
      case hrun_1 =>
        intro W A'
        first | rfl | (go_simp; done) | (go_simp; rfl)
      case hc0_1 =>
        refine (spec_NewHandle.calls k Aa ca (rd_T78 B part).f0 Ab cb (rd_T78 B part).f1 true n (T.length : Int) true 0 0 r1 r2 r3 r4 w7.drew HTa.out la HTb.out lb HN.out).mono ?_
        rintro e_ w2_ ⟨u0_, u1_, rfl, ra_, rb_, hb_⟩
        refine ⟨(u0_, u1_), rfl, (pw_below_drewN (Below.refl _ _) 1).trans hb_, ?_, ?_, ?_⟩
        · exact (hDD_ _ _).mpr <| WW.newbox (WW.newtab HW.out.drew hb_ (show base ≤ w7.drew.heap.size from HZ.out) ra_ rb_) (Nat.le_trans (show base ≤ w7.drew.heap.size from HZ.out) hb_.size) 78 [.slice none 0 0, .slice none 0 0]
        · exact (below_up HB.out.drew (show base ≤ w7.drew.heap.size from HZ.out) hb_).alloc (Nat.le_trans (show base ≤ w7.drew.heap.size from HZ.out) hb_.size) _
        · exact Nat.le_trans (Nat.le_trans (show base ≤ w7.drew.heap.size from HZ.out) hb_.size) (below_alloc (Below.refl _ _) _).size
      case hc1_1 =>
        have ha_ := below_alloc (Below.refl w7.drew.heap.size w7.drew) (.cells #[.slice none 0 0, .slice none 0 0] 78 (0, 0))
        have hx_ : Below w7.heap.size w7 (w7.drew.alloc (.cells #[.slice none 0 0, .slice none 0 0] 78 (0, 0))) := below_alloc (pw_below_drewN (Below.refl _ _) 1) _
        refine (spec_NewHandle.calls k Aa ca (rd_T78 B part).f0 Ab cb (rd_T78 B part).f1 true n (T.length : Int) true 0 0 r1 r2 r3 r4 (w7.drew.alloc (.cells #[.slice none 0 0, .slice none 0 0] 78 (0, 0))) (Kd.C_below HTa.out hx_) la (Kd.C_below HTb.out hx_) lb HN.out).mono ?_
        rintro e_ w2_ ⟨u0_, u1_, rfl, ra_, rb_, hb_⟩
        have hz_ := Nat.le_trans (show base ≤ w7.drew.heap.size from HZ.out) ha_.size
        refine ⟨(u0_, u1_), rfl, (pw_below_drewN (Below.refl _ _) 1).trans (ha_.trans (hb_.mono ha_.size)), ?_, ?_, Nat.le_trans hz_ hb_.size⟩
        · exact (hDD_ _ _).mpr <| (WW.newtab (WW.newbox HW.out.drew (show base ≤ w7.drew.heap.size from HZ.out) 78 [.slice none 0 0, .slice none 0 0]) hb_ hz_ ra_ rb_).rot2
        · exact below_up (HB.out.drew.alloc (show base ≤ w7.drew.heap.size from HZ.out) _) hz_ hb_
      case hb1_1 =>
        intro b gn
        simp only [List.take_succ_cons, List.take_zero, List.drop_succ_cons, List.drop_zero]
        repeat (first | (refine hdF_ _ rfl (by rfl) (v := ?_) (a' := ?_) (fun W => by go_simp; with_reducible rfl) (by simp only [Act.put, List.setIfInBounds_toArray, List.set_cons_zero, List.set_cons_succ, i64_w, i32_w]; rfl) ?_) | (refine hdT_ _ rfl (by rfl) (v := ?_) (a' := ?_) (fun W hW => by go_simp; with_reducible rfl) (by simp only [Act.put, List.setIfInBounds_toArray, List.set_cons_zero, List.set_cons_succ, i64_w, i32_w]; rfl) ?_))
        exact hd_end
      case hb2_1 =>
        intro b gn
        refine ⟨?_, ?_, ?_⟩
        rotate_left
        · simp only [List.take_succ_cons, List.take_zero, List.drop_succ_cons, List.drop_zero]
          repeat (first | (refine hdF_ _ rfl (by rfl) (v := ?_) (a' := ?_) (fun W => by go_simp; with_reducible rfl) (by simp only [Act.put, List.setIfInBounds_toArray, List.set_cons_zero, List.set_cons_succ, i64_w, i32_w]; rfl) ?_) | (refine hdT_ _ rfl (by rfl) (v := ?_) (a' := ?_) (fun W hW => by go_simp; with_reducible rfl) (by simp only [Act.put, List.setIfInBounds_toArray, List.set_cons_zero, List.set_cons_succ, i64_w, i32_w]; rfl) ?_))
          exact hd_end
        · first | rfl | (simp only [Act.put, List.setIfInBounds_toArray, List.set_cons_zero, List.set_cons_succ]; done)
      intro b_ gt w2_ hd_
      obtain ⟨x0_, x1_⟩ := b_
      obtain ⟨hw_, hb_, hz_⟩ := hd_
      replace HW := Aside0.mk ((hDD_ _ _).mp hw_)
      simp only [List.cons_append, List.nil_append] at HW
      replace HB := Aside0.mk hb_
      replace HZ := Aside0.mk hz_
      clear hw_ hb_ hz_ hDD_
      have HO := Aside0.mk (two_ones HW.out.less.out.one HW.out.less.less.out.one)
      simp only [List.drop_succ_cons, List.drop_zero, Act.put, List.setIfInBounds_toArray, List.set_cons_zero, List.set_cons_succ]
      clear b0 b1 a1 a4 t0 t1 la lb HTa HTb HN
      go_upto_region 7 with ((with_reducible refine gate_store (t := 78) (p := 7) rfl ?_); refine HW.out.out.store_ev HB.out rfl rfl rfl 0 (by first | rfl | (go_simp; done) | (go_simp; rfl)) (u := .agg #[x0_, x1_]) (by first | rfl | (go_simp; done) | (go_simp; rfl)) (seg := [x0_, x1_]) rfl (by kernel_rfl) HO.out (by simp) ?_; intro w8 hl_ hb_ hs_; replace HW := Aside0.mk (WW.tuck (r := box gt 78 [x0_, x1_]) HW.out.1 hl_); replace HB := Aside0.mk hb_; replace HZ := Aside0.mk (Nat.le_trans HZ.out (Nat.le_of_eq hs_)); clear hl_ hb_ hs_)
      have b1 := HW.out.at 1 rfl
      have y0 := HW.out.out.cell 0 rfl
      have y1 := HW.out.out.cell 1 rfl
      have a1 := HW.out.less.less.less.less.out.cell 1 rfl
      go_upto_region 8 with ((with_reducible refine gate_store (t := 78) (p := 60) rfl ?_); refine HW.out.less.settab HB.out HZ.out rfl rfl rfl part h0.out h1.out (by first | rfl | (go_simp; done) | (go_simp; rfl)) (by first | rfl | (go_simp; done) | (go_simp; rfl)) (by kernel_rfl) ?_; intro w9 hw_ hb_ hz_; replace HW := Aside0.mk hw_; replace HB := Aside0.mk hb_; replace HZ := Aside0.mk hz_; clear hw_ hb_ hz_)
      clear b1 y0 y1 a1
      have b0 := HW.out.at 0 rfl
      have b1 := HW.out.at 1 rfl
      have b2 := HW.out.at 2 rfl
      have b3 := HW.out.at 3 rfl
      go_wp2_with ((with_reducible refine gate_store (t := 45) (p := 4) rfl ?_); refine HW.out.out.store_ev HB.out rfl rfl rfl 0 (by first | rfl | (go_simp; done) | (go_simp; rfl)) (u := .agg #[.slice AT (T.length + 1) cT, .slice (some ⟨gB, 0, none⟩) B.length c1, .slice A2 C.length c2, .slice A3 E.length c3]) (by first | rfl | (go_simp; done) | (go_simp; rfl)) (seg := [.slice AT (T.length + 1) cT, .slice (some ⟨gB, 0, none⟩) B.length c1, .slice A2 C.length c2, .slice A3 E.length c3]) rfl (by kernel_rfl) (by simp [Value.oneCell']) (by simp) ?_; intro w10 hl_ hb_ hs_; replace HW := Aside0.mk (WW.tuck (r := box gr 45 [.slice AT (T.length + 1) cT, .slice (some ⟨gB, 0, none⟩) B.length c1, .slice A2 C.length c2, .slice A3 E.length c3]) HW.out.1 hl_); replace HB := Aside0.mk hb_; replace HZ := Aside0.mk (Nat.le_trans HZ.out (Nat.le_of_eq hs_)); clear hl_ hb_ hs_)
      exact bodyPost_ret (results_list (rs := [.cell 4 45, .tmp 5, .tmp 6]) rfl (by simp) (.cell gr 45 #[.slice AT (T.length + 1) cT, .slice (some ⟨gB, 0, none⟩) B.length c1, .slice A2 C.length c2, .slice A3 E.length c3] (0, 0) _ rfl HW.out.out.boxB Try.underlying45 rfl (by kernel_rfl) (.tmp (.tmp .nil)))) rfl ⟨_, rfl, AfterR.mk HW.out.less.less.less0 HB.out HZ.out⟩
set_option maxHeartbeats 4000000 in
set_option maxRecDepth 100000 in
theorem spec_l16Drop.lay (base : Nat) (v0 v1 v2 v3 : Value) (hs : List (Value × Value)) (T : List S67) (B : List S78) (C : List S155) (E : List Int) (F : List Row) (k : Nat) (kind part at_ to_ n : Int) (T' : List S67) (B' : List S78) (C' : List S155) (E' : List Int) (told code : Int) (w0 w : World)
    (hW : WR w base v0 v1 v2 v3 hs T B C E F) (hb : Below base w0 w) (hz : base ≤ w.heap.size) (hr : sDrop k T B C E part at_ n = some (T', B', C', E', told, code)) :
    Calls Try.prog 143 #[.agg #[v0, v1, v2, v3], .agg #[.int .i64 kind, .int .i64 part, .int .i64 at_, .int .i64 to_, .int .i64 n]] w fun e_ w' => SPost w0 base T' B' C' E' told code F e_ w' := by
  obtain ⟨A0, c0, A1, c1, A2, c2, A3, c3, rfl, rfl, rfl, rfl⟩ := hW.forms
  have HR := Aside0.mk hW
  have HB := Aside0.mk hb
  have HZ := Aside0.mk hz
  have HH := Aside0.mk hr
  clear hW hb hz hr
  go_enter Try.func143, Try.ntmps143
  go_upto_region 1 with (first | ((with_reducible refine gate_dst (N := 2) rfl ?_); refine HR.out.2.box_ev HB.out HZ.out rfl (N := 2) rfl [.slice A0 T.length c0, .slice A1 B.length c1, .slice A2 C.length c2, .slice A3 E.length c3] 45 (by first | (go_simp; done) | (go_simp; rfl)) ?_; intro g w1 hl_ hb_ hz_; have HW := Aside0.mk (WR.box HR.out.1 hl_); replace HB := Aside0.mk hb_; replace HZ := Aside0.mk hz_; clear hl_ hb_ hz_) | ((with_reducible refine gate_dst (N := 3) rfl ?_); refine HW.out.2.box_ev HB.out HZ.out rfl (N := 3) rfl [.int .i64 kind, .int .i64 part, .int .i64 at_, .int .i64 to_, .int .i64 n] 69 (by first | (go_simp; done) | (go_simp; rfl)) ?_; intro ga w2 hl_ hb_ hz_; replace HW := Aside0.mk (WW.tuck HW.out.1 hl_); replace HB := Aside0.mk hb_; replace HZ := Aside0.mk hz_; clear hl_ hb_ hz_) | ((with_reducible refine gate_dst (N := 4) rfl ?_); refine HW.out.2.box_ev HB.out HZ.out rfl (N := 4) rfl [.slice none 0 0, .slice none 0 0, .slice none 0 0, .slice none 0 0] 45 (by first | (go_simp; done) | (go_simp; rfl)) ?_; intro gr w3 hl_ hb_ hz_; replace HW := Aside0.mk (WW.tuck HW.out.1 hl_); replace HB := Aside0.mk hb_; replace HZ := Aside0.mk hz_; clear hl_ hb_ hz_))
  clear HR
  have hr := HH.out
  clear HH
  unfold sDrop at hr
  by_cases q2 : part < 0
  · rw [if_pos q2] at hr
    exact absurd hr (by simp)
  rw [if_neg q2] at hr
  by_cases q3 : part ≥ (B.length : Int)
  · rw [if_pos q3] at hr
    exact absurd hr (by simp)
  rw [if_neg q3] at hr
  have h0 := Aside0.mk (show 0 ≤ part by omega)
  have h1 := Aside0.mk (show part < (B.length : Int) by omega)
  have p0 : (0 ≤ part) = True := eq_true h0.out
  have p1 : (part < (B.length : Int)) = True := eq_true h1.out
  clear q2 q3
  obtain ⟨gB, rfl, -, -, -⟩ := HW.out.heads part h0.out h1.out
  replace hr := Option.bind_eq_some_iff.mp hr
  obtain ⟨⟨r1, r2, r3, r4, r5, r6, r7⟩, hF, hr⟩ := hr
  dsimp only at hr
  have HF := Aside0.mk hF
  clear hF
  have b1 := HW.out.at 1 rfl
  have a1 := HW.out.less.out.cell 1 rfl
  have a2 := HW.out.less.out.cell 2 rfl
  have a4 := HW.out.less.out.cell 4 rfl
  obtain ⟨Aa, ca, Ab, cb, -, t0, t1, la, Ca, lb, Cb⟩ := HW.out.table part h0.out h1.out
  have HTa := Aside0.mk Ca
  have HTb := Aside0.mk Cb
  clear Ca Cb
  obtain ⟨DD_, hDD_⟩ := HW.out.asD
  refine draw_call2 (A := ?_) 10 3 [false, true, false, true, false, true, false, true, false, true] Try.func144 (by kernel_rfl) rfl #[.agg #[.slice Aa (rd_T78 B part).f0.length ca, .slice Ab (rd_T78 B part).f1.length cb], .int .i64 at_, .int .i64 n] (fun _ : Unit => .tuple #[.agg #[.bool r1, .int .i64 r2, .int .i64 r3, .bool r4, .int .i64 r5, .int .i64 r6], .int .i64 r7]) (fun _ gn W => DD_ [box gn 75 [.bool false, .int .i64 0, .int .i64 0, .bool false, .int .i64 0, .int .i64 0]] W ∧ Below base w0 W ∧ base ≤ W.heap.size) ?A2_2 (.cells #[.bool false, .int .i64 0, .int .i64 0, .bool false, .int .i64 0, .int .i64 0] 75 (0, 0)) (by kernel_rfl) rfl _ rfl rfl rfl rfl _ rfl rfl (S := fun W => Below w3.heap.size w3 W) (by kernel_rfl) (fun _ _ _ d _ h => by cases d <;> exact h) (pw_below_drewN (Below.refl _ _) 1) (fun W h => below_alloc h _) ?hh_2 ?hargs_2 ?hargs2_2 ?hrun_2 ?hc0_2 ?hc1_2 ?hb1_2 ?hb2_2 ?hrest_2
  case hh_2 =>
    simp only [List.take_succ_cons, List.take_zero, List.drop_succ_cons, List.drop_zero]
    repeat (first | (refine hdF_ _ rfl (by rfl) (v := ?_) (a' := ?_) (fun W => by go_simp; with_reducible rfl) (by simp only [Act.put, List.setIfInBounds_toArray, List.set_cons_zero, List.set_cons_succ, i64_w, i32_w]; rfl) ?_) | (refine hdT_ _ rfl (by rfl) (v := ?_) (a' := ?_) (fun W hW => by have b1 := pw_cell_below hW b1; have a1 := pw_cell_below hW a1; have a2 := pw_cell_below hW a2; have a4 := pw_cell_below hW a4; have t0 := pw_cell_below hW t0; have t1 := pw_cell_below hW t1; go_simp; with_reducible rfl) (by simp only [Act.put, List.setIfInBounds_toArray, List.set_cons_zero, List.set_cons_succ, i64_w, i32_w]; rfl) ?_))
    exact hd_end
  case hargs_2 => first | rfl | (go_simp; done) | (go_simp; rfl)
  case hargs2_2 =>
    intro u
    first | rfl | (go_simp; done) | (go_simp; rfl)
  case hrun_2 =>
    intro W A'
    first | rfl | (go_simp; done) | (go_simp; rfl)
  case hc0_2 =>
    refine (spec_l15Find.calls k Aa ca (rd_T78 B part).f0 Ab cb (rd_T78 B part).f1 at_ n r1 r2 r3 r4 r5 r6 r7 w3.drew HTa.out la HTb.out lb HF.out).mono ?_
    rintro e_ w2_ ⟨rfl, hb_⟩
    refine ⟨(), rfl, (pw_below_drewN (Below.refl _ _) 1).trans hb_, ?_, ?_, ?_⟩
    · exact (hDD_ _ _).mpr <| WW.newbox (HW.out.drew.below hb_) (Nat.le_trans (show base ≤ w3.drew.heap.size from HZ.out) hb_.size) 75 [.bool false, .int .i64 0, .int .i64 0, .bool false, .int .i64 0, .int .i64 0]
    · exact (below_up HB.out.drew (show base ≤ w3.drew.heap.size from HZ.out) hb_).alloc (Nat.le_trans (show base ≤ w3.drew.heap.size from HZ.out) hb_.size) _
    · exact Nat.le_trans (Nat.le_trans (show base ≤ w3.drew.heap.size from HZ.out) hb_.size) (below_alloc (Below.refl _ _) _).size
  case hc1_2 =>
    have ha_ := below_alloc (Below.refl w3.drew.heap.size w3.drew) (.cells #[.bool false, .int .i64 0, .int .i64 0, .bool false, .int .i64 0, .int .i64 0] 75 (0, 0))
    have hx_ : Below w3.heap.size w3 (w3.drew.alloc (.cells #[.bool false, .int .i64 0, .int .i64 0, .bool false, .int .i64 0, .int .i64 0] 75 (0, 0))) := below_alloc (pw_below_drewN (Below.refl _ _) 1) _
    refine (spec_l15Find.calls k Aa ca (rd_T78 B part).f0 Ab cb (rd_T78 B part).f1 at_ n r1 r2 r3 r4 r5 r6 r7 (w3.drew.alloc (.cells #[.bool false, .int .i64 0, .int .i64 0, .bool false, .int .i64 0, .int .i64 0] 75 (0, 0))) (Kd.C_below HTa.out hx_) la (Kd.C_below HTb.out hx_) lb HF.out).mono ?_
    rintro e_ w2_ ⟨rfl, hb_⟩
    have hz_ := Nat.le_trans (show base ≤ w3.drew.heap.size from HZ.out) ha_.size
    refine ⟨(), rfl, (pw_below_drewN (Below.refl _ _) 1).trans (ha_.trans (hb_.mono ha_.size)), ?_, ?_, Nat.le_trans hz_ hb_.size⟩
    · exact (hDD_ _ _).mpr <| (WW.newbox HW.out.drew (show base ≤ w3.drew.heap.size from HZ.out) 75 [.bool false, .int .i64 0, .int .i64 0, .bool false, .int .i64 0, .int .i64 0]).below hb_
    · exact below_up (HB.out.drew.alloc (show base ≤ w3.drew.heap.size from HZ.out) _) hz_ hb_
  case hb1_2 =>
    intro b gn
    simp only [List.take_succ_cons, List.take_zero, List.drop_succ_cons, List.drop_zero]
    repeat (first | (refine hdF_ _ rfl (by rfl) (v := ?_) (a' := ?_) (fun W => by go_simp; with_reducible rfl) (by simp only [Act.put, List.setIfInBounds_toArray, List.set_cons_zero, List.set_cons_succ, i64_w, i32_w]; rfl) ?_) | (refine hdT_ _ rfl (by rfl) (v := ?_) (a' := ?_) (fun W hW => by go_simp; with_reducible rfl) (by simp only [Act.put, List.setIfInBounds_toArray, List.set_cons_zero, List.set_cons_succ, i64_w, i32_w]; rfl) ?_))
    exact hd_end
  case hb2_2 =>
    intro b gn
    refine ⟨?_, ?_, ?_⟩
    rotate_left
    · simp only [List.take_succ_cons, List.take_zero, List.drop_succ_cons, List.drop_zero]
      repeat (first | (refine hdF_ _ rfl (by rfl) (v := ?_) (a' := ?_) (fun W => by go_simp; with_reducible rfl) (by simp only [Act.put, List.setIfInBounds_toArray, List.set_cons_zero, List.set_cons_succ, i64_w, i32_w]; rfl) ?_) | (refine hdT_ _ rfl (by rfl) (v := ?_) (a' := ?_) (fun W hW => by go_simp; with_reducible rfl) (by simp only [Act.put, List.setIfInBounds_toArray, List.set_cons_zero, List.set_cons_succ, i64_w, i32_w]; rfl) ?_))
      exact hd_end
    · first | rfl | (simp only [Act.put, List.setIfInBounds_toArray, List.set_cons_zero, List.set_cons_succ]; done)
  intro b_ gh w2_ hd_
  obtain ⟨hw_, hb_, hz_⟩ := hd_
  replace HW := Aside0.mk ((hDD_ _ _).mp hw_)
  simp only [List.cons_append, List.nil_append] at HW
  replace HB := Aside0.mk hb_
  replace HZ := Aside0.mk hz_
  clear hw_ hb_ hz_ hDD_
  simp only [List.drop_succ_cons, List.drop_zero, Act.put, List.setIfInBounds_toArray, List.set_cons_zero, List.set_cons_succ]
  clear b1 a1 a2 a4 t0 t1 la lb HTa HTb HF
  go_upto_region 2 with ((with_reducible refine gate_store (t := 75) (p := 7) rfl ?_); refine HW.out.out.store_ev HB.out rfl rfl rfl 0 (by first | rfl | (go_simp; done) | (go_simp; rfl)) (u := .agg #[.bool r1, .int .i64 r2, .int .i64 r3, .bool r4, .int .i64 r5, .int .i64 r6]) (by first | rfl | (go_simp; done) | (go_simp; rfl)) (seg := [.bool r1, .int .i64 r2, .int .i64 r3, .bool r4, .int .i64 r5, .int .i64 r6]) rfl (by kernel_rfl) (by simp [Value.oneCell']) (by simp) ?_; intro w4 hl_ hb_ hs_; replace HW := Aside0.mk (WW.tuck (r := box gh 75 [.bool r1, .int .i64 r2, .int .i64 r3, .bool r4, .int .i64 r5, .int .i64 r6]) HW.out.1 hl_); replace HB := Aside0.mk hb_; replace HZ := Aside0.mk (Nat.le_trans HZ.out (Nat.le_of_eq hs_)); clear hl_ hb_ hs_)
  by_cases z0 : r7 = 0
  case neg =>
    rw [if_neg z0] at hr
    simp only [Option.some.injEq, Prod.mk.injEq] at hr
    obtain ⟨rfl, rfl, rfl, rfl, rfl, rfl⟩ := hr
    have z1 : (r7 != 0) = true := by simpa using z0
    replace HW := Aside0.mk HW.out.rot1
    have b0 := HW.out.at 0 rfl
    have b1 := HW.out.at 1 rfl
    have b2 := HW.out.at 2 rfl
    have b3 := HW.out.at 3 rfl
    go_wp2_with ((with_reducible refine gate_store (t := 45) (p := 4) rfl ?_); refine HW.out.out.store_ev HB.out rfl rfl rfl 0 (by first | rfl | (go_simp; done) | (go_simp; rfl)) (u := .agg #[.slice A0 T.length c0, .slice (some ⟨gB, 0, none⟩) B.length c1, .slice A2 C.length c2, .slice A3 E.length c3]) (by first | rfl | (go_simp; done) | (go_simp; rfl)) (seg := [.slice A0 T.length c0, .slice (some ⟨gB, 0, none⟩) B.length c1, .slice A2 C.length c2, .slice A3 E.length c3]) rfl (by kernel_rfl) (by simp [Value.oneCell']) (by simp) ?_; intro w5 hl_ hb_ hs_; replace HW := Aside0.mk (WW.tuck (r := box gr 45 [.slice A0 T.length c0, .slice (some ⟨gB, 0, none⟩) B.length c1, .slice A2 C.length c2, .slice A3 E.length c3]) HW.out.1 hl_); replace HB := Aside0.mk hb_; replace HZ := Aside0.mk (Nat.le_trans HZ.out (Nat.le_of_eq hs_)); clear hl_ hb_ hs_)
    exact bodyPost_ret (results_list (rs := [.cell 4 45, .tmp 5, .tmp 6]) rfl (by simp) (.cell gr 45 #[.slice A0 T.length c0, .slice (some ⟨gB, 0, none⟩) B.length c1, .slice A2 C.length c2, .slice A3 E.length c3] (0, 0) _ rfl HW.out.out.boxB Try.underlying45 rfl (by kernel_rfl) (.tmp (.tmp .nil)))) rfl ⟨_, rfl, AfterR.mk HW.out.less.less.less.less0 HB.out HZ.out⟩
  rw [if_pos z0] at hr
  subst z0
  have y3 := HW.out.out.cell 3 rfl
  have y4 := HW.out.out.cell 4 rfl
  have y5 := HW.out.out.cell 5 rfl
  have b2 := HW.out.at 2 rfl
  cases r4 with
  | false =>
    rw [if_neg (by simp)] at hr
    by_cases z1 : r6 = (C.length : Int)
    case neg =>
      rw [if_neg z1] at hr
      simp only [Option.some.injEq, Prod.mk.injEq] at hr
      obtain ⟨rfl, rfl, rfl, rfl, rfl, rfl⟩ := hr
      have z2 : (r6 != (C.length : Int)) = true := by simpa using z1
      clear z1 b2
      replace HW := Aside0.mk HW.out.rot1
      have b0 := HW.out.at 0 rfl
      have b1 := HW.out.at 1 rfl
      have b2 := HW.out.at 2 rfl
      have b3 := HW.out.at 3 rfl
      go_wp2_with ((with_reducible refine gate_store (t := 45) (p := 4) rfl ?_); refine HW.out.out.store_ev HB.out rfl rfl rfl 0 (by first | rfl | (go_simp; done) | (go_simp; rfl)) (u := .agg #[.slice A0 T.length c0, .slice (some ⟨gB, 0, none⟩) B.length c1, .slice A2 C.length c2, .slice A3 E.length c3]) (by first | rfl | (go_simp; done) | (go_simp; rfl)) (seg := [.slice A0 T.length c0, .slice (some ⟨gB, 0, none⟩) B.length c1, .slice A2 C.length c2, .slice A3 E.length c3]) rfl (by kernel_rfl) (by simp [Value.oneCell']) (by simp) ?_; intro w5 hl_ hb_ hs_; replace HW := Aside0.mk (WW.tuck (r := box gr 45 [.slice A0 T.length c0, .slice (some ⟨gB, 0, none⟩) B.length c1, .slice A2 C.length c2, .slice A3 E.length c3]) HW.out.1 hl_); replace HB := Aside0.mk hb_; replace HZ := Aside0.mk (Nat.le_trans HZ.out (Nat.le_of_eq hs_)); clear hl_ hb_ hs_)
      exact bodyPost_ret (results_list (rs := [.cell 4 45, .tmp 5, .tmp 6]) rfl (by simp) (.cell gr 45 #[.slice A0 T.length c0, .slice (some ⟨gB, 0, none⟩) B.length c1, .slice A2 C.length c2, .slice A3 E.length c3] (0, 0) _ rfl HW.out.out.boxB Try.underlying45 rfl (by kernel_rfl) (.tmp (.tmp .nil)))) rfl ⟨_, rfl, AfterR.mk HW.out.less.less.less.less0 HB.out HZ.out⟩
    rw [if_pos z1] at hr
    subst z1
    have z2 : ((C.length : Int) != (C.length : Int)) = false := by simp
    replace hr := Option.bind_eq_some_iff.mp hr
    obtain ⟨⟨D1, D2, D3, D4⟩, hD, hr⟩ := hr
    dsimp only at hr
    have HD := Aside0.mk hD
    clear hD
    simp only [Option.some.injEq, Prod.mk.injEq] at hr
    obtain ⟨rfl, rfl, rfl, rfl, rfl, rfl⟩ := hr
    clear b2
    have b0 := HW.out.at 0 rfl
    have b1 := HW.out.at 1 rfl
    have b2 := HW.out.at 2 rfl
    have b3 := HW.out.at 3 rfl
    go_upto_region 7 with (fail)
    have HK := Aside0.mk HW.out.rot1.frame_drop2
    go_wp2_with (first | (go_at_call 141; refine (spec_l16End.lay base _ _ _ _ hs T B C E (box gr 45 [.slice none 0 0, .slice none 0 0, .slice none 0 0, .slice none 0 0] :: F) k _ _ _ _ w0 _ HK.out HB.out HZ.out HD.out).mono ?_; rintro e_ w6 ⟨v_, rfl, x0_, x1_, x2_, x3_, hs_, rfl, hw_, hb_, hz_⟩; have HR := Aside0.mk hw_; have HO := Aside0.mk hw_.ones; replace HB := Aside0.mk hb_; replace HZ := Aside0.mk hz_; clear hw_ hb_ hz_) | ((with_reducible refine gate_store (t := 45) (p := 4) rfl ?_); refine HR.out.out.store_ev HB.out rfl rfl rfl 0 (by first | rfl | (go_simp; done) | (go_simp; rfl)) (u := .agg #[x0_, x1_, x2_, x3_]) (by first | rfl | (go_simp; done) | (go_simp; rfl)) (seg := [x0_, x1_, x2_, x3_]) rfl (by kernel_rfl) HO.out (by simp) ?_; intro w7 hl_ hb_ hs2_; have HL := Aside0.mk (show Lay _ _ (box gr 45 [x0_, x1_, x2_, x3_] :: _) from hl_); replace HB := Aside0.mk hb_; replace HZ := Aside0.mk (Nat.le_trans HZ.out (Nat.le_of_eq hs2_)); clear hl_ hb_ hs2_))
    exact bodyPost_ret (results_list (rs := [.cell 4 45, .tmp 5, .tmp 6]) rfl (by simp) (.cell gr 45 #[x0_, x1_, x2_, x3_] (0, 0) _ rfl HL.out.boxB Try.underlying45 rfl (by kernel_rfl) (.tmp (.tmp .nil)))) rfl ⟨_, rfl, AfterR.mk ⟨HR.out.1, HL.out.tail⟩ HB.out HZ.out⟩
  | true =>
    rw [if_pos rfl] at hr
    by_cases z1 : r5 = 0
    case neg =>
      rw [if_neg z1] at hr
      simp only [Option.some.injEq, Prod.mk.injEq] at hr
      obtain ⟨rfl, rfl, rfl, rfl, rfl, rfl⟩ := hr
      have z2 : (r5 != 0) = true := by simpa using z1
      clear b2
      replace HW := Aside0.mk HW.out.rot1
      have b0 := HW.out.at 0 rfl
      have b1 := HW.out.at 1 rfl
      have b2 := HW.out.at 2 rfl
      have b3 := HW.out.at 3 rfl
      go_wp2_with ((with_reducible refine gate_store (t := 45) (p := 4) rfl ?_); refine HW.out.out.store_ev HB.out rfl rfl rfl 0 (by first | rfl | (go_simp; done) | (go_simp; rfl)) (u := .agg #[.slice A0 T.length c0, .slice (some ⟨gB, 0, none⟩) B.length c1, .slice A2 C.length c2, .slice A3 E.length c3]) (by first | rfl | (go_simp; done) | (go_simp; rfl)) (seg := [.slice A0 T.length c0, .slice (some ⟨gB, 0, none⟩) B.length c1, .slice A2 C.length c2, .slice A3 E.length c3]) rfl (by kernel_rfl) (by simp [Value.oneCell']) (by simp) ?_; intro w5 hl_ hb_ hs_; replace HW := Aside0.mk (WW.tuck (r := box gr 45 [.slice A0 T.length c0, .slice (some ⟨gB, 0, none⟩) B.length c1, .slice A2 C.length c2, .slice A3 E.length c3]) HW.out.1 hl_); replace HB := Aside0.mk hb_; replace HZ := Aside0.mk (Nat.le_trans HZ.out (Nat.le_of_eq hs_)); clear hl_ hb_ hs_)
      exact bodyPost_ret (results_list (rs := [.cell 4 45, .tmp 5, .tmp 6]) rfl (by simp) (.cell gr 45 #[.slice A0 T.length c0, .slice (some ⟨gB, 0, none⟩) B.length c1, .slice A2 C.length c2, .slice A3 E.length c3] (0, 0) _ rfl HW.out.out.boxB Try.underlying45 rfl (by kernel_rfl) (.tmp (.tmp .nil)))) rfl ⟨_, rfl, AfterR.mk HW.out.less.less.less.less0 HB.out HZ.out⟩
    rw [if_pos z1] at hr
    subst z1
    replace hr := Option.bind_eq_some_iff.mp hr
    obtain ⟨⟨D1, D2, D3, D4, D5, D6, D7, D8, D9⟩, hD, hr⟩ := hr
    dsimp only at hr
    have HD := Aside0.mk hD
    clear hD
    by_cases q1 : r3 < 0
    · rw [if_pos q1] at hr
      exact absurd hr (by simp)
    rw [if_neg q1] at hr
    by_cases q2 : r3 ≥ (T.length : Int)
    · rw [if_pos q2] at hr
      exact absurd hr (by simp)
    rw [if_neg q2] at hr
    by_cases q3 : E.length < 1048576
    case neg =>
      rw [if_neg q3] at hr
      exact absurd hr (by simp)
    rw [if_pos q3] at hr
    have K3 := Aside0.mk q3
    have h5 := Aside0.mk (show 0 ≤ r3 by omega)
    have h6 := Aside0.mk (show r3 < (T.length : Int) by omega)
    have p5 : (0 ≤ r3) = True := eq_true h5.out
    have p6 : (r3 < (T.length : Int)) = True := eq_true h6.out
    clear q1 q2 q3
    simp only [Option.some.injEq, Prod.mk.injEq] at hr
    obtain ⟨rfl, rfl, rfl, rfl, rfl, rfl⟩ := hr
    obtain ⟨gt, rfl, tj_⟩ := HW.out.thing r3 h5.out h6.out
    clear tj_
    go_upto_region 10 with (fail)
    clear y3 y4 y5 b2
    have b1 := HW.out.at 1 rfl
    have a1 := HW.out.less.less.out.cell 1 rfl
    have a2 := HW.out.less.less.out.cell 2 rfl
    have a4 := HW.out.less.less.out.cell 4 rfl
    obtain ⟨Aa, ca, Ab, cb, -, t0, t1, la, Ca, lb, Cb⟩ := HW.out.table part h0.out h1.out
    have HTa := Aside0.mk Ca
    have HTb := Aside0.mk Cb
    clear Ca Cb
    refine draw_call (A := ?_) 14 5 [false, true, false, true, false, true, false, true, false, true, false, true, false, true] [false, false, false, false, false] Try.func158 (by kernel_rfl) rfl #[.agg #[.slice Aa (rd_T78 B part).f0.length ca, .slice Ab (rd_T78 B part).f1.length cb], .int .i64 at_, .int .i64 n] (by kernel_rfl) rfl _ rfl rfl rfl (S := fun W => Below w4.heap.size w4 W) (by kernel_rfl) (fun _ _ _ d _ h => by cases d <;> exact h) (pw_below_drewN (Below.refl _ _) 1) ?_ ?_ ?_
    rotate_left
    · simp only [List.take_succ_cons, List.take_zero, List.drop_succ_cons, List.drop_zero]
      repeat (first | (refine hdF_ _ rfl (by rfl) (v := ?_) (a' := ?_) (fun W => by go_simp; with_reducible rfl) (by simp only [Act.put, List.setIfInBounds_toArray, List.set_cons_zero, List.set_cons_succ, i64_w, i32_w]; rfl) ?_) | (refine hdT_ _ rfl (by rfl) (v := ?_) (a' := ?_) (fun W hW => by have b1 := pw_cell_below hW b1; have a1 := pw_cell_below hW a1; have a2 := pw_cell_below hW a2; have a4 := pw_cell_below hW a4; have t0 := pw_cell_below hW t0; have t1 := pw_cell_below hW t1; go_simp; with_reducible rfl) (by simp only [Act.put, List.setIfInBounds_toArray, List.set_cons_zero, List.set_cons_succ, i64_w, i32_w]; rfl) ?_))
      exact hd_end
    · first | rfl | (go_simp; done) | (go_simp; rfl)
    refine (spec_DropHandle.calls k Aa ca (rd_T78 B part).f0 Ab cb (rd_T78 B part).f1 at_ n D1 D2 D3 D4 D5 D6 D7 D8 D9 w4.drew HTa.out la HTb.out lb HD.out).mono ?_
    rintro e_ w2_ ⟨u0_, u1_, rfl, ra_, rb_, hb_⟩
    refine ⟨_, rfl, (pw_below_drewN (Below.refl _ _) 1).trans hb_, ?_, ?_, ?_⟩
    rotate_left
    · simp only [List.take_succ_cons, List.take_zero, List.drop_succ_cons, List.drop_zero]
      repeat (first | (refine hdF_ _ rfl (by rfl) (v := ?_) (a' := ?_) (fun W => by go_simp; with_reducible rfl) (by simp only [Act.put, List.setIfInBounds_toArray, List.set_cons_zero, List.set_cons_succ, i64_w, i32_w]; rfl) ?_) | (refine hdT_ _ rfl (by rfl) (v := ?_) (a' := ?_) (fun W hW => by go_simp; with_reducible rfl) (by simp only [Act.put, List.setIfInBounds_toArray, List.set_cons_zero, List.set_cons_succ, i64_w, i32_w]; rfl) ?_))
      exact hd_end
    simp only [List.drop_succ_cons, List.drop_zero, Act.put, List.setIfInBounds_toArray, List.set_cons_zero, List.set_cons_succ]
    replace HW := Aside0.mk (WW.newtab HW.out.drew hb_ (show base ≤ w4.drew.heap.size from HZ.out) ra_ rb_)
    replace HB := Aside0.mk (below_up HB.out.drew (show base ≤ w4.drew.heap.size from HZ.out) hb_)
    replace HZ := Aside0.mk (Nat.le_trans (show base ≤ w4.drew.heap.size from HZ.out) hb_.size)
    clear hb_ ra_ rb_ b1 a1 a2 a4 t0 t1 la lb HTa HTb
    go_upto_region 11 with ((with_reducible refine gate_store (t := 78) (p := 74) rfl ?_); refine HW.out.settab HB.out HZ.out rfl rfl rfl part h0.out h1.out (by first | rfl | (go_simp; done) | (go_simp; rfl)) (by first | rfl | (go_simp; done) | (go_simp; rfl)) (by kernel_rfl) ?_; intro w5 hw_ hb_ hz_; replace HW := Aside0.mk hw_; replace HB := Aside0.mk hb_; replace HZ := Aside0.mk hz_; clear hw_ hb_ hz_)
    have b0 := HW.out.at 0 rfl
    have y2 := HW.out.out.cell 2 rfl
    go_upto_region 12 with ((with_reducible refine gate_store (t := 4) (p := 80) rfl ?_); refine HW.out.alive HB.out HZ.out rfl rfl rfl r3 h5.out h6.out (by first | rfl | (go_simp; done) | (go_simp; rfl)) (by first | rfl | (go_simp; done) | (go_simp; rfl)) (by kernel_rfl) ?_; intro w6 hw_ hb_ hz_; replace HW := Aside0.mk hw_; replace HB := Aside0.mk hb_; replace HZ := Aside0.mk hz_; clear hw_ hb_ hz_)
    clear b0 y2
    have b3 := HW.out.at 3 rfl
    have y2 := HW.out.out.cell 2 rfl
    go_upto_region 13 with (first | ((with_reducible refine gate_builtin (b := .append) (xs := #[.tmp 82, .tmp 85]) rfl ?_); at_builtin; refine HW.out.appE HB.out HZ.out rfl (.tmp 82) (.tmp 85) 36 (.int .i64 0) 8 rfl Try.underlying36 (by kernel_rfl) rfl (by decide) rfl rfl r3 (show (E.length + 1) * 8 ≤ 140737488355328 from by have := K3.out; omega) ?_; intro AE cE w7 hw_ hb_ hz_; replace HW := Aside0.mk hw_; replace HB := Aside0.mk hb_; replace HZ := Aside0.mk hz_; clear hw_ hb_ hz_) | ((with_reducible refine gate_store (t := 36) (p := 87) rfl ?_); refine HW.out.setbox HB.out HZ.out rfl rfl rfl 3 (by first | rfl | (go_simp; done) | (go_simp; rfl)) (by first | rfl | (go_simp; done) | (go_simp; rfl)) (by kernel_rfl) (by simp) ?_; intro w8 hw_ hb_ hz_; replace HW := Aside0.mk hw_; replace HB := Aside0.mk hb_; replace HZ := Aside0.mk hz_; clear hw_ hb_ hz_))
    clear b3 y2
    replace HW := Aside0.mk HW.out.rot1
    have b0 := HW.out.at 0 rfl
    have b1 := HW.out.at 1 rfl
    have b2 := HW.out.at 2 rfl
    have b3 := HW.out.at 3 rfl
    have z2 := HW.out.less.out.cell 2 rfl
    obtain ⟨w9, hrun_, hl_, hb_, hs_⟩ := Lay.store_run (P := Try.prog) HW.out.drew.out HB.out.drew 45 0 (.agg #[.slice (some ⟨gt, 0, none⟩) T.length c0, .slice (some ⟨gB, 0, none⟩) B.length c1, .slice A2 C.length c2, .slice AE (E.length + 1) cE]) (seg := [.slice (some ⟨gt, 0, none⟩) T.length c0, .slice (some ⟨gB, 0, none⟩) B.length c1, .slice A2 C.length c2, .slice AE (E.length + 1) cE]) rfl (by kernel_rfl) (by simp [Value.oneCell']) (by simp)
    have HW2 := Aside0.mk (WW.tuck (r := box gr 45 [.slice (some ⟨gt, 0, none⟩) T.length c0, .slice (some ⟨gB, 0, none⟩) B.length c1, .slice A2 C.length c2, .slice AE (E.length + 1) cE]) HW.out.1 hl_)
    have HB2 := Aside0.mk hb_
    have HZ2 := Aside0.mk (Nat.le_trans (show base ≤ w8.drew.heap.size from HZ.out) (Nat.le_of_eq hs_))
    clear hl_ hb_ hs_
    refine draw_store (A := ?_) (w1 := w9) 3 [true, false, true] (by kernel_rfl) rfl (S := fun W => W.cell? ⟨g, 0, none⟩ = some (.slice (some ⟨gt, 0, none⟩) T.length c0) ∧ W.cell? ⟨g, 1, none⟩ = some (.slice (some ⟨gB, 0, none⟩) B.length c1) ∧ W.cell? ⟨g, 2, none⟩ = some (.slice A2 C.length c2) ∧ W.cell? ⟨g, 3, none⟩ = some (.slice AE (E.length + 1) cE) ∧ W.cell? ⟨gh, 2, none⟩ = some (.int .i64 r3)) (by kernel_rfl) (fun _ _ _ d _ h => by cases d <;> exact h) rfl rfl ⟨b0, b1, b2, b3, z2⟩ ?_ ⟨HW2.out.at 0 rfl, HW2.out.at 1 rfl, HW2.out.at 2 rfl, HW2.out.at 3 rfl, HW2.out.less.out.cell 2 rfl⟩ ?_ ?_
    rotate_left
    · simp only [List.take_succ_cons, List.take_zero, List.drop_succ_cons, List.drop_zero]
      repeat (first | (refine hdF_ _ rfl (by rfl) (v := ?_) (a' := ?_) (fun W => by go_simp; with_reducible rfl) (by simp only [Act.put, List.setIfInBounds_toArray, List.set_cons_zero, List.set_cons_succ, i64_w, i32_w]; rfl) ?_) | (refine hdT_ _ rfl (by rfl) (v := ?_) (a' := ?_) (fun W hW => by obtain ⟨b0, b1, b2, b3, z2⟩ := hW; go_simp; with_reducible rfl) (by simp only [Act.put, List.setIfInBounds_toArray, List.set_cons_zero, List.set_cons_succ, i64_w, i32_w]; rfl) ?_))
      exact hd_end
    · exact hrun_ _ _ 4 _ rfl rfl (by first | rfl | (go_simp; done) | (go_simp; rfl))
    clear hrun_ b0 b1 b2 b3 z2
    have HW := HW2
    have HB := HB2
    have HZ := HZ2
    clear HW2 HB2 HZ2
    simp only [List.drop_succ_cons, List.drop_zero, Act.put, List.setIfInBounds_toArray, List.set_cons_zero, List.set_cons_succ]
    go_wp2
    exact bodyPost_ret (results_list (rs := [.cell 4 45, .tmp 5, .tmp 6]) rfl (by simp) (.cell gr 45 #[.slice (some ⟨gt, 0, none⟩) T.length c0, .slice (some ⟨gB, 0, none⟩) B.length c1, .slice A2 C.length c2, .slice AE (E.length + 1) cE] (0, 0) _ rfl HW.out.out.boxB Try.underlying45 rfl (by kernel_rfl) (.tmp (.tmp .nil)))) rfl ⟨_, rfl, AfterR.mk HW.out.less.less.less.less0 HB.out HZ.out⟩
set_option maxHeartbeats 4000000 in
set_option maxRecDepth 100000 in
theorem spec_l16Do.lay (base : Nat) (v0 v1 v2 v3 : Value) (hs : List (Value × Value)) (T : List S67) (B : List S78) (C : List S155) (E : List Int) (F : List Row) (k : Nat) (kind part at_ to_ n : Int) (T' : List S67) (B' : List S78) (C' : List S155) (E' : List Int) (told code : Int) (w0 w : World)
    (hW : WR w base v0 v1 v2 v3 hs T B C E F) (hb : Below base w0 w) (hz : base ≤ w.heap.size) (hr : sDo k T B C E kind part at_ to_ n = some (T', B', C', E', told, code)) :
    Calls Try.prog 101 #[.agg #[v0, v1, v2, v3], .agg #[.int .i64 kind, .int .i64 part, .int .i64 at_, .int .i64 to_, .int .i64 n]] w fun e_ w' => SPost w0 base T' B' C' E' told code F e_ w' := by
  obtain ⟨A0, c0, A1, c1, A2, c2, A3, c3, rfl, rfl, rfl, rfl⟩ := hW.forms
  have HR := Aside0.mk hW
  have HB := Aside0.mk hb
  have HZ := Aside0.mk hz
  have HH := Aside0.mk hr
  clear hW hb hz hr
  go_enter Try.func101, Try.ntmps101
  go_upto_region 1 with (first | ((with_reducible refine gate_dst (N := 2) rfl ?_); refine HR.out.2.box_ev HB.out HZ.out rfl (N := 2) rfl [.slice A0 T.length c0, .slice A1 B.length c1, .slice A2 C.length c2, .slice A3 E.length c3] 45 (by first | (go_simp; done) | (go_simp; rfl)) ?_; intro g w1 hl_ hb_ hz_; have HW := Aside0.mk (WR.box HR.out.1 hl_); replace HB := Aside0.mk hb_; replace HZ := Aside0.mk hz_; clear hl_ hb_ hz_) | ((with_reducible refine gate_dst (N := 3) rfl ?_); refine HW.out.2.box_ev HB.out HZ.out rfl (N := 3) rfl [.int .i64 kind, .int .i64 part, .int .i64 at_, .int .i64 to_, .int .i64 n] 69 (by first | (go_simp; done) | (go_simp; rfl)) ?_; intro ga w2 hl_ hb_ hz_; replace HW := Aside0.mk (WW.tuck HW.out.1 hl_); replace HB := Aside0.mk hb_; replace HZ := Aside0.mk hz_; clear hl_ hb_ hz_) | ((with_reducible refine gate_dst (N := 4) rfl ?_); refine HW.out.2.box_ev HB.out HZ.out rfl (N := 4) rfl [.slice none 0 0, .slice none 0 0, .slice none 0 0, .slice none 0 0] 45 (by first | (go_simp; done) | (go_simp; rfl)) ?_; intro gr w3 hl_ hb_ hz_; replace HW := Aside0.mk (WW.tuck HW.out.1 hl_); replace HB := Aside0.mk hb_; replace HZ := Aside0.mk hz_; clear hl_ hb_ hz_))
  clear HR
  have hr := HH.out
  clear HH
  unfold sDo at hr
  have b0 := HW.out.at 0 rfl
  have b1 := HW.out.at 1 rfl
  have b2 := HW.out.at 2 rfl
  have b3 := HW.out.at 3 rfl
  have a0 := HW.out.less.out.cell 0 rfl
  have a1 := HW.out.less.out.cell 1 rfl
  have a2 := HW.out.less.out.cell 2 rfl
  have a3 := HW.out.less.out.cell 3 rfl
  have a4 := HW.out.less.out.cell 4 rfl
  have KL : IntKind.i64.wrap ((B.length : Int) - 1) = (B.length : Int) - 1 := IntWalk.i64_in _ (by have h_ := HW.out.2.tail.tail.len_le; have h2_ : hs.length = B.length := HW.out.1; simp only [rTa] at h_; omega)
  go_upto_region 2 with (fail)
  by_cases k5 : kind = 5
  · rw [if_pos k5] at hr
    have e5 : (kind == 5) = true := by simpa using k5
    clear k5
    replace hr := Option.bind_eq_some_iff.mp hr
    obtain ⟨⟨D1, D2, D3, D4⟩, hD, hr⟩ := hr
    dsimp only at hr
    have HD := Aside0.mk hD
    clear hD
    simp only [Option.some.injEq, Prod.mk.injEq] at hr
    obtain ⟨rfl, rfl, rfl, rfl, rfl, rfl⟩ := hr
    have HK := Aside0.mk HW.out.rot1.less.less0
    go_wp2_with (first | (go_at_call 141; refine (spec_l16End.lay base _ _ _ _ hs T B C E (box gr 45 [.slice none 0 0, .slice none 0 0, .slice none 0 0, .slice none 0 0] :: F) k _ _ _ _ w0 _ HK.out HB.out HZ.out HD.out).mono ?_; rintro e_ w6 ⟨v_, rfl, x0_, x1_, x2_, x3_, hs_, rfl, hw_, hb_, hz_⟩; have HR := Aside0.mk hw_; have HO := Aside0.mk hw_.ones; replace HB := Aside0.mk hb_; replace HZ := Aside0.mk hz_; clear hw_ hb_ hz_) | ((with_reducible refine gate_store (t := 45) (p := 4) rfl ?_); refine HR.out.out.store_ev HB.out rfl rfl rfl 0 (by first | rfl | (go_simp; done) | (go_simp; rfl)) (u := .agg #[x0_, x1_, x2_, x3_]) (by first | rfl | (go_simp; done) | (go_simp; rfl)) (seg := [x0_, x1_, x2_, x3_]) rfl (by kernel_rfl) HO.out (by simp) ?_; intro w7 hl_ hb_ hs2_; have HL := Aside0.mk (show Lay _ _ (box gr 45 [x0_, x1_, x2_, x3_] :: _) from hl_); replace HB := Aside0.mk hb_; replace HZ := Aside0.mk (Nat.le_trans HZ.out (Nat.le_of_eq hs2_)); clear hl_ hb_ hs2_))
    exact bodyPost_ret (results_list (rs := [.cell 4 45, .tmp 5, .tmp 6]) rfl (by simp) (.cell gr 45 #[x0_, x1_, x2_, x3_] (0, 0) _ rfl HL.out.boxB Try.underlying45 rfl (by kernel_rfl) (.tmp (.tmp .nil)))) rfl ⟨_, rfl, AfterR.mk ⟨HR.out.1, HL.out.tail⟩ HB.out HZ.out⟩
  rw [if_neg k5] at hr
  have e5 : (kind == 5) = false := by simpa using k5
  clear k5
  cases q0 : inB kind 1 4 with
  | false =>
    rw [if_pos q0] at hr
    simp only [Option.some.injEq, Prod.mk.injEq] at hr
    obtain ⟨rfl, rfl, rfl, rfl, rfl, rfl⟩ := hr
    go_upto_region 5 with (go_at_call 72; (with_reducible refine (spec_l1In.calls kind 1 4 _ _ (l1In_f kind 1 4)).mono ?_); rintro e_ w' ⟨rfl, ⟨nd, rfl⟩⟩; rw [q0])
    clear b0 b1 b2 b3 a0 a1 a2 a3 a4
    refine WW.named (HW.out.drewN _) (pw_below_drewN HB.out _) HZ.out ?_
    intro w4 hw_ hb_ hz_
    replace HW := Aside0.mk hw_
    replace HB := Aside0.mk hb_
    replace HZ := Aside0.mk hz_
    clear hw_ hb_ hz_
    have b0 := HW.out.at 0 rfl
    have b1 := HW.out.at 1 rfl
    have b2 := HW.out.at 2 rfl
    have b3 := HW.out.at 3 rfl
    go_wp2_with ((with_reducible refine gate_store (t := 45) (p := 4) rfl ?_); refine HW.out.out.store_ev HB.out rfl rfl rfl 0 (by first | rfl | (go_simp; done) | (go_simp; rfl)) (u := .agg #[.slice A0 T.length c0, .slice A1 B.length c1, .slice A2 C.length c2, .slice A3 E.length c3]) (by first | rfl | (go_simp; done) | (go_simp; rfl)) (seg := [.slice A0 T.length c0, .slice A1 B.length c1, .slice A2 C.length c2, .slice A3 E.length c3]) rfl (by kernel_rfl) (by simp [Value.oneCell']) (by simp) ?_; intro w9 hl_ hb_ hs_; replace HW := Aside0.mk (WW.tuck (r := box gr 45 [.slice A0 T.length c0, .slice A1 B.length c1, .slice A2 C.length c2, .slice A3 E.length c3]) HW.out.1 hl_); replace HB := Aside0.mk hb_; replace HZ := Aside0.mk (Nat.le_trans HZ.out (Nat.le_of_eq hs_)); clear hl_ hb_ hs_)
    exact bodyPost_ret (results_list (rs := [.cell 4 45, .tmp 5, .tmp 6]) rfl (by simp) (.cell gr 45 #[.slice A0 T.length c0, .slice A1 B.length c1, .slice A2 C.length c2, .slice A3 E.length c3] (0, 0) _ rfl HW.out.out.boxB Try.underlying45 rfl (by kernel_rfl) (.tmp (.tmp .nil)))) rfl ⟨_, rfl, AfterR.mk HW.out.less.less.less0 HB.out HZ.out⟩
  | true =>
    rw [if_neg (by rw [q0]; simp)] at hr
    cases q1 : inB part 0 ((B.length : Int) - 1) with
    | false =>
      rw [if_pos q1] at hr
      simp only [Option.some.injEq, Prod.mk.injEq] at hr
      obtain ⟨rfl, rfl, rfl, rfl, rfl, rfl⟩ := hr
      go_upto_region 5 with (first | (go_at_call 72; (with_reducible refine (spec_l1In.calls kind 1 4 _ _ (l1In_f kind 1 4)).mono ?_); rintro e_ w' ⟨rfl, ⟨nd, rfl⟩⟩; rw [q0]) | (go_at_call 72; (with_reducible refine (spec_l1In.calls part 0 ((B.length : Int) - 1) _ _ (l1In_f part 0 ((B.length : Int) - 1))).mono ?_); rintro e_ w' ⟨rfl, ⟨nd, rfl⟩⟩; rw [q1]))
      clear b0 b1 b2 b3 a0 a1 a2 a3 a4
      refine WW.named (HW.out.drewN _) (pw_below_drewN HB.out _) HZ.out ?_
      intro w4 hw_ hb_ hz_
      replace HW := Aside0.mk hw_
      replace HB := Aside0.mk hb_
      replace HZ := Aside0.mk hz_
      clear hw_ hb_ hz_
      have b0 := HW.out.at 0 rfl
      have b1 := HW.out.at 1 rfl
      have b2 := HW.out.at 2 rfl
      have b3 := HW.out.at 3 rfl
      go_wp2_with ((with_reducible refine gate_store (t := 45) (p := 4) rfl ?_); refine HW.out.out.store_ev HB.out rfl rfl rfl 0 (by first | rfl | (go_simp; done) | (go_simp; rfl)) (u := .agg #[.slice A0 T.length c0, .slice A1 B.length c1, .slice A2 C.length c2, .slice A3 E.length c3]) (by first | rfl | (go_simp; done) | (go_simp; rfl)) (seg := [.slice A0 T.length c0, .slice A1 B.length c1, .slice A2 C.length c2, .slice A3 E.length c3]) rfl (by kernel_rfl) (by simp [Value.oneCell']) (by simp) ?_; intro w9 hl_ hb_ hs_; replace HW := Aside0.mk (WW.tuck (r := box gr 45 [.slice A0 T.length c0, .slice A1 B.length c1, .slice A2 C.length c2, .slice A3 E.length c3]) HW.out.1 hl_); replace HB := Aside0.mk hb_; replace HZ := Aside0.mk (Nat.le_trans HZ.out (Nat.le_of_eq hs_)); clear hl_ hb_ hs_)
      exact bodyPost_ret (results_list (rs := [.cell 4 45, .tmp 5, .tmp 6]) rfl (by simp) (.cell gr 45 #[.slice A0 T.length c0, .slice A1 B.length c1, .slice A2 C.length c2, .slice A3 E.length c3] (0, 0) _ rfl HW.out.out.boxB Try.underlying45 rfl (by kernel_rfl) (.tmp (.tmp .nil)))) rfl ⟨_, rfl, AfterR.mk HW.out.less.less.less0 HB.out HZ.out⟩
    | true =>
      rw [if_neg (by rw [q1]; simp)] at hr
      go_upto_region 6 with (first | (go_at_call 72; (with_reducible refine (spec_l1In.calls kind 1 4 _ _ (l1In_f kind 1 4)).mono ?_); rintro e_ w' ⟨rfl, ⟨nd, rfl⟩⟩; rw [q0]) | (go_at_call 72; (with_reducible refine (spec_l1In.calls part 0 ((B.length : Int) - 1) _ _ (l1In_f part 0 ((B.length : Int) - 1))).mono ?_); rintro e_ w' ⟨rfl, ⟨nd, rfl⟩⟩; rw [q1]))
      clear b0 b1 b2 b3 a0 a1 a2 a3 a4
      obtain ⟨h0, h1⟩ := inB_in q1
      have h0 := Aside0.mk h0
      have h1 := Aside0.mk h1
      clear q0 q1
      refine WW.named (HW.out.drewN _) (pw_below_drewN HB.out _) HZ.out ?_
      intro w4 hw_ hb_ hz_
      replace HW := Aside0.mk hw_
      replace HB := Aside0.mk hb_
      replace HZ := Aside0.mk hz_
      clear hw_ hb_ hz_
      have b0 := HW.out.at 0 rfl
      have b1 := HW.out.at 1 rfl
      have b2 := HW.out.at 2 rfl
      have b3 := HW.out.at 3 rfl
      have a0 := HW.out.less.out.cell 0 rfl
      have a1 := HW.out.less.out.cell 1 rfl
      have a2 := HW.out.less.out.cell 2 rfl
      have a3 := HW.out.less.out.cell 3 rfl
      have a4 := HW.out.less.out.cell 4 rfl
      by_cases k1 : kind = 1
      · rw [if_pos k1] at hr
        have e1 : (kind == 1) = true := by simpa using k1
        clear k1
        replace hr := Option.bind_eq_some_iff.mp hr
        obtain ⟨⟨D1, D2, D3, D4⟩, hD, hr⟩ := hr
        dsimp only at hr
        have HD := Aside0.mk hD
        clear hD
        simp only [Option.some.injEq, Prod.mk.injEq] at hr
        obtain ⟨rfl, rfl, rfl, rfl, rfl, rfl⟩ := hr
        have HK := Aside0.mk HW.out.rot1.less.less0
        go_wp2_with (first | (go_at_call 142; refine (spec_l16Make.lay base _ _ _ _ hs T B C E (box gr 45 [.slice none 0 0, .slice none 0 0, .slice none 0 0, .slice none 0 0] :: F) k kind part at_ to_ n _ _ _ _ w0 _ HK.out HB.out HZ.out HD.out).mono ?_; rintro e_ w6 ⟨v_, rfl, x0_, x1_, x2_, x3_, hs_, rfl, hw_, hb_, hz_⟩; have HR := Aside0.mk hw_; have HO := Aside0.mk hw_.ones; replace HB := Aside0.mk hb_; replace HZ := Aside0.mk hz_; clear hw_ hb_ hz_) | ((with_reducible refine gate_store (t := 45) (p := 4) rfl ?_); refine HR.out.out.store_ev HB.out rfl rfl rfl 0 (by first | rfl | (go_simp; done) | (go_simp; rfl)) (u := .agg #[x0_, x1_, x2_, x3_]) (by first | rfl | (go_simp; done) | (go_simp; rfl)) (seg := [x0_, x1_, x2_, x3_]) rfl (by kernel_rfl) HO.out (by simp) ?_; intro w7 hl_ hb_ hs2_; have HL := Aside0.mk (show Lay _ _ (box gr 45 [x0_, x1_, x2_, x3_] :: _) from hl_); replace HB := Aside0.mk hb_; replace HZ := Aside0.mk (Nat.le_trans HZ.out (Nat.le_of_eq hs2_)); clear hl_ hb_ hs2_))
        exact bodyPost_ret (results_list (rs := [.cell 4 45, .tmp 5, .tmp 6]) rfl (by simp) (.cell gr 45 #[x0_, x1_, x2_, x3_] (0, 0) _ rfl HL.out.boxB Try.underlying45 rfl (by kernel_rfl) (.tmp (.tmp .nil)))) rfl ⟨_, rfl, AfterR.mk ⟨HR.out.1, HL.out.tail⟩ HB.out HZ.out⟩
      rw [if_neg k1] at hr
      have e1 : (kind == 1) = false := by simpa using k1
      clear k1
      by_cases k4 : kind = 4
      · rw [if_pos k4] at hr
        have e4 : (kind == 4) = true := by simpa using k4
        clear k4
        have HD := Aside0.mk hr
        clear hr
        have HK := Aside0.mk HW.out.rot1.less.less0
        go_wp2_with (first | (go_at_call 143; refine (spec_l16Drop.lay base _ _ _ _ hs T B C E (box gr 45 [.slice none 0 0, .slice none 0 0, .slice none 0 0, .slice none 0 0] :: F) k kind part at_ to_ n _ _ _ _ _ _ w0 _ HK.out HB.out HZ.out HD.out).mono ?_; rintro e_ w6 ⟨v_, rfl, x0_, x1_, x2_, x3_, hs_, rfl, hw_, hb_, hz_⟩; have HR := Aside0.mk hw_; have HO := Aside0.mk hw_.ones; replace HB := Aside0.mk hb_; replace HZ := Aside0.mk hz_; clear hw_ hb_ hz_) | ((with_reducible refine gate_store (t := 45) (p := 4) rfl ?_); refine HR.out.out.store_ev HB.out rfl rfl rfl 0 (by first | rfl | (go_simp; done) | (go_simp; rfl)) (u := .agg #[x0_, x1_, x2_, x3_]) (by first | rfl | (go_simp; done) | (go_simp; rfl)) (seg := [x0_, x1_, x2_, x3_]) rfl (by kernel_rfl) HO.out (by simp) ?_; intro w7 hl_ hb_ hs2_; have HL := Aside0.mk (show Lay _ _ (box gr 45 [x0_, x1_, x2_, x3_] :: _) from hl_); replace HB := Aside0.mk hb_; replace HZ := Aside0.mk (Nat.le_trans HZ.out (Nat.le_of_eq hs2_)); clear hl_ hb_ hs2_))
        exact bodyPost_ret (results_list (rs := [.cell 4 45, .tmp 5, .tmp 6]) rfl (by simp) (.cell gr 45 #[x0_, x1_, x2_, x3_] (0, 0) _ rfl HL.out.boxB Try.underlying45 rfl (by kernel_rfl) (.tmp (.tmp .nil)))) rfl ⟨_, rfl, AfterR.mk ⟨HR.out.1, HL.out.tail⟩ HB.out HZ.out⟩
      rw [if_neg k4] at hr
      have e4 : (kind == 4) = false := by simpa using k4
      clear k4
      cases q2 : inB to_ 0 ((B.length : Int) - 1) with
      | false =>
        rw [if_pos q2] at hr
        simp only [Option.some.injEq, Prod.mk.injEq] at hr
        obtain ⟨rfl, rfl, rfl, rfl, rfl, rfl⟩ := hr
        go_upto_region 11 with (go_at_call 72; (with_reducible refine (spec_l1In.calls to_ 0 ((B.length : Int) - 1) _ _ (l1In_f to_ 0 ((B.length : Int) - 1))).mono ?_); rintro e_ w' ⟨rfl, ⟨nd, rfl⟩⟩; rw [q2])
        clear b0 b1 b2 b3 a0 a1 a2 a3 a4
        refine WW.named (HW.out.drewN _) (pw_below_drewN HB.out _) HZ.out ?_
        intro w4 hw_ hb_ hz_
        replace HW := Aside0.mk hw_
        replace HB := Aside0.mk hb_
        replace HZ := Aside0.mk hz_
        clear hw_ hb_ hz_
        have b0 := HW.out.at 0 rfl
        have b1 := HW.out.at 1 rfl
        have b2 := HW.out.at 2 rfl
        have b3 := HW.out.at 3 rfl
        go_wp2_with ((with_reducible refine gate_store (t := 45) (p := 4) rfl ?_); refine HW.out.out.store_ev HB.out rfl rfl rfl 0 (by first | rfl | (go_simp; done) | (go_simp; rfl)) (u := .agg #[.slice A0 T.length c0, .slice A1 B.length c1, .slice A2 C.length c2, .slice A3 E.length c3]) (by first | rfl | (go_simp; done) | (go_simp; rfl)) (seg := [.slice A0 T.length c0, .slice A1 B.length c1, .slice A2 C.length c2, .slice A3 E.length c3]) rfl (by kernel_rfl) (by simp [Value.oneCell']) (by simp) ?_; intro w9 hl_ hb_ hs_; replace HW := Aside0.mk (WW.tuck (r := box gr 45 [.slice A0 T.length c0, .slice A1 B.length c1, .slice A2 C.length c2, .slice A3 E.length c3]) HW.out.1 hl_); replace HB := Aside0.mk hb_; replace HZ := Aside0.mk (Nat.le_trans HZ.out (Nat.le_of_eq hs_)); clear hl_ hb_ hs_)
        exact bodyPost_ret (results_list (rs := [.cell 4 45, .tmp 5, .tmp 6]) rfl (by simp) (.cell gr 45 #[.slice A0 T.length c0, .slice A1 B.length c1, .slice A2 C.length c2, .slice A3 E.length c3] (0, 0) _ rfl HW.out.out.boxB Try.underlying45 rfl (by kernel_rfl) (.tmp (.tmp .nil)))) rfl ⟨_, rfl, AfterR.mk HW.out.less.less.less0 HB.out HZ.out⟩
      | true =>
        rw [if_neg (by rw [q2]; simp)] at hr
        by_cases q3 : to_ = part
        · rw [if_pos q3] at hr
          have e3 : (to_ == part) = true := by simpa using q3
          clear q3
          simp only [Option.some.injEq, Prod.mk.injEq] at hr
          obtain ⟨rfl, rfl, rfl, rfl, rfl, rfl⟩ := hr
          go_upto_region 11 with (go_at_call 72; (with_reducible refine (spec_l1In.calls to_ 0 ((B.length : Int) - 1) _ _ (l1In_f to_ 0 ((B.length : Int) - 1))).mono ?_); rintro e_ w' ⟨rfl, ⟨nd, rfl⟩⟩; rw [q2])
          clear b0 b1 b2 b3 a0 a1 a2 a3 a4
          refine WW.named (HW.out.drewN _) (pw_below_drewN HB.out _) HZ.out ?_
          intro w4 hw_ hb_ hz_
          replace HW := Aside0.mk hw_
          replace HB := Aside0.mk hb_
          replace HZ := Aside0.mk hz_
          clear hw_ hb_ hz_
          have b0 := HW.out.at 0 rfl
          have b1 := HW.out.at 1 rfl
          have b2 := HW.out.at 2 rfl
          have b3 := HW.out.at 3 rfl
          go_wp2_with ((with_reducible refine gate_store (t := 45) (p := 4) rfl ?_); refine HW.out.out.store_ev HB.out rfl rfl rfl 0 (by first | rfl | (go_simp; done) | (go_simp; rfl)) (u := .agg #[.slice A0 T.length c0, .slice A1 B.length c1, .slice A2 C.length c2, .slice A3 E.length c3]) (by first | rfl | (go_simp; done) | (go_simp; rfl)) (seg := [.slice A0 T.length c0, .slice A1 B.length c1, .slice A2 C.length c2, .slice A3 E.length c3]) rfl (by kernel_rfl) (by simp [Value.oneCell']) (by simp) ?_; intro w9 hl_ hb_ hs_; replace HW := Aside0.mk (WW.tuck (r := box gr 45 [.slice A0 T.length c0, .slice A1 B.length c1, .slice A2 C.length c2, .slice A3 E.length c3]) HW.out.1 hl_); replace HB := Aside0.mk hb_; replace HZ := Aside0.mk (Nat.le_trans HZ.out (Nat.le_of_eq hs_)); clear hl_ hb_ hs_)
          exact bodyPost_ret (results_list (rs := [.cell 4 45, .tmp 5, .tmp 6]) rfl (by simp) (.cell gr 45 #[.slice A0 T.length c0, .slice A1 B.length c1, .slice A2 C.length c2, .slice A3 E.length c3] (0, 0) _ rfl HW.out.out.boxB Try.underlying45 rfl (by kernel_rfl) (.tmp (.tmp .nil)))) rfl ⟨_, rfl, AfterR.mk HW.out.less.less.less0 HB.out HZ.out⟩
        rw [if_neg q3] at hr
        have e3 : (to_ == part) = false := by simpa using q3
        clear q3
        obtain ⟨h2, h3⟩ := inB_in q2
        have h2 := Aside0.mk h2
        have h3 := Aside0.mk h3
        go_upto_region 12 with (go_at_call 72; (with_reducible refine (spec_l1In.calls to_ 0 ((B.length : Int) - 1) _ _ (l1In_f to_ 0 ((B.length : Int) - 1))).mono ?_); rintro e_ w' ⟨rfl, ⟨nd, rfl⟩⟩; rw [q2])
        clear b0 b1 b2 b3 a0 a1 a2 a3 a4
        clear q2 e3 e4 e1 e5 KL
        have p0 : (0 ≤ part) = True := eq_true h0.out
        have p1 : (part < (B.length : Int)) = True := eq_true h1.out
        have p2 : (0 ≤ to_) = True := eq_true h2.out
        have p3 : (to_ < (B.length : Int)) = True := eq_true h3.out
        obtain ⟨gB, rfl, -, -, -⟩ := HW.out.heads part h0.out h1.out
        replace hr := Option.bind_eq_some_iff.mp hr
        obtain ⟨⟨r1, r2, r3, r4, r5, r6, r7⟩, hF, hr⟩ := hr
        dsimp only at hr
        have HF := Aside0.mk hF
        clear hF
        refine WW.named (HW.out.drewN _) (pw_below_drewN HB.out _) HZ.out ?_
        intro w6 hw_ hb_ hz_
        replace HW := Aside0.mk hw_
        replace HB := Aside0.mk hb_
        replace HZ := Aside0.mk hz_
        clear hw_ hb_ hz_
        obtain ⟨Aa, ca, Ab, cb, -, t0, t1, la, Ca, lb, Cb⟩ := HW.out.table part h0.out h1.out
        have HTa := Aside0.mk Ca
        have HTb := Aside0.mk Cb
        clear Ca Cb
        have b1 := HW.out.at 1 rfl
        have a1 := HW.out.less.out.cell 1 rfl
        have a2 := HW.out.less.out.cell 2 rfl
        have a4 := HW.out.less.out.cell 4 rfl
        obtain ⟨DD_, hDD_⟩ := HW.out.asD
        refine draw_call2 (A := ?_) 10 3 [false, true, false, true, false, true, false, true, false, true] Try.func144 (by kernel_rfl) rfl #[.agg #[.slice Aa (rd_T78 B part).f0.length ca, .slice Ab (rd_T78 B part).f1.length cb], .int .i64 at_, .int .i64 n] (fun _ : Unit => .tuple #[.agg #[.bool r1, .int .i64 r2, .int .i64 r3, .bool r4, .int .i64 r5, .int .i64 r6], .int .i64 r7]) (fun _ gn W => DD_ [box gn 75 [.bool false, .int .i64 0, .int .i64 0, .bool false, .int .i64 0, .int .i64 0]] W ∧ Below base w0 W ∧ base ≤ W.heap.size) ?A2_3 (.cells #[.bool false, .int .i64 0, .int .i64 0, .bool false, .int .i64 0, .int .i64 0] 75 (0, 0)) (by kernel_rfl) rfl _ rfl rfl rfl rfl _ rfl rfl (S := fun W => Below w6.heap.size w6 W) (by kernel_rfl) (fun _ _ _ d _ h => by cases d <;> exact h) (pw_below_drewN (Below.refl _ _) 1) (fun W h => below_alloc h _) ?hh_3 ?hargs_3 ?hargs2_3 ?hrun_3 ?hc0_3 ?hc1_3 ?hb1_3 ?hb2_3 ?hrest_3
        case hh_3 =>
          simp only [List.take_succ_cons, List.take_zero, List.drop_succ_cons, List.drop_zero]
          repeat (first | (refine hdF_ _ rfl (by rfl) (v := ?_) (a' := ?_) (fun W => by go_simp; with_reducible rfl) (by simp only [Act.put, List.setIfInBounds_toArray, List.set_cons_zero, List.set_cons_succ, i64_w, i32_w]; rfl) ?_) | (refine hdT_ _ rfl (by rfl) (v := ?_) (a' := ?_) (fun W hW => by have b1 := pw_cell_below hW b1; have a1 := pw_cell_below hW a1; have a2 := pw_cell_below hW a2; have a4 := pw_cell_below hW a4; have t0 := pw_cell_below hW t0; have t1 := pw_cell_below hW t1; go_simp; with_reducible rfl) (by simp only [Act.put, List.setIfInBounds_toArray, List.set_cons_zero, List.set_cons_succ, i64_w, i32_w]; rfl) ?_))
          exact hd_end
        case hargs_3 => first | rfl | (go_simp; done) | (go_simp; rfl)
        case hargs2_3 =>
          intro u
          first | rfl | (go_simp; done) | (go_simp; rfl)
        case hrun_3 =>
          intro W A'
          first | rfl | (go_simp; done) | (go_simp; rfl)
        case hc0_3 =>
          refine (spec_l15Find.calls k Aa ca (rd_T78 B part).f0 Ab cb (rd_T78 B part).f1 at_ n r1 r2 r3 r4 r5 r6 r7 w6.drew HTa.out la HTb.out lb HF.out).mono ?_
          rintro e_ w2_ ⟨rfl, hb_⟩
          refine ⟨(), rfl, (pw_below_drewN (Below.refl _ _) 1).trans hb_, ?_, ?_, ?_⟩
          · exact (hDD_ _ _).mpr <| WW.newbox (HW.out.drew.below hb_) (Nat.le_trans (show base ≤ w6.drew.heap.size from HZ.out) hb_.size) 75 [.bool false, .int .i64 0, .int .i64 0, .bool false, .int .i64 0, .int .i64 0]
          · exact (below_up HB.out.drew (show base ≤ w6.drew.heap.size from HZ.out) hb_).alloc (Nat.le_trans (show base ≤ w6.drew.heap.size from HZ.out) hb_.size) _
          · exact Nat.le_trans (Nat.le_trans (show base ≤ w6.drew.heap.size from HZ.out) hb_.size) (below_alloc (Below.refl _ _) _).size
        case hc1_3 =>
          have ha_ := below_alloc (Below.refl w6.drew.heap.size w6.drew) (.cells #[.bool false, .int .i64 0, .int .i64 0, .bool false, .int .i64 0, .int .i64 0] 75 (0, 0))
          have hx_ : Below w6.heap.size w6 (w6.drew.alloc (.cells #[.bool false, .int .i64 0, .int .i64 0, .bool false, .int .i64 0, .int .i64 0] 75 (0, 0))) := below_alloc (pw_below_drewN (Below.refl _ _) 1) _
          refine (spec_l15Find.calls k Aa ca (rd_T78 B part).f0 Ab cb (rd_T78 B part).f1 at_ n r1 r2 r3 r4 r5 r6 r7 (w6.drew.alloc (.cells #[.bool false, .int .i64 0, .int .i64 0, .bool false, .int .i64 0, .int .i64 0] 75 (0, 0))) (Kd.C_below HTa.out hx_) la (Kd.C_below HTb.out hx_) lb HF.out).mono ?_
          rintro e_ w2_ ⟨rfl, hb_⟩
          have hz_ := Nat.le_trans (show base ≤ w6.drew.heap.size from HZ.out) ha_.size
          refine ⟨(), rfl, (pw_below_drewN (Below.refl _ _) 1).trans (ha_.trans (hb_.mono ha_.size)), ?_, ?_, Nat.le_trans hz_ hb_.size⟩
          · exact (hDD_ _ _).mpr <| (WW.newbox HW.out.drew (show base ≤ w6.drew.heap.size from HZ.out) 75 [.bool false, .int .i64 0, .int .i64 0, .bool false, .int .i64 0, .int .i64 0]).below hb_
          · exact below_up (HB.out.drew.alloc (show base ≤ w6.drew.heap.size from HZ.out) _) hz_ hb_
        case hb1_3 =>
          intro b gn
          simp only [List.take_succ_cons, List.take_zero, List.drop_succ_cons, List.drop_zero]
          repeat (first | (refine hdF_ _ rfl (by rfl) (v := ?_) (a' := ?_) (fun W => by go_simp; with_reducible rfl) (by simp only [Act.put, List.setIfInBounds_toArray, List.set_cons_zero, List.set_cons_succ, i64_w, i32_w]; rfl) ?_) | (refine hdT_ _ rfl (by rfl) (v := ?_) (a' := ?_) (fun W hW => by go_simp; with_reducible rfl) (by simp only [Act.put, List.setIfInBounds_toArray, List.set_cons_zero, List.set_cons_succ, i64_w, i32_w]; rfl) ?_))
          exact hd_end
        case hb2_3 =>
          intro b gn
          refine ⟨?_, ?_, ?_⟩
          rotate_left
          · simp only [List.take_succ_cons, List.take_zero, List.drop_succ_cons, List.drop_zero]
            repeat (first | (refine hdF_ _ rfl (by rfl) (v := ?_) (a' := ?_) (fun W => by go_simp; with_reducible rfl) (by simp only [Act.put, List.setIfInBounds_toArray, List.set_cons_zero, List.set_cons_succ, i64_w, i32_w]; rfl) ?_) | (refine hdT_ _ rfl (by rfl) (v := ?_) (a' := ?_) (fun W hW => by go_simp; with_reducible rfl) (by simp only [Act.put, List.setIfInBounds_toArray, List.set_cons_zero, List.set_cons_succ, i64_w, i32_w]; rfl) ?_))
            exact hd_end
          · first | rfl | (simp only [Act.put, List.setIfInBounds_toArray, List.set_cons_zero, List.set_cons_succ]; done)
        intro b_ gh w2_ hd_
        obtain ⟨hw_, hb_, hz_⟩ := hd_
        replace HW := Aside0.mk ((hDD_ _ _).mp hw_)
        simp only [List.cons_append, List.nil_append] at HW
        replace HB := Aside0.mk hb_
        replace HZ := Aside0.mk hz_
        clear hw_ hb_ hz_ hDD_
        simp only [List.drop_succ_cons, List.drop_zero, Act.put, List.setIfInBounds_toArray, List.set_cons_zero, List.set_cons_succ]
        clear b1 a1 a2 a4 t0 t1 la lb HTa HTb HF
        go_upto_region 13 with ((with_reducible refine gate_store (t := 75) (p := 8) rfl ?_); refine HW.out.out.store_ev HB.out rfl rfl rfl 0 (by first | rfl | (go_simp; done) | (go_simp; rfl)) (u := .agg #[.bool r1, .int .i64 r2, .int .i64 r3, .bool r4, .int .i64 r5, .int .i64 r6]) (by first | rfl | (go_simp; done) | (go_simp; rfl)) (seg := [.bool r1, .int .i64 r2, .int .i64 r3, .bool r4, .int .i64 r5, .int .i64 r6]) rfl (by kernel_rfl) (by simp [Value.oneCell']) (by simp) ?_; intro w7 hl_ hb_ hs_; replace HW := Aside0.mk (WW.tuck (r := box gh 75 [.bool r1, .int .i64 r2, .int .i64 r3, .bool r4, .int .i64 r5, .int .i64 r6]) HW.out.1 hl_); replace HB := Aside0.mk hb_; replace HZ := Aside0.mk (Nat.le_trans HZ.out (Nat.le_of_eq hs_)); clear hl_ hb_ hs_)
        by_cases z0 : r7 = 0
        case neg =>
          rw [if_neg z0] at hr
          simp only [Option.some.injEq, Prod.mk.injEq] at hr
          obtain ⟨rfl, rfl, rfl, rfl, rfl, rfl⟩ := hr
          have z1 : (r7 != 0) = true := by simpa using z0
          replace HW := Aside0.mk HW.out.rot1
          have b0 := HW.out.at 0 rfl
          have b1 := HW.out.at 1 rfl
          have b2 := HW.out.at 2 rfl
          have b3 := HW.out.at 3 rfl
          go_wp2_with ((with_reducible refine gate_store (t := 45) (p := 4) rfl ?_); refine HW.out.out.store_ev HB.out rfl rfl rfl 0 (by first | rfl | (go_simp; done) | (go_simp; rfl)) (u := .agg #[.slice A0 T.length c0, .slice (some ⟨gB, 0, none⟩) B.length c1, .slice A2 C.length c2, .slice A3 E.length c3]) (by first | rfl | (go_simp; done) | (go_simp; rfl)) (seg := [.slice A0 T.length c0, .slice (some ⟨gB, 0, none⟩) B.length c1, .slice A2 C.length c2, .slice A3 E.length c3]) rfl (by kernel_rfl) (by simp [Value.oneCell']) (by simp) ?_; intro w9 hl_ hb_ hs_; replace HW := Aside0.mk (WW.tuck (r := box gr 45 [.slice A0 T.length c0, .slice (some ⟨gB, 0, none⟩) B.length c1, .slice A2 C.length c2, .slice A3 E.length c3]) HW.out.1 hl_); replace HB := Aside0.mk hb_; replace HZ := Aside0.mk (Nat.le_trans HZ.out (Nat.le_of_eq hs_)); clear hl_ hb_ hs_)
          exact bodyPost_ret (results_list (rs := [.cell 4 45, .tmp 5, .tmp 6]) rfl (by simp) (.cell gr 45 #[.slice A0 T.length c0, .slice (some ⟨gB, 0, none⟩) B.length c1, .slice A2 C.length c2, .slice A3 E.length c3] (0, 0) _ rfl HW.out.out.boxB Try.underlying45 rfl (by kernel_rfl) (.tmp (.tmp .nil)))) rfl ⟨_, rfl, AfterR.mk HW.out.less.less.less.less0 HB.out HZ.out⟩
        rw [if_pos z0] at hr
        subst z0
        have y3 := HW.out.out.cell 3 rfl
        cases r4 with
        | false =>
          rw [if_neg (by simp)] at hr
          simp only [Option.some.injEq, Prod.mk.injEq] at hr
          obtain ⟨rfl, rfl, rfl, rfl, rfl, rfl⟩ := hr
          go_upto_region 16 with (fail)
          clear y3
          replace HW := Aside0.mk HW.out.rot1
          have b0 := HW.out.at 0 rfl
          have b1 := HW.out.at 1 rfl
          have b2 := HW.out.at 2 rfl
          have b3 := HW.out.at 3 rfl
          go_wp2_with ((with_reducible refine gate_store (t := 45) (p := 4) rfl ?_); refine HW.out.out.store_ev HB.out rfl rfl rfl 0 (by first | rfl | (go_simp; done) | (go_simp; rfl)) (u := .agg #[.slice A0 T.length c0, .slice (some ⟨gB, 0, none⟩) B.length c1, .slice A2 C.length c2, .slice A3 E.length c3]) (by first | rfl | (go_simp; done) | (go_simp; rfl)) (seg := [.slice A0 T.length c0, .slice (some ⟨gB, 0, none⟩) B.length c1, .slice A2 C.length c2, .slice A3 E.length c3]) rfl (by kernel_rfl) (by simp [Value.oneCell']) (by simp) ?_; intro w9 hl_ hb_ hs_; replace HW := Aside0.mk (WW.tuck (r := box gr 45 [.slice A0 T.length c0, .slice (some ⟨gB, 0, none⟩) B.length c1, .slice A2 C.length c2, .slice A3 E.length c3]) HW.out.1 hl_); replace HB := Aside0.mk hb_; replace HZ := Aside0.mk (Nat.le_trans HZ.out (Nat.le_of_eq hs_)); clear hl_ hb_ hs_)
          exact bodyPost_ret (results_list (rs := [.cell 4 45, .tmp 5, .tmp 6]) rfl (by simp) (.cell gr 45 #[.slice A0 T.length c0, .slice (some ⟨gB, 0, none⟩) B.length c1, .slice A2 C.length c2, .slice A3 E.length c3] (0, 0) _ rfl HW.out.out.boxB Try.underlying45 rfl (by kernel_rfl) (.tmp (.tmp .nil)))) rfl ⟨_, rfl, AfterR.mk HW.out.less.less.less.less0 HB.out HZ.out⟩
        | true =>
          rw [if_pos rfl] at hr
          go_upto_region 17 with (fail)
          clear y3
          have a0 := HW.out.less.less.out.cell 0 rfl
          have y4 := HW.out.out.cell 4 rfl
          by_cases z1 : kind = 2 ∧ r5 ≠ 0
          · rw [if_pos z1] at hr
            simp only [Option.some.injEq, Prod.mk.injEq] at hr
            obtain ⟨rfl, rfl, rfl, rfl, rfl, rfl⟩ := hr
            have e2 : (kind == 2) = true := by simpa using z1.1
            have e6 : (r5 != 0) = true := by simpa using z1.2
            go_upto_region 18 with (fail)
            clear a0 y4
            replace HW := Aside0.mk HW.out.rot1
            have b0 := HW.out.at 0 rfl
            have b1 := HW.out.at 1 rfl
            have b2 := HW.out.at 2 rfl
            have b3 := HW.out.at 3 rfl
            go_wp2_with ((with_reducible refine gate_store (t := 45) (p := 4) rfl ?_); refine HW.out.out.store_ev HB.out rfl rfl rfl 0 (by first | rfl | (go_simp; done) | (go_simp; rfl)) (u := .agg #[.slice A0 T.length c0, .slice (some ⟨gB, 0, none⟩) B.length c1, .slice A2 C.length c2, .slice A3 E.length c3]) (by first | rfl | (go_simp; done) | (go_simp; rfl)) (seg := [.slice A0 T.length c0, .slice (some ⟨gB, 0, none⟩) B.length c1, .slice A2 C.length c2, .slice A3 E.length c3]) rfl (by kernel_rfl) (by simp [Value.oneCell']) (by simp) ?_; intro w9 hl_ hb_ hs_; replace HW := Aside0.mk (WW.tuck (r := box gr 45 [.slice A0 T.length c0, .slice (some ⟨gB, 0, none⟩) B.length c1, .slice A2 C.length c2, .slice A3 E.length c3]) HW.out.1 hl_); replace HB := Aside0.mk hb_; replace HZ := Aside0.mk (Nat.le_trans HZ.out (Nat.le_of_eq hs_)); clear hl_ hb_ hs_)
            exact bodyPost_ret (results_list (rs := [.cell 4 45, .tmp 5, .tmp 6]) rfl (by simp) (.cell gr 45 #[.slice A0 T.length c0, .slice (some ⟨gB, 0, none⟩) B.length c1, .slice A2 C.length c2, .slice A3 E.length c3] (0, 0) _ rfl HW.out.out.boxB Try.underlying45 rfl (by kernel_rfl) (.tmp (.tmp .nil)))) rfl ⟨_, rfl, AfterR.mk HW.out.less.less.less.less0 HB.out HZ.out⟩
          rw [if_neg z1] at hr
          replace hr := Option.bind_eq_some_iff.mp hr
          obtain ⟨fl, hfu, hr⟩ := hr
          have HFU := Aside0.mk hfu
          clear hfu
          by_cases k2 : kind = 2
          · have e2 : (kind == 2) = true := by simpa using k2
            have z2 : r5 = 0 := by
              by_cases z : r5 = 0
              · exact z
              · exact absurd ⟨k2, z⟩ z1
            subst z2
            clear z1
            have b1 := HW.out.at 1 rfl
            have a3 := HW.out.less.less.out.cell 3 rfl
            obtain ⟨Aa, ca, Ab, cb, -, t0, t1, la, Ca, lb, Cb⟩ := HW.out.table to_ h2.out h3.out
            have HTa := Aside0.mk Ca
            have HTb := Aside0.mk Cb
            clear Ca Cb
            cases fl with
            | true =>
              rw [if_pos rfl] at hr
              simp only [Option.some.injEq, Prod.mk.injEq] at hr
              obtain ⟨rfl, rfl, rfl, rfl, rfl, rfl⟩ := hr
              go_upto_region 20 with (go_at_call 145; (with_reducible refine (spec_l16Full.calls Aa ca (rd_T78 B to_).f0 Ab cb (rd_T78 B to_).f1 _ _ HTa.out la HTb.out lb HFU.out).mono ?_); rintro e_ w8 ⟨rfl, hb_⟩; replace HB := Aside0.mk (below_up HB.out HZ.out hb_); replace HZ := Aside0.mk (Nat.le_trans HZ.out hb_.size); replace HW := Aside0.mk (HW.out.below hb_); clear hb_)
              clear b1 a3 a0 y4 t0 t1
              replace HW := Aside0.mk HW.out.rot1
              have b0 := HW.out.at 0 rfl
              have b1 := HW.out.at 1 rfl
              have b2 := HW.out.at 2 rfl
              have b3 := HW.out.at 3 rfl
              go_wp2_with ((with_reducible refine gate_store (t := 45) (p := 4) rfl ?_); refine HW.out.out.store_ev HB.out rfl rfl rfl 0 (by first | rfl | (go_simp; done) | (go_simp; rfl)) (u := .agg #[.slice A0 T.length c0, .slice (some ⟨gB, 0, none⟩) B.length c1, .slice A2 C.length c2, .slice A3 E.length c3]) (by first | rfl | (go_simp; done) | (go_simp; rfl)) (seg := [.slice A0 T.length c0, .slice (some ⟨gB, 0, none⟩) B.length c1, .slice A2 C.length c2, .slice A3 E.length c3]) rfl (by kernel_rfl) (by simp [Value.oneCell']) (by simp) ?_; intro w9 hl_ hb_ hs_; replace HW := Aside0.mk (WW.tuck (r := box gr 45 [.slice A0 T.length c0, .slice (some ⟨gB, 0, none⟩) B.length c1, .slice A2 C.length c2, .slice A3 E.length c3]) HW.out.1 hl_); replace HB := Aside0.mk hb_; replace HZ := Aside0.mk (Nat.le_trans HZ.out (Nat.le_of_eq hs_)); clear hl_ hb_ hs_)
              exact bodyPost_ret (results_list (rs := [.cell 4 45, .tmp 5, .tmp 6]) rfl (by simp) (.cell gr 45 #[.slice A0 T.length c0, .slice (some ⟨gB, 0, none⟩) B.length c1, .slice A2 C.length c2, .slice A3 E.length c3] (0, 0) _ rfl HW.out.out.boxB Try.underlying45 rfl (by kernel_rfl) (.tmp (.tmp .nil)))) rfl ⟨_, rfl, AfterR.mk HW.out.less.less.less.less0 HB.out HZ.out⟩
            | false =>
              rw [if_neg (by simp), if_pos k2] at hr
              go_upto_region 21 with (go_at_call 145; (with_reducible refine (spec_l16Full.calls Aa ca (rd_T78 B to_).f0 Ab cb (rd_T78 B to_).f1 _ _ HTa.out la HTb.out lb HFU.out).mono ?_); rintro e_ w8 ⟨rfl, hb_⟩; replace HB := Aside0.mk (below_up HB.out HZ.out hb_); replace HZ := Aside0.mk (Nat.le_trans HZ.out hb_.size); replace HW := Aside0.mk (HW.out.below hb_); clear hb_)
              clear b1 a3 a0 y4 t0 t1 la lb HTa HTb HFU
              have a0 := HW.out.less.less.out.cell 0 rfl
              replace hr := Option.bind_eq_some_iff.mp hr
              obtain ⟨⟨D1, D2⟩, hD, hr⟩ := hr
              dsimp only at hr
              simp only [Option.some.injEq, Prod.mk.injEq] at hr
              obtain ⟨rfl, rfl, rfl, rfl, rfl, rfl⟩ := hr
              unfold sGive at hD
              replace hD := Option.bind_eq_some_iff.mp hD
              obtain ⟨⟨m1, m2, m3, m4, m5, m6, m7, m8, m9⟩, hM, hD⟩ := hD
              dsimp only at hD
              replace hD := Option.bind_eq_some_iff.mp hD
              obtain ⟨⟨q1, q2, q3, q4⟩, hN, hD⟩ := hD
              simp only [Option.some.injEq, Prod.mk.injEq] at hD
              obtain ⟨rfl, rfl⟩ := hD
              have HM := Aside0.mk hM
              have HN := Aside0.mk hN
              have h4 := Aside0.mk (show to_ < ((B.set part.toNat ⟨m1, m2⟩).length : Int) by rw [List.length_set]; exact h3.out)
              clear hM hN k2
              go_upto_region 22 with (fail)
              clear a0 e2
              have b1 := HW.out.at 1 rfl
              have a1 := HW.out.less.less.out.cell 1 rfl
              have a2 := HW.out.less.less.out.cell 2 rfl
              have a4 := HW.out.less.less.out.cell 4 rfl
              obtain ⟨Aa, ca, Ab, cb, -, t0, t1, la, Ca, lb, Cb⟩ := HW.out.table part h0.out h1.out
              have HTa := Aside0.mk Ca
              have HTb := Aside0.mk Cb
              clear Ca Cb
              refine draw_call (A := ?_) 14 5 [false, true, false, true, false, true, false, true, false, true, false, true, false, true] [false, false, false, false, false] Try.func146 (by kernel_rfl) rfl #[.agg #[.slice Aa (rd_T78 B part).f0.length ca, .slice Ab (rd_T78 B part).f1.length cb], .int .i64 at_, .int .i64 n] (by kernel_rfl) rfl _ rfl rfl rfl (S := fun W => Below w8.heap.size w8 W) (by kernel_rfl) (fun _ _ _ d _ h => by cases d <;> exact h) (pw_below_drewN (Below.refl _ _) 1) ?_ ?_ ?_
              rotate_left
              · simp only [List.take_succ_cons, List.take_zero, List.drop_succ_cons, List.drop_zero]
                repeat (first | (refine hdF_ _ rfl (by rfl) (v := ?_) (a' := ?_) (fun W => by go_simp; with_reducible rfl) (by simp only [Act.put, List.setIfInBounds_toArray, List.set_cons_zero, List.set_cons_succ, i64_w, i32_w]; rfl) ?_) | (refine hdT_ _ rfl (by rfl) (v := ?_) (a' := ?_) (fun W hW => by have b1 := pw_cell_below hW b1; have a1 := pw_cell_below hW a1; have a2 := pw_cell_below hW a2; have a4 := pw_cell_below hW a4; have t0 := pw_cell_below hW t0; have t1 := pw_cell_below hW t1; go_simp; with_reducible rfl) (by simp only [Act.put, List.setIfInBounds_toArray, List.set_cons_zero, List.set_cons_succ, i64_w, i32_w]; rfl) ?_))
                exact hd_end
              · first | rfl | (go_simp; done) | (go_simp; rfl)
              refine (spec_MoveHandle.calls k Aa ca (rd_T78 B part).f0 Ab cb (rd_T78 B part).f1 at_ n m1 m2 m3 m4 m5 m6 m7 m8 m9 w8.drew HTa.out la HTb.out lb HM.out).mono ?_
              rintro e_ w2_ ⟨u0_, u1_, rfl, ra_, rb_, hb_⟩
              refine ⟨_, rfl, (pw_below_drewN (Below.refl _ _) 1).trans hb_, ?_, ?_, ?_⟩
              rotate_left
              · simp only [List.take_succ_cons, List.take_zero, List.drop_succ_cons, List.drop_zero]
                repeat (first | (refine hdF_ _ rfl (by rfl) (v := ?_) (a' := ?_) (fun W => by go_simp; with_reducible rfl) (by simp only [Act.put, List.setIfInBounds_toArray, List.set_cons_zero, List.set_cons_succ, i64_w, i32_w]; rfl) ?_) | (refine hdT_ _ rfl (by rfl) (v := ?_) (a' := ?_) (fun W hW => by go_simp; with_reducible rfl) (by simp only [Act.put, List.setIfInBounds_toArray, List.set_cons_zero, List.set_cons_succ, i64_w, i32_w]; rfl) ?_))
                exact hd_end
              simp only [List.drop_succ_cons, List.drop_zero, Act.put, List.setIfInBounds_toArray, List.set_cons_zero, List.set_cons_succ]
              replace HW := Aside0.mk (WW.newtab HW.out.drew hb_ (show base ≤ w8.drew.heap.size from HZ.out) ra_ rb_)
              replace HB := Aside0.mk (below_up HB.out.drew (show base ≤ w8.drew.heap.size from HZ.out) hb_)
              replace HZ := Aside0.mk (Nat.le_trans (show base ≤ w8.drew.heap.size from HZ.out) hb_.size)
              clear hb_ ra_ rb_ b1 a1 a2 a4 t0 t1 la lb HTa HTb HM
              go_upto_region 23 with (first | ((with_reducible refine gate_store (t := 78) (p := 142) rfl ?_); refine HW.out.settab HB.out HZ.out rfl rfl rfl part h0.out h1.out (by first | rfl | (go_simp; done) | (go_simp; rfl)) (by first | rfl | (go_simp; done) | (go_simp; rfl)) (by kernel_rfl) ?_; intro w9 hw_ hb_ hz_; replace HW := Aside0.mk hw_; replace HB := Aside0.mk hb_; replace HZ := Aside0.mk hz_; clear hw_ hb_ hz_) | ((with_reducible refine gate_store (t := 75) (p := 8) rfl ?_); refine HW.out.out.store_ev HB.out rfl rfl rfl 0 (by first | rfl | (go_simp; done) | (go_simp; rfl)) (u := .agg #[.bool m3, .int .i64 m4, .int .i64 m5, .bool m6, .int .i64 m7, .int .i64 m8]) (by first | rfl | (go_simp; done) | (go_simp; rfl)) (seg := [.bool m3, .int .i64 m4, .int .i64 m5, .bool m6, .int .i64 m7, .int .i64 m8]) rfl (by kernel_rfl) (by simp [Value.oneCell']) (by simp) ?_; intro w10 hl_ hb_ hs_; replace HW := Aside0.mk (WW.tuck (r := box gh 75 [.bool m3, .int .i64 m4, .int .i64 m5, .bool m6, .int .i64 m7, .int .i64 m8]) HW.out.1 hl_); replace HB := Aside0.mk hb_; replace HZ := Aside0.mk (Nat.le_trans HZ.out (Nat.le_of_eq hs_)); clear hl_ hb_ hs_))
              have b1 := HW.out.at 1 rfl
              have a3 := HW.out.less.less.out.cell 3 rfl
              have y0 := HW.out.out.cell 0 rfl
              have y1 := HW.out.out.cell 1 rfl
              have y2 := HW.out.out.cell 2 rfl
              have y3 := HW.out.out.cell 3 rfl
              have y4 := HW.out.out.cell 4 rfl
              have y5 := HW.out.out.cell 5 rfl
              obtain ⟨Aa, ca, Ab, cb, -, t0, t1, la, Ca, lb, Cb⟩ := HW.out.table to_ h2.out h4.out
              have HTa := Aside0.mk Ca
              have HTb := Aside0.mk Cb
              clear Ca Cb
              obtain ⟨DD_, hDD_⟩ := HW.out.asD
              refine draw_call2 (A := ?_) 7 4 [false, true, false, true, false, true, true] Try.func147 (by kernel_rfl) rfl #[.agg #[.slice Aa (rd_T78 (B.set part.toNat ⟨m1, m2⟩) to_).f0.length ca, .slice Ab (rd_T78 (B.set part.toNat ⟨m1, m2⟩) to_).f1.length cb], .agg #[.bool m3, .int .i64 m4, .int .i64 m5, .bool m6, .int .i64 m7, .int .i64 m8]] (fun b : Value × Value => .tuple #[.agg #[b.1, b.2], .int .i64 q3, .int .i64 q4]) (fun b gn W => DD_ [box gn 78 [.slice none 0 0, .slice none 0 0], rS b.1 q1, rI b.2 q2] W ∧ Below base w0 W ∧ base ≤ W.heap.size) ?A2_4 (.cells #[.slice none 0 0, .slice none 0 0] 78 (0, 0)) (by kernel_rfl) rfl _ rfl rfl rfl rfl _ rfl rfl (S := fun W => Below w10.heap.size w10 W) (by kernel_rfl) (fun _ _ _ d _ h => by cases d <;> exact h) (pw_below_drewN (Below.refl _ _) 1) (fun W h => below_alloc h _) ?hh_4 ?hargs_4 ?hargs2_4 ?hrun_4 ?hc0_4 ?hc1_4 ?hb1_4 ?hb2_4 ?hrest_4
              case hh_4 =>
                simp only [List.take_succ_cons, List.take_zero, List.drop_succ_cons, List.drop_zero]
                repeat (first | (refine hdF_ _ rfl (by rfl) (v := ?_) (a' := ?_) (fun W => by go_simp; with_reducible rfl) (by simp only [Act.put, List.setIfInBounds_toArray, List.set_cons_zero, List.set_cons_succ, i64_w, i32_w]; rfl) ?_) | (refine hdT_ _ rfl (by rfl) (v := ?_) (a' := ?_) (fun W hW => by have b1 := pw_cell_below hW b1; have a3 := pw_cell_below hW a3; have y0 := pw_cell_below hW y0; have y1 := pw_cell_below hW y1; have y2 := pw_cell_below hW y2; have y3 := pw_cell_below hW y3; have y4 := pw_cell_below hW y4; have y5 := pw_cell_below hW y5; have t0 := pw_cell_below hW t0; have t1 := pw_cell_below hW t1; go_simp; with_reducible rfl) (by simp only [Act.put, List.setIfInBounds_toArray, List.set_cons_zero, List.set_cons_succ, i64_w, i32_w]; rfl) ?_))
                exact hd_end
              case hargs_4 => first | rfl | (go_simp; done) | (go_simp; rfl)
              case hargs2_4 =>
                intro u
                first | rfl | (go_simp; done) | (go_simp; rfl)
              case hrun_4 =>
                intro W A'
                first | rfl | (go_simp; done) | (go_simp; rfl)
              case hc0_4 =>
                refine (spec_NewHandle.calls k Aa ca (rd_T78 (B.set part.toNat ⟨m1, m2⟩) to_).f0 Ab cb (rd_T78 (B.set part.toNat ⟨m1, m2⟩) to_).f1 m3 m4 m5 m6 m7 m8 q1 q2 q3 q4 w10.drew HTa.out la HTb.out lb HN.out).mono ?_
                rintro e_ w2_ ⟨u0_, u1_, rfl, ra_, rb_, hb_⟩
                refine ⟨(u0_, u1_), rfl, (pw_below_drewN (Below.refl _ _) 1).trans hb_, ?_, ?_, ?_⟩
                · exact (hDD_ _ _).mpr <| WW.newbox (WW.newtab HW.out.drew hb_ (show base ≤ w10.drew.heap.size from HZ.out) ra_ rb_) (Nat.le_trans (show base ≤ w10.drew.heap.size from HZ.out) hb_.size) 78 [.slice none 0 0, .slice none 0 0]
                · exact (below_up HB.out.drew (show base ≤ w10.drew.heap.size from HZ.out) hb_).alloc (Nat.le_trans (show base ≤ w10.drew.heap.size from HZ.out) hb_.size) _
                · exact Nat.le_trans (Nat.le_trans (show base ≤ w10.drew.heap.size from HZ.out) hb_.size) (below_alloc (Below.refl _ _) _).size
              case hc1_4 =>
                have ha_ := below_alloc (Below.refl w10.drew.heap.size w10.drew) (.cells #[.slice none 0 0, .slice none 0 0] 78 (0, 0))
                have hx_ : Below w10.heap.size w10 (w10.drew.alloc (.cells #[.slice none 0 0, .slice none 0 0] 78 (0, 0))) := below_alloc (pw_below_drewN (Below.refl _ _) 1) _
                refine (spec_NewHandle.calls k Aa ca (rd_T78 (B.set part.toNat ⟨m1, m2⟩) to_).f0 Ab cb (rd_T78 (B.set part.toNat ⟨m1, m2⟩) to_).f1 m3 m4 m5 m6 m7 m8 q1 q2 q3 q4 (w10.drew.alloc (.cells #[.slice none 0 0, .slice none 0 0] 78 (0, 0))) (Kd.C_below HTa.out hx_) la (Kd.C_below HTb.out hx_) lb HN.out).mono ?_
                rintro e_ w2_ ⟨u0_, u1_, rfl, ra_, rb_, hb_⟩
                have hz_ := Nat.le_trans (show base ≤ w10.drew.heap.size from HZ.out) ha_.size
                refine ⟨(u0_, u1_), rfl, (pw_below_drewN (Below.refl _ _) 1).trans (ha_.trans (hb_.mono ha_.size)), ?_, ?_, Nat.le_trans hz_ hb_.size⟩
                · exact (hDD_ _ _).mpr <| (WW.newtab (WW.newbox HW.out.drew (show base ≤ w10.drew.heap.size from HZ.out) 78 [.slice none 0 0, .slice none 0 0]) hb_ hz_ ra_ rb_).rot2
                · exact below_up (HB.out.drew.alloc (show base ≤ w10.drew.heap.size from HZ.out) _) hz_ hb_
              case hb1_4 =>
                intro b gn
                simp only [List.take_succ_cons, List.take_zero, List.drop_succ_cons, List.drop_zero]
                repeat (first | (refine hdF_ _ rfl (by rfl) (v := ?_) (a' := ?_) (fun W => by go_simp; with_reducible rfl) (by simp only [Act.put, List.setIfInBounds_toArray, List.set_cons_zero, List.set_cons_succ, i64_w, i32_w]; rfl) ?_) | (refine hdT_ _ rfl (by rfl) (v := ?_) (a' := ?_) (fun W hW => by go_simp; with_reducible rfl) (by simp only [Act.put, List.setIfInBounds_toArray, List.set_cons_zero, List.set_cons_succ, i64_w, i32_w]; rfl) ?_))
                exact hd_end
              case hb2_4 =>
                intro b gn
                refine ⟨?_, ?_, ?_⟩
                rotate_left
                · simp only [List.take_succ_cons, List.take_zero, List.drop_succ_cons, List.drop_zero]
                  repeat (first | (refine hdF_ _ rfl (by rfl) (v := ?_) (a' := ?_) (fun W => by go_simp; with_reducible rfl) (by simp only [Act.put, List.setIfInBounds_toArray, List.set_cons_zero, List.set_cons_succ, i64_w, i32_w]; rfl) ?_) | (refine hdT_ _ rfl (by rfl) (v := ?_) (a' := ?_) (fun W hW => by go_simp; with_reducible rfl) (by simp only [Act.put, List.setIfInBounds_toArray, List.set_cons_zero, List.set_cons_succ, i64_w, i32_w]; rfl) ?_))
                  exact hd_end
                · first | rfl | (simp only [Act.put, List.setIfInBounds_toArray, List.set_cons_zero, List.set_cons_succ]; done)
              intro b_ gt w2_ hd_
              obtain ⟨x0_, x1_⟩ := b_
              obtain ⟨hw_, hb_, hz_⟩ := hd_
              replace HW := Aside0.mk ((hDD_ _ _).mp hw_)
              simp only [List.cons_append, List.nil_append] at HW
              replace HB := Aside0.mk hb_
              replace HZ := Aside0.mk hz_
              clear hw_ hb_ hz_ hDD_
              have HO := Aside0.mk (two_ones HW.out.less.out.one HW.out.less.less.out.one)
              simp only [List.drop_succ_cons, List.drop_zero, Act.put, List.setIfInBounds_toArray, List.set_cons_zero, List.set_cons_succ]
              clear b1 a3 y0 y1 y2 y3 y4 y5 t0 t1 la lb HTa HTb HN
              go_upto_region 24 with ((with_reducible refine gate_store (t := 78) (p := 10) rfl ?_); refine HW.out.out.store_ev HB.out rfl rfl rfl 0 (by first | rfl | (go_simp; done) | (go_simp; rfl)) (u := .agg #[x0_, x1_]) (by first | rfl | (go_simp; done) | (go_simp; rfl)) (seg := [x0_, x1_]) rfl (by kernel_rfl) HO.out (by simp) ?_; intro w13 hl_ hb_ hs_; replace HW := Aside0.mk (WW.tuck (r := box gt 78 [x0_, x1_]) HW.out.1 hl_); replace HB := Aside0.mk hb_; replace HZ := Aside0.mk (Nat.le_trans HZ.out (Nat.le_of_eq hs_)); clear hl_ hb_ hs_)
              have b1 := HW.out.at 1 rfl
              have y0 := HW.out.out.cell 0 rfl
              have y1 := HW.out.out.cell 1 rfl
              have a3 := HW.out.less.less.less.less.less.out.cell 3 rfl
              go_upto_region 25 with ((with_reducible refine gate_store (t := 78) (p := 160) rfl ?_); refine HW.out.less.settab HB.out HZ.out rfl rfl rfl to_ h2.out h4.out (by first | rfl | (go_simp; done) | (go_simp; rfl)) (by first | rfl | (go_simp; done) | (go_simp; rfl)) (by kernel_rfl) ?_; intro w14 hw_ hb_ hz_; replace HW := Aside0.mk hw_; replace HB := Aside0.mk hb_; replace HZ := Aside0.mk hz_; clear hw_ hb_ hz_)
              clear b1 y0 y1 a3
              replace HW := Aside0.mk HW.out.rot1
              have b0 := HW.out.at 0 rfl
              have b1 := HW.out.at 1 rfl
              have b2 := HW.out.at 2 rfl
              have b3 := HW.out.at 3 rfl
              go_wp2_with ((with_reducible refine gate_store (t := 45) (p := 4) rfl ?_); refine HW.out.out.store_ev HB.out rfl rfl rfl 0 (by first | rfl | (go_simp; done) | (go_simp; rfl)) (u := .agg #[.slice A0 T.length c0, .slice (some ⟨gB, 0, none⟩) B.length c1, .slice A2 C.length c2, .slice A3 E.length c3]) (by first | rfl | (go_simp; done) | (go_simp; rfl)) (seg := [.slice A0 T.length c0, .slice (some ⟨gB, 0, none⟩) B.length c1, .slice A2 C.length c2, .slice A3 E.length c3]) rfl (by kernel_rfl) (by simp [Value.oneCell']) (by simp) ?_; intro w15 hl_ hb_ hs_; replace HW := Aside0.mk (WW.tuck (r := box gr 45 [.slice A0 T.length c0, .slice (some ⟨gB, 0, none⟩) B.length c1, .slice A2 C.length c2, .slice A3 E.length c3]) HW.out.1 hl_); replace HB := Aside0.mk hb_; replace HZ := Aside0.mk (Nat.le_trans HZ.out (Nat.le_of_eq hs_)); clear hl_ hb_ hs_)
              exact bodyPost_ret (results_list (rs := [.cell 4 45, .tmp 5, .tmp 6]) rfl (by simp) (.cell gr 45 #[.slice A0 T.length c0, .slice (some ⟨gB, 0, none⟩) B.length c1, .slice A2 C.length c2, .slice A3 E.length c3] (0, 0) _ rfl HW.out.out.boxB Try.underlying45 rfl (by kernel_rfl) (.tmp (.tmp .nil)))) rfl ⟨_, rfl, AfterR.mk HW.out.less.less.less.less0 HB.out HZ.out⟩
          · have e2 : (kind == 2) = false := by simpa using k2
            clear z1
            have b1 := HW.out.at 1 rfl
            have a3 := HW.out.less.less.out.cell 3 rfl
            obtain ⟨Aa, ca, Ab, cb, -, t0, t1, la, Ca, lb, Cb⟩ := HW.out.table to_ h2.out h3.out
            have HTa := Aside0.mk Ca
            have HTb := Aside0.mk Cb
            clear Ca Cb
            cases fl with
            | true =>
              rw [if_pos rfl] at hr
              simp only [Option.some.injEq, Prod.mk.injEq] at hr
              obtain ⟨rfl, rfl, rfl, rfl, rfl, rfl⟩ := hr
              go_upto_region 20 with (go_at_call 145; (with_reducible refine (spec_l16Full.calls Aa ca (rd_T78 B to_).f0 Ab cb (rd_T78 B to_).f1 _ _ HTa.out la HTb.out lb HFU.out).mono ?_); rintro e_ w8 ⟨rfl, hb_⟩; replace HB := Aside0.mk (below_up HB.out HZ.out hb_); replace HZ := Aside0.mk (Nat.le_trans HZ.out hb_.size); replace HW := Aside0.mk (HW.out.below hb_); clear hb_)
              clear b1 a3 a0 y4 t0 t1
              replace HW := Aside0.mk HW.out.rot1
              have b0 := HW.out.at 0 rfl
              have b1 := HW.out.at 1 rfl
              have b2 := HW.out.at 2 rfl
              have b3 := HW.out.at 3 rfl
              go_wp2_with ((with_reducible refine gate_store (t := 45) (p := 4) rfl ?_); refine HW.out.out.store_ev HB.out rfl rfl rfl 0 (by first | rfl | (go_simp; done) | (go_simp; rfl)) (u := .agg #[.slice A0 T.length c0, .slice (some ⟨gB, 0, none⟩) B.length c1, .slice A2 C.length c2, .slice A3 E.length c3]) (by first | rfl | (go_simp; done) | (go_simp; rfl)) (seg := [.slice A0 T.length c0, .slice (some ⟨gB, 0, none⟩) B.length c1, .slice A2 C.length c2, .slice A3 E.length c3]) rfl (by kernel_rfl) (by simp [Value.oneCell']) (by simp) ?_; intro w9 hl_ hb_ hs_; replace HW := Aside0.mk (WW.tuck (r := box gr 45 [.slice A0 T.length c0, .slice (some ⟨gB, 0, none⟩) B.length c1, .slice A2 C.length c2, .slice A3 E.length c3]) HW.out.1 hl_); replace HB := Aside0.mk hb_; replace HZ := Aside0.mk (Nat.le_trans HZ.out (Nat.le_of_eq hs_)); clear hl_ hb_ hs_)
              exact bodyPost_ret (results_list (rs := [.cell 4 45, .tmp 5, .tmp 6]) rfl (by simp) (.cell gr 45 #[.slice A0 T.length c0, .slice (some ⟨gB, 0, none⟩) B.length c1, .slice A2 C.length c2, .slice A3 E.length c3] (0, 0) _ rfl HW.out.out.boxB Try.underlying45 rfl (by kernel_rfl) (.tmp (.tmp .nil)))) rfl ⟨_, rfl, AfterR.mk HW.out.less.less.less.less0 HB.out HZ.out⟩
            | false =>
              rw [if_neg (by simp), if_neg k2] at hr
              go_upto_region 21 with (go_at_call 145; (with_reducible refine (spec_l16Full.calls Aa ca (rd_T78 B to_).f0 Ab cb (rd_T78 B to_).f1 _ _ HTa.out la HTb.out lb HFU.out).mono ?_); rintro e_ w8 ⟨rfl, hb_⟩; replace HB := Aside0.mk (below_up HB.out HZ.out hb_); replace HZ := Aside0.mk (Nat.le_trans HZ.out hb_.size); replace HW := Aside0.mk (HW.out.below hb_); clear hb_)
              clear b1 a3 a0 y4 t0 t1 la lb HTa HTb HFU
              have a0 := HW.out.less.less.out.cell 0 rfl
              replace hr := Option.bind_eq_some_iff.mp hr
              obtain ⟨⟨D1, D2, D3⟩, hD, hr⟩ := hr
              dsimp only at hr
              simp only [Option.some.injEq, Prod.mk.injEq] at hr
              obtain ⟨rfl, rfl, rfl, rfl, rfl, rfl⟩ := hr
              unfold sLend at hD
              by_cases q4 : at_ < 0
              · rw [if_pos q4] at hD
                exact absurd hD (by simp)
              rw [if_neg q4] at hD
              by_cases q5 : at_ ≥ ((rd_T78 B part).f0.length : Int)
              · rw [if_pos q5] at hD
                exact absurd hD (by simp)
              rw [if_neg q5] at hD
              by_cases q6 : C.length < 1048576
              case neg =>
                rw [if_neg q6] at hD
                exact absurd hD (by simp)
              rw [if_pos q6] at hD
              replace hD := Option.bind_eq_some_iff.mp hD
              obtain ⟨⟨q1, q2, q3, q7⟩, hN, hD⟩ := hD
              simp only [Option.some.injEq, Prod.mk.injEq] at hD
              obtain ⟨rfl, rfl, rfl⟩ := hD
              have HN := Aside0.mk hN
              have K4 := Aside0.mk q6
              have h5 := Aside0.mk (show 0 ≤ at_ by omega)
              have h6 := Aside0.mk (show at_ < ((rd_T78 B part).f0.length : Int) by omega)
              have p5 : (0 ≤ at_) = True := eq_true h5.out
              have p6 : (at_ < ((rd_T78 B part).f0.length : Int)) = True := eq_true h6.out
              have h4 := Aside0.mk (show to_ < ((lentB B part at_).length : Int) by unfold lentB; rw [List.length_set]; exact h3.out)
              clear hN k2 q4 q5 q6
              go_upto_region 26 with (fail)
              clear a0 e2
              have b1 := HW.out.at 1 rfl
              have a1 := HW.out.less.less.out.cell 1 rfl
              have a2 := HW.out.less.less.out.cell 2 rfl
              obtain ⟨gs2, cs2, hh, s0, sj⟩ := HW.out.slot part h0.out h1.out at_ h5.out h6.out
              have s4 := sj 4 _ rfl
              have Hh := Aside0.mk hh
              clear sj hh
              refine draw_ 15 [false, true, false, true, false, false, true, false, true, false, false, true, false, false, false] (by kernel_rfl) (S := fun W => Below w8.heap.size w8 W) (A := ?_) (by kernel_rfl) (fun _ _ _ d _ h => by cases d <;> exact h) (pw_below_drewN (Below.refl _ _) 1) ?_ ?_
              rotate_left
              · simp only [List.take_succ_cons, List.take_zero]
                repeat (first | (refine hdF_ _ rfl (by rfl) (v := ?_) (a' := ?_) (fun W => by go_simp; with_reducible rfl) (by simp only [Act.put, List.setIfInBounds_toArray, List.set_cons_zero, List.set_cons_succ, i64_w, i32_w]; rfl) ?_) | (refine hdT_ _ rfl (by rfl) (v := ?_) (a' := ?_) (fun W hW => by have b1 := pw_cell_below hW b1; have a1 := pw_cell_below hW a1; have a2 := pw_cell_below hW a2; have s0 := pw_cell_below hW s0; have s4 := pw_cell_below hW s4; go_simp; with_reducible rfl) (by simp only [Act.put, List.setIfInBounds_toArray, List.set_cons_zero, List.set_cons_succ, i64_w, i32_w]; rfl) ?_))
                exact hd_end
              simp only [List.drop_succ_cons, List.drop_zero, Act.put, List.setIfInBounds_toArray, List.set_cons_zero, List.set_cons_succ]
              replace HW := Aside0.mk HW.out.drew
              replace HB := Aside0.mk HB.out.drew
              replace HZ := Aside0.mk (show base ≤ w8.drew.heap.size from HZ.out)
              clear b1 a1 a2 s0 s4
              generalize w8.drew = w9 at *
              go_upto_region 27 with ((with_reducible refine gate_store (t := 3) (p := 177) rfl ?_); refine HW.out.lends HB.out HZ.out rfl rfl rfl part h0.out h1.out at_ h5.out h6.out Hh.out (by first | rfl | (go_simp; done) | (go_simp; rfl)) (by first | rfl | (go_simp; done) | (go_simp; rfl)) (by kernel_rfl) ?_; intro w10 hw_ hb_ hz_; replace HW := Aside0.mk hw_; replace HB := Aside0.mk hb_; replace HZ := Aside0.mk hz_; clear hw_ hb_ hz_)
              replace HW := Aside0.mk (show WW _ _ _ _ _ _ _ _ _ _ (lentB B part at_) _ _ _ from HW.out)
              have b2 := HW.out.at 2 rfl
              have y1 := HW.out.out.cell 1 rfl
              have y2 := HW.out.out.cell 2 rfl
              have KC : IntKind.i64.wrap ((C.length : Int) + 1) = (C.length : Int) + 1 := IntWalk.i64_in _ (by have := K4.out; omega)
              go_upto_region 28 with (first | ((with_reducible refine gate_dst (N := 13) rfl ?_); refine HW.out.2.box_ev HB.out HZ.out rfl (N := 13) rfl [.bool false, .int .i64 0, .int .i64 0, .bool false, .int .i64 0, .int .i64 0] 75 (by first | (go_simp; done) | (go_simp; rfl)) ?_; intro gn_ w11 hl_ hb_ hz_; replace HW := Aside0.mk (WW.tuck HW.out.1 hl_); replace HB := Aside0.mk hb_; replace HZ := Aside0.mk hz_; clear hl_ hb_ hz_) | ((with_reducible refine gate_store (t := 75) (p := 13) rfl ?_); refine HW.out.out.store_ev HB.out rfl rfl rfl 0 (by first | rfl | (go_simp; done) | (go_simp; rfl)) (u := .agg #[.bool true, .int .i64 r2, .int .i64 r3, .bool false, .int .i64 0, .int .i64 ((C.length : Int) + 1)]) (by first | rfl | (go_simp; done) | (go_simp; rfl)) (seg := [.bool true, .int .i64 r2, .int .i64 r3, .bool false, .int .i64 0, .int .i64 ((C.length : Int) + 1)]) rfl (by kernel_rfl) (by simp [Value.oneCell']) (by simp) ?_; intro w12 hl_ hb_ hs_; replace HW := Aside0.mk (WW.tuck (r := box gn_ 75 [.bool true, .int .i64 r2, .int .i64 r3, .bool false, .int .i64 0, .int .i64 ((C.length : Int) + 1)]) HW.out.1 hl_); replace HB := Aside0.mk hb_; replace HZ := Aside0.mk (Nat.le_trans HZ.out (Nat.le_of_eq hs_)); clear hl_ hb_ hs_))
              clear b2 y1 y2
              have b1 := HW.out.at 1 rfl
              have a3 := HW.out.less.less.less.out.cell 3 rfl
              have y0 := HW.out.out.cell 0 rfl
              have y1 := HW.out.out.cell 1 rfl
              have y2 := HW.out.out.cell 2 rfl
              have y3 := HW.out.out.cell 3 rfl
              have y4 := HW.out.out.cell 4 rfl
              have y5 := HW.out.out.cell 5 rfl
              obtain ⟨Aa, ca, Ab, cb, -, t0, t1, la, Ca, lb, Cb⟩ := HW.out.table to_ h2.out h4.out
              have HTa := Aside0.mk Ca
              have HTb := Aside0.mk Cb
              clear Ca Cb
              have p7 : (to_ < ((lentB B part at_).length : Int)) = True := eq_true h4.out
              have hlB : (lentB B part at_).length = B.length := by unfold lentB; rw [List.length_set]
              have HLB := Aside0.mk hlB
              clear hlB
              obtain ⟨DD_, hDD_⟩ := HW.out.asD
              refine draw_call2 (A := ?_) 7 4 [false, true, false, true, false, true, true] Try.func147 (by kernel_rfl) rfl #[.agg #[.slice Aa (rd_T78 (lentB B part at_) to_).f0.length ca, .slice Ab (rd_T78 (lentB B part at_) to_).f1.length cb], .agg #[.bool true, .int .i64 r2, .int .i64 r3, .bool false, .int .i64 0, .int .i64 ((C.length : Int) + 1)]] (fun b : Value × Value => .tuple #[.agg #[b.1, b.2], .int .i64 q3, .int .i64 q7]) (fun b gn W => DD_ [box gn 78 [.slice none 0 0, .slice none 0 0], rS b.1 q1, rI b.2 q2] W ∧ Below base w0 W ∧ base ≤ W.heap.size) ?A2_5 (.cells #[.slice none 0 0, .slice none 0 0] 78 (0, 0)) (by kernel_rfl) rfl _ rfl rfl rfl rfl _ rfl rfl (S := fun W => Below w12.heap.size w12 W) (by kernel_rfl) (fun _ _ _ d _ h => by cases d <;> exact h) (pw_below_drewN (Below.refl _ _) 1) (fun W h => below_alloc h _) ?hh_5 ?hargs_5 ?hargs2_5 ?hrun_5 ?hc0_5 ?hc1_5 ?hb1_5 ?hb2_5 ?hrest_5
              case hh_5 =>
                simp only [List.take_succ_cons, List.take_zero, List.drop_succ_cons, List.drop_zero]
                repeat (first | (refine hdF_ _ rfl (by rfl) (v := ?_) (a' := ?_) (fun W => by go_simp; with_reducible rfl) (by simp only [Act.put, List.setIfInBounds_toArray, List.set_cons_zero, List.set_cons_succ, i64_w, i32_w]; rfl) ?_) | (refine hdT_ _ rfl (by rfl) (v := ?_) (a' := ?_) (fun W hW => by have b1 := pw_cell_below hW b1; have a3 := pw_cell_below hW a3; have y0 := pw_cell_below hW y0; have y1 := pw_cell_below hW y1; have y2 := pw_cell_below hW y2; have y3 := pw_cell_below hW y3; have y4 := pw_cell_below hW y4; have y5 := pw_cell_below hW y5; have t0 := pw_cell_below hW t0; have t1 := pw_cell_below hW t1; go_simp; with_reducible rfl) (by simp only [Act.put, List.setIfInBounds_toArray, List.set_cons_zero, List.set_cons_succ, i64_w, i32_w]; rfl) ?_))
                exact hd_end
              case hargs_5 => first | rfl | (go_simp; done) | (go_simp; rfl)
              case hargs2_5 =>
                intro u
                first | rfl | (go_simp; done) | (go_simp; rfl)
              case hrun_5 =>
                intro W A'
                first | rfl | (go_simp; done) | (go_simp; rfl)
              case hc0_5 =>
                refine (spec_NewHandle.calls k Aa ca (rd_T78 (lentB B part at_) to_).f0 Ab cb (rd_T78 (lentB B part at_) to_).f1 true r2 r3 false 0 ((C.length : Int) + 1) q1 q2 q3 q7 w12.drew HTa.out la HTb.out lb HN.out).mono ?_
                rintro e_ w2_ ⟨u0_, u1_, rfl, ra_, rb_, hb_⟩
                refine ⟨(u0_, u1_), rfl, (pw_below_drewN (Below.refl _ _) 1).trans hb_, ?_, ?_, ?_⟩
                · exact (hDD_ _ _).mpr <| WW.newbox (WW.newtab HW.out.drew hb_ (show base ≤ w12.drew.heap.size from HZ.out) ra_ rb_) (Nat.le_trans (show base ≤ w12.drew.heap.size from HZ.out) hb_.size) 78 [.slice none 0 0, .slice none 0 0]
                · exact (below_up HB.out.drew (show base ≤ w12.drew.heap.size from HZ.out) hb_).alloc (Nat.le_trans (show base ≤ w12.drew.heap.size from HZ.out) hb_.size) _
                · exact Nat.le_trans (Nat.le_trans (show base ≤ w12.drew.heap.size from HZ.out) hb_.size) (below_alloc (Below.refl _ _) _).size
              case hc1_5 =>
                have ha_ := below_alloc (Below.refl w12.drew.heap.size w12.drew) (.cells #[.slice none 0 0, .slice none 0 0] 78 (0, 0))
                have hx_ : Below w12.heap.size w12 (w12.drew.alloc (.cells #[.slice none 0 0, .slice none 0 0] 78 (0, 0))) := below_alloc (pw_below_drewN (Below.refl _ _) 1) _
                refine (spec_NewHandle.calls k Aa ca (rd_T78 (lentB B part at_) to_).f0 Ab cb (rd_T78 (lentB B part at_) to_).f1 true r2 r3 false 0 ((C.length : Int) + 1) q1 q2 q3 q7 (w12.drew.alloc (.cells #[.slice none 0 0, .slice none 0 0] 78 (0, 0))) (Kd.C_below HTa.out hx_) la (Kd.C_below HTb.out hx_) lb HN.out).mono ?_
                rintro e_ w2_ ⟨u0_, u1_, rfl, ra_, rb_, hb_⟩
                have hz_ := Nat.le_trans (show base ≤ w12.drew.heap.size from HZ.out) ha_.size
                refine ⟨(u0_, u1_), rfl, (pw_below_drewN (Below.refl _ _) 1).trans (ha_.trans (hb_.mono ha_.size)), ?_, ?_, Nat.le_trans hz_ hb_.size⟩
                · exact (hDD_ _ _).mpr <| (WW.newtab (WW.newbox HW.out.drew (show base ≤ w12.drew.heap.size from HZ.out) 78 [.slice none 0 0, .slice none 0 0]) hb_ hz_ ra_ rb_).rot2
                · exact below_up (HB.out.drew.alloc (show base ≤ w12.drew.heap.size from HZ.out) _) hz_ hb_
              case hb1_5 =>
                intro b gn
                simp only [List.take_succ_cons, List.take_zero, List.drop_succ_cons, List.drop_zero]
                repeat (first | (refine hdF_ _ rfl (by rfl) (v := ?_) (a' := ?_) (fun W => by go_simp; with_reducible rfl) (by simp only [Act.put, List.setIfInBounds_toArray, List.set_cons_zero, List.set_cons_succ, i64_w, i32_w]; rfl) ?_) | (refine hdT_ _ rfl (by rfl) (v := ?_) (a' := ?_) (fun W hW => by go_simp; with_reducible rfl) (by simp only [Act.put, List.setIfInBounds_toArray, List.set_cons_zero, List.set_cons_succ, i64_w, i32_w]; rfl) ?_))
                exact hd_end
              case hb2_5 =>
                intro b gn
                refine ⟨?_, ?_, ?_⟩
                rotate_left
                · simp only [List.take_succ_cons, List.take_zero, List.drop_succ_cons, List.drop_zero]
                  repeat (first | (refine hdF_ _ rfl (by rfl) (v := ?_) (a' := ?_) (fun W => by go_simp; with_reducible rfl) (by simp only [Act.put, List.setIfInBounds_toArray, List.set_cons_zero, List.set_cons_succ, i64_w, i32_w]; rfl) ?_) | (refine hdT_ _ rfl (by rfl) (v := ?_) (a' := ?_) (fun W hW => by go_simp; with_reducible rfl) (by simp only [Act.put, List.setIfInBounds_toArray, List.set_cons_zero, List.set_cons_succ, i64_w, i32_w]; rfl) ?_))
                  exact hd_end
                · first | rfl | (simp only [Act.put, List.setIfInBounds_toArray, List.set_cons_zero, List.set_cons_succ]; done)
              intro b_ gt w2_ hd_
              obtain ⟨x0_, x1_⟩ := b_
              obtain ⟨hw_, hb_, hz_⟩ := hd_
              replace HW := Aside0.mk ((hDD_ _ _).mp hw_)
              simp only [List.cons_append, List.nil_append] at HW
              replace HB := Aside0.mk hb_
              replace HZ := Aside0.mk hz_
              clear hw_ hb_ hz_ hDD_
              have HO := Aside0.mk (two_ones HW.out.less.out.one HW.out.less.less.out.one)
              simp only [List.drop_succ_cons, List.drop_zero, Act.put, List.setIfInBounds_toArray, List.set_cons_zero, List.set_cons_succ]
              clear b1 a3 y0 y1 y2 y3 y4 y5 t0 t1 la lb HTa HTb HN
              go_upto_region 29 with ((with_reducible refine gate_store (t := 78) (p := 14) rfl ?_); refine HW.out.out.store_ev HB.out rfl rfl rfl 0 (by first | rfl | (go_simp; done) | (go_simp; rfl)) (u := .agg #[x0_, x1_]) (by first | rfl | (go_simp; done) | (go_simp; rfl)) (seg := [x0_, x1_]) rfl (by kernel_rfl) HO.out (by simp) ?_; intro w13 hl_ hb_ hs_; replace HW := Aside0.mk (WW.tuck (r := box gt 78 [x0_, x1_]) HW.out.1 hl_); replace HB := Aside0.mk hb_; replace HZ := Aside0.mk (Nat.le_trans HZ.out (Nat.le_of_eq hs_)); clear hl_ hb_ hs_)
              have b1 := HW.out.at 1 rfl
              have y0 := HW.out.out.cell 0 rfl
              have y1 := HW.out.out.cell 1 rfl
              have a3 := HW.out.less.less.less.less.less.less.out.cell 3 rfl
              go_upto_region 30 with ((with_reducible refine gate_store (t := 78) (p := 204) rfl ?_); refine HW.out.less.settab HB.out HZ.out rfl rfl rfl to_ h2.out h4.out (by first | rfl | (go_simp; done) | (go_simp; rfl)) (by first | rfl | (go_simp; done) | (go_simp; rfl)) (by kernel_rfl) ?_; intro w14 hw_ hb_ hz_; replace HW := Aside0.mk hw_; replace HB := Aside0.mk hb_; replace HZ := Aside0.mk hz_; clear hw_ hb_ hz_)
              clear b1 y0 y1 a3
              have b2 := HW.out.at 2 rfl
              have a1 := HW.out.less.less.less.out.cell 1 rfl
              have a2 := HW.out.less.less.less.out.cell 2 rfl
              have a3 := HW.out.less.less.less.out.cell 3 rfl
              go_upto_region 31 with (first | ((with_reducible refine gate_builtin (b := .append) (xs := #[.tmp 206, .tmp 215]) rfl ?_); at_builtin; refine HW.out.appC HB.out HZ.out rfl (.tmp 206) (.tmp 215) 43 (.agg (lc z155).toArray) 32 rfl Try.underlying43 (by kernel_rfl) rfl (by decide) rfl rfl ⟨part, at_, to_, q3⟩ (show (C.length + 1) * 32 ≤ 140737488355328 from by have := K4.out; omega) ?_; intro AC cC w15 hw_ hb_ hz_; replace HW := Aside0.mk hw_; replace HB := Aside0.mk hb_; replace HZ := Aside0.mk hz_; clear hw_ hb_ hz_) | ((with_reducible refine gate_store (t := 43) (p := 217) rfl ?_); refine HW.out.setbox HB.out HZ.out rfl rfl rfl 2 (by first | rfl | (go_simp; done) | (go_simp; rfl)) (by first | rfl | (go_simp; done) | (go_simp; rfl)) (by kernel_rfl) (by simp) ?_; intro w16 hw_ hb_ hz_; replace HW := Aside0.mk hw_; replace HB := Aside0.mk hb_; replace HZ := Aside0.mk hz_; clear hw_ hb_ hz_))
              clear b2 a1 a2 a3
              replace HW := Aside0.mk HW.out.rot2
              have b0 := HW.out.at 0 rfl
              have b1 := HW.out.at 1 rfl
              have b2 := HW.out.at 2 rfl
              have b3 := HW.out.at 3 rfl
              go_wp2_with ((with_reducible refine gate_store (t := 45) (p := 4) rfl ?_); refine HW.out.out.store_ev HB.out rfl rfl rfl 0 (by first | rfl | (go_simp; done) | (go_simp; rfl)) (u := .agg #[.slice A0 T.length c0, .slice (some ⟨gB, 0, none⟩) B.length c1, .slice AC (C.length + 1) cC, .slice A3 E.length c3]) (by first | rfl | (go_simp; done) | (go_simp; rfl)) (seg := [.slice A0 T.length c0, .slice (some ⟨gB, 0, none⟩) B.length c1, .slice AC (C.length + 1) cC, .slice A3 E.length c3]) rfl (by kernel_rfl) (by simp [Value.oneCell']) (by simp) ?_; intro w17 hl_ hb_ hs_; replace HW := Aside0.mk (WW.tuck (r := box gr 45 [.slice A0 T.length c0, .slice (some ⟨gB, 0, none⟩) B.length c1, .slice AC (C.length + 1) cC, .slice A3 E.length c3]) HW.out.1 hl_); replace HB := Aside0.mk hb_; replace HZ := Aside0.mk (Nat.le_trans HZ.out (Nat.le_of_eq hs_)); clear hl_ hb_ hs_)
              exact bodyPost_ret (results_list (rs := [.cell 4 45, .tmp 5, .tmp 6]) rfl (by simp) (.cell gr 45 #[.slice A0 T.length c0, .slice (some ⟨gB, 0, none⟩) B.length c1, .slice AC (C.length + 1) cC, .slice A3 E.length c3] (0, 0) _ rfl HW.out.out.boxB Try.underlying45 rfl (by kernel_rfl) (.tmp (.tmp .nil)))) rfl ⟨_, rfl, AfterR.mk HW.out.less.less.less.less.less0 HB.out HZ.out⟩
end Go.Proofs.Ytdoflfifnkpacaa.WP
