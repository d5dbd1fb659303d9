/-
  The functions of worlds: what they compute, and the laws of it.
-/
import Derived.StillTailTactics
import Derived.Lib.Hide
import Derived.Test.YtdoflfifnkpacaaC23WpLay3
namespace Go.Proofs.Ytdoflfifnkpacaa.WP
open Go Go.RowKit Go.Proofs.YtdoflfifnkpacaaW.PrintWords Go.Proofs.YtdoflfifnkpacaaW.PrintLast Go.Proofs.YtdoflfifnkpacaaW.PrintMore
attribute [local go_sem] max2_int min2_int max_two min_two max_three min_three max_four min_four
set_option linter.unusedVariables false
set_option linter.unusedSimpArgs false
set_option maxHeartbeats 4000000 in
set_option maxRecDepth 100000 in
theorem impl_World_create.calls (base g : Nat) (v0 v1 v2 v3 : Value) (hs : List (Value × Value)) (T : List S67) (B : List S78) (C : List S155) (E : List Int) (F : List Row) (kind part at_ to_ n : Int) (T' : List S67) (B' : List S78) (told code : Int) (w0 w : World)
    (hW : WW w base g [v0, v1, v2, v3] v0 v1 v2 v3 hs T B C E F) (hb : Below base w0 w) (hz : base ≤ w.heap.size) (hr : createR T B part n = some (T', B', told, code)) :
    Calls Try.prog 136 #[.pointer (some ⟨g, 0, none⟩), .agg #[.int .i64 kind, .int .i64 part, .int .i64 at_, .int .i64 to_, .int .i64 n]] w fun e_ w' => e_ = .returned (.tuple #[.int .i64 told, .int .i64 code]) ∧ After w0 base g T' B' C E F w' := by
  obtain ⟨A0, c0, rfl⟩ := hW.fT.hdTh rfl
  obtain ⟨A1, c1, rfl⟩ := hW.2.tail.tail.hdTa (n := B.length) hW.1
  have HW := Aside0.mk hW
  have HB := Aside0.mk hb
  have HZ := Aside0.mk hz
  have HH := Aside0.mk hr
  clear hW hb hz hr
  go_enter Try.func136, Try.ntmps136
  go_upto_region 1 with ((with_reducible refine gate_dst (N := 3) rfl ?_); refine HW.out.2.box_ev HB.out HZ.out rfl (N := 3) rfl [.int .i64 kind, .int .i64 part, .int .i64 at_, .int .i64 to_, .int .i64 n] 69 (by first | (go_simp; done) | (go_simp; rfl)) ?_; intro ga w1 hl_ hb_ hz_; replace HW := Aside0.mk (WW.tuck HW.out.1 hl_); replace HB := Aside0.mk hb_; replace HZ := Aside0.mk hz_; clear hl_ hb_ hz_)
  have a4 := HW.out.out.cell 4 rfl
  have hr := HH.out
  clear HH
  unfold createR at hr
  by_cases k0 : n < 0
  · rw [if_pos k0] at hr
    simp only [Option.some.injEq, Prod.mk.injEq] at hr
    obtain ⟨rfl, rfl, rfl, rfl⟩ := hr
    have e0 : decide (n < 0) = true := decide_eq_true k0
    go_wp2
    go_ret2
    exact ⟨rfl, After.mk HW.out.less HB.out HZ.out⟩
  rw [if_neg k0] at hr
  have e0 : decide (n < 0) = false := decide_eq_false k0
  by_cases k1 : n > 9
  · rw [if_pos k1] at hr
    simp only [Option.some.injEq, Prod.mk.injEq] at hr
    obtain ⟨rfl, rfl, rfl, rfl⟩ := hr
    have e1 : decide (9 < n) = true := decide_eq_true k1
    go_wp2
    go_ret2
    exact ⟨rfl, After.mk HW.out.less HB.out HZ.out⟩
  rw [if_neg k1] at hr
  have e1 : decide (9 < n) = false := decide_eq_false k1
  by_cases k2 : part < 0
  · rw [if_pos k2] at hr
    exact absurd hr (by simp)
  rw [if_neg k2] at hr
  by_cases k3 : part ≥ (B.length : Int)
  · rw [if_pos k3] at hr
    exact absurd hr (by simp)
  rw [if_neg k3] at hr
  by_cases k4 : T.length < 1048576
  case neg =>
    rw [if_neg k4] at hr
    exact absurd hr (by simp)
  rw [if_pos k4] at hr
  have K4 := Aside0.mk k4
  have h0 := Aside0.mk (show 0 ≤ part by omega)
  have h1 := Aside0.mk (show part < (B.length : Int) by omega)
  obtain ⟨gB, rfl, -, -, -⟩ := HW.out.heads part h0.out h1.out
  have p0 : (0 ≤ part) = True := eq_true h0.out
  have p1 : (part < (B.length : Int)) = True := eq_true h1.out
  clear k0 k1 k2 k3 k4
  go_upto_region 3 with (fail)
  have a1 := HW.out.out.cell 1 rfl
  have b0 := HW.out.at 0 rfl
  have b1 := HW.out.at 1 rfl
  go_quiet (fail)
  by_cases k5 : (T.length : Int) = 40
  · rw [if_pos k5] at hr
    simp only [Option.some.injEq, Prod.mk.injEq] at hr
    obtain ⟨rfl, rfl, rfl, rfl⟩ := hr
    have e5 : ((T.length : Int) == 40) = true := by simpa using k5
    clear k5
    go_wp2
    go_ret2
    exact ⟨rfl, After.mk (HW.out.drewN _).less (pw_below_drewN HB.out _) HZ.out⟩
  rw [if_neg k5] at hr
  have e5 : ((T.length : Int) == 40) = false := by simpa using k5
  clear k5
  cases hf : fullR (rd_T78 B part).f0 (rd_T78 B part).f1 with
  | true =>
    rw [hf, if_pos rfl] at hr
    simp only [Option.some.injEq, Prod.mk.injEq] at hr
    obtain ⟨rfl, rfl, rfl, rfl⟩ := hr
    go_wp2_with (go_at_call 154; (with_reducible refine (WW.full (HW.out.drewN _) part h0.out h1.out).mono ?_); rintro e_ w2 ⟨rfl, hd_⟩; rw [hf]; have hb_ := Drawn0.below hd_; replace HB := Aside0.mk (below_up (pw_below_drewN HB.out _) HZ.out hb_); replace HZ := Aside0.mk (Nat.le_trans HZ.out hb_.size); replace HW := Aside0.mk ((HW.out.drewN _).below hb_); clear hd_ hb_)
    go_ret2
    exact ⟨rfl, After.mk HW.out.less HB.out HZ.out⟩
  | false =>
    rw [hf, if_neg (by simp)] at hr
    replace hr := Option.bind_eq_some_iff.mp hr
    obtain ⟨⟨S', G', k⟩, hA, hr⟩ := hr
    simp only [Option.some.injEq, Prod.mk.injEq] at hr
    obtain ⟨rfl, rfl, rfl, rfl⟩ := hr
    have HA := Aside0.mk hA
    clear hA
    go_upto_region 6 with (go_at_call 154; (with_reducible refine (WW.full (HW.out.drewN _) part h0.out h1.out).mono ?_); rintro e_ w2 ⟨rfl, hd_⟩; rw [hf]; have hb_ := Drawn0.below hd_; replace HB := Aside0.mk (below_up (pw_below_drewN HB.out _) HZ.out hb_); replace HZ := Aside0.mk (Nat.le_trans HZ.out hb_.size); replace HW := Aside0.mk ((HW.out.drewN _).below hb_); clear hd_ hb_)
    clear a1 b0 b1 a4 hf
    have a4 := HW.out.out.cell 4 rfl
    have b0 := HW.out.at 0 rfl
    refine draw_new 8 [false, false, false, false, true, false, true, false] (by kernel_rfl) rfl (S := fun W => Below w2.heap.size w2 W) (A := ?_) (v := .slice (some ⟨w2.drew.heap.size, 0, none⟩) 1 1) (ob := .cells #[.int .i64 n, .bool true] 67 (0, 0)) (by kernel_rfl) (fun _ _ _ d _ h => by cases d <;> exact h) (pw_below_drewN (Below.refl _ _) 1) (below_alloc (pw_below_drewN (Below.refl _ _) 1) _) ?_ rfl ?_ ?_
    rotate_left
    · simp only [List.take_succ_cons, List.take_zero]
      repeat (first | (refine hdF_ _ rfl (by rfl) (v := ?_) (a' := ?_) (fun W => by go_simp; with_reducible rfl) (by simp only [Act.put, List.setIfInBounds_toArray, List.set_cons_zero, List.set_cons_succ, i64_w, i32_w]; rfl) ?_) | (refine hdT_ _ rfl (by rfl) (v := ?_) (a' := ?_) (fun W hW => by have a4 := pw_cell_below hW a4; have b0 := pw_cell_below hW b0; go_simp; with_reducible rfl) (by simp only [Act.put, List.setIfInBounds_toArray, List.set_cons_zero, List.set_cons_succ, i64_w, i32_w]; rfl) ?_))
      exact hd_end
    · first | (go_simp; done) | (go_simp; rfl)
    simp only [List.drop_succ_cons, List.drop_zero, Act.put, List.setIfInBounds_toArray, List.set_cons_zero, List.set_cons_succ]
    replace HW := Aside0.mk HW.out.drew
    replace HB := Aside0.mk HB.out.drew
    replace HZ := Aside0.mk (show base ≤ w2.drew.heap.size from HZ.out)
    clear a4 b0
    generalize w2.drew = w3 at *
    go_wp2_with (first | ((with_reducible refine gate_builtin (b := .append) (xs := #[.tmp 36, .tmp 40]) rfl ?_); at_builtin; refine HW.out.appT HB.out HZ.out rfl (.tmp 36) (.tmp 40) 41 (.agg (tc z67).toArray) 16 rfl Try.underlying41 (by kernel_rfl) rfl (by decide) rfl rfl ⟨n, true⟩ (show (T.length + 1) * 16 ≤ 140737488355328 from by have := K4.out; omega) ?_; intro AT cT w4 hw_ hb_ hz_; replace HW := Aside0.mk hw_; replace HB := Aside0.mk hb_; replace HZ := Aside0.mk hz_; clear hw_ hb_ hz_) | ((with_reducible refine gate_store (t := 41) (p := 43) rfl ?_); refine HW.out.setbox HB.out HZ.out rfl rfl rfl 0 (by first | rfl | (go_simp; done) | (go_simp; rfl)) (by first | rfl | (go_simp; done) | (go_simp; rfl)) (by kernel_rfl) (by simp) ?_; intro w5 hw_ hb_ hz_; replace HW := Aside0.mk hw_; replace HB := Aside0.mk hb_; replace HZ := Aside0.mk hz_; clear hw_ hb_ hz_))
    have a4 := HW.out.out.cell 4 rfl
    have b0 := HW.out.at 0 rfl
    have KW : IntKind.i64.wrap (T.length : Int) = T.length := IntWalk.i64_in _ (by have := K4.out; omega)
    have KV : wrap64 (T.length : Int) = T.length := by rw [← i64_w]; exact KW
    refine draw_ 10 [false, false, true, false, false, false, true, false, false, false] (by kernel_rfl) (S := fun W => Below w5.heap.size w5 W) (A := ?_) (by kernel_rfl) (fun _ _ _ d _ h => by cases d <;> exact h) (pw_below_drewN (Below.refl _ _) 1) ?_ ?_
    rotate_left
    · simp only [List.take_succ_cons, List.take_zero]
      repeat (first | (refine hdF_ _ rfl (by rfl) (v := ?_) (a' := ?_) (fun W => by go_simp; with_reducible rfl) (by simp only [Act.put, List.setIfInBounds_toArray, List.set_cons_zero, List.set_cons_succ, i64_w, i32_w]; rfl) ?_) | (refine hdT_ _ rfl (by rfl) (v := ?_) (a' := ?_) (fun W hW => by have a4 := pw_cell_below hW a4; have b0 := pw_cell_below hW b0; go_simp; with_reducible rfl) (by simp only [Act.put, List.setIfInBounds_toArray, List.set_cons_zero, List.set_cons_succ, i64_w, i32_w]; rfl) ?_))
      exact hd_end
    simp only [List.drop_succ_cons, List.drop_zero, Act.put, List.setIfInBounds_toArray, List.set_cons_zero, List.set_cons_succ]
    replace HW := Aside0.mk HW.out.drew
    replace HB := Aside0.mk HB.out.drew
    replace HZ := Aside0.mk (show base ≤ w5.drew.heap.size from HZ.out)
    clear a4 b0
    generalize w5.drew = w6 at *
    go_wp2_with (go_at_call 155; refine (WW.add HW.out HB.out HZ.out part h0.out h1.out ⟨true, n, (T.length : Int), true, 0, 0⟩ _ _ _ HA.out rfl).mono ?_; rintro e_ w7 ⟨rfl, hs_, hw_, hb_, hz_⟩; replace HW := Aside0.mk hw_; replace HB := Aside0.mk hb_; replace HZ := Aside0.mk hz_; clear hw_ hb_ hz_)
    go_ret2
    exact ⟨rfl, After.mk HW.out.less HB.out HZ.out⟩
set_option maxHeartbeats 4000000 in
set_option maxRecDepth 100000 in
theorem impl_World_give.calls (base g : Nat) (v0 v1 v2 v3 : Value) (hs : List (Value × Value)) (T : List S67) (B : List S78) (C : List S155) (E : List Int) (F : List Row) (kind part at_ to_ n : Int) (B' : List S78) (told code : Int) (w0 w : World)
    (hW : WW w base g [v0, v1, v2, v3] v0 v1 v2 v3 hs T B C E F) (hb : Below base w0 w) (hz : base ≤ w.heap.size) (hr : giveR B part at_ to_ n = some (B', told, code)) :
    Calls Try.prog 137 #[.pointer (some ⟨g, 0, none⟩), .agg #[.int .i64 kind, .int .i64 part, .int .i64 at_, .int .i64 to_, .int .i64 n]] w fun e_ w' => e_ = .returned (.tuple #[.int .i64 told, .int .i64 code]) ∧ After w0 base g T B' C E F w' := by
  obtain ⟨A0, c0, rfl⟩ := hW.fT.hdTh rfl
  obtain ⟨A1, c1, rfl⟩ := hW.2.tail.tail.hdTa (n := B.length) hW.1
  obtain ⟨A2, c2, rfl⟩ := hW.fC.hdLo rfl
  obtain ⟨A3, c3, rfl⟩ := hW.fE.hdI rfl
  have HW := Aside0.mk hW
  have HB := Aside0.mk hb
  have HZ := Aside0.mk hz
  have HH := Aside0.mk hr
  clear hW hb hz hr
  go_enter Try.func137, Try.ntmps137
  go_upto_region 1 with ((with_reducible refine gate_dst (N := 3) rfl ?_); refine HW.out.2.box_ev HB.out HZ.out rfl (N := 3) rfl [.int .i64 kind, .int .i64 part, .int .i64 at_, .int .i64 to_, .int .i64 n] 69 (by first | (go_simp; done) | (go_simp; rfl)) ?_; intro ga w1 hl_ hb_ hz_; replace HW := Aside0.mk (WW.tuck HW.out.1 hl_); replace HB := Aside0.mk hb_; replace HZ := Aside0.mk hz_; clear hl_ hb_ hz_)
  have hr := HH.out
  clear HH
  unfold giveR at hr
  by_cases k0a : part < 0
  · rw [if_pos k0a] at hr
    exact absurd hr (by simp)
  rw [if_neg k0a] at hr
  by_cases k0b : part ≥ (B.length : Int)
  · rw [if_pos k0b] at hr
    exact absurd hr (by simp)
  rw [if_neg k0b] at hr
  have h0 := Aside0.mk (show 0 ≤ part by omega)
  have h1 := Aside0.mk (show part < (B.length : Int) by omega)
  have k0p : (0 ≤ part) = True := eq_true h0.out
  have k0q : (part < (B.length : Int)) = True := eq_true h1.out
  clear k0a k0b
  by_cases k1a : to_ < 0
  · rw [if_pos k1a] at hr
    exact absurd hr (by simp)
  rw [if_neg k1a] at hr
  by_cases k1b : to_ ≥ (B.length : Int)
  · rw [if_pos k1b] at hr
    exact absurd hr (by simp)
  rw [if_neg k1b] at hr
  have h2 := Aside0.mk (show 0 ≤ to_ by omega)
  have h3 := Aside0.mk (show to_ < (B.length : Int) by omega)
  have k1p : (0 ≤ to_) = True := eq_true h2.out
  have k1q : (to_ < (B.length : Int)) = True := eq_true h3.out
  clear k1a k1b
  obtain ⟨gB, rfl, -, -, -⟩ := HW.out.heads part h0.out h1.out
  generalize hfr : findR (rd_T78 B part).f0 at_ n = fr at hr
  obtain ⟨⟨u, f1, f2, f3, f4, f5⟩, cd⟩ := fr
  have HF := Aside0.mk hfr
  clear hfr
  dsimp only at hr
  have a1 := HW.out.out.cell 1 rfl
  have a3 := HW.out.out.cell 3 rfl
  have b1 := HW.out.at 1 rfl
  go_quiet (fail)
  clear a1 a3 b1
  have a2 := HW.out.out.cell 2 rfl
  have a4 := HW.out.out.cell 4 rfl
  go_upto_region 3 with (first | (go_at_call 156; refine (WW.find (HW.out.drewN _) part h0.out h1.out at_ n _ _ HF.out).mono ?_; rintro e_ w2 ⟨rfl, hb_⟩; replace HB := Aside0.mk (below_up (pw_below_drewN HB.out _) HZ.out hb_); replace HZ := Aside0.mk (Nat.le_trans HZ.out hb_.size); replace HW := Aside0.mk ((HW.out.drewN _).below hb_); clear hb_) | ((with_reducible refine gate_dst (N := 8) rfl ?_); refine HW.out.2.box_ev HB.out HZ.out rfl (N := 8) rfl [.bool false, .int .i64 0, .int .i64 0, .bool false, .int .i64 0, .int .i64 0] 75 (by first | (go_simp; done) | (go_simp; rfl)) ?_; intro gh w3 hl_ hb_ hz_; replace HW := Aside0.mk (WW.tuck HW.out.1 hl_); replace HB := Aside0.mk hb_; replace HZ := Aside0.mk hz_; clear hl_ hb_ hz_) | ((with_reducible refine gate_store (t := 75) (p := 8) rfl ?_); refine HW.out.out.store_ev HB.out rfl rfl rfl 0 (by first | rfl | (go_simp; done) | (go_simp; rfl)) (u := .agg #[.bool u, .int .i64 f1, .int .i64 f2, .bool f3, .int .i64 f4, .int .i64 f5]) (by first | rfl | (go_simp; done) | (go_simp; rfl)) (seg := [.bool u, .int .i64 f1, .int .i64 f2, .bool f3, .int .i64 f4, .int .i64 f5]) rfl (by kernel_rfl) (by simp [Value.oneCell']) (by simp) ?_; intro w4 hl_ hb_ hs_; replace HW := Aside0.mk (WW.tuck (r := box gh 75 [.bool u, .int .i64 f1, .int .i64 f2, .bool f3, .int .i64 f4, .int .i64 f5]) HW.out.1 hl_); replace HB := Aside0.mk hb_; replace HZ := Aside0.mk (Nat.le_trans HZ.out (Nat.le_of_eq hs_)); clear hl_ hb_ hs_))
  clear a2 a4
  have c3 := HW.out.out.cell 3 rfl
  have c4 := HW.out.out.cell 4 rfl
  by_cases z0 : cd = 0
  case neg =>
    rw [if_neg z0] at hr
    simp only [Option.some.injEq, Prod.mk.injEq] at hr
    obtain ⟨rfl, rfl, rfl⟩ := hr
    have z1 : (cd != 0) = true := by simpa using z0
    go_wp2
    go_ret2
    exact ⟨rfl, After.mk HW.out.less.less HB.out HZ.out⟩
  rw [if_pos z0] at hr
  subst z0
  cases f3 with
  | false =>
    rw [if_neg (by simp)] at hr
    simp only [Option.some.injEq, Prod.mk.injEq] at hr
    obtain ⟨rfl, rfl, rfl⟩ := hr
    go_wp2
    go_ret2
    exact ⟨rfl, After.mk HW.out.less.less HB.out HZ.out⟩
  | true =>
    rw [if_pos rfl] at hr
    by_cases z1 : f4 = 0
    case neg =>
      rw [if_neg z1] at hr
      simp only [Option.some.injEq, Prod.mk.injEq] at hr
      obtain ⟨rfl, rfl, rfl⟩ := hr
      have z2 : (f4 != 0) = true := by simpa using z1
      go_wp2
      go_ret2
      exact ⟨rfl, After.mk HW.out.less.less HB.out HZ.out⟩
    rw [if_pos z1] at hr
    subst z1
    cases hf : fullR (rd_T78 B to_).f0 (rd_T78 B to_).f1 with
    | true =>
      rw [hf, if_pos rfl] at hr
      simp only [Option.some.injEq, Prod.mk.injEq] at hr
      obtain ⟨rfl, rfl, rfl⟩ := hr
      go_wp2_with (go_at_call 154; (with_reducible refine (WW.full (HW.out) to_ h2.out h3.out).mono ?_); rintro e_ w5 ⟨rfl, hd_⟩; rw [hf]; have hb_ := Drawn0.below hd_; replace HB := Aside0.mk (below_up (HB.out) HZ.out hb_); replace HZ := Aside0.mk (Nat.le_trans HZ.out hb_.size); replace HW := Aside0.mk ((HW.out).below hb_); clear hd_ hb_)
      go_ret2
      exact ⟨rfl, After.mk HW.out.less.less HB.out HZ.out⟩
    | false =>
      rw [hf, if_neg (by simp)] at hr
      replace hr := Option.bind_eq_some_iff.mp hr
      obtain ⟨⟨D1, D2⟩, hD, hr⟩ := hr
      replace hr := Option.bind_eq_some_iff.mp hr
      obtain ⟨⟨S', G', k⟩, hA, hr⟩ := hr
      simp only [Option.some.injEq, Prod.mk.injEq] at hr
      obtain ⟨rfl, rfl, rfl⟩ := hr
      have HD := Aside0.mk hD
      have HA := Aside0.mk hA
      clear hA hD
      go_upto_region 11 with (go_at_call 154; (with_reducible refine (WW.full (HW.out) to_ h2.out h3.out).mono ?_); rintro e_ w5 ⟨rfl, hd_⟩; rw [hf]; have hb_ := Drawn0.below hd_; replace HB := Aside0.mk (below_up (HB.out) HZ.out hb_); replace HZ := Aside0.mk (Nat.le_trans HZ.out hb_.size); replace HW := Aside0.mk ((HW.out).below hb_); clear hd_ hb_)
      clear c3 c4 hf
      have a2 := HW.out.less.out.cell 2 rfl
      go_upto_region 12 with (go_at_call 157; refine (WW.drop HW.out HB.out HZ.out part h0.out h1.out at_ _ _ HD.out).mono ?_; rintro e_ w6 ⟨rfl, hs_, hw_, hb_, hz_⟩; replace HW := Aside0.mk hw_; replace HB := Aside0.mk hb_; replace HZ := Aside0.mk hz_; clear hw_ hb_ hz_)
      clear a2
      have c0 := HW.out.out.cell 0 rfl
      have c1 := HW.out.out.cell 1 rfl
      have c2 := HW.out.out.cell 2 rfl
      have c3 := HW.out.out.cell 3 rfl
      have c4 := HW.out.out.cell 4 rfl
      have c5 := HW.out.out.cell 5 rfl
      have h4 := Aside0.mk (show to_ < ((B.set part.toNat ⟨D1, D2⟩).length : Int) by rw [List.length_set]; exact h3.out)
      go_wp2_with (go_at_call 155; refine (WW.add HW.out HB.out HZ.out to_ h2.out h4.out ⟨u, f1, f2, true, 0, f5⟩ _ _ _ HA.out rfl).mono ?_; rintro e_ w7 ⟨rfl, hs_, hw_, hb_, hz_⟩; replace HW := Aside0.mk hw_; replace HB := Aside0.mk hb_; replace HZ := Aside0.mk hz_; clear hw_ hb_ hz_)
      go_ret2
      exact ⟨rfl, After.mk HW.out.less.less HB.out HZ.out⟩
set_option maxHeartbeats 4000000 in
set_option maxRecDepth 100000 in
theorem impl_World_lend.calls (base g : Nat) (v0 v1 v2 v3 : Value) (hs : List (Value × Value)) (T : List S67) (B : List S78) (C : List S155) (E : List Int) (F : List Row) (kind part at_ to_ n : Int) (B' : List S78) (C' : List S155) (told code : Int) (w0 w : World)
    (hW : WW w base g [v0, v1, v2, v3] v0 v1 v2 v3 hs T B C E F) (hb : Below base w0 w) (hz : base ≤ w.heap.size) (hr : lendR B C part at_ to_ n = some (B', C', told, code)) :
    Calls Try.prog 138 #[.pointer (some ⟨g, 0, none⟩), .agg #[.int .i64 kind, .int .i64 part, .int .i64 at_, .int .i64 to_, .int .i64 n]] w fun e_ w' => e_ = .returned (.tuple #[.int .i64 told, .int .i64 code]) ∧ After w0 base g T B' C' E F w' := by
  obtain ⟨A0, c0, rfl⟩ := hW.fT.hdTh rfl
  obtain ⟨A1, c1, rfl⟩ := hW.2.tail.tail.hdTa (n := B.length) hW.1
  obtain ⟨A2, c2, rfl⟩ := hW.fC.hdLo rfl
  obtain ⟨A3, c3, rfl⟩ := hW.fE.hdI rfl
  have HW := Aside0.mk hW
  have HB := Aside0.mk hb
  have HZ := Aside0.mk hz
  have HH := Aside0.mk hr
  clear hW hb hz hr
  go_enter Try.func138, Try.ntmps138
  go_upto_region 1 with ((with_reducible refine gate_dst (N := 3) rfl ?_); refine HW.out.2.box_ev HB.out HZ.out rfl (N := 3) rfl [.int .i64 kind, .int .i64 part, .int .i64 at_, .int .i64 to_, .int .i64 n] 69 (by first | (go_simp; done) | (go_simp; rfl)) ?_; intro ga w1 hl_ hb_ hz_; replace HW := Aside0.mk (WW.tuck HW.out.1 hl_); replace HB := Aside0.mk hb_; replace HZ := Aside0.mk hz_; clear hl_ hb_ hz_)
  have hr := HH.out
  clear HH
  unfold lendR at hr
  by_cases k0a : part < 0
  · rw [if_pos k0a] at hr
    exact absurd hr (by simp)
  rw [if_neg k0a] at hr
  by_cases k0b : part ≥ (B.length : Int)
  · rw [if_pos k0b] at hr
    exact absurd hr (by simp)
  rw [if_neg k0b] at hr
  have h0 := Aside0.mk (show 0 ≤ part by omega)
  have h1 := Aside0.mk (show part < (B.length : Int) by omega)
  have k0p : (0 ≤ part) = True := eq_true h0.out
  have k0q : (part < (B.length : Int)) = True := eq_true h1.out
  clear k0a k0b
  by_cases k1a : to_ < 0
  · rw [if_pos k1a] at hr
    exact absurd hr (by simp)
  rw [if_neg k1a] at hr
  by_cases k1b : to_ ≥ (B.length : Int)
  · rw [if_pos k1b] at hr
    exact absurd hr (by simp)
  rw [if_neg k1b] at hr
  have h2 := Aside0.mk (show 0 ≤ to_ by omega)
  have h3 := Aside0.mk (show to_ < (B.length : Int) by omega)
  have k1p : (0 ≤ to_) = True := eq_true h2.out
  have k1q : (to_ < (B.length : Int)) = True := eq_true h3.out
  clear k1a k1b
  obtain ⟨gB, rfl, -, -, -⟩ := HW.out.heads part h0.out h1.out
  generalize hfr : findR (rd_T78 B part).f0 at_ n = fr at hr
  obtain ⟨⟨u, f1, f2, f3, f4, f5⟩, cd⟩ := fr
  have HF := Aside0.mk hfr
  clear hfr
  dsimp only at hr
  have a1 := HW.out.out.cell 1 rfl
  have a3 := HW.out.out.cell 3 rfl
  have b1 := HW.out.at 1 rfl
  go_quiet (fail)
  clear a1 a3 b1
  have a2 := HW.out.out.cell 2 rfl
  have a4 := HW.out.out.cell 4 rfl
  go_upto_region 3 with (first | (go_at_call 156; refine (WW.find (HW.out.drewN _) part h0.out h1.out at_ n _ _ HF.out).mono ?_; rintro e_ w2 ⟨rfl, hb_⟩; replace HB := Aside0.mk (below_up (pw_below_drewN HB.out _) HZ.out hb_); replace HZ := Aside0.mk (Nat.le_trans HZ.out hb_.size); replace HW := Aside0.mk ((HW.out.drewN _).below hb_); clear hb_) | ((with_reducible refine gate_dst (N := 8) rfl ?_); refine HW.out.2.box_ev HB.out HZ.out rfl (N := 8) rfl [.bool false, .int .i64 0, .int .i64 0, .bool false, .int .i64 0, .int .i64 0] 75 (by first | (go_simp; done) | (go_simp; rfl)) ?_; intro gh w3 hl_ hb_ hz_; replace HW := Aside0.mk (WW.tuck HW.out.1 hl_); replace HB := Aside0.mk hb_; replace HZ := Aside0.mk hz_; clear hl_ hb_ hz_) | ((with_reducible refine gate_store (t := 75) (p := 8) rfl ?_); refine HW.out.out.store_ev HB.out rfl rfl rfl 0 (by first | rfl | (go_simp; done) | (go_simp; rfl)) (u := .agg #[.bool u, .int .i64 f1, .int .i64 f2, .bool f3, .int .i64 f4, .int .i64 f5]) (by first | rfl | (go_simp; done) | (go_simp; rfl)) (seg := [.bool u, .int .i64 f1, .int .i64 f2, .bool f3, .int .i64 f4, .int .i64 f5]) rfl (by kernel_rfl) (by simp [Value.oneCell']) (by simp) ?_; intro w4 hl_ hb_ hs_; replace HW := Aside0.mk (WW.tuck (r := box gh 75 [.bool u, .int .i64 f1, .int .i64 f2, .bool f3, .int .i64 f4, .int .i64 f5]) HW.out.1 hl_); replace HB := Aside0.mk hb_; replace HZ := Aside0.mk (Nat.le_trans HZ.out (Nat.le_of_eq hs_)); clear hl_ hb_ hs_))
  clear a2 a4
  have c3 := HW.out.out.cell 3 rfl
  by_cases z0 : cd = 0
  case neg =>
    rw [if_neg z0] at hr
    simp only [Option.some.injEq, Prod.mk.injEq] at hr
    obtain ⟨rfl, rfl, rfl, rfl⟩ := hr
    have z1 : (cd != 0) = true := by simpa using z0
    go_wp2
    go_ret2
    exact ⟨rfl, After.mk HW.out.less.less HB.out HZ.out⟩
  rw [if_pos z0] at hr
  subst z0
  cases f3 with
  | false =>
    rw [if_neg (by simp)] at hr
    simp only [Option.some.injEq, Prod.mk.injEq] at hr
    obtain ⟨rfl, rfl, rfl, rfl⟩ := hr
    go_wp2
    go_ret2
    exact ⟨rfl, After.mk HW.out.less.less HB.out HZ.out⟩
  | true =>
    rw [if_pos rfl] at hr
    cases hf : fullR (rd_T78 B to_).f0 (rd_T78 B to_).f1 with
    | true =>
      rw [hf, if_pos rfl] at hr
      simp only [Option.some.injEq, Prod.mk.injEq] at hr
      obtain ⟨rfl, rfl, rfl, rfl⟩ := hr
      go_wp2_with (go_at_call 154; (with_reducible refine (WW.full (HW.out) to_ h2.out h3.out).mono ?_); rintro e_ w5 ⟨rfl, hd_⟩; rw [hf]; have hb_ := Drawn0.below hd_; replace HB := Aside0.mk (below_up (HB.out) HZ.out hb_); replace HZ := Aside0.mk (Nat.le_trans HZ.out hb_.size); replace HW := Aside0.mk ((HW.out).below hb_); clear hd_ hb_)
      go_ret2
      exact ⟨rfl, After.mk HW.out.less.less HB.out HZ.out⟩
    | false =>
      rw [hf, if_neg (by simp)] at hr
      by_cases k4 : at_ < 0
      · rw [if_pos k4] at hr
        exact absurd hr (by simp)
      rw [if_neg k4] at hr
      by_cases k5 : at_ ≥ ((rd_T78 B part).f0.length : Int)
      · rw [if_pos k5] at hr
        exact absurd hr (by simp)
      rw [if_neg k5] at hr
      by_cases k6 : C.length < 1048576
      case neg =>
        rw [if_neg k6] at hr
        exact absurd hr (by simp)
      rw [if_pos k6] at hr
      have K6 := Aside0.mk k6
      have h5 := Aside0.mk (show 0 ≤ at_ by omega)
      have h6 := Aside0.mk (show at_ < ((rd_T78 B part).f0.length : Int) by omega)
      have p5 : (0 ≤ at_) = True := eq_true h5.out
      have p6 : (at_ < ((rd_T78 B part).f0.length : Int)) = True := eq_true h6.out
      clear k4 k5 k6
      replace hr := Option.bind_eq_some_iff.mp hr
      obtain ⟨⟨S', G', k⟩, hA, hr⟩ := hr
      simp only [Option.some.injEq, Prod.mk.injEq] at hr
      obtain ⟨rfl, rfl, rfl, rfl⟩ := hr
      have HA := Aside0.mk hA
      clear hA
      go_upto_region 9 with (go_at_call 154; (with_reducible refine (WW.full (HW.out) to_ h2.out h3.out).mono ?_); rintro e_ w5 ⟨rfl, hd_⟩; rw [hf]; have hb_ := Drawn0.below hd_; replace HB := Aside0.mk (below_up (HB.out) HZ.out hb_); replace HZ := Aside0.mk (Nat.le_trans HZ.out hb_.size); replace HW := Aside0.mk ((HW.out).below hb_); clear hd_ hb_)
      clear c3 hf
      have a2 := HW.out.less.out.cell 2 rfl
      obtain ⟨gs, cs, hh, s0, sj⟩ := HW.out.slot part h0.out h1.out at_ h5.out h6.out
      have s4 := sj 4 _ rfl
      have Hh := Aside0.mk hh
      clear sj hh
      refine draw_ 12 [false, false, false, true, false, true, false, false, true, false, false, false] (by kernel_rfl) (S := fun W => Below w5.heap.size w5 W) (A := ?_) (by kernel_rfl) (fun _ _ _ d _ h => by cases d <;> exact h) (pw_below_drewN (Below.refl _ _) 1) ?_ ?_
      rotate_left
      · simp only [List.take_succ_cons, List.take_zero]
        repeat (first | (refine hdF_ _ rfl (by rfl) (v := ?_) (a' := ?_) (fun W => by go_simp; with_reducible rfl) (by simp only [Act.put, List.setIfInBounds_toArray, List.set_cons_zero, List.set_cons_succ, i64_w, i32_w]; rfl) ?_) | (refine hdT_ _ rfl (by rfl) (v := ?_) (a' := ?_) (fun W hW => by have a2 := pw_cell_below hW a2; have s0 := pw_cell_below hW s0; have s4 := pw_cell_below hW s4; go_simp; with_reducible rfl) (by simp only [Act.put, List.setIfInBounds_toArray, List.set_cons_zero, List.set_cons_succ, i64_w, i32_w]; rfl) ?_))
        exact hd_end
      simp only [List.drop_succ_cons, List.drop_zero, Act.put, List.setIfInBounds_toArray, List.set_cons_zero, List.set_cons_succ]
      replace HW := Aside0.mk HW.out.drew
      replace HB := Aside0.mk HB.out.drew
      replace HZ := Aside0.mk (show base ≤ w5.drew.heap.size from HZ.out)
      clear a2 s0 s4
      generalize w5.drew = w6 at *
      go_upto_region 10 with ((with_reducible refine gate_store (t := 3) (p := 56) rfl ?_); refine HW.out.lends HB.out HZ.out rfl rfl rfl part h0.out h1.out at_ h5.out h6.out Hh.out (by first | rfl | (go_simp; done) | (go_simp; rfl)) (by first | rfl | (go_simp; done) | (go_simp; rfl)) (by kernel_rfl) ?_; intro w7 hw_ hb_ hz_; replace HW := Aside0.mk hw_; replace HB := Aside0.mk hb_; replace HZ := Aside0.mk hz_; clear hw_ hb_ hz_)
      have KC : IntKind.i64.wrap ((C.length : Int) + 1) = C.length + 1 := IntWalk.i64_in _ (by have := K6.out; omega)
      have KV : wrap64 ((C.length : Int) + 1) = C.length + 1 := by rw [← i64_w]; exact KC
      have c1 := HW.out.out.cell 1 rfl
      have c2 := HW.out.out.cell 2 rfl
      have b2 := HW.out.at 2 rfl
      refine draw_ 12 [false, false, true, false, true, false, false, false, true, false, false, false] (by kernel_rfl) (S := fun W => Below w7.heap.size w7 W) (A := ?_) (by kernel_rfl) (fun _ _ _ d _ h => by cases d <;> exact h) (pw_below_drewN (Below.refl _ _) 1) ?_ ?_
      rotate_left
      · simp only [List.take_succ_cons, List.take_zero]
        repeat (first | (refine hdF_ _ rfl (by rfl) (v := ?_) (a' := ?_) (fun W => by go_simp; with_reducible rfl) (by simp only [Act.put, List.setIfInBounds_toArray, List.set_cons_zero, List.set_cons_succ, i64_w, i32_w]; rfl) ?_) | (refine hdT_ _ rfl (by rfl) (v := ?_) (a' := ?_) (fun W hW => by have c1 := pw_cell_below hW c1; have c2 := pw_cell_below hW c2; have b2 := pw_cell_below hW b2; go_simp; with_reducible rfl) (by simp only [Act.put, List.setIfInBounds_toArray, List.set_cons_zero, List.set_cons_succ, i64_w, i32_w]; rfl) ?_))
        exact hd_end
      simp only [List.drop_succ_cons, List.drop_zero, Act.put, List.setIfInBounds_toArray, List.set_cons_zero, List.set_cons_succ]
      replace HW := Aside0.mk HW.out.drew
      replace HB := Aside0.mk HB.out.drew
      replace HZ := Aside0.mk (show base ≤ w7.drew.heap.size from HZ.out)
      clear c1 c2 b2
      generalize w7.drew = w8 at *
      have h4 : Aside0 (to_ < (List.length (B.set part.toNat ⟨(rd_T78 B part).f0.set at_.toNat { rd_T75 (rd_T78 B part).f0 at_ with f4 := wrap64 ((rd_T75 (rd_T78 B part).f0 at_).f4 + 1) }, (rd_T78 B part).f1⟩) : Int)) := ⟨by rw [List.length_set]; exact h3.out⟩
      go_upto_region 11 with (go_at_call 155; refine (WW.add HW.out HB.out HZ.out to_ h2.out h4.out ⟨true, f1, f2, false, 0, (C.length : Int) + 1⟩ _ _ _ HA.out rfl).mono ?_; rintro e_ w9 ⟨rfl, hs_, hw_, hb_, hz_⟩; replace HW := Aside0.mk hw_; replace HB := Aside0.mk hb_; replace HZ := Aside0.mk hz_; clear hw_ hb_ hz_)
      have a1 := HW.out.less.out.cell 1 rfl
      have a2 := HW.out.less.out.cell 2 rfl
      have a3 := HW.out.less.out.cell 3 rfl
      have b2 := HW.out.at 2 rfl
      refine draw_new 13 [false, false, false, false, true, false, true, false, true, false, true, false, false] (by kernel_rfl) rfl (S := fun W => Below w9.heap.size w9 W) (A := ?_) (v := .slice (some ⟨w9.drew.heap.size, 0, none⟩) 1 1) (ob := .cells #[.int .i64 part, .int .i64 at_, .int .i64 to_, .int .i64 k] 155 (0, 0)) (by kernel_rfl) (fun _ _ _ d _ h => by cases d <;> exact h) (pw_below_drewN (Below.refl _ _) 1) (below_alloc (pw_below_drewN (Below.refl _ _) 1) _) ?_ rfl ?_ ?_
      rotate_left
      · simp only [List.take_succ_cons, List.take_zero]
        repeat (first | (refine hdF_ _ rfl (by rfl) (v := ?_) (a' := ?_) (fun W => by go_simp; with_reducible rfl) (by simp only [Act.put, List.setIfInBounds_toArray, List.set_cons_zero, List.set_cons_succ, i64_w, i32_w]; rfl) ?_) | (refine hdT_ _ rfl (by rfl) (v := ?_) (a' := ?_) (fun W hW => by have a1 := pw_cell_below hW a1; have a2 := pw_cell_below hW a2; have a3 := pw_cell_below hW a3; have b2 := pw_cell_below hW b2; go_simp; with_reducible rfl) (by simp only [Act.put, List.setIfInBounds_toArray, List.set_cons_zero, List.set_cons_succ, i64_w, i32_w]; rfl) ?_))
        exact hd_end
      · first | (go_simp; done) | (go_simp; rfl)
      simp only [List.drop_succ_cons, List.drop_zero, Act.put, List.setIfInBounds_toArray, List.set_cons_zero, List.set_cons_succ]
      replace HW := Aside0.mk HW.out.drew
      replace HB := Aside0.mk HB.out.drew
      replace HZ := Aside0.mk (show base ≤ w9.drew.heap.size from HZ.out)
      clear a1 a2 a3 b2
      generalize w9.drew = w10 at *
      go_wp2_with (first | ((with_reducible refine gate_builtin (b := .append) (xs := #[.tmp 74, .tmp 83]) rfl ?_); at_builtin; refine HW.out.appC HB.out HZ.out rfl (.tmp 74) (.tmp 83) 43 (.agg (lc z155).toArray) 32 rfl Try.underlying43 (by kernel_rfl) rfl (by decide) rfl rfl ⟨part, at_, to_, k⟩ (show (C.length + 1) * 32 ≤ 140737488355328 from by have := K6.out; omega) ?_; intro AC cC w11 hw_ hb_ hz_; replace HW := Aside0.mk hw_; replace HB := Aside0.mk hb_; replace HZ := Aside0.mk hz_; clear hw_ hb_ hz_) | ((with_reducible refine gate_store (t := 43) (p := 86) rfl ?_); refine HW.out.setbox HB.out HZ.out rfl rfl rfl 2 (by first | rfl | (go_simp; done) | (go_simp; rfl)) (by first | rfl | (go_simp; done) | (go_simp; rfl)) (by kernel_rfl) (by simp) ?_; intro w12 hw_ hb_ hz_; replace HW := Aside0.mk hw_; replace HB := Aside0.mk hb_; replace HZ := Aside0.mk hz_; clear hw_ hb_ hz_))
      go_ret2
      exact ⟨rfl, After.mk HW.out.less.less HB.out HZ.out⟩
set_option maxHeartbeats 4000000 in
set_option maxRecDepth 100000 in
theorem impl_World_endLoan.calls (base g : Nat) (v0 v1 v2 v3 : Value) (hs : List (Value × Value)) (T : List S67) (B : List S78) (C : List S155) (E : List Int) (F : List Row) (B' : List S78) (C' : List S155) (told : Int) (w0 w : World)
    (hW : WW w base g [v0, v1, v2, v3] v0 v1 v2 v3 hs T B C E F) (hb : Below base w0 w) (hz : base ≤ w.heap.size) (hr : endR B C = some (B', C', told)) :
    Calls Try.prog 140 #[.pointer (some ⟨g, 0, none⟩)] w fun e_ w' => e_ = .returned (.int .i64 told) ∧ After w0 base g T B' C' E F w' := by
  obtain ⟨A0, c0, rfl⟩ := hW.fT.hdTh rfl
  obtain ⟨A1, c1, rfl⟩ := hW.2.tail.tail.hdTa (n := B.length) hW.1
  obtain ⟨A2, c2, rfl⟩ := hW.fC.hdLo rfl
  obtain ⟨A3, c3, rfl⟩ := hW.fE.hdI rfl
  have HW := Aside0.mk hW
  have HB := Aside0.mk hb
  have HZ := Aside0.mk hz
  have HH := Aside0.mk hr
  clear hW hb hz hr
  go_enter Try.func140, Try.ntmps140
  have hr := HH.out
  clear HH
  unfold endR at hr
  by_cases q0 : C.length = 0
  · rw [if_pos q0] at hr
    exact absurd hr (by simp)
  rw [if_neg q0] at hr
  generalize hx : rd_T155 C ((C.length : Int) - 1) = x at hr
  obtain ⟨x0, x1, x2, x3⟩ := x
  dsimp only at hr
  by_cases q1 : x2 < 0
  · rw [if_pos q1] at hr
    exact absurd hr (by simp)
  rw [if_neg q1] at hr
  by_cases q2 : x2 ≥ (B.length : Int)
  · rw [if_pos q2] at hr
    exact absurd hr (by simp)
  rw [if_neg q2] at hr
  by_cases q3 : x3 < 0
  · rw [if_pos q3] at hr
    exact absurd hr (by simp)
  rw [if_neg q3] at hr
  by_cases q4 : x3 ≥ ((rd_T78 B x2).f0.length : Int)
  · rw [if_pos q4] at hr
    exact absurd hr (by simp)
  rw [if_neg q4] at hr
  replace hr := Option.bind_eq_some_iff.mp hr
  obtain ⟨⟨D1, D2⟩, hD, hr⟩ := hr
  dsimp only at hr
  have HD := Aside0.mk hD
  clear hD
  by_cases q5 : x0 < 0
  · rw [if_pos q5] at hr
    exact absurd hr (by simp)
  rw [if_neg q5] at hr
  by_cases q6 : x0 ≥ (B.length : Int)
  · rw [if_pos q6] at hr
    exact absurd hr (by simp)
  rw [if_neg q6] at hr
  by_cases q7 : x1 < 0
  · rw [if_pos q7] at hr
    exact absurd hr (by simp)
  rw [if_neg q7] at hr
  by_cases q8 : x1 ≥ ((rd_T78 (B.set x2.toNat ⟨D1, D2⟩) x0).f0.length : Int)
  · rw [if_pos q8] at hr
    exact absurd hr (by simp)
  rw [if_neg q8] at hr
  simp only [Option.some.injEq, Prod.mk.injEq] at hr
  obtain ⟨rfl, rfl, rfl⟩ := hr
  have h0 := Aside0.mk (show 0 ≤ x2 by omega)
  have h1 := Aside0.mk (show x2 < (B.length : Int) by omega)
  have h2 := Aside0.mk (show 0 ≤ x3 by omega)
  have h3 := Aside0.mk (show x3 < ((rd_T78 B x2).f0.length : Int) by omega)
  have h4 := Aside0.mk (show 0 ≤ x0 by omega)
  have h5 := Aside0.mk (show x0 < ((B.set x2.toNat ⟨D1, D2⟩).length : Int) by rw [List.length_set]; omega)
  have h6 := Aside0.mk (show 0 ≤ x1 by omega)
  have h7 := Aside0.mk (show x1 < ((rd_T78 (B.set x2.toNat ⟨D1, D2⟩) x0).f0.length : Int) by omega)
  have p0 : (0 ≤ x2) = True := eq_true h0.out
  have p1 : (x2 < (B.length : Int)) = True := eq_true h1.out
  have p2 : (0 ≤ x3) = True := eq_true h2.out
  have p3 : (x3 < ((rd_T78 B x2).f0.length : Int)) = True := eq_true h3.out
  have p4 : (0 ≤ x0) = True := eq_true h4.out
  have p5 : (x0 < (B.length : Int)) = True := eq_true (by omega)
  have p6 : (0 ≤ x1) = True := eq_true h6.out
  have p7 : (x1 < ((rd_T78 (B.set x2.toNat ⟨D1, D2⟩) x0).f0.length : Int)) = True := eq_true h7.out
  obtain ⟨gB, rfl, -, -, -⟩ := HW.out.heads x2 h0.out h1.out
  obtain ⟨gc, rfl, hc2, lj⟩ := HW.out.loan ((C.length : Int) - 1) (by omega) (by omega)
  rw [hx] at lj
  have LJ := Aside0.mk lj
  have CL := Aside0.mk (show C.length - 1 ≤ C.length by omega)
  have KM : IntKind.i64.wrap ((C.length : Int) - 1) = (C.length : Int) - 1 := IntWalk.i64_in _ (by have := (C155 HW.out.fC).2.2.2.1; omega)
  have e1 : (0 ≤ (C.length : Int) - 1) = True := eq_true (by omega)
  have e2 : ((C.length : Int) - 1 < (C.length : Int)) = True := eq_true (by omega)
  have e3 : (1 ≤ (C.length : Int)) = True := eq_true (by omega)
  have e4 : (1 ≤ C.length) = True := eq_true (by omega)
  have e5 : (0 < C.length) = True := eq_true (by omega)
  have hcut := run_cut (P := Try.prog) 43 155 4 Try.underlying43 (by kernel_rfl) (some ⟨gc, 0, none⟩) C.length c2 ((C.length : Int) - 1) (C.length - 1) (by omega) (by omega) hc2
  have et : ((C.length : Int) - 1).toNat = C.length - 1 := by omega
  have l0 := LJ.out 0 _ rfl
  have l1 := LJ.out 1 _ rfl
  have l2 := LJ.out 2 _ rfl
  have l3 := LJ.out 3 _ rfl
  rw [et] at l0 l1 l2 l3
  have m0 := LJ.out 0 _ rfl
  have m1 := LJ.out 1 _ rfl
  have m2 := LJ.out 2 _ rfl
  have m3 := LJ.out 3 _ rfl
  rw [Nat.add_zero] at l0 m0
  clear q0 q1 q2 q3 q4 q5 q6 q7 q8 lj LJ hx hc2 et
  have b2 := HW.out.at 2 rfl
  go_upto_region 3 with (first | ((with_reducible refine gate_dst (N := 4) rfl ?_); refine HW.out.2.box_ev HB.out HZ.out rfl (N := 4) rfl [.int .i64 0, .int .i64 0, .int .i64 0, .int .i64 0] 155 (by first | (go_simp; done) | (go_simp; rfl)) ?_; intro gx w1 hl_ hb_ hz_; replace HW := Aside0.mk (WW.tuck HW.out.1 hl_); replace HB := Aside0.mk hb_; replace HZ := Aside0.mk hz_; clear hl_ hb_ hz_) | ((with_reducible refine gate_store (t := 155) (p := 4) rfl ?_); refine HW.out.out.store_ev HB.out rfl rfl rfl 0 (by first | rfl | (go_simp; done) | (go_simp; rfl)) (u := .agg #[.int .i64 x0, .int .i64 x1, .int .i64 x2, .int .i64 x3]) (by first | rfl | (go_simp; done) | (go_simp; rfl)) (seg := [.int .i64 x0, .int .i64 x1, .int .i64 x2, .int .i64 x3]) rfl (by kernel_rfl) (by simp [Value.oneCell']) (by simp) ?_; intro w2 hl_ hb_ hs_; replace HW := Aside0.mk (WW.tuck (r := box gx 155 [.int .i64 x0, .int .i64 x1, .int .i64 x2, .int .i64 x3]) HW.out.1 hl_); replace HB := Aside0.mk hb_; replace HZ := Aside0.mk (Nat.le_trans HZ.out (Nat.le_of_eq hs_)); clear hl_ hb_ hs_))
  clear l0 l1 l2 l3 m0 m1 m2 m3 b2
  have b2 := HW.out.at 2 rfl
  go_upto_region 4 with ((with_reducible refine gate_store (t := 43) (p := 27) rfl ?_); refine HW.out.setbox HB.out HZ.out rfl rfl rfl 2 (by first | rfl | (go_simp; done) | (go_simp; rfl)) (by first | rfl | (go_simp; done) | (go_simp; rfl)) (by kernel_rfl) (by simp) ?_; intro w3 hw_ hb_ hz_; replace HW := Aside0.mk hw_; replace HB := Aside0.mk hb_; replace HZ := Aside0.mk hz_; clear hw_ hb_ hz_; replace HW := Aside0.mk (HW.out.cutC CL.out))
  clear b2 hcut
  have b1 := HW.out.at 1 rfl
  have y2 := HW.out.out.cell 2 rfl
  have y3 := HW.out.out.cell 3 rfl
  obtain ⟨gs, cs, hh, s0, sj⟩ := HW.out.slot x2 h0.out h1.out x3 h2.out h3.out
  have s2 := sj 2 _ rfl
  clear sj hh
  go_quiet (fail)
  go_upto_region 5 with (fail)
  replace HW := Aside0.mk (HW.out.drewN nq)
  replace HB := Aside0.mk (pw_below_drewN HB.out nq)
  replace HZ := Aside0.mk (show base ≤ (w3.drewN nq).heap.size from HZ.out)
  clear b1 y2 y3 s0 s2
  generalize w3.drewN nq = w4 at *
  have b1 := HW.out.at 1 rfl
  have y2 := HW.out.out.cell 2 rfl
  have y3 := HW.out.out.cell 3 rfl
  refine draw_ 9 [false, false, false, true, false, true, false, false, true] (by kernel_rfl) (S := fun W => Below w4.heap.size w4 W) (A := ?_) (by kernel_rfl) (fun _ _ _ d _ h => by cases d <;> exact h) (pw_below_drewN (Below.refl _ _) 1) ?_ ?_
  rotate_left
  · simp only [List.take_succ_cons, List.take_zero]
    repeat (first | (refine hdF_ _ rfl (by rfl) (v := ?_) (a' := ?_) (fun W => by go_simp; with_reducible rfl) (by simp only [Act.put, List.setIfInBounds_toArray, List.set_cons_zero, List.set_cons_succ, i64_w, i32_w]; rfl) ?_) | (refine hdT_ _ rfl (by rfl) (v := ?_) (a' := ?_) (fun W hW => by have b1 := pw_cell_below hW b1; have y2 := pw_cell_below hW y2; have y3 := pw_cell_below hW y3; go_simp; with_reducible rfl) (by simp only [Act.put, List.setIfInBounds_toArray, List.set_cons_zero, List.set_cons_succ, i64_w, i32_w]; rfl) ?_))
    exact hd_end
  simp only [List.drop_succ_cons, List.drop_zero, Act.put, List.setIfInBounds_toArray, List.set_cons_zero, List.set_cons_succ]
  replace HW := Aside0.mk HW.out.drew
  replace HB := Aside0.mk HB.out.drew
  replace HZ := Aside0.mk (show base ≤ w4.drew.heap.size from HZ.out)
  clear b1 y2 y3
  generalize w4.drew = w5 at *
  go_upto_region 6 with (go_at_call 157; refine (WW.drop HW.out HB.out HZ.out x2 h0.out h1.out x3 _ _ HD.out).mono ?_; rintro e_ w6 ⟨rfl, hs_, hw_, hb_, hz_⟩; replace HW := Aside0.mk hw_; replace HB := Aside0.mk hb_; replace HZ := Aside0.mk hz_; clear hw_ hb_ hz_)
  have b1 := HW.out.at 1 rfl
  have y0 := HW.out.out.cell 0 rfl
  have y1 := HW.out.out.cell 1 rfl
  obtain ⟨gs, cs, hh, s0, sj⟩ := HW.out.slot x0 h4.out h5.out x1 h6.out h7.out
  have s4 := sj 4 _ rfl
  have Hh := Aside0.mk hh
  clear sj hh
  refine draw_ 17 [false, false, false, true, false, true, false, false, true, false, true, false, false, true, false, false, false] (by kernel_rfl) (S := fun W => Below w6.heap.size w6 W) (A := ?_) (by kernel_rfl) (fun _ _ _ d _ h => by cases d <;> exact h) (pw_below_drewN (Below.refl _ _) 1) ?_ ?_
  rotate_left
  · simp only [List.take_succ_cons, List.take_zero]
    repeat (first | (refine hdF_ _ rfl (by rfl) (v := ?_) (a' := ?_) (fun W => by go_simp; with_reducible rfl) (by simp only [Act.put, List.setIfInBounds_toArray, List.set_cons_zero, List.set_cons_succ, i64_w, i32_w]; rfl) ?_) | (refine hdT_ _ rfl (by rfl) (v := ?_) (a' := ?_) (fun W hW => by have b1 := pw_cell_below hW b1; have y0 := pw_cell_below hW y0; have y1 := pw_cell_below hW y1; have s0 := pw_cell_below hW s0; have s4 := pw_cell_below hW s4; go_simp; with_reducible rfl) (by simp only [Act.put, List.setIfInBounds_toArray, List.set_cons_zero, List.set_cons_succ, i64_w, i32_w]; rfl) ?_))
    exact hd_end
  simp only [List.drop_succ_cons, List.drop_zero, Act.put, List.setIfInBounds_toArray, List.set_cons_zero, List.set_cons_succ]
  replace HW := Aside0.mk HW.out.drew
  replace HB := Aside0.mk HB.out.drew
  replace HZ := Aside0.mk (show base ≤ w6.drew.heap.size from HZ.out)
  clear b1 y0 y1 s0 s4
  generalize w6.drew = w7 at *
  go_wp2_with ((with_reducible refine gate_store (t := 3) (p := 68) rfl ?_); refine HW.out.lends HB.out HZ.out rfl rfl rfl x0 h4.out h5.out x1 h6.out h7.out Hh.out (by first | rfl | (go_simp; done) | (go_simp; rfl)) (by first | rfl | (go_simp; done) | (go_simp; rfl)) (by kernel_rfl) ?_; intro w8 hw_ hb_ hz_; replace HW := Aside0.mk hw_; replace HB := Aside0.mk hb_; replace HZ := Aside0.mk hz_; clear hw_ hb_ hz_)
  go_ret
  exact ⟨rfl, After.mk HW.out.less HB.out HZ.out⟩
set_option maxHeartbeats 4000000 in
set_option maxRecDepth 100000 in
theorem impl_World_letGo.calls (base g : Nat) (v0 v1 v2 v3 : Value) (hs : List (Value × Value)) (T : List S67) (B : List S78) (C : List S155) (E : List Int) (F : List Row) (kind part at_ to_ n : Int) (T' : List S67) (B' : List S78) (C' : List S155) (E' : List Int) (told code : Int) (w0 w : World)
    (hW : WW w base g [v0, v1, v2, v3] v0 v1 v2 v3 hs T B C E F) (hb : Below base w0 w) (hz : base ≤ w.heap.size) (hr : letR T B C E part at_ n = some (T', B', C', E', told, code)) :
    Calls Try.prog 139 #[.pointer (some ⟨g, 0, none⟩), .agg #[.int .i64 kind, .int .i64 part, .int .i64 at_, .int .i64 to_, .int .i64 n]] w fun e_ w' => e_ = .returned (.tuple #[.int .i64 told, .int .i64 code]) ∧ After w0 base g T' B' C' E' F w' := by
  obtain ⟨A0, c0, rfl⟩ := hW.fT.hdTh rfl
  obtain ⟨A1, c1, rfl⟩ := hW.2.tail.tail.hdTa (n := B.length) hW.1
  obtain ⟨A2, c2, rfl⟩ := hW.fC.hdLo rfl
  obtain ⟨A3, c3, rfl⟩ := hW.fE.hdI rfl
  have HW := Aside0.mk hW
  have HB := Aside0.mk hb
  have HZ := Aside0.mk hz
  have HH := Aside0.mk hr
  clear hW hb hz hr
  go_enter Try.func139, Try.ntmps139
  go_upto_region 1 with ((with_reducible refine gate_dst (N := 3) rfl ?_); refine HW.out.2.box_ev HB.out HZ.out rfl (N := 3) rfl [.int .i64 kind, .int .i64 part, .int .i64 at_, .int .i64 to_, .int .i64 n] 69 (by first | (go_simp; done) | (go_simp; rfl)) ?_; intro ga w1 hl_ hb_ hz_; replace HW := Aside0.mk (WW.tuck HW.out.1 hl_); replace HB := Aside0.mk hb_; replace HZ := Aside0.mk hz_; clear hl_ hb_ hz_)
  have hr := HH.out
  clear HH
  unfold letR at hr
  by_cases k0a : part < 0
  · rw [if_pos k0a] at hr
    exact absurd hr (by simp)
  rw [if_neg k0a] at hr
  by_cases k0b : part ≥ (B.length : Int)
  · rw [if_pos k0b] at hr
    exact absurd hr (by simp)
  rw [if_neg k0b] at hr
  have h0 := Aside0.mk (show 0 ≤ part by omega)
  have h1 := Aside0.mk (show part < (B.length : Int) by omega)
  have k0p : (0 ≤ part) = True := eq_true h0.out
  have k0q : (part < (B.length : Int)) = True := eq_true h1.out
  clear k0a k0b
  obtain ⟨gB, rfl, -, -, -⟩ := HW.out.heads part h0.out h1.out
  generalize hfr : findR (rd_T78 B part).f0 at_ n = fr at hr
  obtain ⟨⟨u, f1, f2, f3, f4, f5⟩, cd⟩ := fr
  have HF := Aside0.mk hfr
  clear hfr
  dsimp only at hr
  have a1 := HW.out.out.cell 1 rfl
  have b1 := HW.out.at 1 rfl
  go_quiet (fail)
  clear a1 b1
  have a2 := HW.out.out.cell 2 rfl
  have a4 := HW.out.out.cell 4 rfl
  go_upto_region 3 with (first | (go_at_call 156; refine (WW.find (HW.out.drewN _) part h0.out h1.out at_ n _ _ HF.out).mono ?_; rintro e_ w2 ⟨rfl, hb_⟩; replace HB := Aside0.mk (below_up (pw_below_drewN HB.out _) HZ.out hb_); replace HZ := Aside0.mk (Nat.le_trans HZ.out hb_.size); replace HW := Aside0.mk ((HW.out.drewN _).below hb_); clear hb_) | ((with_reducible refine gate_dst (N := 7) rfl ?_); refine HW.out.2.box_ev HB.out HZ.out rfl (N := 7) rfl [.bool false, .int .i64 0, .int .i64 0, .bool false, .int .i64 0, .int .i64 0] 75 (by first | (go_simp; done) | (go_simp; rfl)) ?_; intro gh w3 hl_ hb_ hz_; replace HW := Aside0.mk (WW.tuck HW.out.1 hl_); replace HB := Aside0.mk hb_; replace HZ := Aside0.mk hz_; clear hl_ hb_ hz_) | ((with_reducible refine gate_store (t := 75) (p := 7) rfl ?_); refine HW.out.out.store_ev HB.out rfl rfl rfl 0 (by first | rfl | (go_simp; done) | (go_simp; rfl)) (u := .agg #[.bool u, .int .i64 f1, .int .i64 f2, .bool f3, .int .i64 f4, .int .i64 f5]) (by first | rfl | (go_simp; done) | (go_simp; rfl)) (seg := [.bool u, .int .i64 f1, .int .i64 f2, .bool f3, .int .i64 f4, .int .i64 f5]) rfl (by kernel_rfl) (by simp [Value.oneCell']) (by simp) ?_; intro w4 hl_ hb_ hs_; replace HW := Aside0.mk (WW.tuck (r := box gh 75 [.bool u, .int .i64 f1, .int .i64 f2, .bool f3, .int .i64 f4, .int .i64 f5]) HW.out.1 hl_); replace HB := Aside0.mk hb_; replace HZ := Aside0.mk (Nat.le_trans HZ.out (Nat.le_of_eq hs_)); clear hl_ hb_ hs_))
  clear a2 a4
  have c2 := HW.out.out.cell 2 rfl
  have c3 := HW.out.out.cell 3 rfl
  have c4 := HW.out.out.cell 4 rfl
  have c5 := HW.out.out.cell 5 rfl
  by_cases z0 : cd = 0
  case neg =>
    rw [if_neg z0] at hr
    simp only [Option.some.injEq, Prod.mk.injEq] at hr
    obtain ⟨rfl, rfl, rfl, rfl, rfl, rfl⟩ := hr
    have z1 : (cd != 0) = true := by simpa using z0
    go_wp2
    go_ret2
    exact ⟨rfl, After.mk HW.out.less.less HB.out HZ.out⟩
  rw [if_pos z0] at hr
  subst z0
  cases f3 with
  | true =>
    rw [if_pos rfl] at hr
    by_cases z1 : f4 = 0
    case neg =>
      rw [if_neg z1] at hr
      simp only [Option.some.injEq, Prod.mk.injEq] at hr
      obtain ⟨rfl, rfl, rfl, rfl, rfl, rfl⟩ := hr
      have z2 : (f4 != 0) = true := by simpa using z1
      go_wp2
      go_ret2
      exact ⟨rfl, After.mk HW.out.less.less HB.out HZ.out⟩
    rw [if_pos z1] at hr
    subst z1
    replace hr := Option.bind_eq_some_iff.mp hr
    obtain ⟨⟨D1, D2⟩, hD, hr⟩ := hr
    have HD := Aside0.mk hD
    clear hD
    by_cases q1 : f2 < 0
    · rw [if_pos q1] at hr
      exact absurd hr (by simp)
    rw [if_neg q1] at hr
    by_cases q2 : f2 ≥ (T.length : Int)
    · rw [if_pos q2] at hr
      exact absurd hr (by simp)
    rw [if_neg q2] at hr
    by_cases q3 : E.length < 1048576
    case neg =>
      rw [if_neg q3] at hr
      exact absurd hr (by simp)
    rw [if_pos q3] at hr
    have K3 := Aside0.mk q3
    have h5 := Aside0.mk (show 0 ≤ f2 by omega)
    have h6 := Aside0.mk (show f2 < (T.length : Int) by omega)
    have p5 : (0 ≤ f2) = True := eq_true h5.out
    have p6 : (f2 < (T.length : Int)) = True := eq_true h6.out
    clear q1 q2 q3
    simp only [Option.some.injEq, Prod.mk.injEq] at hr
    obtain ⟨rfl, rfl, rfl, rfl, rfl, rfl⟩ := hr
    obtain ⟨gt, rfl, tj_⟩ := HW.out.thing f2 h5.out h6.out
    clear tj_
    have a2 := HW.out.less.out.cell 2 rfl
    go_upto_region 9 with (go_at_call 157; refine (WW.drop HW.out HB.out HZ.out part h0.out h1.out at_ _ _ HD.out).mono ?_; rintro e_ w5 ⟨rfl, hs_, hw_, hb_, hz_⟩; replace HW := Aside0.mk hw_; replace HB := Aside0.mk hb_; replace HZ := Aside0.mk hz_; clear hw_ hb_ hz_)
    clear a2 c2 c3 c4 c5
    have c2 := HW.out.out.cell 2 rfl
    have b0 := HW.out.at 0 rfl
    refine draw_ 8 [false, false, false, true, false, true, false, false] (by kernel_rfl) (S := fun W => Below w5.heap.size w5 W) (A := ?_) (by kernel_rfl) (fun _ _ _ d _ h => by cases d <;> exact h) (pw_below_drewN (Below.refl _ _) 1) ?_ ?_
    rotate_left
    · simp only [List.take_succ_cons, List.take_zero]
      repeat (first | (refine hdF_ _ rfl (by rfl) (v := ?_) (a' := ?_) (fun W => by go_simp; with_reducible rfl) (by simp only [Act.put, List.setIfInBounds_toArray, List.set_cons_zero, List.set_cons_succ, i64_w, i32_w]; rfl) ?_) | (refine hdT_ _ rfl (by rfl) (v := ?_) (a' := ?_) (fun W hW => by have c2 := pw_cell_below hW c2; have b0 := pw_cell_below hW b0; go_simp; with_reducible rfl) (by simp only [Act.put, List.setIfInBounds_toArray, List.set_cons_zero, List.set_cons_succ, i64_w, i32_w]; rfl) ?_))
      exact hd_end
    simp only [List.drop_succ_cons, List.drop_zero, Act.put, List.setIfInBounds_toArray, List.set_cons_zero, List.set_cons_succ]
    replace HW := Aside0.mk HW.out.drew
    replace HB := Aside0.mk HB.out.drew
    replace HZ := Aside0.mk (show base ≤ w5.drew.heap.size from HZ.out)
    clear c2 b0
    generalize w5.drew = w6 at *
    go_upto_region 10 with ((with_reducible refine gate_store (t := 4) (p := 51) rfl ?_); refine HW.out.alive HB.out HZ.out rfl rfl rfl f2 h5.out h6.out (by first | rfl | (go_simp; done) | (go_simp; rfl)) (by first | rfl | (go_simp; done) | (go_simp; rfl)) (by kernel_rfl) ?_; intro w7 hw_ hb_ hz_; replace HW := Aside0.mk hw_; replace HB := Aside0.mk hb_; replace HZ := Aside0.mk hz_; clear hw_ hb_ hz_)
    have c2 := HW.out.out.cell 2 rfl
    have b3 := HW.out.at 3 rfl
    refine draw_new 7 [false, false, false, false, true, false, true] (by kernel_rfl) rfl (S := fun W => Below w7.heap.size w7 W) (A := ?_) (v := .slice (some ⟨w7.drew.heap.size, 0, none⟩) 1 1) (ob := .cells #[.int .i64 f2] 3 (0, 0)) (by kernel_rfl) (fun _ _ _ d _ h => by cases d <;> exact h) (pw_below_drewN (Below.refl _ _) 1) (below_alloc (pw_below_drewN (Below.refl _ _) 1) _) ?_ rfl ?_ ?_
    rotate_left
    · simp only [List.take_succ_cons, List.take_zero]
      repeat (first | (refine hdF_ _ rfl (by rfl) (v := ?_) (a' := ?_) (fun W => by go_simp; with_reducible rfl) (by simp only [Act.put, List.setIfInBounds_toArray, List.set_cons_zero, List.set_cons_succ, i64_w, i32_w]; rfl) ?_) | (refine hdT_ _ rfl (by rfl) (v := ?_) (a' := ?_) (fun W hW => by have c2 := pw_cell_below hW c2; have b3 := pw_cell_below hW b3; go_simp; with_reducible rfl) (by simp only [Act.put, List.setIfInBounds_toArray, List.set_cons_zero, List.set_cons_succ, i64_w, i32_w]; rfl) ?_))
      exact hd_end
    · first | (go_simp; done) | (go_simp; rfl)
    simp only [List.drop_succ_cons, List.drop_zero, Act.put, List.setIfInBounds_toArray, List.set_cons_zero, List.set_cons_succ]
    replace HW := Aside0.mk HW.out.drew
    replace HB := Aside0.mk HB.out.drew
    replace HZ := Aside0.mk (show base ≤ w7.drew.heap.size from HZ.out)
    clear c2 b3
    generalize w7.drew = w8 at *
    go_upto_region 11 with (first | ((with_reducible refine gate_builtin (b := .append) (xs := #[.tmp 56, .tmp 59]) rfl ?_); at_builtin; refine HW.out.appE HB.out HZ.out rfl (.tmp 56) (.tmp 59) 36 (.int .i64 0) 8 rfl Try.underlying36 (by kernel_rfl) rfl (by decide) rfl rfl f2 (show (E.length + 1) * 8 ≤ 140737488355328 from by have := K3.out; omega) ?_; intro AE cE w9 hw_ hb_ hz_; replace HW := Aside0.mk hw_; replace HB := Aside0.mk hb_; replace HZ := Aside0.mk hz_; clear hw_ hb_ hz_) | ((with_reducible refine gate_store (t := 36) (p := 62) rfl ?_); refine HW.out.setbox HB.out HZ.out rfl rfl rfl 3 (by first | rfl | (go_simp; done) | (go_simp; rfl)) (by first | rfl | (go_simp; done) | (go_simp; rfl)) (by kernel_rfl) (by simp) ?_; intro w10 hw_ hb_ hz_; replace HW := Aside0.mk hw_; replace HB := Aside0.mk hb_; replace HZ := Aside0.mk hz_; clear hw_ hb_ hz_))
    have c2 := HW.out.out.cell 2 rfl
    go_wp2
    go_ret2
    exact ⟨rfl, After.mk HW.out.less.less HB.out HZ.out⟩
  | false =>
    rw [if_neg (by simp)] at hr
    have b2 := HW.out.at 2 rfl
    by_cases z1 : f5 = (C.length : Int)
    case neg =>
      rw [if_neg z1] at hr
      simp only [Option.some.injEq, Prod.mk.injEq] at hr
      obtain ⟨rfl, rfl, rfl, rfl, rfl, rfl⟩ := hr
      have z2 : (f5 != (C.length : Int)) = true := by simpa using z1
      go_wp2
      go_quiet (fail)
      go_wp2
      go_ret2
      exact ⟨rfl, After.mk (HW.out.less.less.drewN _) (pw_below_drewN HB.out _) HZ.out⟩
    rw [if_pos z1] at hr
    subst z1
    replace hr := Option.bind_eq_some_iff.mp hr
    obtain ⟨⟨D1, D2, r⟩, hD, hr⟩ := hr
    have HD := Aside0.mk hD
    clear hD
    simp only [Option.some.injEq, Prod.mk.injEq] at hr
    obtain ⟨rfl, rfl, rfl, rfl, rfl, rfl⟩ := hr
    go_wp2
    go_quiet (fail)
    go_wp2_with (go_at_call 140; refine (impl_World_endLoan.calls _ _ _ _ _ _ _ _ _ _ _ _ _ _ _ _ _ (HW.out.drewN _) (pw_below_drewN HB.out _) HZ.out HD.out).mono ?_; rintro e_ w5 ⟨rfl, w0_, w1_, w2_, w3_, hs_, hw_, hb_, hz_⟩; replace HW := Aside0.mk hw_; replace HB := Aside0.mk hb_; replace HZ := Aside0.mk hz_; clear hw_ hb_ hz_)
    go_ret2
    exact ⟨rfl, After.mk HW.out.less.less HB.out HZ.out⟩
set_option maxHeartbeats 4000000 in
set_option maxRecDepth 100000 in
theorem impl_World_act.calls (base g : Nat) (v0 v1 v2 v3 : Value) (hs : List (Value × Value)) (T : List S67) (B : List S78) (C : List S155) (E : List Int) (F : List Row) (kind part at_ to_ n : Int) (T' : List S67) (B' : List S78) (C' : List S155) (E' : List Int) (told code : Int) (w0 w : World)
    (hW : WW w base g [v0, v1, v2, v3] v0 v1 v2 v3 hs T B C E F) (hb : Below base w0 w) (hz : base ≤ w.heap.size) (hr : actR T B C E kind part at_ to_ n = some (T', B', C', E', told, code)) :
    Calls Try.prog 99 #[.pointer (some ⟨g, 0, none⟩), .agg #[.int .i64 kind, .int .i64 part, .int .i64 at_, .int .i64 to_, .int .i64 n]] w fun e_ w' => e_ = .returned (.tuple #[.int .i64 told, .int .i64 code]) ∧ After w0 base g T' B' C' E' F w' := by
  obtain ⟨A0, c0, rfl⟩ := hW.fT.hdTh rfl
  obtain ⟨A1, c1, rfl⟩ := hW.2.tail.tail.hdTa (n := B.length) hW.1
  obtain ⟨A2, c2, rfl⟩ := hW.fC.hdLo rfl
  obtain ⟨A3, c3, rfl⟩ := hW.fE.hdI rfl
  have HW := Aside0.mk hW
  have HB := Aside0.mk hb
  have HZ := Aside0.mk hz
  have HH := Aside0.mk hr
  clear hW hb hz hr
  go_enter Try.func99, Try.ntmps99
  go_upto_region 1 with ((with_reducible refine gate_dst (N := 3) rfl ?_); refine HW.out.2.box_ev HB.out HZ.out rfl (N := 3) rfl [.int .i64 kind, .int .i64 part, .int .i64 at_, .int .i64 to_, .int .i64 n] 69 (by first | (go_simp; done) | (go_simp; rfl)) ?_; intro ga w1 hl_ hb_ hz_; replace HW := Aside0.mk (WW.tuck HW.out.1 hl_); replace HB := Aside0.mk hb_; replace HZ := Aside0.mk hz_; clear hl_ hb_ hz_)
  have hr := HH.out
  clear HH
  unfold actR at hr
  have a0 := HW.out.out.cell 0 rfl
  have a1 := HW.out.out.cell 1 rfl
  have a3 := HW.out.out.cell 3 rfl
  have b1 := HW.out.at 1 rfl
  have b2 := HW.out.at 2 rfl
  by_cases k5 : kind = 5
  · rw [if_pos k5] at hr
    subst k5
    by_cases z0 : C.length = 0
    · rw [if_pos z0] at hr
      simp only [Option.some.injEq, Prod.mk.injEq] at hr
      obtain ⟨rfl, rfl, rfl, rfl, rfl, rfl⟩ := hr
      have z1 : ((C.length : Int) == 0) = true := by simpa using z0
      go_quiet (fail)
      go_wp2
      go_ret2
      exact ⟨rfl, by first | exact After.mk HW.out.less HB.out HZ.out | exact After.mk (HW.out.less.drewN _) (pw_below_drewN HB.out _) HZ.out | exact After.mk ((HW.out.less.drewN _).drewN _) (pw_below_drewN (pw_below_drewN HB.out _) _) HZ.out⟩
    rw [if_neg z0] at hr
    have z1 : ((C.length : Int) == 0) = false := by simpa using z0
    clear z0
    replace hr := Option.bind_eq_some_iff.mp hr
    obtain ⟨⟨D1, D2, r⟩, hD, hr⟩ := hr
    have HD := Aside0.mk hD
    clear hD
    simp only [Option.some.injEq, Prod.mk.injEq] at hr
    obtain ⟨rfl, rfl, rfl, rfl, rfl, rfl⟩ := hr
    go_quiet (fail)
    go_wp2_with (go_at_call 140; refine (impl_World_endLoan.calls _ _ _ _ _ _ _ _ _ _ _ _ _ _ _ _ _ (HW.out.drewN _) (pw_below_drewN HB.out _) HZ.out HD.out).mono ?_; rintro e_ w5 ⟨rfl, w0_, w1_, w2_, w3_, hs_, hw_, hb_, hz_⟩; replace HW := Aside0.mk hw_; replace HB := Aside0.mk hb_; replace HZ := Aside0.mk hz_; clear hw_ hb_ hz_)
    go_ret2
    exact ⟨rfl, After.mk HW.out.less HB.out HZ.out⟩
  rw [if_neg k5] at hr
  have k5a : (kind != 5) = true := by simpa using k5
  have k5b : (kind == 5) = false := by simpa using k5
  by_cases q0 : part < 0
  · rw [if_pos q0] at hr
    simp only [Option.some.injEq, Prod.mk.injEq] at hr
    obtain ⟨rfl, rfl, rfl, rfl, rfl, rfl⟩ := hr
    have e0 : decide (part < 0) = true := decide_eq_true q0
    go_quiet (fail)
    go_wp2
    go_ret2
    exact ⟨rfl, by first | exact After.mk HW.out.less HB.out HZ.out | exact After.mk (HW.out.less.drewN _) (pw_below_drewN HB.out _) HZ.out | exact After.mk ((HW.out.less.drewN _).drewN _) (pw_below_drewN (pw_below_drewN HB.out _) _) HZ.out⟩
  rw [if_neg q0] at hr
  have e0 : decide (part < 0) = false := decide_eq_false q0
  by_cases q1 : part ≥ (B.length : Int)
  · rw [if_pos q1] at hr
    simp only [Option.some.injEq, Prod.mk.injEq] at hr
    obtain ⟨rfl, rfl, rfl, rfl, rfl, rfl⟩ := hr
    have e1 : decide ((B.length : Int) ≤ part) = true := decide_eq_true q1
    go_quiet (fail)
    go_wp2
    go_ret2
    exact ⟨rfl, by first | exact After.mk HW.out.less HB.out HZ.out | exact After.mk (HW.out.less.drewN _) (pw_below_drewN HB.out _) HZ.out | exact After.mk ((HW.out.less.drewN _).drewN _) (pw_below_drewN (pw_below_drewN HB.out _) _) HZ.out⟩
  rw [if_neg q1] at hr
  have e1 : decide ((B.length : Int) ≤ part) = false := decide_eq_false q1
  clear q0 q1
  by_cases k1 : kind = 1
  · rw [if_pos k1] at hr
    subst k1
    replace hr := Option.bind_eq_some_iff.mp hr
    obtain ⟨⟨D1, D2, r, cc⟩, hD, hr⟩ := hr
    have HD := Aside0.mk hD
    clear hD
    simp only [Option.some.injEq, Prod.mk.injEq] at hr
    obtain ⟨rfl, rfl, rfl, rfl, rfl, rfl⟩ := hr
    have a2 := HW.out.out.cell 2 rfl
    have a4 := HW.out.out.cell 4 rfl
    go_quiet (fail)
    go_wp2_with (go_at_call 136; refine (impl_World_create.calls _ _ _ _ _ _ _ _ _ _ _ _ _ _ _ _ _ _ _ _ _ _ _ (HW.out.drewN _) (pw_below_drewN HB.out _) HZ.out HD.out).mono ?_; rintro e_ w5 ⟨rfl, w0_, w1_, w2_, w3_, hs_, hw_, hb_, hz_⟩; replace HW := Aside0.mk hw_; replace HB := Aside0.mk hb_; replace HZ := Aside0.mk hz_; clear hw_ hb_ hz_)
    go_ret2
    exact ⟨rfl, After.mk HW.out.less HB.out HZ.out⟩
  rw [if_neg k1] at hr
  have k1a : (kind == 1) = false := by simpa using k1
  by_cases k4 : kind = 4
  · rw [if_pos k4] at hr
    subst k4
    have HD := Aside0.mk hr
    clear hr
    have a2 := HW.out.out.cell 2 rfl
    have a4 := HW.out.out.cell 4 rfl
    go_quiet (fail)
    go_wp2_with (go_at_call 139; refine (impl_World_letGo.calls _ _ _ _ _ _ _ _ _ _ _ _ _ _ _ _ _ _ _ _ _ _ _ _ _ (HW.out.drewN _) (pw_below_drewN HB.out _) HZ.out HD.out).mono ?_; rintro e_ w5 ⟨rfl, w0_, w1_, w2_, w3_, hs_, hw_, hb_, hz_⟩; replace HW := Aside0.mk hw_; replace HB := Aside0.mk hb_; replace HZ := Aside0.mk hz_; clear hw_ hb_ hz_)
    go_ret2
    exact ⟨rfl, After.mk HW.out.less HB.out HZ.out⟩
  rw [if_neg k4] at hr
  have k4a : (kind == 4) = false := by simpa using k4
  by_cases k23 : kind = 2 ∨ kind = 3
  case neg =>
    rw [if_neg k23] at hr
    simp only [Option.some.injEq, Prod.mk.injEq] at hr
    obtain ⟨rfl, rfl, rfl, rfl, rfl, rfl⟩ := hr
    have k2a : (kind == 2) = false := by simp only [not_or] at k23; simpa using k23.1
    have k3a : (kind == 3) = false := by simp only [not_or] at k23; simpa using k23.2
    clear k23
    go_quiet (fail)
    go_wp2
    go_ret2
    exact ⟨rfl, by first | exact After.mk HW.out.less HB.out HZ.out | exact After.mk (HW.out.less.drewN _) (pw_below_drewN HB.out _) HZ.out | exact After.mk ((HW.out.less.drewN _).drewN _) (pw_below_drewN (pw_below_drewN HB.out _) _) HZ.out⟩
  rw [if_pos k23] at hr
  by_cases q2 : to_ < 0
  · rw [if_pos q2] at hr
    simp only [Option.some.injEq, Prod.mk.injEq] at hr
    obtain ⟨rfl, rfl, rfl, rfl, rfl, rfl⟩ := hr
    have e2 : decide (to_ < 0) = true := decide_eq_true q2
    rcases k23 with rfl | rfl
    · go_quiet (fail)
      go_wp2
      go_quiet (fail)
      go_wp2
      go_ret2
      exact ⟨rfl, by first | exact After.mk HW.out.less HB.out HZ.out | exact After.mk (HW.out.less.drewN _) (pw_below_drewN HB.out _) HZ.out | exact After.mk ((HW.out.less.drewN _).drewN _) (pw_below_drewN (pw_below_drewN HB.out _) _) HZ.out⟩
    · go_quiet (fail)
      go_wp2
      go_quiet (fail)
      go_wp2
      go_ret2
      exact ⟨rfl, by first | exact After.mk HW.out.less HB.out HZ.out | exact After.mk (HW.out.less.drewN _) (pw_below_drewN HB.out _) HZ.out | exact After.mk ((HW.out.less.drewN _).drewN _) (pw_below_drewN (pw_below_drewN HB.out _) _) HZ.out⟩
  rw [if_neg q2] at hr
  have e2 : decide (to_ < 0) = false := decide_eq_false q2
  by_cases q3 : to_ ≥ (B.length : Int)
  · rw [if_pos q3] at hr
    simp only [Option.some.injEq, Prod.mk.injEq] at hr
    obtain ⟨rfl, rfl, rfl, rfl, rfl, rfl⟩ := hr
    have e3 : decide ((B.length : Int) ≤ to_) = true := decide_eq_true q3
    rcases k23 with rfl | rfl
    · go_quiet (fail)
      go_wp2
      go_quiet (fail)
      go_wp2
      go_ret2
      exact ⟨rfl, by first | exact After.mk HW.out.less HB.out HZ.out | exact After.mk (HW.out.less.drewN _) (pw_below_drewN HB.out _) HZ.out | exact After.mk ((HW.out.less.drewN _).drewN _) (pw_below_drewN (pw_below_drewN HB.out _) _) HZ.out⟩
    · go_quiet (fail)
      go_wp2
      go_quiet (fail)
      go_wp2
      go_ret2
      exact ⟨rfl, by first | exact After.mk HW.out.less HB.out HZ.out | exact After.mk (HW.out.less.drewN _) (pw_below_drewN HB.out _) HZ.out | exact After.mk ((HW.out.less.drewN _).drewN _) (pw_below_drewN (pw_below_drewN HB.out _) _) HZ.out⟩
  rw [if_neg q3] at hr
  have e3 : decide ((B.length : Int) ≤ to_) = false := decide_eq_false q3
  clear q2 q3
  by_cases q4 : to_ = part
  · rw [if_pos q4] at hr
    simp only [Option.some.injEq, Prod.mk.injEq] at hr
    obtain ⟨rfl, rfl, rfl, rfl, rfl, rfl⟩ := hr
    have e4 : (to_ == part) = true := by simpa using q4
    clear q4
    rcases k23 with rfl | rfl
    · go_quiet (fail)
      go_wp2
      go_quiet (fail)
      go_wp2
      go_ret2
      exact ⟨rfl, by first | exact After.mk HW.out.less HB.out HZ.out | exact After.mk (HW.out.less.drewN _) (pw_below_drewN HB.out _) HZ.out | exact After.mk ((HW.out.less.drewN _).drewN _) (pw_below_drewN (pw_below_drewN HB.out _) _) HZ.out⟩
    · go_quiet (fail)
      go_wp2
      go_quiet (fail)
      go_wp2
      go_ret2
      exact ⟨rfl, by first | exact After.mk HW.out.less HB.out HZ.out | exact After.mk (HW.out.less.drewN _) (pw_below_drewN HB.out _) HZ.out | exact After.mk ((HW.out.less.drewN _).drewN _) (pw_below_drewN (pw_below_drewN HB.out _) _) HZ.out⟩
  rw [if_neg q4] at hr
  have e4 : (to_ == part) = false := by simpa using q4
  clear q4
  have a2 := HW.out.out.cell 2 rfl
  have a4 := HW.out.out.cell 4 rfl
  rcases k23 with rfl | rfl
  · rw [if_pos rfl] at hr
    replace hr := Option.bind_eq_some_iff.mp hr
    obtain ⟨⟨D1, r, cc⟩, hD, hr⟩ := hr
    have HD := Aside0.mk hD
    clear hD
    simp only [Option.some.injEq, Prod.mk.injEq] at hr
    obtain ⟨rfl, rfl, rfl, rfl, rfl, rfl⟩ := hr
    go_quiet (fail)
    go_wp2
    go_quiet (fail)
    go_wp2_with (go_at_call 137; refine (impl_World_give.calls _ _ _ _ _ _ _ _ _ _ _ _ _ _ _ _ _ _ _ _ _ _ (HW.out.drewN _) (pw_below_drewN HB.out _) HZ.out HD.out).mono ?_; rintro e_ w5 ⟨rfl, w0_, w1_, w2_, w3_, hs_, hw_, hb_, hz_⟩; replace HW := Aside0.mk hw_; replace HB := Aside0.mk hb_; replace HZ := Aside0.mk hz_; clear hw_ hb_ hz_)
    go_ret2
    exact ⟨rfl, After.mk HW.out.less HB.out HZ.out⟩
  · rw [if_neg (by decide)] at hr
    replace hr := Option.bind_eq_some_iff.mp hr
    obtain ⟨⟨D1, D2, r, cc⟩, hD, hr⟩ := hr
    have HD := Aside0.mk hD
    clear hD
    simp only [Option.some.injEq, Prod.mk.injEq] at hr
    obtain ⟨rfl, rfl, rfl, rfl, rfl, rfl⟩ := hr
    go_quiet (fail)
    go_wp2
    go_quiet (fail)
    go_wp2_with (go_at_call 138; refine (impl_World_lend.calls _ _ _ _ _ _ _ _ _ _ _ _ _ _ _ _ _ _ _ _ _ _ _ (HW.out.drewN _) (pw_below_drewN HB.out _) HZ.out HD.out).mono ?_; rintro e_ w5 ⟨rfl, w0_, w1_, w2_, w3_, hs_, hw_, hb_, hz_⟩; replace HW := Aside0.mk hw_; replace HB := Aside0.mk hb_; replace HZ := Aside0.mk hz_; clear hw_ hb_ hz_)
    go_ret2
    exact ⟨rfl, After.mk HW.out.less HB.out HZ.out⟩
set_option maxHeartbeats 4000000 in
set_option maxRecDepth 100000 in
theorem impl_NewWorld.lay (base : Nat) (n : Int) (F : List Row) (w0 w : World) (hL : Lay w base F) (hb : Below base w0 w) (hz : base ≤ w.heap.size) :
    Calls Try.prog 98 #[.int .i64 n] w fun e_ w' => NewPost w0 base n F e_ w' := by
  have HL := Aside0.mk hL
  have HB := Aside0.mk hb
  have HZ := Aside0.mk hz
  clear hL hb hz
  by_cases klt : n < 1
  · have elt : decide (n < 1) = true := decide_eq_true klt
    have HN : ¬ (1 ≤ n ∧ n ≤ 5) := by omega
    have HK := Aside0.mk HN
    clear HN klt
    go_enter Try.func98, Try.ntmps98
    go_upto_region 1 with ((with_reducible refine gate_dst (N := 2) rfl ?_); (try (refine gate_guard (by rfl) ?_; dsimp only)); refine HL.out.box_ev HB.out HZ.out rfl (N := 2) rfl [.slice none 0 0, .slice none 0 0, .slice none 0 0, .slice none 0 0] 45 (by first | (go_simp; done) | (go_simp; rfl)) ?_; intro gr w1 hl_ hb_ hz_; replace HL := Aside0.mk hl_; replace HB := Aside0.mk hb_; replace HZ := Aside0.mk hz_; clear hl_ hb_ hz_)
    go_wp2_with ((with_reducible refine gate_store (t := 45) (p := 2) rfl ?_); refine HL.out.store_ev HB.out rfl rfl rfl (0) (by first | rfl | (go_simp; done) | (go_simp; rfl)) (u := .agg #[.slice none 0 0, .slice none 0 0, .slice none 0 0, .slice none 0 0]) (by first | rfl | (go_simp; done) | (go_simp; rfl)) (seg := [.slice none 0 0, .slice none 0 0, .slice none 0 0, .slice none 0 0]) rfl (by kernel_rfl) (by simp [Value.oneCell']) (by first | omega | (simp; done) | (simp; omega)) ?_; intro w2 hl_ hb_ hs_; replace HL := Aside0.mk hl_; replace HB := Aside0.mk hb_; replace HZ := Aside0.mk (Nat.le_trans HZ.out (Nat.le_of_eq hs_)); clear hl_ hb_ hs_)
    replace HL := Aside0.mk (show Lay _ _ (box gr 45 [.slice none 0 0, .slice none 0 0, .slice none 0 0, .slice none 0 0] :: _) from HL.out)
    exact bodyPost_ret (results_list (rs := [.cell 2 45, .tmp 3]) rfl (by simp) (.cell gr 45 #[.slice none 0 0, .slice none 0 0, .slice none 0 0, .slice none 0 0] (0, 0) _ rfl HL.out.boxB Try.underlying45 rfl (by kernel_rfl) (.tmp .nil))) rfl ⟨_, by rw [show okN n = false from decide_eq_false HK.out]; rfl, by unfold newB; rw [if_neg HK.out]; exact AfterR.mk (WR.none HL.out.tail) HB.out HZ.out⟩
  have elt : decide (n < 1) = false := decide_eq_false klt
  by_cases kgt : n > 5
  · have egt : decide (5 < n) = true := decide_eq_true kgt
    have HN : ¬ (1 ≤ n ∧ n ≤ 5) := by omega
    have HK := Aside0.mk HN
    clear HN kgt
    go_enter Try.func98, Try.ntmps98
    go_upto_region 1 with ((with_reducible refine gate_dst (N := 2) rfl ?_); (try (refine gate_guard (by rfl) ?_; dsimp only)); refine HL.out.box_ev HB.out HZ.out rfl (N := 2) rfl [.slice none 0 0, .slice none 0 0, .slice none 0 0, .slice none 0 0] 45 (by first | (go_simp; done) | (go_simp; rfl)) ?_; intro gr w1 hl_ hb_ hz_; replace HL := Aside0.mk hl_; replace HB := Aside0.mk hb_; replace HZ := Aside0.mk hz_; clear hl_ hb_ hz_)
    go_wp2_with ((with_reducible refine gate_store (t := 45) (p := 2) rfl ?_); refine HL.out.store_ev HB.out rfl rfl rfl (0) (by first | rfl | (go_simp; done) | (go_simp; rfl)) (u := .agg #[.slice none 0 0, .slice none 0 0, .slice none 0 0, .slice none 0 0]) (by first | rfl | (go_simp; done) | (go_simp; rfl)) (seg := [.slice none 0 0, .slice none 0 0, .slice none 0 0, .slice none 0 0]) rfl (by kernel_rfl) (by simp [Value.oneCell']) (by first | omega | (simp; done) | (simp; omega)) ?_; intro w2 hl_ hb_ hs_; replace HL := Aside0.mk hl_; replace HB := Aside0.mk hb_; replace HZ := Aside0.mk (Nat.le_trans HZ.out (Nat.le_of_eq hs_)); clear hl_ hb_ hs_)
    replace HL := Aside0.mk (show Lay _ _ (box gr 45 [.slice none 0 0, .slice none 0 0, .slice none 0 0, .slice none 0 0] :: _) from HL.out)
    exact bodyPost_ret (results_list (rs := [.cell 2 45, .tmp 3]) rfl (by simp) (.cell gr 45 #[.slice none 0 0, .slice none 0 0, .slice none 0 0, .slice none 0 0] (0, 0) _ rfl HL.out.boxB Try.underlying45 rfl (by kernel_rfl) (.tmp .nil))) rfl ⟨_, by rw [show okN n = false from decide_eq_false HK.out]; rfl, by unfold newB; rw [if_neg HK.out]; exact AfterR.mk (WR.none HL.out.tail) HB.out HZ.out⟩
  have egt : decide (5 < n) = false := decide_eq_false kgt
  obtain ⟨m, rfl⟩ := Int.eq_ofNat_of_zero_le (show 0 ≤ n by omega)
  have HK := Aside0.mk (show 1 ≤ (m : Int) ∧ (m : Int) ≤ 5 by omega)
  clear klt kgt
  go_enter Try.func98, Try.ntmps98
  go_upto_region 1 with ((with_reducible refine gate_dst (N := 2) rfl ?_); (try (refine gate_guard (by rfl) ?_; dsimp only)); refine HL.out.box_ev HB.out HZ.out rfl (N := 2) rfl [.slice none 0 0, .slice none 0 0, .slice none 0 0, .slice none 0 0] 45 (by first | (go_simp; done) | (go_simp; rfl)) ?_; intro gr w1 hl_ hb_ hz_; replace HL := Aside0.mk hl_; replace HB := Aside0.mk hb_; replace HZ := Aside0.mk hz_; clear hl_ hb_ hz_)
  go_wp2_with (first | ((with_reducible refine gate_dst (N := 12) rfl ?_); refine HL.out.make_ev HB.out HZ.out rfl rfl m rfl rfl Try.underlying42 (.agg #[.slice none 0 0, .slice none 0 0]) 2 48 info78 rfl (by decide) (by decide) pc pc_len zp rfl (by have := HK.out; omega) ?_; intro gB w2 hl_ hb_ hz_; replace HL := Aside0.mk (rTa_made _ m ▸ hl_).swap; replace HB := Aside0.mk hb_; replace HZ := Aside0.mk hz_; clear hl_ hb_ hz_) | ((with_reducible refine gate_store (t := 45) (p := 2) rfl ?_); refine HL.out.store_ev HB.out rfl rfl rfl (0) (by first | rfl | (go_simp; done) | (go_simp; rfl)) (u := .agg #[.slice none 0 0, .slice (some ⟨gB, 0, none⟩) m m, .slice none 0 0, .slice none 0 0]) (by first | rfl | (go_simp; done) | (go_simp; rfl)) (seg := [.slice none 0 0, .slice (some ⟨gB, 0, none⟩) m m, .slice none 0 0, .slice none 0 0]) rfl (by kernel_rfl) (by simp [Value.oneCell']) (by first | omega | (simp; done) | (simp; omega)) ?_; intro w3 hl_ hb_ hs_; replace HL := Aside0.mk hl_; replace HB := Aside0.mk hb_; replace HZ := Aside0.mk (Nat.le_trans HZ.out (Nat.le_of_eq hs_)); clear hl_ hb_ hs_))
  replace HL := Aside0.mk (show Lay _ _ (box gr 45 [.slice none 0 0, .slice (some ⟨gB, 0, none⟩) m m, .slice none 0 0, .slice none 0 0] :: _) from HL.out)
  exact bodyPost_ret (results_list (rs := [.cell 2 45, .tmp 3]) rfl (by simp) (.cell gr 45 #[.slice none 0 0, .slice (some ⟨gB, 0, none⟩) m m, .slice none 0 0, .slice none 0 0] (0, 0) _ rfl HL.out.boxB Try.underlying45 rfl (by kernel_rfl) (.tmp .nil))) rfl ⟨_, by rw [show okN (m : Int) = true from decide_eq_true HK.out]; rfl, by unfold newB; rw [if_pos HK.out]; exact AfterR.mk (WR.new HL.out.tail) HB.out HZ.out⟩
set_option maxHeartbeats 4000000 in
set_option maxRecDepth 100000 in
theorem impl_PlayWorld.lay (base : Nat) (n : Int) (A : Option Addr) (c : Nat) (l : List S69) (r : List S67 × List S78 × List S155 × List Int × List Int × Bool) (F : List Row) (w0 w : World) (hA : k69.C w0 A l.length l) (h0 : w0.heap.size ≤ base) (hL : Lay w base F) (hb : Below base w0 w) (hz : base ≤ w.heap.size) (hr : playR n l = some r) :
    Calls Try.prog 39 #[.int .i64 n, .slice A l.length c] w fun e_ w' => PlayPost w0 base r F e_ w' := by
  have HL := Aside0.mk hL
  have HB := Aside0.mk hb
  have HZ := Aside0.mk hz
  have HA := Aside0.mk hA
  have H0 := Aside0.mk h0
  have HR := Aside0.mk hr
  clear hL hb hz hA h0 hr
  go_enter Try.func39, Try.ntmps39
  go_upto_region 1 with ((with_reducible refine gate_dst (N := 4) rfl ?_); (try (refine gate_guard (by rfl) ?_; dsimp only)); refine HL.out.box_ev HB.out HZ.out rfl (N := 4) rfl [.slice none 0 0, .slice none 0 0, .slice none 0 0, .slice none 0 0] 45 (by first | (go_simp; done) | (go_simp; rfl)) ?_; intro gr w1 hl_ hb_ hz_; replace HL := Aside0.mk hl_; replace HB := Aside0.mk hb_; replace HZ := Aside0.mk hz_; clear hl_ hb_ hz_)
  go_upto_region 2 with (first | (go_at_call 98; refine (impl_NewWorld.lay base n _ _ _ HL.out HB.out HZ.out).mono ?_; rintro e_ w2 ⟨v, rfl, v0, v1, v2, v3, hs, rfl, hw_, hb_, hz_⟩; replace HL := Aside0.mk hw_.2; have HS := Aside0.mk hw_.1; have HO := Aside0.mk hw_.ones; replace HB := Aside0.mk hb_; replace HZ := Aside0.mk hz_; clear hw_ hb_ hz_) | ((with_reducible refine gate_dst (N := 7) rfl ?_); (try (refine gate_guard (by rfl) ?_; dsimp only)); refine HL.out.box_ev HB.out HZ.out rfl (N := 7) rfl [.slice none 0 0, .slice none 0 0, .slice none 0 0, .slice none 0 0] 45 (by first | (go_simp; done) | (go_simp; rfl)) ?_; intro g w3 hl_ hb_ hz_; replace HL := Aside0.mk hl_; replace HB := Aside0.mk hb_; replace HZ := Aside0.mk hz_; clear hl_ hb_ hz_) | ((with_reducible refine gate_store (t := 45) (p := 7) rfl ?_); refine HL.out.store_ev HB.out rfl rfl rfl (0) (by first | rfl | (go_simp; done) | (go_simp; rfl)) (u := .agg #[v0, v1, v2, v3]) (by first | rfl | (go_simp; done) | (go_simp; rfl)) (seg := [v0, v1, v2, v3]) rfl (by kernel_rfl) HO.out (by first | omega | (simp; done) | (simp; omega)) ?_; intro w4 hl_ hb_ hs_; replace HL := Aside0.mk hl_; replace HB := Aside0.mk hb_; replace HZ := Aside0.mk (Nat.le_trans HZ.out (Nat.le_of_eq hs_)); clear hl_ hb_ hs_))
  have HW := Aside0.mk (WR.box (g := g) (bx := [v0, v1, v2, v3]) HS.out HL.out)
  clear HL HS HO
  have hr := HR.out
  clear HR
  unfold playR at hr
  by_cases k0 : 1 ≤ n ∧ n ≤ 5
  case neg =>
    rw [if_neg k0] at hr
    have e0 : okN n = false := decide_eq_false k0
    clear k0
    obtain rfl := Option.some.inj hr
    have HL := Aside0.mk HW.out.out
    clear HW
    go_wp2_with ((with_reducible refine gate_store (t := 45) (p := 4) rfl ?_); refine HL.out.store_ev HB.out rfl rfl rfl (0) (by first | rfl | (go_simp; done) | (go_simp; rfl)) (u := .agg #[.slice none 0 0, .slice none 0 0, .slice none 0 0, .slice none 0 0]) (by first | rfl | (go_simp; done) | (go_simp; rfl)) (seg := [.slice none 0 0, .slice none 0 0, .slice none 0 0, .slice none 0 0]) rfl (by kernel_rfl) (by simp [Value.oneCell']) (by first | omega | (simp; done) | (simp; omega)) ?_; intro w5 hl_ hb_ hs_; replace HL := Aside0.mk hl_; replace HB := Aside0.mk hb_; replace HZ := Aside0.mk (Nat.le_trans HZ.out (Nat.le_of_eq hs_)); clear hl_ hb_ hs_)
    replace HL := Aside0.mk (show Lay _ _ (box gr 45 [.slice none 0 0, .slice none 0 0, .slice none 0 0, .slice none 0 0] :: _) from HL.out)
    exact bodyPost_ret (results_list (rs := [.cell 4 45, .tmp 5, .tmp 6]) rfl (by simp) (.cell gr 45 #[.slice none 0 0, .slice none 0 0, .slice none 0 0, .slice none 0 0] (0, 0) _ rfl HL.out.boxB Try.underlying45 rfl (by kernel_rfl) (.tmp (.tmp .nil)))) rfl ⟨_, _, rfl, AfterR.mk (WR.none ((HL.out.tail.tail.tail.tail.tail.tail.sub (List.sublist_append_right _ _)).nilRow 3 1)) HB.out HZ.out⟩
  rw [if_pos k0] at hr
  have e0 : okN n = true := decide_eq_true k0
  clear k0
  by_cases k1 : (l.length : Int) > 100
  · rw [if_pos k1] at hr
    have e1 : decide (100 < (l.length : Int)) = true := decide_eq_true k1
    clear k1
    obtain rfl := Option.some.inj hr
    have HL := Aside0.mk HW.out.out
    clear HW
    go_wp2_with ((with_reducible refine gate_store (t := 45) (p := 4) rfl ?_); refine HL.out.store_ev HB.out rfl rfl rfl (0) (by first | rfl | (go_simp; done) | (go_simp; rfl)) (u := .agg #[.slice none 0 0, .slice none 0 0, .slice none 0 0, .slice none 0 0]) (by first | rfl | (go_simp; done) | (go_simp; rfl)) (seg := [.slice none 0 0, .slice none 0 0, .slice none 0 0, .slice none 0 0]) rfl (by kernel_rfl) (by simp [Value.oneCell']) (by first | omega | (simp; done) | (simp; omega)) ?_; intro w5 hl_ hb_ hs_; replace HL := Aside0.mk hl_; replace HB := Aside0.mk hb_; replace HZ := Aside0.mk (Nat.le_trans HZ.out (Nat.le_of_eq hs_)); clear hl_ hb_ hs_)
    replace HL := Aside0.mk (show Lay _ _ (box gr 45 [.slice none 0 0, .slice none 0 0, .slice none 0 0, .slice none 0 0] :: _) from HL.out)
    exact bodyPost_ret (results_list (rs := [.cell 4 45, .tmp 5, .tmp 6]) rfl (by simp) (.cell gr 45 #[.slice none 0 0, .slice none 0 0, .slice none 0 0, .slice none 0 0] (0, 0) _ rfl HL.out.boxB Try.underlying45 rfl (by kernel_rfl) (.tmp (.tmp .nil)))) rfl ⟨_, _, rfl, AfterR.mk (WR.none ((HL.out.tail.tail.tail.tail.tail.tail.sub (List.sublist_append_right _ _)).nilRow 3 1)) HB.out HZ.out⟩
  rw [if_neg k1] at hr
  have e1 : decide (100 < (l.length : Int)) = false := decide_eq_false k1
  have K1 := Aside0.mk (show l.length ≤ 100 by omega)
  clear k1
  replace hr := Option.bind_eq_some_iff.mp hr
  obtain ⟨⟨T', B', C', E', cs'⟩, hP, hr⟩ := hr
  obtain rfl := Option.some.inj hr
  have HP := Aside0.mk hP
  clear hP
  go_upto_region 5 with ((with_reducible refine gate_dst (N := 27) rfl ?_); refine HW.out.2.make_ev HB.out HZ.out rfl rfl l.length rfl rfl Try.underlying36 (.int .i64 0) 1 8 info3 rfl (by decide) (by decide) ic ic_len 0 rfl (by have := K1.out; omega) ?_; intro gc w5 hl_ hb_ hz_; replace HW := Aside0.mk (WW.tuck HW.out.1 (rI_made _ l.length ▸ hl_)); replace HB := Aside0.mk hb_; replace HZ := Aside0.mk hz_; clear hl_ hb_ hz_)
  clear e1
  have HI := Aside0.mk (After.mk HW.out HB.out HZ.out)
  clear HW HB HZ
  go_wp2_with (fail)
  go_loopw [30] (fun v30 wr => ∃ (x : Int) (T : List S67) (B : List S78) (C : List S155) (E done rest : List Int), v30 = .int .i64 x ∧ Aside0 (0 ≤ x) ∧ Aside0 (x ≤ l.length) ∧ Aside0 (playG (l.drop x.toNat) T B C E = some (T', B', C', E', rest)) ∧ Aside0 (done ++ rest = cs') ∧ Aside0 (done.length = x.toNat) ∧ Aside0 (After w0 base g T B C E (rI (.slice (some ⟨gc, 0, none⟩) l.length l.length) (done ++ List.replicate (l.length - x.toNat) 0) :: box gr 45 [.slice none 0 0, .slice none 0 0, .slice none 0 0, .slice none 0 0] :: F) wr)) (fun v30 _ => l.length - (intOf v30).toNat)
  case atStart => exact ⟨0, [], newB n, [], [], [], cs', rfl, ⟨Int.le_refl _⟩, ⟨by omega⟩, HP, ⟨rfl⟩, ⟨rfl⟩, ⟨by simpa using HI.out⟩⟩
  case round =>
    clear HP HI
    obtain ⟨x, T, B, C, E, done, rest, rfl, X0, X1, HP, HC, HD, HI⟩ := hrel
    by_cases hlt : x < (l.length : Int)
    case neg =>
      have nlt : decide (x < (l.length : Int)) = false := decide_eq_false hlt
      have hp := HP.out
      rw [dropI_end l x hlt X0.out] at hp
      simp only [playG, Option.some.injEq, Prod.mk.injEq] at hp
      obtain ⟨rfl, rfl, rfl, rfl, rfl⟩ := hp
      have hx : x.toNat = l.length := by have := X0.out; have := X1.out; omega
      have hI := HI.out
      rw [hx, Nat.sub_self, List.replicate_zero, HC.out] at hI
      obtain ⟨v0, v1, v2, v3, hs, hw, hb, hz⟩ := hI
      have HW := Aside0.mk hw
      have HB := Aside0.mk hb
      have HZ := Aside0.mk hz
      clear hw hb hz HI HC HD HP hx hlt
      have b0 := HW.out.at 0 rfl
      have b1 := HW.out.at 1 rfl
      have b2 := HW.out.at 2 rfl
      have b3 := HW.out.at 3 rfl
      have HL := Aside0.mk (HW.out.out.perm (List.perm_middle (l₁ := rI (.slice (some ⟨gc, 0, none⟩) l.length l.length) cs' :: box g 45 _ :: rTh v0 _ :: rTa v1 hs :: rLo v2 _ :: rI v3 _ :: tabRows hs _) (l₂ := F) (a := box gr 45 _)))
      have HS := Aside0.mk HW.out.1
      have HO := Aside0.mk HW.out.less0.ones
      clear HW
      go_wp2_with ((with_reducible refine gate_store (t := 45) (p := 4) rfl ?_); refine HL.out.store_ev HB.out rfl rfl rfl (0) (by first | rfl | (go_simp; done) | (go_simp; rfl)) (u := .agg #[v0, v1, v2, v3]) (by first | rfl | (go_simp; done) | (go_simp; rfl)) (seg := [v0, v1, v2, v3]) rfl (by kernel_rfl) HO.out (by first | omega | (simp; done) | (simp; omega)) ?_; intro w6 hl_ hb_ hs_; replace HL := Aside0.mk hl_; replace HB := Aside0.mk hb_; replace HZ := Aside0.mk (Nat.le_trans HZ.out (Nat.le_of_eq hs_)); clear hl_ hb_ hs_)
      replace HL := Aside0.mk (show Lay _ _ (box gr 45 [v0, v1, v2, v3] :: _) from HL.out)
      refine bodyPost_ret (results_list (rs := [.cell 4 45, .tmp 5, .tmp 6]) rfl (by simp) (.cell gr 45 #[v0, v1, v2, v3] (0, 0) _ rfl HL.out.boxB Try.underlying45 rfl (by kernel_rfl) (.tmp (.tmp .nil)))) rfl ⟨_, _, rfl, AfterR.mk ⟨HS.out, ?_⟩ HB.out HZ.out⟩
      exact HL.out.tail.swap.tail.perm (List.perm_middle (l₁ := rTh v0 _ :: rTa v1 hs :: rLo v2 _ :: rI v3 _ :: tabRows hs _) (l₂ := F) (a := rI _ cs')).symm
    have nlt : decide (x < (l.length : Int)) = true := decide_eq_true hlt
    have hp := HP.out
    rw [dropI_at l x z69 X0.out hlt] at hp
    simp only [playG] at hp
    replace hp := Option.bind_eq_some_iff.mp hp
    obtain ⟨⟨T1, B1, C1, E1, told, code⟩, hK, hp⟩ := hp
    replace hp := Option.bind_eq_some_iff.mp hp
    obtain ⟨⟨T2, B2, C2, E2, cs2⟩, hQ, hp⟩ := hp
    simp only [Option.some.injEq, Prod.mk.injEq] at hp
    obtain ⟨rfl, rfl, rfl, rfl, rfl⟩ := hp
    have HK := Aside0.mk hK
    have HQ := Aside0.mk hQ
    obtain ⟨v0, v1, v2, v3, hs, hw, hb, hz⟩ := HI.out
    have HW := Aside0.mk hw
    have HB := Aside0.mk hb
    have HZ := Aside0.mk hz
    clear hw hb hz HI HP hQ hK
    have q0 : 0 ≤ x := X0.out
    have hk := Kd.C_below HA.out (HB.out.mono H0.out)
    obtain ⟨ad, eA, x0, x1, x2, x3, x4⟩ := at_T69 hk x q0 hlt
    clear hk
    have e0 : (0 ≤ x) = True := eq_true q0
    have e1 : (x < (l.length : Int)) = True := eq_true hlt
    subst eA
    go_upto_region 8 with (first | ((with_reducible refine gate_dst (N := 11) rfl ?_); refine HW.out.2.box_ev HB.out HZ.out rfl (N := 11) rfl [.int .i64 0, .int .i64 0, .int .i64 0, .int .i64 0, .int .i64 0] 69 (by first | (go_simp; done) | (go_simp; rfl)) ?_; intro ga w6 hl_ hb_ hz_; replace HW := Aside0.mk (WW.tuck HW.out.1 hl_); replace HB := Aside0.mk hb_; replace HZ := Aside0.mk hz_; clear hl_ hb_ hz_) | ((with_reducible refine gate_store (t := 69) (p := 11) rfl ?_); refine HW.out.out.store_ev HB.out rfl rfl rfl 0 (by first | rfl | (go_simp; done) | (go_simp; rfl)) (u := .agg #[.int .i64 ((rd_T69 l x)).f0, .int .i64 ((rd_T69 l x)).f1, .int .i64 ((rd_T69 l x)).f2, .int .i64 ((rd_T69 l x)).f3, .int .i64 ((rd_T69 l x)).f4]) (by first | rfl | (go_simp; done) | (go_simp; rfl)) (seg := [.int .i64 ((rd_T69 l x)).f0, .int .i64 ((rd_T69 l x)).f1, .int .i64 ((rd_T69 l x)).f2, .int .i64 ((rd_T69 l x)).f3, .int .i64 ((rd_T69 l x)).f4]) rfl (by kernel_rfl) (by simp [Value.oneCell']) (by simp) ?_; intro w7 hl_ hb_ hs_; replace HW := Aside0.mk (WW.tuck (r := box ga 69 [.int .i64 ((rd_T69 l x)).f0, .int .i64 ((rd_T69 l x)).f1, .int .i64 ((rd_T69 l x)).f2, .int .i64 ((rd_T69 l x)).f3, .int .i64 ((rd_T69 l x)).f4]) HW.out.1 hl_); replace HB := Aside0.mk hb_; replace HZ := Aside0.mk (Nat.le_trans HZ.out (Nat.le_of_eq hs_)); clear hl_ hb_ hs_))
    clear x0 x1 x2 x3 x4
    have a0 := HW.out.out.cell 0 rfl
    have a1 := HW.out.out.cell 1 rfl
    have a2 := HW.out.out.cell 2 rfl
    have a3 := HW.out.out.cell 3 rfl
    have a4 := HW.out.out.cell 4 rfl
    have w64 : IntKind.i64.wrap (x + 1) = x + 1 := IntWalk.i64_in _ (by have := K1.out; omega)
    have hl : done.length = x.toNat := HD.out
    have hrow : (done ++ List.replicate (l.length - x.toNat) (0 : Int)).length = l.length := by rw [List.length_append, List.length_replicate, hl]; omega
    have HROW := Aside0.mk hrow
    clear hrow hl
    go_wp2_with (first | (go_at_call 99; refine (impl_World_act.calls _ _ _ _ _ _ _ _ _ _ _ _ _ _ _ _ _ _ _ _ _ _ _ _ _ HW.out HB.out HZ.out HK.out).mono ?_; rintro e_ w8 ⟨rfl, u0, u1, u2, u3, hs_, hw_, hb_, hz_⟩; replace HW := Aside0.mk hw_.less; replace HB := Aside0.mk hb_; replace HZ := Aside0.mk hz_; clear hw_ hb_ hz_) | ((with_reducible refine gate_store (t := 3) (p := 42) rfl ?_); refine (HW.out.out.re (rI_n _ _ l.length HROW.out)).store_ev HB.out rfl rfl rfl x.toNat (by first | rfl | (go_simp; done) | (go_simp; rfl)) (u := .int .i64 code) (by first | rfl | (go_simp; done) | (go_simp; rfl)) (seg := [.int .i64 code]) rfl (by kernel_rfl) (by simp [Value.oneCell']) (by rw [flat_len ic_len, HROW.out]; simp; omega) ?_; intro w9 hl_ hb_ hs2_; replace HW := Aside0.mk (WW.tuck HW.out.1 (hl_.re (rI_putn _ _ l.length x.toNat code HROW.out (by omega)))); replace HB := Aside0.mk hb_; replace HZ := Aside0.mk (Nat.le_trans HZ.out (Nat.le_of_eq hs2_)); clear hl_ hb_ hs2_))
    go_roundw
    case rel =>
      refine ⟨x + 1, T1, B1, C1, E1, done ++ [code], cs2, rfl, ⟨by omega⟩, ⟨by omega⟩, HQ, ⟨by rw [List.append_assoc]; exact HC.out⟩, ⟨by rw [List.length_append, HD.out]; simp; omega⟩, ⟨?_⟩⟩
      have e9 : (done ++ List.replicate (l.length - x.toNat) (0 : Int)).set x.toNat code = (done ++ [code]) ++ List.replicate (l.length - (x + 1).toNat) 0 := by
        rw [List.set_append_right _ _ (by rw [HD.out]; exact Nat.le_refl _), HD.out, Nat.sub_self, show l.length - x.toNat = (l.length - (x + 1).toNat) + 1 by omega, List.replicate_succ, List.set_cons_zero, List.append_assoc]
        rfl
      rw [← e9]
      exact After.mk HW.out HB.out HZ.out
    case measure => simp [intOf]; omega
end Go.Proofs.Ytdoflfifnkpacaa.WP
