/-
  The functions of worlds: what they compute, and the laws of it.
-/
import Derived.StillTailTactics
import Derived.Lib.Hide
import Derived.Test.YtdoflfifnkpacaaC23WpLay
namespace Go.Proofs.Ytdoflfifnkpacaa.WP
open Go Go.RowKit Go.Proofs.YtdoflfifnkpacaaW.PrintWords Go.Proofs.YtdoflfifnkpacaaW.PrintLast Go.Proofs.YtdoflfifnkpacaaW.PrintMore
attribute [local go_sem] max2_int min2_int max_two min_two max_three min_three max_four min_four
set_option linter.unusedVariables false
set_option linter.unusedSimpArgs false
def findR (S : List S75) (i res : Int) : S75 × Int :=
  if i < 0 then (z75, 2) else if i ≥ (S.length : Int) then (z75, 2) else if (rd_T75 S i).f0 = true then (if (rd_T75 S i).f1 = res then (rd_T75 S i, 0) else (z75, 3)) else (z75, 2)
set_option maxHeartbeats 4000000 in
set_option maxRecDepth 100000 in
theorem impl_Table_find.calls (p o : Nat) (A : Option Addr) (c : Nat) (S : List S75) (i res : Int) (r : S75) (code : Int) (w : World) (hp : w.cell? ⟨p, o, none⟩ = some (.slice A S.length c)) (hS : k75.C w A S.length S) (hr : findR S i res = (r, code)) :
    Calls Try.prog 156 #[.pointer (some ⟨p, o, none⟩), .int .i64 i, .int .i64 res] w fun e w' => e = .returned (.tuple #[.agg (hc r).toArray, .int .i64 code]) ∧ Below w.heap.size w w' := by
  have HS := Aside0.mk hS
  have HP := Aside0.mk hp
  have HH := Aside0.mk hr
  clear hS hp hr
  have HL := Aside0.mk (Lay.nil w w.heap.size)
  have HB := Aside0.mk (Below.refl w.heap.size w)
  have HZ := Aside0.mk (show w.heap.size ≤ w.heap.size from (Nat.le_refl _))
  go_enter Try.func156, Try.ntmps156
  go_upto_region 1 with ((with_reducible refine gate_dst (N := 6) rfl ?_); (try (refine gate_guard (by rfl) ?_; dsimp only)); refine HL.out.box_ev HB.out HZ.out rfl (N := 6) rfl [.bool false, .int .i64 0, .int .i64 0, .bool false, .int .i64 0, .int .i64 0] 75 (by first | (go_simp; done) | (go_simp; rfl)) ?_; intro gr w1 hl_ hb_ hz_; replace HL := Aside0.mk hl_; replace HB := Aside0.mk hb_; replace HZ := Aside0.mk hz_; clear hl_ hb_ hz_)
  have c0 := pw_cell_below HB.out HP.out
  have hr := HH.out
  clear HH
  unfold findR at hr
  by_cases h0 : i < 0
  · rw [if_pos h0] at hr
    have e0 : decide (i < 0) = true := decide_eq_true h0
    simp only [Prod.mk.injEq] at hr
    obtain ⟨rfl, rfl⟩ := hr
    go_wp2_with ((with_reducible refine gate_store (t := 75) (p := 6) rfl ?_); refine HL.out.store_ev HB.out rfl rfl rfl (0) (by first | rfl | (go_simp; done) | (go_simp; rfl)) (u := .agg #[.bool false, .int .i64 0, .int .i64 0, .bool false, .int .i64 0, .int .i64 0]) (by first | rfl | (go_simp; done) | (go_simp; rfl)) (seg := [.bool false, .int .i64 0, .int .i64 0, .bool false, .int .i64 0, .int .i64 0]) rfl (by kernel_rfl) (by simp [Value.oneCell']) (by first | omega | (simp; done) | (simp; omega)) ?_; intro w2 hl_ hb_ hs_; replace HL := Aside0.mk hl_; replace HB := Aside0.mk hb_; replace HZ := Aside0.mk (Nat.le_trans HZ.out (Nat.le_of_eq hs_)); clear hl_ hb_ hs_)
    replace HL := Aside0.mk (show Lay _ _ (box gr 75 [.bool false, .int .i64 0, .int .i64 0, .bool false, .int .i64 0, .int .i64 0] :: _) from HL.out)
    exact bodyPost_ret (results_list (rs := [.cell 6 75, .tmp 7]) rfl (by simp) (.cell gr 75 #[.bool false, .int .i64 0, .int .i64 0, .bool false, .int .i64 0, .int .i64 0] (0, 0) _ rfl HL.out.boxB Try.underlying75 rfl (by kernel_rfl) (.tmp .nil))) rfl ⟨rfl, HB.out⟩
  rw [if_neg h0] at hr
  have e0 : decide (i < 0) = false := decide_eq_false h0
  by_cases h1 : i ≥ (S.length : Int)
  · rw [if_pos h1] at hr
    have e1 : decide ((S.length : Int) ≤ i) = true := decide_eq_true h1
    simp only [Prod.mk.injEq] at hr
    obtain ⟨rfl, rfl⟩ := hr
    go_wp2_with ((with_reducible refine gate_store (t := 75) (p := 6) rfl ?_); refine HL.out.store_ev HB.out rfl rfl rfl (0) (by first | rfl | (go_simp; done) | (go_simp; rfl)) (u := .agg #[.bool false, .int .i64 0, .int .i64 0, .bool false, .int .i64 0, .int .i64 0]) (by first | rfl | (go_simp; done) | (go_simp; rfl)) (seg := [.bool false, .int .i64 0, .int .i64 0, .bool false, .int .i64 0, .int .i64 0]) rfl (by kernel_rfl) (by simp [Value.oneCell']) (by first | omega | (simp; done) | (simp; omega)) ?_; intro w2 hl_ hb_ hs_; replace HL := Aside0.mk hl_; replace HB := Aside0.mk hb_; replace HZ := Aside0.mk (Nat.le_trans HZ.out (Nat.le_of_eq hs_)); clear hl_ hb_ hs_)
    replace HL := Aside0.mk (show Lay _ _ (box gr 75 [.bool false, .int .i64 0, .int .i64 0, .bool false, .int .i64 0, .int .i64 0] :: _) from HL.out)
    exact bodyPost_ret (results_list (rs := [.cell 6 75, .tmp 7]) rfl (by simp) (.cell gr 75 #[.bool false, .int .i64 0, .int .i64 0, .bool false, .int .i64 0, .int .i64 0] (0, 0) _ rfl HL.out.boxB Try.underlying75 rfl (by kernel_rfl) (.tmp .nil))) rfl ⟨rfl, HB.out⟩
  rw [if_neg h1] at hr
  have e1 : decide ((S.length : Int) ≤ i) = false := decide_eq_false h1
  have p0 : 0 ≤ i := by omega
  have p1 : i < (S.length : Int) := by omega
  have hk := Kd.C_below HS.out HB.out
  obtain ⟨ad, e, x0, x1, x2, x3, x4, x5⟩ := at_T75 hk i p0 p1
  cases e
  clear hk h0 h1
  generalize rd_T75 S i = h at *
  obtain ⟨hu, f1, f2, f3, f4, f5⟩ := h
  dsimp only at x0 x1 x2 x3 x4 x5 hr
  cases hu with
  | false =>
    rw [if_neg (by simp)] at hr
    simp only [Prod.mk.injEq] at hr
    obtain ⟨rfl, rfl⟩ := hr
    go_wp2_with ((with_reducible refine gate_store (t := 75) (p := 6) rfl ?_); refine HL.out.store_ev HB.out rfl rfl rfl (0) (by first | rfl | (go_simp; done) | (go_simp; rfl)) (u := .agg #[.bool false, .int .i64 0, .int .i64 0, .bool false, .int .i64 0, .int .i64 0]) (by first | rfl | (go_simp; done) | (go_simp; rfl)) (seg := [.bool false, .int .i64 0, .int .i64 0, .bool false, .int .i64 0, .int .i64 0]) rfl (by kernel_rfl) (by simp [Value.oneCell']) (by first | omega | (simp; done) | (simp; omega)) ?_; intro w2 hl_ hb_ hs_; replace HL := Aside0.mk hl_; replace HB := Aside0.mk hb_; replace HZ := Aside0.mk (Nat.le_trans HZ.out (Nat.le_of_eq hs_)); clear hl_ hb_ hs_)
    replace HL := Aside0.mk (show Lay _ _ (box gr 75 [.bool false, .int .i64 0, .int .i64 0, .bool false, .int .i64 0, .int .i64 0] :: _) from HL.out)
    exact bodyPost_ret (results_list (rs := [.cell 6 75, .tmp 7]) rfl (by simp) (.cell gr 75 #[.bool false, .int .i64 0, .int .i64 0, .bool false, .int .i64 0, .int .i64 0] (0, 0) _ rfl HL.out.boxB Try.underlying75 rfl (by kernel_rfl) (.tmp .nil))) rfl ⟨rfl, HB.out⟩
  | true =>
    rw [if_pos rfl] at hr
    by_cases h2 : f1 = res
    · rw [if_pos h2] at hr
      simp only [Prod.mk.injEq] at hr
      obtain ⟨rfl, rfl⟩ := hr
      subst h2
      have e2 : (f1 != f1) = false := by simp
      go_wp2_with ((with_reducible refine gate_store (t := 75) (p := 6) rfl ?_); refine HL.out.store_ev HB.out rfl rfl rfl (0) (by first | rfl | (go_simp; done) | (go_simp; rfl)) (u := .agg #[.bool true, .int .i64 f1, .int .i64 f2, .bool f3, .int .i64 f4, .int .i64 f5]) (by first | rfl | (go_simp; done) | (go_simp; rfl)) (seg := [.bool true, .int .i64 f1, .int .i64 f2, .bool f3, .int .i64 f4, .int .i64 f5]) rfl (by kernel_rfl) (by simp [Value.oneCell']) (by first | omega | (simp; done) | (simp; omega)) ?_; intro w2 hl_ hb_ hs_; replace HL := Aside0.mk hl_; replace HB := Aside0.mk hb_; replace HZ := Aside0.mk (Nat.le_trans HZ.out (Nat.le_of_eq hs_)); clear hl_ hb_ hs_)
      replace HL := Aside0.mk (show Lay _ _ (box gr 75 [.bool true, .int .i64 f1, .int .i64 f2, .bool f3, .int .i64 f4, .int .i64 f5] :: _) from HL.out)
      exact bodyPost_ret (results_list (rs := [.cell 6 75, .tmp 7]) rfl (by simp) (.cell gr 75 #[.bool true, .int .i64 f1, .int .i64 f2, .bool f3, .int .i64 f4, .int .i64 f5] (0, 0) _ rfl HL.out.boxB Try.underlying75 rfl (by kernel_rfl) (.tmp .nil))) rfl ⟨rfl, HB.out⟩
    · rw [if_neg h2] at hr
      have e2 : (f1 != res) = true := by simpa using h2
      clear h2
      simp only [Prod.mk.injEq] at hr
      obtain ⟨rfl, rfl⟩ := hr
      go_wp2_with ((with_reducible refine gate_store (t := 75) (p := 6) rfl ?_); refine HL.out.store_ev HB.out rfl rfl rfl (0) (by first | rfl | (go_simp; done) | (go_simp; rfl)) (u := .agg #[.bool false, .int .i64 0, .int .i64 0, .bool false, .int .i64 0, .int .i64 0]) (by first | rfl | (go_simp; done) | (go_simp; rfl)) (seg := [.bool false, .int .i64 0, .int .i64 0, .bool false, .int .i64 0, .int .i64 0]) rfl (by kernel_rfl) (by simp [Value.oneCell']) (by first | omega | (simp; done) | (simp; omega)) ?_; intro w2 hl_ hb_ hs_; replace HL := Aside0.mk hl_; replace HB := Aside0.mk hb_; replace HZ := Aside0.mk (Nat.le_trans HZ.out (Nat.le_of_eq hs_)); clear hl_ hb_ hs_)
      replace HL := Aside0.mk (show Lay _ _ (box gr 75 [.bool false, .int .i64 0, .int .i64 0, .bool false, .int .i64 0, .int .i64 0] :: _) from HL.out)
      exact bodyPost_ret (results_list (rs := [.cell 6 75, .tmp 7]) rfl (by simp) (.cell gr 75 #[.bool false, .int .i64 0, .int .i64 0, .bool false, .int .i64 0, .int .i64 0] (0, 0) _ rfl HL.out.boxB Try.underlying75 rfl (by kernel_rfl) (.tmp .nil))) rfl ⟨rfl, HB.out⟩
def fullR (S : List S75) (F : List Int) : Bool := decide ((F.length : Int) = 0) && decide ((S.length : Int) = 40)
set_option maxHeartbeats 4000000 in
set_option maxRecDepth 100000 in
theorem impl_Table_fullL.calls (p o : Nat) (A0 A1 : Option Addr) (c0 c1 : Nat) (S : List S75) (F : List Int) (w : World) (h0 : w.cell? ⟨p, o, none⟩ = some (.slice A0 S.length c0)) (h1 : w.cell? ⟨p, o + 1, none⟩ = some (.slice A1 F.length c1)) :
    Calls Try.prog 154 #[.pointer (some ⟨p, o, none⟩)] w fun e w' => e = .returned (.bool (fullR S F)) ∧ Drawn0 w w' := by
  have HD := Aside0.mk (Drawn0.refl w)
  unfold fullR
  by_cases k0 : (F.length : Int) = 0
  · have e0 : ((F.length : Int) == 0) = true := by simpa using k0
    rw [decide_eq_true k0, Bool.true_and]
    by_cases k1 : (S.length : Int) = 40
    · have e1 : ((S.length : Int) == 40) = true := by simpa using k1
      rw [decide_eq_true k1]
      clear k0 k1
      go_enter Try.func154, Try.ntmps154
      go_wp2
      go_ret
      exact ⟨rfl, by first | exact HD.out | exact HD.out.step _⟩
    · have e1 : ((S.length : Int) == 40) = false := by simpa using k1
      rw [decide_eq_false k1]
      clear k0 k1
      go_enter Try.func154, Try.ntmps154
      go_wp2
      go_ret
      exact ⟨rfl, by first | exact HD.out | exact HD.out.step _⟩
  · have e0 : ((F.length : Int) == 0) = false := by simpa using k0
    rw [decide_eq_false k0, Bool.false_and]
    clear k0
    go_enter Try.func154, Try.ntmps154
    go_wp2
    go_ret
    exact ⟨rfl, by first | exact HD.out | exact HD.out.step _⟩
def addR (S : List S75) (F : List Int) (h : S75) : Option (List S75 × List Int × Int) :=
  if (F.length : Int) - 1 ≥ 0 then (if 0 ≤ rd F ((F.length : Int) - 1) then (if rd F ((F.length : Int) - 1) < (S.length : Int) then some (S.set (rd F ((F.length : Int) - 1)).toNat h, F.take (F.length - 1), rd F ((F.length : Int) - 1)) else none) else none) else (if S.length < 1048576 then some (S ++ [h], F, (S.length : Int)) else none)
set_option maxHeartbeats 4000000 in
set_option maxRecDepth 100000 in
theorem impl_Table_add.calls (base p o : Nat) (n c e sz : Nat) (xs : List Value) (vS vF : Value) (S : List S75) (F : List Int) (h : S75) (S' : List S75) (F' : List Int) (k : Int) (R : List Row) (w0 w : World)
    (hL : Lay w base (rS vS S :: rI vF F :: ⟨.slice (some ⟨p, 0, none⟩) n c, e, sz, n, xs⟩ :: R)) (hb : Below base w0 w) (hz : base ≤ w.heap.size) (h0 : xs[o]? = some vS) (h1 : xs[o + 1]? = some vF) (hr : addR S F h = some (S', F', k)) :
    Calls Try.prog 155 #[.pointer (some ⟨p, o, none⟩), .agg (hc h).toArray] w fun e_ w' => e_ = .returned (.int .i64 k) ∧ ∃ vS' vF', Lay w' base (rS vS' S' :: rI vF' F' :: ⟨.slice (some ⟨p, 0, none⟩) n c, e, sz, n, (xs.set o vS').set (o + 1) vF'⟩ :: R) ∧ Below base w0 w' ∧ base ≤ w'.heap.size := by
  obtain ⟨A0, c0, hv0, hc0⟩ := hL.slice
  obtain ⟨A1, c1, hv1, hc1⟩ := hL.tail.slice
  simp only [rS] at hv0
  simp only [rI] at hv1
  subst hv0
  subst hv1
  have HL := Aside0.mk hL
  have HB := Aside0.mk hb
  have HZ := Aside0.mk hz
  have HH := Aside0.mk hr
  have X0 := Aside0.mk h0
  have X1 := Aside0.mk h1
  have XL : o + 1 < xs.length := (List.getElem?_eq_some_iff.mp h1).1
  clear hL hb hz hr h0 h1 hc0 hc1
  go_enter Try.func155, Try.ntmps155
  go_upto_region 1 with ((with_reducible refine gate_dst (N := 3) rfl ?_); (try (refine gate_guard (by rfl) ?_; dsimp only)); refine HL.out.box_ev HB.out HZ.out rfl (N := 3) rfl [.bool h.f0, .int .i64 h.f1, .int .i64 h.f2, .bool h.f3, .int .i64 h.f4, .int .i64 h.f5] 75 (by first | (go_simp; done) | (go_simp; rfl)) ?_; intro gh w1 hl_ hb_ hz_; replace HL := Aside0.mk hl_; replace HB := Aside0.mk hb_; replace HZ := Aside0.mk hz_; clear hl_ hb_ hz_)
  have q0 := HL.out.tail.at2.cell o X0.out
  have q1 := HL.out.tail.at2.cell (o + 1) X1.out
  have hr := HH.out
  clear HH
  unfold addR at hr
  by_cases k0 : (F.length : Int) - 1 ≥ 0
  · rw [if_pos k0] at hr
    generalize hkk : rd F ((F.length : Int) - 1) = kk at hr
    by_cases k1 : 0 ≤ kk
    case neg =>
      rw [if_neg k1] at hr
      exact absurd hr (by simp)
    rw [if_pos k1] at hr
    by_cases k2 : kk < (S.length : Int)
    case neg =>
      rw [if_neg k2] at hr
      exact absurd hr (by simp)
    rw [if_pos k2] at hr
    simp only [Option.some.injEq, Prod.mk.injEq] at hr
    obtain ⟨rfl, rfl, rfl⟩ := hr
    obtain ⟨-, hf1, hf2⟩ := CI HL.out.tail.tail
    have HF := Aside0.mk hf2
    have hf3 := hf2.2.1
    obtain ⟨gf, rfl⟩ := HL.out.tail.tail.formI (by omega)
    obtain ⟨gs, rfl⟩ := HL.out.tail.formS (by omega)
    obtain ⟨ad, e, z0⟩ := Kd.at_int HF.out ((F.length : Int) - 1) k0 (by omega)
    cases e
    rw [hkk, add_plain] at z0
    have z1 := z0
    rw [show ((F.length : Int) - 1).toNat = F.length - 1 by omega] at z1
    have KW : IntKind.i64.wrap ((F.length : Int) - 1) = (F.length : Int) - 1 := IntWalk.i64_in _ (by omega)
    have e0 : decide (0 ≤ (F.length : Int) - 1) = true := decide_eq_true k0
    have e5 : decide (1 ≤ (F.length : Int)) = true := decide_eq_true (by omega)
    have e6 : decide (1 ≤ F.length) = true := decide_eq_true (by omega)
    have e7 : decide (0 < F.length) = true := decide_eq_true (by omega)
    have f1 : (1 ≤ (F.length : Int)) = True := eq_true (by omega)
    have f2 : (1 ≤ F.length) = True := eq_true (by omega)
    have f3 : (0 < F.length) = True := eq_true (by omega)
    have e1 : (0 ≤ (F.length : Int) - 1) = True := eq_true k0
    have e2 : ((F.length : Int) - 1 < (F.length : Int)) = True := eq_true (by omega)
    have e3 : (0 ≤ kk) = True := eq_true k1
    have e4 : (kk < (S.length : Int)) = True := eq_true k2
    have hcut := run_cut (P := Try.prog) 36 3 1 Try.underlying36 (by kernel_rfl) (some ⟨gf, 0, none⟩) F.length c1 ((F.length : Int) - 1) (F.length - 1) (by omega) (by omega) hf1
    clear hkk hf2 HF k0 hf1 hf3
    replace HL := Aside0.mk HL.out.at3
    go_upto_region 5 with ((with_reducible refine gate_store (t := 36) (p := 30) rfl ?_); refine HL.out.store_ev HB.out rfl rfl rfl (o + 1) (by first | rfl | (go_simp; done) | (go_simp; rfl)) (u := .slice (some ⟨gf, 0, none⟩) (F.length - 1) c1) (by first | rfl | (go_simp; done) | (go_simp; rfl)) (seg := [.slice (some ⟨gf, 0, none⟩) (F.length - 1) c1]) rfl (by kernel_rfl) (by simp [Value.oneCell']) (by first | omega | (simp; done) | (simp; omega)) ?_; intro w2 hl_ hb_ hs_; replace HL := Aside0.mk hl_; replace HB := Aside0.mk hb_; replace HZ := Aside0.mk (Nat.le_trans HZ.out (Nat.le_of_eq hs_)); clear hl_ hb_ hs_; replace HL := Aside0.mk (laid_one _ (o + 1) _ (show o + 1 < xs.length by omega) ▸ HL.out); clear q0 q1 z0 z1)
    have q0 := HL.out.cell o (by rw [List.getElem?_set_ne (by omega)]; exact X0.out)
    have b0 := HL.out.swap.cell 0 rfl
    have b1 := HL.out.swap.cell 1 rfl
    have b2 := HL.out.swap.cell 2 rfl
    have b3 := HL.out.swap.cell 3 rfl
    have b4 := HL.out.swap.cell 4 rfl
    have b5 := HL.out.swap.cell 5 rfl
    refine draw_ 7 [false, false, false, true, false, true, false] (by kernel_rfl) (S := fun W => Below w2.heap.size w2 W) (A := ?_) (by kernel_rfl) (fun _ _ _ d _ h => by cases d <;> exact h) (pw_below_drewN (Below.refl _ _) 1) ?_ ?_
    rotate_left
    · simp only [List.take_succ_cons, List.take_zero]
      repeat (first | (refine hdF_ _ rfl (by rfl) (v := ?_) (a' := ?_) (fun W => by go_simp; with_reducible rfl) (by simp only [Act.put, List.setIfInBounds_toArray, List.set_cons_zero, List.set_cons_succ, i64_w, i32_w]; rfl) ?_) | (refine hdT_ _ rfl (by rfl) (v := ?_) (a' := ?_) (fun W hW => by have q0 := pw_cell_below hW q0; have b0 := pw_cell_below hW b0; have b1 := pw_cell_below hW b1; have b2 := pw_cell_below hW b2; have b3 := pw_cell_below hW b3; have b4 := pw_cell_below hW b4; have b5 := pw_cell_below hW b5; go_simp; with_reducible rfl) (by simp only [Act.put, List.setIfInBounds_toArray, List.set_cons_zero, List.set_cons_succ, i64_w, i32_w]; rfl) ?_))
      exact hd_end
    simp only [List.drop_succ_cons, List.drop_zero, Act.put, List.setIfInBounds_toArray, List.set_cons_zero, List.set_cons_succ]
    replace HL := Aside0.mk HL.out.drew.at2
    replace HB := Aside0.mk HB.out.drew
    replace HZ := Aside0.mk (show base ≤ w2.drew.heap.size from HZ.out)
    clear q0 b0 b1 b2 b3 b4 b5
    generalize w2.drew = w3 at *
    have hfit : kk.toNat * 6 + 6 ≤ (S.flatMap hc).length := by rw [flat_len hc_len]; omega
    go_wp2_with ((with_reducible refine gate_store (t := 75) (p := 37) rfl ?_); refine HL.out.store_ev HB.out rfl rfl rfl (kk.toNat * 6) (by first | rfl | (go_simp; done) | (go_simp; rfl)) (u := .agg #[.bool h.f0, .int .i64 h.f1, .int .i64 h.f2, .bool h.f3, .int .i64 h.f4, .int .i64 h.f5]) (by first | rfl | (go_simp; done) | (go_simp; rfl)) (seg := [.bool h.f0, .int .i64 h.f1, .int .i64 h.f2, .bool h.f3, .int .i64 h.f4, .int .i64 h.f5]) rfl (by kernel_rfl) (by simp [Value.oneCell']) (by first | omega | (simp; done) | (simp; omega)) ?_; intro w4 hl_ hb_ hs_; replace HL := Aside0.mk hl_; replace HB := Aside0.mk hb_; replace HZ := Aside0.mk (Nat.le_trans HZ.out (Nat.le_of_eq hs_)); clear hl_ hb_ hs_)
    replace HL := Aside0.mk ((rS_put _ S kk.toNat h (by omega)) ▸ HL.out)
    go_ret
    refine ⟨rfl, .slice (some ⟨gs, 0, none⟩) S.length c0, .slice (some ⟨gf, 0, none⟩) (F.length - 1) c1, ?_, HB.out, HZ.out⟩
    rw [set1_same X0.out]
    have h5 := (HL.out.at3.cutI (m := F.length - 1) (by omega))
    exact h5.swap.at3.tail
  · rw [if_neg k0] at hr
    by_cases k1 : S.length < 1048576
    case neg =>
      rw [if_neg k1] at hr
      exact absurd hr (by simp)
    rw [if_pos k1] at hr
    simp only [Option.some.injEq, Prod.mk.injEq] at hr
    obtain ⟨rfl, rfl, rfl⟩ := hr
    obtain rfl : F = [] := List.eq_nil_of_length_eq_zero (by omega)
    have K1 := Aside0.mk k1
    have KW : IntKind.i64.wrap (S.length : Int) = S.length := IntWalk.i64_in _ (by omega)
    clear k0 k1
    go_upto_region 7 with (fail)
    have b0 := HL.out.cell 0 rfl
    have b1 := HL.out.cell 1 rfl
    have b2 := HL.out.cell 2 rfl
    have b3 := HL.out.cell 3 rfl
    have b4 := HL.out.cell 4 rfl
    have b5 := HL.out.cell 5 rfl
    refine draw_new 6 [false, false, false, false, true, true] (by kernel_rfl) rfl (S := fun W => Below w1.heap.size w1 W) (A := ?_) (v := .slice (some ⟨w1.drew.heap.size, 0, none⟩) 1 1) (ob := .cells #[.bool h.f0, .int .i64 h.f1, .int .i64 h.f2, .bool h.f3, .int .i64 h.f4, .int .i64 h.f5] 75 (0, 0)) (by kernel_rfl) (fun _ _ _ d _ h => by cases d <;> exact h) (pw_below_drewN (Below.refl _ _) 1) (below_alloc (pw_below_drewN (Below.refl _ _) 1) _) ?_ rfl ?_ ?_
    rotate_left
    · simp only [List.take_succ_cons, List.take_zero]
      repeat (first | (refine hdF_ _ rfl (by rfl) (v := ?_) (a' := ?_) (fun W => by go_simp; with_reducible rfl) (by simp only [Act.put, List.setIfInBounds_toArray, List.set_cons_zero, List.set_cons_succ, i64_w, i32_w]; rfl) ?_) | (refine hdT_ _ rfl (by rfl) (v := ?_) (a' := ?_) (fun W hW => by have q0 := pw_cell_below hW q0; have b0 := pw_cell_below hW b0; have b1 := pw_cell_below hW b1; have b2 := pw_cell_below hW b2; have b3 := pw_cell_below hW b3; have b4 := pw_cell_below hW b4; have b5 := pw_cell_below hW b5; go_simp; with_reducible rfl) (by simp only [Act.put, List.setIfInBounds_toArray, List.set_cons_zero, List.set_cons_succ, i64_w, i32_w]; rfl) ?_))
      exact hd_end
    · first | (go_simp; done) | (go_simp; rfl)
    simp only [List.drop_succ_cons, List.drop_zero, Act.put, List.setIfInBounds_toArray, List.set_cons_zero, List.set_cons_succ]
    replace HL := Aside0.mk HL.out.drew.swap
    replace HB := Aside0.mk HB.out.drew
    replace HZ := Aside0.mk (show base ≤ w1.drew.heap.size from HZ.out)
    clear q0 q1 b0 b1 b2 b3 b4 b5
    generalize w1.drew = w2 at *
    go_wp2_with (first | ((with_reducible refine gate_builtin (b := .append) (xs := #[.tmp 43, .tmp 45]) rfl ?_); at_builtin; refine HL.out.append_ev HB.out HZ.out rfl (.tmp 43) (.tmp 45) 76 (.agg (hc z75).toArray) 48 rfl Try.underlying76 (by kernel_rfl) rfl (Nat.succ_pos _) (by decide) rfl rfl [.bool h.f0, .int .i64 h.f1, .int .i64 h.f2, .bool h.f3, .int .i64 h.f4, .int .i64 h.f5] rfl (by simp [Value.oneCell']) (show (S.length + 1) * 48 ≤ 140737488355328 from by have := K1.out; omega) ?_; intro v3 w3 hl_ hb_ hz_; replace HL := Aside0.mk hl_; replace HB := Aside0.mk hb_; replace HZ := Aside0.mk hz_; clear hl_ hb_ hz_; replace HL := Aside0.mk (rS_snoc _ S h ▸ HL.out); obtain ⟨A2, c2, rfl⟩ := HL.out.hdS (n := S.length + 1) (by simp); replace HL := Aside0.mk HL.out.swap.tail.at2) | ((with_reducible refine gate_store (t := 76) (p := 48) rfl ?_); refine HL.out.store_ev HB.out rfl rfl rfl (o) (by first | rfl | (go_simp; done) | (go_simp; rfl)) (u := .slice A2 (S.length + 1) c2) (by first | rfl | (go_simp; done) | (go_simp; rfl)) (seg := [.slice A2 (S.length + 1) c2]) rfl (by kernel_rfl) (by simp [Value.oneCell']) (by first | omega | (simp; done) | (simp; omega)) ?_; intro w4 hl_ hb_ hs_; replace HL := Aside0.mk hl_; replace HB := Aside0.mk hb_; replace HZ := Aside0.mk (Nat.le_trans HZ.out (Nat.le_of_eq hs_)); clear hl_ hb_ hs_; replace HL := Aside0.mk (laid_one _ o _ (show o < xs.length by omega) ▸ HL.out); have d0 := HL.out.cell o (set_get _ (show o < xs.length by omega))))
    go_ret
    refine ⟨by first | rfl | (congr 2; omega), .slice A2 (S.length + 1) c2, .slice A1 0 c1, ?_, HB.out, HZ.out⟩
    rw [set2_same (show xs[o + 1]? = some (.slice A1 0 c1) from X1.out)]
    exact HL.out.at2.at2
def dropR (S : List S75) (F : List Int) (i : Int) : Option (List S75 × List Int) :=
  if 0 ≤ i then (if i < (S.length : Int) then (if F.length < 1048576 then some (S.set i.toNat z75, F ++ [i]) else none) else none) else none
set_option maxHeartbeats 4000000 in
set_option maxRecDepth 100000 in
theorem impl_Table_drop.calls (base p o : Nat) (n c e sz : Nat) (xs : List Value) (vS vF : Value) (S : List S75) (F : List Int) (i : Int) (S' : List S75) (F' : List Int) (R : List Row) (w0 w : World)
    (hL : Lay w base (rS vS S :: rI vF F :: ⟨.slice (some ⟨p, 0, none⟩) n c, e, sz, n, xs⟩ :: R)) (hb : Below base w0 w) (hz : base ≤ w.heap.size) (h0 : xs[o]? = some vS) (h1 : xs[o + 1]? = some vF) (hr : dropR S F i = some (S', F')) :
    Calls Try.prog 157 #[.pointer (some ⟨p, o, none⟩), .int .i64 i] w fun e_ w' => e_ = .returned (.tuple #[]) ∧ ∃ vS' vF', Lay w' base (rS vS' S' :: rI vF' F' :: ⟨.slice (some ⟨p, 0, none⟩) n c, e, sz, n, (xs.set o vS').set (o + 1) vF'⟩ :: R) ∧ Below base w0 w' ∧ base ≤ w'.heap.size := by
  unfold dropR at hr
  by_cases k1 : 0 ≤ i
  case neg =>
    rw [if_neg k1] at hr
    exact absurd hr (by simp)
  rw [if_pos k1] at hr
  by_cases k2 : i < (S.length : Int)
  case neg =>
    rw [if_neg k2] at hr
    exact absurd hr (by simp)
  rw [if_pos k2] at hr
  by_cases k3 : F.length < 1048576
  case neg =>
    rw [if_neg k3] at hr
    exact absurd hr (by simp)
  rw [if_pos k3] at hr
  simp only [Option.some.injEq, Prod.mk.injEq] at hr
  obtain ⟨rfl, rfl⟩ := hr
  obtain ⟨A0, c0, hv0⟩ := hL.hdS rfl
  obtain ⟨A1, c1, hv1⟩ := hL.tail.hdI rfl
  subst hv0
  subst hv1
  obtain ⟨gs, rfl⟩ := hL.formS (by omega)
  have HL := Aside0.mk hL
  have HB := Aside0.mk hb
  have HZ := Aside0.mk hz
  have X0 := Aside0.mk h0
  have X1 := Aside0.mk h1
  have K3 := Aside0.mk k3
  have XL : o + 1 < xs.length := (List.getElem?_eq_some_iff.mp h1).1
  have q0 := hL.at2.cell o h0
  have e3 : (0 ≤ i) = True := eq_true k1
  have e4 : (i < (S.length : Int)) = True := eq_true k2
  have hfit : i.toNat * 6 + 6 ≤ (S.flatMap hc).length := by rw [flat_len hc_len]; omega
  clear hL hb hz h0 h1 k3
  go_enter Try.func157, Try.ntmps157
  go_upto_region 1 with ((with_reducible refine gate_store (t := 75) (p := 10) rfl ?_); refine HL.out.store_ev HB.out rfl rfl rfl (i.toNat * 6) (by first | rfl | (go_simp; done) | (go_simp; rfl)) (u := .agg #[.bool false, .int .i64 0, .int .i64 0, .bool false, .int .i64 0, .int .i64 0]) (by first | rfl | (go_simp; done) | (go_simp; rfl)) (seg := [.bool false, .int .i64 0, .int .i64 0, .bool false, .int .i64 0, .int .i64 0]) rfl (by kernel_rfl) (by simp [Value.oneCell']) (by first | omega | (simp; done) | (simp; omega)) ?_; intro w1 hl_ hb_ hs_; replace HL := Aside0.mk hl_; replace HB := Aside0.mk hb_; replace HZ := Aside0.mk (Nat.le_trans HZ.out (Nat.le_of_eq hs_)); clear hl_ hb_ hs_; replace HL := Aside0.mk ((rS_put _ S i.toNat z75 (by omega)) ▸ HL.out); clear q0)
  replace HL := Aside0.mk HL.out.swap
  have q1 := HL.out.swap.at2.cell (o + 1) X1.out
  go_wp2_with (first | ((with_reducible refine gate_builtin (b := .append) (xs := #[.tmp 15, .tmp 17]) rfl ?_); at_builtin; refine HL.out.append_ev HB.out HZ.out rfl (.tmp 15) (.tmp 17) 36 (.int .i64 0) 8 rfl Try.underlying36 (by kernel_rfl) rfl (Nat.succ_pos _) (by decide) rfl rfl [.int .i64 i] rfl (by simp [Value.oneCell']) (show (F.length + 1) * 8 ≤ 140737488355328 from by have := K3.out; omega) ?_; intro v2 w2 hl_ hb_ hz_; replace HL := Aside0.mk hl_; replace HB := Aside0.mk hb_; replace HZ := Aside0.mk hz_; clear hl_ hb_ hz_; replace HL := Aside0.mk (rI_snoc _ F i ▸ HL.out); obtain ⟨A2, c2, rfl⟩ := HL.out.hdI (n := F.length + 1) (by simp); replace HL := Aside0.mk HL.out.at2) | ((with_reducible refine gate_store (t := 36) (p := 20) rfl ?_); refine HL.out.store_ev HB.out rfl rfl rfl (o + 1) (by first | rfl | (go_simp; done) | (go_simp; rfl)) (u := .slice A2 (F.length + 1) c2) (by first | rfl | (go_simp; done) | (go_simp; rfl)) (seg := [.slice A2 (F.length + 1) c2]) rfl (by kernel_rfl) (by simp [Value.oneCell']) (by first | omega | (simp; done) | (simp; omega)) ?_; intro w3 hl_ hb_ hs_; replace HL := Aside0.mk hl_; replace HB := Aside0.mk hb_; replace HZ := Aside0.mk (Nat.le_trans HZ.out (Nat.le_of_eq hs_)); clear hl_ hb_ hs_; replace HL := Aside0.mk (laid_one _ (o + 1) _ (show o + 1 < xs.length by omega) ▸ HL.out)))
  go_end0
  refine ⟨rfl, .slice (some ⟨gs, 0, none⟩) S.length c0, .slice A2 (F.length + 1) c2, ?_, HB.out, HZ.out⟩
  rw [set1_same X0.out]
  exact HL.out.at2.at2.swap
end Go.Proofs.Ytdoflfifnkpacaa.WP
