-- Printed by a program of this session (after the kit's print.sh, with contracts of its own beside): Lean checks it.
import Derived.Test.YtdoflfifnkpacaaC18FAx0
import Derived.Test.YtdoflfifnkpacaaC18FAx1
import Derived.Test.YtdoflfifnkpacaaC18FAx4
import Derived.Test.YtdoflfifnkpacaaC18FAx9
import Derived.Test.YtdoflfifnkpacaaC18FAx10
import Derived.Test.YtdoflfifnkpacaaC18FAx11
import Derived.Test.YtdoflfifnkpacaaC18FAx12
import Derived.Test.YtdoflfifnkpacaaC18FAx15
import Derived.Test.YtdoflfifnkpacaaC18FAx17
import Derived.Test.YtdoflfifnkpacaaC18FAx19
namespace Go.Proofs.Ytdoflfifnkpacaa.FA
open Go.RowKit Go.Proofs.YtdoflfifnkpacaaW.PrintWords Go.Proofs.YtdoflfifnkpacaaW.PrintLast Go.Proofs.YtdoflfifnkpacaaW.PrintMore
attribute [local go_sem] max2_int min2_int max_two min_two max_three min_three max_four min_four   -- for this text's walks alone
set_option linter.unusedVariables false
set_option linter.unusedSimpArgs false

mutual
def laws_FnRounded.j0 : Nat → Int → Int → Int → Int → Int → Int → Int → Bool → Option (Bool)
 | 0, _, _, _, _, _, _, _, _ => none
 | k + 1, x3, x4, x5, x6, x7, x8, x9, x84 => if x84 = true then (some false) else (if x3 = 16 then ((laws_exact.f x4).bind fun bt415 => ((laws_exact.f x5).bind fun bt417 => (if bt415.2 = true then (laws_FnRounded.j1 k x6 x7 x8 x9 bt415.1 bt417.1 (!bt417.2)) else (laws_FnRounded.j1 k x6 x7 x8 x9 bt415.1 bt417.1 true)))) else (some true))
def laws_FnRounded.j1 : Nat → Int → Int → Int → Int → Int → Int → Bool → Option (Bool)
 | 0, _, _, _, _, _, _, _ => none
 | k + 1, x6, x7, x8, x9, x10, x12, x102 => if x102 = true then (some true) else ((laws_near.f k x6 (wrap64 (x10 + x12)) 1).bind fun t419 => (if t419 = true then ((laws_near.f k x7 (wrap64 (x10 - x12)) 1).bind fun t420 => (laws_FnRounded.j2 k x8 x9 x10 x12 (!t420))) else (laws_FnRounded.j2 k x8 x9 x10 x12 true)))
def laws_FnRounded.j2 : Nat → Int → Int → Int → Int → Bool → Option (Bool)
 | 0, _, _, _, _, _ => none
 | k + 1, x8, x9, x10, x12, x116 => if x116 = true then (some false) else ((laws_size.f x10).bind fun t421 => (if t421 < 1073741824 then ((laws_size.f x12).bind fun t422 => (if t422 < 1073741824 then ((laws_near.f k x8 (wrap64 (x10 * x12)) 16777216).bind fun t423 => (laws_FnRounded.j3 k x9 x10 x12 (!t423))) else (laws_FnRounded.j3 k x9 x10 x12 false))) else (laws_FnRounded.j3 k x9 x10 x12 false)))
def laws_FnRounded.j3 : Nat → Int → Int → Int → Bool → Option (Bool)
 | 0, _, _, _, _ => none
 | k + 1, x9, x10, x12, x132 => if x132 = true then (some false) else (if x12 = 0 then (laws_FnRounded.j4 k x9 x10 x12 true) else ((laws_size.f x10).bind fun t424 => (laws_FnRounded.j4 k x9 x10 x12 (decide (t424 ≥ 274877906944)))))
def laws_FnRounded.j4 : Nat → Int → Int → Int → Bool → Option (Bool)
 | 0, _, _, _, _ => none
 | k + 1, x9, x10, x12, x139 => if x139 = true then (some true) else (if x12 < 0 then ((laws_near.f k x9 (wrap64 ((wrap64 (-x10)) * 16777216)) (wrap64 (-x12))).bind fun t425 => (some t425)) else ((laws_near.f k x9 (wrap64 (x10 * 16777216)) x12).bind fun t426 => (some t426)))
end
def laws_FnRounded.f (k : Nat) (l0 : List Int) : Option (Bool) := if (l0.length : Int) > 1048576 then (some true) else ((spec_DrawFAdd.f k l0).bind fun bt402 => ((impl_FAdd.f k bt402.1 bt402.2.1 bt402.2.2).bind fun t405 => ((impl_FSub.f k bt402.1 bt402.2.1 bt402.2.2).bind fun t406 => ((impl_FMul.f k bt402.1 bt402.2.1 bt402.2.2).bind fun t407 => ((impl_FDiv.f k bt402.1 bt402.2.1 bt402.2.2).bind fun t408 => ((spec_FAdd.f k bt402.1 bt402.2.1 bt402.2.2).bind fun t409 => (if t405 = t409 then ((spec_FSub.f k bt402.1 bt402.2.1 bt402.2.2).bind fun t410 => (if t406 = t410 then ((spec_FMul.f k bt402.1 bt402.2.1 bt402.2.2).bind fun t411 => (if t407 = t411 then ((spec_FDiv.f k bt402.1 bt402.2.1 bt402.2.2).bind fun t412 => (if t408 = t412 then ((impl_FAdd.f k bt402.1 bt402.2.2 bt402.2.1).bind fun t413 => (if t405 = t413 then ((impl_FMul.f k bt402.1 bt402.2.2 bt402.2.1).bind fun t414 => (laws_FnRounded.j0 k bt402.1 bt402.2.1 bt402.2.2 t405 t406 t407 t408 (t407 != t414))) else (laws_FnRounded.j0 k bt402.1 bt402.2.1 bt402.2.2 t405 t406 t407 t408 true))) else (laws_FnRounded.j0 k bt402.1 bt402.2.1 bt402.2.2 t405 t406 t407 t408 true))) else (laws_FnRounded.j0 k bt402.1 bt402.2.1 bt402.2.2 t405 t406 t407 t408 true))) else (laws_FnRounded.j0 k bt402.1 bt402.2.1 bt402.2.2 t405 t406 t407 t408 true))) else (laws_FnRounded.j0 k bt402.1 bt402.2.1 bt402.2.2 t405 t406 t407 t408 true))))))))
set_option maxHeartbeats 8000000 in
set_option maxRecDepth 100000 in
theorem laws_FnRounded.calls (k : Nat) (A0 : Option Addr) (c0 : Nat) (l0 : List Int) (w : World) (hr0 : Kd.C (Kd.int .u8) w A0 l0.length l0) (hc0 : l0.length ≤ c0) (h : laws_FnRounded.f k l0 = some true) :
  Calls Try.prog 5 #[.slice A0 l0.length c0] w fun e w' => e = .returned (.bool true) ∧ Below w.heap.size w w' := by
 have HR0 := Aside0.mk hr0
 have HC0 := Aside0.mk hc0
 clear hr0 hc0
 have HB := Aside0.mk (Below.refl w.heap.size w)
 have H : (if (l0.length : Int) > 1048576 then (some true) else ((spec_DrawFAdd.f k l0).bind fun bt402 => ((impl_FAdd.f k bt402.1 bt402.2.1 bt402.2.2).bind fun t405 => ((impl_FSub.f k bt402.1 bt402.2.1 bt402.2.2).bind fun t406 => ((impl_FMul.f k bt402.1 bt402.2.1 bt402.2.2).bind fun t407 => ((impl_FDiv.f k bt402.1 bt402.2.1 bt402.2.2).bind fun t408 => ((spec_FAdd.f k bt402.1 bt402.2.1 bt402.2.2).bind fun t409 => (if t405 = t409 then ((spec_FSub.f k bt402.1 bt402.2.1 bt402.2.2).bind fun t410 => (if t406 = t410 then ((spec_FMul.f k bt402.1 bt402.2.1 bt402.2.2).bind fun t411 => (if t407 = t411 then ((spec_FDiv.f k bt402.1 bt402.2.1 bt402.2.2).bind fun t412 => (if t408 = t412 then ((impl_FAdd.f k bt402.1 bt402.2.2 bt402.2.1).bind fun t413 => (if t405 = t413 then ((impl_FMul.f k bt402.1 bt402.2.2 bt402.2.1).bind fun t414 => (laws_FnRounded.j0 k bt402.1 bt402.2.1 bt402.2.2 t405 t406 t407 t408 (t407 != t414))) else (laws_FnRounded.j0 k bt402.1 bt402.2.1 bt402.2.2 t405 t406 t407 t408 true))) else (laws_FnRounded.j0 k bt402.1 bt402.2.1 bt402.2.2 t405 t406 t407 t408 true))) else (laws_FnRounded.j0 k bt402.1 bt402.2.1 bt402.2.2 t405 t406 t407 t408 true))) else (laws_FnRounded.j0 k bt402.1 bt402.2.1 bt402.2.2 t405 t406 t407 t408 true))) else (laws_FnRounded.j0 k bt402.1 bt402.2.1 bt402.2.2 t405 t406 t407 t408 true))))))))) = some true := h
 clear h
 by_cases c2 : (l0.length : Int) > 1048576
 ·rw [if_pos c2] at H
  have c2b0 : decide (1048576 < (l0.length : Int)) = true := decide_eq_true c2
  have c2b1 : decide (1048576 < l0.length) = true := decide_eq_true (by omega)
  clear c2 H
  go_enter Try.func5, Try.ntmps5
  go_wp2
  go_ret
  exact ⟨by first | rfl | (simp [errW_none, errW_some] <;> rfl) | exact congrArg (fun b_ => Ending.returned (.bool b_)) HTR_.out | (simp [*, errW_none, errW_some] <;> rfl), es_⟩
 ·rw [if_neg c2] at H
  have c2b0 : decide (1048576 < (l0.length : Int)) = false := decide_eq_false c2
  have c2b1 : decide (1048576 < l0.length) = false := decide_eq_false (by omega)
  clear c2
  replace H := Option.bind_eq_some_iff.mp H
  obtain ⟨⟨t402, t403, t404⟩, A30, H⟩ := H
  try dsimp only at H
  have A3 := Aside0.mk A30
  clear A30
  replace H := Option.bind_eq_some_iff.mp H
  obtain ⟨t405, A40, H⟩ := H
  try dsimp only at H
  have A4 := Aside0.mk A40
  clear A40
  replace H := Option.bind_eq_some_iff.mp H
  obtain ⟨t406, A50, H⟩ := H
  try dsimp only at H
  have A5 := Aside0.mk A50
  clear A50
  replace H := Option.bind_eq_some_iff.mp H
  obtain ⟨t407, A60, H⟩ := H
  try dsimp only at H
  have A6 := Aside0.mk A60
  clear A60
  replace H := Option.bind_eq_some_iff.mp H
  obtain ⟨t408, A70, H⟩ := H
  try dsimp only at H
  have A7 := Aside0.mk A70
  clear A70
  have HC8 := Aside0.mk H
  clear H
  go_enter Try.func5, Try.ntmps5
  go_upto_region 8 with (first | ((with_reducible refine gate_callee (f := 21) rfl ?_); refine gl_ (some 19) rfl rfl Try.func21 (by kernel_rfl) rfl #[.slice A0 l0.length c0] rfl ?_; (with_reducible refine (spec_DrawFAdd.calls k _ _ l0 t402 t403 t404 _ ?side1 ?side2 A3.out).mono ?_); (case side1 => repeat (first | exact HR0.out | (with_reducible refine Kd.C_alloc ?_ _) | (with_reducible refine Kd.C_drewN ?_ _) | (with_reducible refine Kd.C_drew ?_))); (case side2 => exact HC0.out); rintro e w9 ⟨rfl, hb⟩; refine ⟨_, rfl, ?_⟩; replace HB := eh_ hb; (try clear hb)) | ((with_reducible refine gate_callee (f := 22) rfl ?_); refine gl_ (some 26) rfl rfl Try.func22 (by kernel_rfl) rfl #[.int .i64 t402, .int .u32 t403, .int .u32 t404] rfl ?_; (with_reducible refine (impl_FAdd.calls k t402 t403 t404 t405 _ A4.out).mono ?_); rintro e w10 ⟨rfl, hb⟩; refine ⟨_, rfl, ?_⟩; replace HB := eh_ hb; (try clear hb)) | ((with_reducible refine gate_callee (f := 23) rfl ?_); refine gl_ (some 30) rfl rfl Try.func23 (by kernel_rfl) rfl #[.int .i64 t402, .int .u32 t403, .int .u32 t404] rfl ?_; (with_reducible refine (impl_FSub.calls k t402 t403 t404 t406 _ A5.out).mono ?_); rintro e w11 ⟨rfl, hb⟩; refine ⟨_, rfl, ?_⟩; replace HB := eh_ hb; (try clear hb)) | ((with_reducible refine gate_callee (f := 24) rfl ?_); refine gl_ (some 34) rfl rfl Try.func24 (by kernel_rfl) rfl #[.int .i64 t402, .int .u32 t403, .int .u32 t404] rfl ?_; (with_reducible refine (impl_FMul.calls k t402 t403 t404 t407 _ A6.out).mono ?_); rintro e w12 ⟨rfl, hb⟩; refine ⟨_, rfl, ?_⟩; replace HB := eh_ hb; (try clear hb)) | ((with_reducible refine gate_callee (f := 25) rfl ?_); refine gl_ (some 38) rfl rfl Try.func25 (by kernel_rfl) rfl #[.int .i64 t402, .int .u32 t403, .int .u32 t404] rfl ?_; (with_reducible refine (impl_FDiv.calls k t402 t403 t404 t408 _ A7.out).mono ?_); rintro e w13 ⟨rfl, hb⟩; refine ⟨_, rfl, ?_⟩; replace HB := eh_ hb; (try clear hb)))
  (try simp only [Act.put, List.setIfInBounds_toArray, List.set_cons_zero, List.set_cons_succ])
  go_cut [84] (fun v84 wc => ∃ (kq : Nat) (x84_7 : Bool), v84 = .bool x84_7 ∧ Aside0 (laws_FnRounded.j0 kq t402 t403 t404 t405 t406 t407 t408 x84_7 = some true) ∧ Aside0 (kq ≤ k) ∧ Aside0 (Below w.heap.size w wc))
  case first =>
   have H := HC8.out
   clear HC8
   replace H := Option.bind_eq_some_iff.mp H
   obtain ⟨t409, A140, H⟩ := H
   try dsimp only at H
   have A14 := Aside0.mk A140
   clear A140
   by_cases c15 : t405 = t409
   ·rw [if_pos c15] at H
    have c15b0 : (t405 == t409) = true := beq_iff_eq.mpr c15
    have c15b1 : (t405 != t409) = false := bne_eq_false_iff_eq.mpr c15
    clear c15
    (first | rw [c15b0] | (simp only [i64_w, i32_w]; rw [c15b0]) | skip)
    replace H := Option.bind_eq_some_iff.mp H
    obtain ⟨t410, A160, H⟩ := H
    try dsimp only at H
    have A16 := Aside0.mk A160
    clear A160
    by_cases c17 : t406 = t410
    ·rw [if_pos c17] at H
     have c17b0 : (t406 == t410) = true := beq_iff_eq.mpr c17
     have c17b1 : (t406 != t410) = false := bne_eq_false_iff_eq.mpr c17
     clear c17
     replace H := Option.bind_eq_some_iff.mp H
     obtain ⟨t411, A180, H⟩ := H
     try dsimp only at H
     have A18 := Aside0.mk A180
     clear A180
     by_cases c19 : t407 = t411
     ·rw [if_pos c19] at H
      have c19b0 : (t407 == t411) = true := beq_iff_eq.mpr c19
      have c19b1 : (t407 != t411) = false := bne_eq_false_iff_eq.mpr c19
      clear c19
      replace H := Option.bind_eq_some_iff.mp H
      obtain ⟨t412, A200, H⟩ := H
      try dsimp only at H
      have A20 := Aside0.mk A200
      clear A200
      by_cases c21 : t408 = t412
      ·rw [if_pos c21] at H
       have c21b0 : (t408 == t412) = true := beq_iff_eq.mpr c21
       have c21b1 : (t408 != t412) = false := bne_eq_false_iff_eq.mpr c21
       clear c21
       replace H := Option.bind_eq_some_iff.mp H
       obtain ⟨t413, A220, H⟩ := H
       try dsimp only at H
       have A22 := Aside0.mk A220
       clear A220
       by_cases c23 : t405 = t413
       ·rw [if_pos c23] at H
        have c23b0 : (t405 == t413) = true := beq_iff_eq.mpr c23
        have c23b1 : (t405 != t413) = false := bne_eq_false_iff_eq.mpr c23
        clear c23
        replace H := Option.bind_eq_some_iff.mp H
        obtain ⟨t414, A240, H⟩ := H
        try dsimp only at H
        have A24 := Aside0.mk A240
        clear A240
        have H' := Aside0.mk H
        clear H
        go_wp2_with (first | ((with_reducible refine gate_callee (f := 26) rfl ?_); refine gl_ (some 43) rfl rfl Try.func26 (by kernel_rfl) rfl #[.int .i64 t402, .int .u32 t403, .int .u32 t404] rfl ?_; (with_reducible refine (spec_FAdd.calls k t402 t403 t404 t409 _ A14.out).mono ?_); rintro e w25 ⟨rfl, hb⟩; refine ⟨_, rfl, ?_⟩; replace HB := eh_ hb; (try clear hb)) | (go_at_call 27; (with_reducible refine (spec_FSub.calls k t402 t403 t404 t410 _ A16.out).mono ?_); rintro e w26 ⟨rfl, hb⟩; have n0_ := Aside0.mk (below_step (eb_ HB.out) hb); clear HB; have HB := n0_; clear n0_; (try clear hb); (try clear hb2); (try clear hk); (try clear hi)) | (go_at_call 28; (with_reducible refine (spec_FMul.calls k t402 t403 t404 t411 _ A18.out).mono ?_); rintro e w27 ⟨rfl, hb⟩; have n0_ := Aside0.mk (below_step (eb_ HB.out) hb); clear HB; have HB := n0_; clear n0_; (try clear hb); (try clear hb2); (try clear hk); (try clear hi)) | (go_at_call 29; (with_reducible refine (spec_FDiv.calls k t402 t403 t404 t412 _ A20.out).mono ?_); rintro e w28 ⟨rfl, hb⟩; have n0_ := Aside0.mk (below_step (eb_ HB.out) hb); clear HB; have HB := n0_; clear n0_; (try clear hb); (try clear hb2); (try clear hk); (try clear hi)) | (go_at_call 22; (with_reducible refine (impl_FAdd.calls k t402 t404 t403 t413 _ A22.out).mono ?_); rintro e w29 ⟨rfl, hb⟩; have n0_ := Aside0.mk (below_step (eb_ HB.out) hb); clear HB; have HB := n0_; clear n0_; (try clear hb); (try clear hb2); (try clear hk); (try clear hi)) | (go_at_call 24; (with_reducible refine (impl_FMul.calls k t402 t404 t403 t414 _ A24.out).mono ?_); rintro e w30 ⟨rfl, hb⟩; have n0_ := Aside0.mk (below_step (eb_ HB.out) hb); clear HB; have HB := n0_; clear n0_; (try clear hb); (try clear hb2); (try clear hk); (try clear hi)))
        go_meet
        case rel => exact ⟨_, ((t407 != t414)), (by first | rfl | (simp; done) | (simp [*]; done)), H', ⟨by first | omega | exact Nat.le_refl _⟩, ⟨es_⟩⟩
       ·rw [if_neg c23] at H
        have c23b0 : (t405 == t413) = false := beq_eq_false_iff_ne.mpr c23
        have c23b1 : (t405 != t413) = true := bne_iff_ne.mpr c23
        have H' := Aside0.mk H
        clear H
        go_wp2_with (first | ((with_reducible refine gate_callee (f := 26) rfl ?_); refine gl_ (some 43) rfl rfl Try.func26 (by kernel_rfl) rfl #[.int .i64 t402, .int .u32 t403, .int .u32 t404] rfl ?_; (with_reducible refine (spec_FAdd.calls k t402 t403 t404 t409 _ A14.out).mono ?_); rintro e w31 ⟨rfl, hb⟩; refine ⟨_, rfl, ?_⟩; replace HB := eh_ hb; (try clear hb)) | (go_at_call 27; (with_reducible refine (spec_FSub.calls k t402 t403 t404 t410 _ A16.out).mono ?_); rintro e w32 ⟨rfl, hb⟩; have n0_ := Aside0.mk (below_step (eb_ HB.out) hb); clear HB; have HB := n0_; clear n0_; (try clear hb); (try clear hb2); (try clear hk); (try clear hi)) | (go_at_call 28; (with_reducible refine (spec_FMul.calls k t402 t403 t404 t411 _ A18.out).mono ?_); rintro e w33 ⟨rfl, hb⟩; have n0_ := Aside0.mk (below_step (eb_ HB.out) hb); clear HB; have HB := n0_; clear n0_; (try clear hb); (try clear hb2); (try clear hk); (try clear hi)) | (go_at_call 29; (with_reducible refine (spec_FDiv.calls k t402 t403 t404 t412 _ A20.out).mono ?_); rintro e w34 ⟨rfl, hb⟩; have n0_ := Aside0.mk (below_step (eb_ HB.out) hb); clear HB; have HB := n0_; clear n0_; (try clear hb); (try clear hb2); (try clear hk); (try clear hi)) | (go_at_call 22; (with_reducible refine (impl_FAdd.calls k t402 t404 t403 t413 _ A22.out).mono ?_); rintro e w35 ⟨rfl, hb⟩; have n0_ := Aside0.mk (below_step (eb_ HB.out) hb); clear HB; have HB := n0_; clear n0_; (try clear hb); (try clear hb2); (try clear hk); (try clear hi)))
        go_meet
        case rel => exact ⟨_, (true), (by first | rfl | (simp; done) | (simp [*]; done)), H', ⟨by first | omega | exact Nat.le_refl _⟩, ⟨es_⟩⟩
      ·rw [if_neg c21] at H
       have c21b0 : (t408 == t412) = false := beq_eq_false_iff_ne.mpr c21
       have c21b1 : (t408 != t412) = true := bne_iff_ne.mpr c21
       have H' := Aside0.mk H
       clear H
       go_wp2_with (first | ((with_reducible refine gate_callee (f := 26) rfl ?_); refine gl_ (some 43) rfl rfl Try.func26 (by kernel_rfl) rfl #[.int .i64 t402, .int .u32 t403, .int .u32 t404] rfl ?_; (with_reducible refine (spec_FAdd.calls k t402 t403 t404 t409 _ A14.out).mono ?_); rintro e w36 ⟨rfl, hb⟩; refine ⟨_, rfl, ?_⟩; replace HB := eh_ hb; (try clear hb)) | (go_at_call 27; (with_reducible refine (spec_FSub.calls k t402 t403 t404 t410 _ A16.out).mono ?_); rintro e w37 ⟨rfl, hb⟩; have n0_ := Aside0.mk (below_step (eb_ HB.out) hb); clear HB; have HB := n0_; clear n0_; (try clear hb); (try clear hb2); (try clear hk); (try clear hi)) | (go_at_call 28; (with_reducible refine (spec_FMul.calls k t402 t403 t404 t411 _ A18.out).mono ?_); rintro e w38 ⟨rfl, hb⟩; have n0_ := Aside0.mk (below_step (eb_ HB.out) hb); clear HB; have HB := n0_; clear n0_; (try clear hb); (try clear hb2); (try clear hk); (try clear hi)) | (go_at_call 29; (with_reducible refine (spec_FDiv.calls k t402 t403 t404 t412 _ A20.out).mono ?_); rintro e w39 ⟨rfl, hb⟩; have n0_ := Aside0.mk (below_step (eb_ HB.out) hb); clear HB; have HB := n0_; clear n0_; (try clear hb); (try clear hb2); (try clear hk); (try clear hi)))
       go_meet
       case rel => exact ⟨_, (true), (by first | rfl | (simp; done) | (simp [*]; done)), H', ⟨by first | omega | exact Nat.le_refl _⟩, ⟨es_⟩⟩
     ·rw [if_neg c19] at H
      have c19b0 : (t407 == t411) = false := beq_eq_false_iff_ne.mpr c19
      have c19b1 : (t407 != t411) = true := bne_iff_ne.mpr c19
      have H' := Aside0.mk H
      clear H
      go_wp2_with (first | ((with_reducible refine gate_callee (f := 26) rfl ?_); refine gl_ (some 43) rfl rfl Try.func26 (by kernel_rfl) rfl #[.int .i64 t402, .int .u32 t403, .int .u32 t404] rfl ?_; (with_reducible refine (spec_FAdd.calls k t402 t403 t404 t409 _ A14.out).mono ?_); rintro e w40 ⟨rfl, hb⟩; refine ⟨_, rfl, ?_⟩; replace HB := eh_ hb; (try clear hb)) | (go_at_call 27; (with_reducible refine (spec_FSub.calls k t402 t403 t404 t410 _ A16.out).mono ?_); rintro e w41 ⟨rfl, hb⟩; have n0_ := Aside0.mk (below_step (eb_ HB.out) hb); clear HB; have HB := n0_; clear n0_; (try clear hb); (try clear hb2); (try clear hk); (try clear hi)) | (go_at_call 28; (with_reducible refine (spec_FMul.calls k t402 t403 t404 t411 _ A18.out).mono ?_); rintro e w42 ⟨rfl, hb⟩; have n0_ := Aside0.mk (below_step (eb_ HB.out) hb); clear HB; have HB := n0_; clear n0_; (try clear hb); (try clear hb2); (try clear hk); (try clear hi)))
      go_meet
      case rel => exact ⟨_, (true), (by first | rfl | (simp; done) | (simp [*]; done)), H', ⟨by first | omega | exact Nat.le_refl _⟩, ⟨es_⟩⟩
    ·rw [if_neg c17] at H
     have c17b0 : (t406 == t410) = false := beq_eq_false_iff_ne.mpr c17
     have c17b1 : (t406 != t410) = true := bne_iff_ne.mpr c17
     have H' := Aside0.mk H
     clear H
     go_wp2_with (first | ((with_reducible refine gate_callee (f := 26) rfl ?_); refine gl_ (some 43) rfl rfl Try.func26 (by kernel_rfl) rfl #[.int .i64 t402, .int .u32 t403, .int .u32 t404] rfl ?_; (with_reducible refine (spec_FAdd.calls k t402 t403 t404 t409 _ A14.out).mono ?_); rintro e w43 ⟨rfl, hb⟩; refine ⟨_, rfl, ?_⟩; replace HB := eh_ hb; (try clear hb)) | (go_at_call 27; (with_reducible refine (spec_FSub.calls k t402 t403 t404 t410 _ A16.out).mono ?_); rintro e w44 ⟨rfl, hb⟩; have n0_ := Aside0.mk (below_step (eb_ HB.out) hb); clear HB; have HB := n0_; clear n0_; (try clear hb); (try clear hb2); (try clear hk); (try clear hi)))
     go_meet
     case rel => exact ⟨_, (true), (by first | rfl | (simp; done) | (simp [*]; done)), H', ⟨by first | omega | exact Nat.le_refl _⟩, ⟨es_⟩⟩
   ·rw [if_neg c15] at H
    have c15b0 : (t405 == t409) = false := beq_eq_false_iff_ne.mpr c15
    have c15b1 : (t405 != t409) = true := bne_iff_ne.mpr c15
    (first | rw [c15b0] | (simp only [i64_w, i32_w]; rw [c15b0]) | skip)
    have H' := Aside0.mk H
    clear H
    go_wp2_with (first | ((with_reducible refine gate_callee (f := 26) rfl ?_); refine gl_ (some 43) rfl rfl Try.func26 (by kernel_rfl) rfl #[.int .i64 t402, .int .u32 t403, .int .u32 t404] rfl ?_; (with_reducible refine (spec_FAdd.calls k t402 t403 t404 t409 _ A14.out).mono ?_); rintro e w45 ⟨rfl, hb⟩; refine ⟨_, rfl, ?_⟩; replace HB := eh_ hb; (try clear hb)))
    go_meet
    case rel => exact ⟨_, (true), (by first | rfl | (simp; done) | (simp [*]; done)), H', ⟨by first | omega | exact Nat.le_refl _⟩, ⟨es_⟩⟩
  case rest =>
   clear HC8
   try clear p2
   obtain ⟨kq, x84_7, rfl, HA, HJ7, HB⟩ := hcut
   cases kq with
   | zero => exact absurd HA.out (by simp [laws_FnRounded.j0])
   | succ kj7 =>
    have H := HA.out
    clear HA
    simp only [laws_FnRounded.j0] at H
    by_cases c46 : x84_7 = true
    ·subst c46
     have H1 : (some false) = some true := by rw [if_pos rfl] at H; first | done | exact H
     clear H
     have H := H1
     clear H1
     exact absurd H (by simp)
    ·replace c46 := Bool.eq_false_iff.mpr c46
     subst c46
     have H1 : (if t402 = 16 then ((laws_exact.f t403).bind fun bt415 => ((laws_exact.f t404).bind fun bt417 => (if bt415.2 = true then (laws_FnRounded.j1 kj7 t405 t406 t407 t408 bt415.1 bt417.1 (!bt417.2)) else (laws_FnRounded.j1 kj7 t405 t406 t407 t408 bt415.1 bt417.1 true)))) else (some true)) = some true := by rw [if_neg (show ¬ (false = true) by decide)] at H; first | done | exact H
     clear H
     have H := H1
     clear H1
     by_cases c47 : t402 = 16
     ·rw [if_pos c47] at H
      have c47b0 : (t402 == 16) = true := beq_iff_eq.mpr c47
      have c47b1 : (t402 != 16) = false := bne_eq_false_iff_eq.mpr c47
      clear c47
      replace H := Option.bind_eq_some_iff.mp H
      obtain ⟨⟨t415, t416⟩, A480, H⟩ := H
      try dsimp only at H
      have A48 := Aside0.mk A480
      clear A480
      replace H := Option.bind_eq_some_iff.mp H
      obtain ⟨⟨t417, t418⟩, A490, H⟩ := H
      try dsimp only at H
      have A49 := Aside0.mk A490
      clear A490
      have HC50 := Aside0.mk H
      clear H
      go_upto_region 14 with (first | ((with_reducible refine gate_callee (f := 14) rfl ?_); refine gl_ (some 89) rfl rfl Try.func14 (by kernel_rfl) rfl #[.int .u32 t403] rfl ?_; (with_reducible refine (laws_exact.calls t403 t415 t416 _ A48.out).mono ?_); rintro e w51 ⟨rfl, hb⟩; refine ⟨_, rfl, ?_⟩; replace HB := eh_ hb; (try clear hb)) | ((with_reducible refine gate_callee (f := 14) rfl ?_); refine gl_ (some 94) rfl rfl Try.func14 (by kernel_rfl) rfl #[.int .u32 t404] rfl ?_; (with_reducible refine (laws_exact.calls t404 t417 t418 _ A49.out).mono ?_); rintro e w52 ⟨rfl, hb⟩; refine ⟨_, rfl, ?_⟩; replace HB := eh_ hb; (try clear hb)))
      (try simp only [Act.put, List.setIfInBounds_toArray, List.set_cons_zero, List.set_cons_succ])
      go_cut [102] (fun v102 wc => ∃ (kq : Nat) (x102_49 : Bool), v102 = .bool x102_49 ∧ Aside0 (laws_FnRounded.j1 kq t405 t406 t407 t408 t415 t417 x102_49 = some true) ∧ Aside0 (kq ≤ kj7) ∧ Aside0 (Below w.heap.size w wc))
      case first =>
       have H := HC50.out
       clear HC50
       by_cases c53 : t416 = true
       ·subst c53
        have H1 : (laws_FnRounded.j1 kj7 t405 t406 t407 t408 t415 t417 (!t418)) = some true := by rw [if_pos rfl] at H; first | done | exact H
        clear H
        have H := H1
        clear H1
        have H' := Aside0.mk H
        clear H
        go_wp2
        go_meet
        case rel => exact ⟨_, (!t418), (by first | rfl | (simp; done) | (simp [*]; done)), H', ⟨by have := HJ7.out; first | omega | exact Nat.le_refl _⟩, ⟨es_⟩⟩
       ·replace c53 := Bool.eq_false_iff.mpr c53
        subst c53
        have H1 : (laws_FnRounded.j1 kj7 t405 t406 t407 t408 t415 t417 true) = some true := by rw [if_neg (show ¬ (false = true) by decide)] at H; first | done | exact H
        clear H
        have H := H1
        clear H1
        have H' := Aside0.mk H
        clear H
        go_wp2
        go_meet
        case rel => exact ⟨_, (true), (by first | rfl | (simp; done) | (simp [*]; done)), H', ⟨by have := HJ7.out; first | omega | exact Nat.le_refl _⟩, ⟨es_⟩⟩
      case rest =>
       clear HC50
       try clear p2
       try clear p2
       obtain ⟨kq, x102_49, rfl, HA, HJ49, HB⟩ := hcut
       cases kq with
       | zero => exact absurd HA.out (by simp [laws_FnRounded.j1])
       | succ kj49 =>
        have H := HA.out
        clear HA
        simp only [laws_FnRounded.j1] at H
        by_cases c54 : x102_49 = true
        ·subst c54
         have H1 : (some true) = some true := by rw [if_pos rfl] at H; first | done | exact H
         clear H
         have H := H1
         clear H1 H
         go_wp2
         go_ret
         exact ⟨by first | rfl | (simp [errW_none, errW_some] <;> rfl) | exact congrArg (fun b_ => Ending.returned (.bool b_)) HTR_.out | (simp [*, errW_none, errW_some] <;> rfl), es_⟩
        ·replace c54 := Bool.eq_false_iff.mpr c54
         subst c54
         have H1 : ((laws_near.f kj49 t405 (wrap64 (t415 + t417)) 1).bind fun t419 => (if t419 = true then ((laws_near.f kj49 t406 (wrap64 (t415 - t417)) 1).bind fun t420 => (laws_FnRounded.j2 kj49 t407 t408 t415 t417 (!t420))) else (laws_FnRounded.j2 kj49 t407 t408 t415 t417 true))) = some true := by rw [if_neg (show ¬ (false = true) by decide)] at H; first | done | exact H
         clear H
         have H := H1
         clear H1
         have HC55 := Aside0.mk H
         clear H
         go_upto_region 16 with (fail)
         go_cut [116] (fun v116 wc => ∃ (kq : Nat) (x116_54 : Bool), v116 = .bool x116_54 ∧ Aside0 (laws_FnRounded.j2 kq t407 t408 t415 t417 x116_54 = some true) ∧ Aside0 (kq ≤ kj49) ∧ Aside0 (Below w.heap.size w wc))
         case first =>
          have H := HC55.out
          clear HC55
          replace H := Option.bind_eq_some_iff.mp H
          obtain ⟨t419, A560, H⟩ := H
          try dsimp only at H
          have A56 := Aside0.mk A560
          clear A560
          by_cases c57 : t419 = true
          ·subst c57
           have H1 : ((laws_near.f kj49 t406 (wrap64 (t415 - t417)) 1).bind fun t420 => (laws_FnRounded.j2 kj49 t407 t408 t415 t417 (!t420))) = some true := by rw [if_pos rfl] at H; first | done | exact H
           clear H
           have H := H1
           clear H1
           replace H := Option.bind_eq_some_iff.mp H
           obtain ⟨t420, A580, H⟩ := H
           try dsimp only at H
           have A58 := Aside0.mk A580
           clear A580
           have H' := Aside0.mk H
           clear H
           go_wp2_with (first | ((with_reducible refine gate_callee (f := 30) rfl ?_); refine gl_ (some 107) rfl rfl Try.func30 (by kernel_rfl) rfl #[.int .u32 t405, .int .i64 (wrap64 (t415 + t417)), .int .i64 1] rfl ?_; (with_reducible refine (laws_near.calls kj49 t405 (wrap64 (t415 + t417)) 1 true _ A56.out).mono ?_); rintro e w59 ⟨rfl, hb⟩; refine ⟨_, rfl, ?_⟩; replace HB := eh_ hb; (try clear hb)) | (go_at_call 30; (with_reducible refine (laws_near.calls kj49 t406 (wrap64 (t415 - t417)) 1 t420 _ A58.out).mono ?_); rintro e w60 ⟨rfl, hb⟩; have n0_ := Aside0.mk (below_step (eb_ HB.out) hb); clear HB; have HB := n0_; clear n0_; (try clear hb); (try clear hb2); (try clear hk); (try clear hi)))
           go_meet
           case rel => exact ⟨_, (!t420), (by first | rfl | (simp; done) | (simp [*]; done)), H', ⟨by have := HJ7.out; have := HJ49.out; first | omega | exact Nat.le_refl _⟩, ⟨es_⟩⟩
          ·replace c57 := Bool.eq_false_iff.mpr c57
           subst c57
           have H1 : (laws_FnRounded.j2 kj49 t407 t408 t415 t417 true) = some true := by rw [if_neg (show ¬ (false = true) by decide)] at H; first | done | exact H
           clear H
           have H := H1
           clear H1
           have H' := Aside0.mk H
           clear H
           go_wp2_with (first | ((with_reducible refine gate_callee (f := 30) rfl ?_); refine gl_ (some 107) rfl rfl Try.func30 (by kernel_rfl) rfl #[.int .u32 t405, .int .i64 (wrap64 (t415 + t417)), .int .i64 1] rfl ?_; (with_reducible refine (laws_near.calls kj49 t405 (wrap64 (t415 + t417)) 1 false _ A56.out).mono ?_); rintro e w61 ⟨rfl, hb⟩; refine ⟨_, rfl, ?_⟩; replace HB := eh_ hb; (try clear hb)))
           go_meet
           case rel => exact ⟨_, (true), (by first | rfl | (simp; done) | (simp [*]; done)), H', ⟨by have := HJ7.out; have := HJ49.out; first | omega | exact Nat.le_refl _⟩, ⟨es_⟩⟩
         case rest =>
          clear HC55
          try clear p2
          try clear p6
          try clear p2
          obtain ⟨kq, x116_54, rfl, HA, HJ54, HB⟩ := hcut
          cases kq with
          | zero => exact absurd HA.out (by simp [laws_FnRounded.j2])
          | succ kj54 =>
           have H := HA.out
           clear HA
           simp only [laws_FnRounded.j2] at H
           by_cases c62 : x116_54 = true
           ·subst c62
            have H1 : (some false) = some true := by rw [if_pos rfl] at H; first | done | exact H
            clear H
            have H := H1
            clear H1
            exact absurd H (by simp)
           ·replace c62 := Bool.eq_false_iff.mpr c62
            subst c62
            have H1 : ((laws_size.f t415).bind fun t421 => (if t421 < 1073741824 then ((laws_size.f t417).bind fun t422 => (if t422 < 1073741824 then ((laws_near.f kj54 t407 (wrap64 (t415 * t417)) 16777216).bind fun t423 => (laws_FnRounded.j3 kj54 t408 t415 t417 (!t423))) else (laws_FnRounded.j3 kj54 t408 t415 t417 false))) else (laws_FnRounded.j3 kj54 t408 t415 t417 false))) = some true := by rw [if_neg (show ¬ (false = true) by decide)] at H; first | done | exact H
            clear H
            have H := H1
            clear H1
            have HC63 := Aside0.mk H
            clear H
            go_upto_region 18 with (fail)
            go_cut [132] (fun v132 wc => ∃ (kq : Nat) (x132_62 : Bool), v132 = .bool x132_62 ∧ Aside0 (laws_FnRounded.j3 kq t408 t415 t417 x132_62 = some true) ∧ Aside0 (kq ≤ kj54) ∧ Aside0 (Below w.heap.size w wc))
            case first =>
             have H := HC63.out
             clear HC63
             replace H := Option.bind_eq_some_iff.mp H
             obtain ⟨t421, A640, H⟩ := H
             try dsimp only at H
             have A64 := Aside0.mk A640
             clear A640
             by_cases c65 : t421 < 1073741824
             ·rw [if_pos c65] at H
              have c65b0 : decide (t421 < 1073741824) = true := decide_eq_true c65
              clear c65
              (first | rw [c65b0] | (simp only [i64_w, i32_w]; rw [c65b0]) | skip)
              replace H := Option.bind_eq_some_iff.mp H
              obtain ⟨t422, A660, H⟩ := H
              try dsimp only at H
              have A66 := Aside0.mk A660
              clear A660
              by_cases c67 : t422 < 1073741824
              ·rw [if_pos c67] at H
               have c67b0 : decide (t422 < 1073741824) = true := decide_eq_true c67
               clear c67
               replace H := Option.bind_eq_some_iff.mp H
               obtain ⟨t423, A680, H⟩ := H
               try dsimp only at H
               have A68 := Aside0.mk A680
               clear A680
               have H' := Aside0.mk H
               clear H
               go_wp2_with (first | ((with_reducible refine gate_callee (f := 31) rfl ?_); refine gl_ (some 118) rfl rfl Try.func31 (by kernel_rfl) rfl #[.int .i64 t415] rfl ?_; (with_reducible refine (laws_size.calls t415 t421 _ A64.out).mono ?_); rintro e w' ⟨rfl, ⟨nd, rfl⟩⟩; refine ⟨_, rfl, ?_⟩) | (go_at_call 31; (with_reducible refine (laws_size.calls t417 t422 _ A66.out).mono ?_); rintro e w' ⟨rfl, ⟨nd, rfl⟩⟩) | (go_at_call 30; (with_reducible refine (laws_near.calls kj54 t407 (wrap64 (t415 * t417)) 16777216 t423 _ A68.out).mono ?_); rintro e w69 ⟨rfl, hb⟩; have n0_ := Aside0.mk (below_step (eb_ HB.out) hb); clear HB; have HB := n0_; clear n0_; (try clear hb); (try clear hb2); (try clear hk); (try clear hi)))
               go_meet
               case rel => exact ⟨_, (!t423), (by first | rfl | (simp; done) | (simp [*]; done)), H', ⟨by have := HJ7.out; have := HJ49.out; have := HJ54.out; first | omega | exact Nat.le_refl _⟩, ⟨es_⟩⟩
              ·rw [if_neg c67] at H
               have c67b0 : decide (t422 < 1073741824) = false := decide_eq_false c67
               clear c67
               have H' := Aside0.mk H
               clear H
               go_wp2_with (first | ((with_reducible refine gate_callee (f := 31) rfl ?_); refine gl_ (some 118) rfl rfl Try.func31 (by kernel_rfl) rfl #[.int .i64 t415] rfl ?_; (with_reducible refine (laws_size.calls t415 t421 _ A64.out).mono ?_); rintro e w' ⟨rfl, ⟨nd, rfl⟩⟩; refine ⟨_, rfl, ?_⟩) | (go_at_call 31; (with_reducible refine (laws_size.calls t417 t422 _ A66.out).mono ?_); rintro e w' ⟨rfl, ⟨nd, rfl⟩⟩))
               go_meet
               case rel => exact ⟨_, (false), (by first | rfl | (simp; done) | (simp [*]; done)), H', ⟨by have := HJ7.out; have := HJ49.out; have := HJ54.out; first | omega | exact Nat.le_refl _⟩, ⟨es_⟩⟩
             ·rw [if_neg c65] at H
              have c65b0 : decide (t421 < 1073741824) = false := decide_eq_false c65
              clear c65
              (first | rw [c65b0] | (simp only [i64_w, i32_w]; rw [c65b0]) | skip)
              have H' := Aside0.mk H
              clear H
              go_wp2_with (first | ((with_reducible refine gate_callee (f := 31) rfl ?_); refine gl_ (some 118) rfl rfl Try.func31 (by kernel_rfl) rfl #[.int .i64 t415] rfl ?_; (with_reducible refine (laws_size.calls t415 t421 _ A64.out).mono ?_); rintro e w' ⟨rfl, ⟨nd, rfl⟩⟩; refine ⟨_, rfl, ?_⟩))
              go_meet
              case rel => exact ⟨_, (false), (by first | rfl | (simp; done) | (simp [*]; done)), H', ⟨by have := HJ7.out; have := HJ49.out; have := HJ54.out; first | omega | exact Nat.le_refl _⟩, ⟨es_⟩⟩
            case rest =>
             clear HC63
             try clear p2
             try clear p6
             try clear p64
             try clear p2
             try clear p6
             obtain ⟨kq, x132_62, rfl, HA, HJ62, HB⟩ := hcut
             cases kq with
             | zero => exact absurd HA.out (by simp [laws_FnRounded.j3])
             | succ kj62 =>
              have H := HA.out
              clear HA
              simp only [laws_FnRounded.j3] at H
              by_cases c70 : x132_62 = true
              ·subst c70
               have H1 : (some false) = some true := by rw [if_pos rfl] at H; first | done | exact H
               clear H
               have H := H1
               clear H1
               exact absurd H (by simp)
              ·replace c70 := Bool.eq_false_iff.mpr c70
               subst c70
               have H1 : (if t417 = 0 then (laws_FnRounded.j4 kj62 t408 t415 t417 true) else ((laws_size.f t415).bind fun t424 => (laws_FnRounded.j4 kj62 t408 t415 t417 (decide (t424 ≥ 274877906944))))) = some true := by rw [if_neg (show ¬ (false = true) by decide)] at H; first | done | exact H
               clear H
               have H := H1
               clear H1
               have HC71 := Aside0.mk H
               clear H
               go_upto_region 20 with (fail)
               go_cut [139] (fun v139 wc => ∃ (kq : Nat) (x139_70 : Bool), v139 = .bool x139_70 ∧ Aside0 (laws_FnRounded.j4 kq t408 t415 t417 x139_70 = some true) ∧ Aside0 (kq ≤ kj62) ∧ Aside0 (Below w.heap.size w wc))
               case first =>
                have H := HC71.out
                clear HC71
                by_cases c72 : t417 = 0
                ·rw [if_pos c72] at H
                 have c72b0 : (t417 == 0) = true := beq_iff_eq.mpr c72
                 have c72b1 : (t417 != 0) = false := bne_eq_false_iff_eq.mpr c72
                 clear c72
                 (first | rw [c72b0] | (simp only [i64_w, i32_w]; rw [c72b0]) | skip)
                 have H' := Aside0.mk H
                 clear H
                 go_wp2
                 go_meet
                 case rel => exact ⟨_, (true), (by first | rfl | (simp; done) | (simp [*]; done)), H', ⟨by have := HJ7.out; have := HJ49.out; have := HJ54.out; have := HJ62.out; first | omega | exact Nat.le_refl _⟩, ⟨es_⟩⟩
                ·rw [if_neg c72] at H
                 have c72b0 : (t417 == 0) = false := beq_eq_false_iff_ne.mpr c72
                 have c72b1 : (t417 != 0) = true := bne_iff_ne.mpr c72
                 (first | rw [c72b0] | (simp only [i64_w, i32_w]; rw [c72b0]) | skip)
                 replace H := Option.bind_eq_some_iff.mp H
                 obtain ⟨t424, A730, H⟩ := H
                 try dsimp only at H
                 have A73 := Aside0.mk A730
                 clear A730
                 have H' := Aside0.mk H
                 clear H
                 go_wp2_with (first | (go_at_call 31; (with_reducible refine (laws_size.calls t415 t424 _ A73.out).mono ?_); rintro e w' ⟨rfl, ⟨nd, rfl⟩⟩))
                 go_meet
                 case rel => exact ⟨_, (decide (t424 ≥ 274877906944)), (by first | rfl | (simp; done) | (simp [*]; done)), H', ⟨by have := HJ7.out; have := HJ49.out; have := HJ54.out; have := HJ62.out; first | omega | exact Nat.le_refl _⟩, ⟨es_⟩⟩
               case rest =>
                clear HC71
                try clear p2
                try clear p6
                try clear p64
                try clear p2
                try clear p6
                try clear p64
                obtain ⟨kq, x139_70, rfl, HA, HJ70, HB⟩ := hcut
                cases kq with
                | zero => exact absurd HA.out (by simp [laws_FnRounded.j4])
                | succ kj70 =>
                 have H := HA.out
                 clear HA
                 simp only [laws_FnRounded.j4] at H
                 by_cases c74 : x139_70 = true
                 ·subst c74
                  have H1 : (some true) = some true := by rw [if_pos rfl] at H; first | done | exact H
                  clear H
                  have H := H1
                  clear H1 H
                  go_wp2
                  go_ret
                  exact ⟨by first | rfl | (simp [errW_none, errW_some] <;> rfl) | exact congrArg (fun b_ => Ending.returned (.bool b_)) HTR_.out | (simp [*, errW_none, errW_some] <;> rfl), es_⟩
                 ·replace c74 := Bool.eq_false_iff.mpr c74
                  subst c74
                  have H1 : (if t417 < 0 then ((laws_near.f kj70 t408 (wrap64 ((wrap64 (-t415)) * 16777216)) (wrap64 (-t417))).bind fun t425 => (some t425)) else ((laws_near.f kj70 t408 (wrap64 (t415 * 16777216)) t417).bind fun t426 => (some t426))) = some true := by rw [if_neg (show ¬ (false = true) by decide)] at H; first | done | exact H
                  clear H
                  have H := H1
                  clear H1
                  by_cases c75 : t417 < 0
                  ·rw [if_pos c75] at H
                   have c75b0 : decide (t417 < 0) = true := decide_eq_true c75
                   clear c75
                   replace H := Option.bind_eq_some_iff.mp H
                   obtain ⟨t425, A760, H⟩ := H
                   try dsimp only at H
                   have A76 := Aside0.mk A760
                   clear A760
                   have HTR_ := Option.some.inj H
                   clear H
                   have HTR_ := Aside0.mk HTR_
                   go_wp2_with (first | ((with_reducible refine gate_callee (f := 30) rfl ?_); refine gl_ (some 150) rfl rfl Try.func30 (by kernel_rfl) rfl #[.int .u32 t408, .int .i64 (wrap64 ((wrap64 (-t415)) * 16777216)), .int .i64 (wrap64 (-t417))] rfl ?_; (with_reducible refine (laws_near.calls kj70 t408 (wrap64 ((wrap64 (-t415)) * 16777216)) (wrap64 (-t417)) t425 _ A76.out).mono ?_); rintro e w77 ⟨rfl, hb⟩; refine ⟨_, rfl, ?_⟩; replace HB := eh_ hb; (try clear hb)))
                   go_ret
                   exact ⟨by first | rfl | (simp [errW_none, errW_some] <;> rfl) | exact congrArg (fun b_ => Ending.returned (.bool b_)) HTR_.out | (simp [*, errW_none, errW_some] <;> rfl), es_⟩
                  ·rw [if_neg c75] at H
                   have c75b0 : decide (t417 < 0) = false := decide_eq_false c75
                   clear c75
                   replace H := Option.bind_eq_some_iff.mp H
                   obtain ⟨t426, A780, H⟩ := H
                   try dsimp only at H
                   have A78 := Aside0.mk A780
                   clear A780
                   have HTR_ := Option.some.inj H
                   clear H
                   have HTR_ := Aside0.mk HTR_
                   go_wp2_with (first | ((with_reducible refine gate_callee (f := 30) rfl ?_); refine gl_ (some 150) rfl rfl Try.func30 (by kernel_rfl) rfl #[.int .u32 t408, .int .i64 (wrap64 (t415 * 16777216)), .int .i64 t417] rfl ?_; (with_reducible refine (laws_near.calls kj70 t408 (wrap64 (t415 * 16777216)) t417 t426 _ A78.out).mono ?_); rintro e w79 ⟨rfl, hb⟩; refine ⟨_, rfl, ?_⟩; replace HB := eh_ hb; (try clear hb)))
                   go_ret
                   exact ⟨by first | rfl | (simp [errW_none, errW_some] <;> rfl) | exact congrArg (fun b_ => Ending.returned (.bool b_)) HTR_.out | (simp [*, errW_none, errW_some] <;> rfl), es_⟩
     ·rw [if_neg c47] at H
      have c47b0 : (t402 == 16) = false := beq_eq_false_iff_ne.mpr c47
      have c47b1 : (t402 != 16) = true := bne_iff_ne.mpr c47
      clear H
      go_wp2
      go_ret
      exact ⟨by first | rfl | (simp [errW_none, errW_some] <;> rfl) | exact congrArg (fun b_ => Ending.returned (.bool b_)) HTR_.out | (simp [*, errW_none, errW_some] <;> rfl), es_⟩

/-- THE ONE PURE STATEMENT of laws_FnRounded: yours. -/
def laws_FnRounded.Pure : Prop := ∀ (l0 : List Int), l0.length ≤ maxLen → l0.length * 1 ≤ 140737488351232 → (∀ x ∈ l0, (Lit.int .u8 x).wf = true) → ∃ k, laws_FnRounded.f k l0 = some true
theorem laws_FnRounded.walk (P : laws_FnRounded.Pure) (a0 : Option Addr) (len0 cap0 : Nat) (z0 : List Int) (w : World) (w0 : (a0 = none ∧ len0 = 0 ∧ cap0 = 0 ∧ z0 = []) ∨ ∃ x, a0 = some x ∧ len0 ≤ cap0 ∧ cap0 ≤ maxLen ∧ z0.length = cap0 ∧ (∀ i, i < z0.length → w.cell? (x.add i) = some (.int .u8 (z0.getD i 0))) ∧ ∀ n ∈ z0, (Lit.int .u8 n).wf = true) (y0 : len0 * 1 ≤ 140737488351232) :
  Calls Try.prog 5 #[.slice a0 len0 cap0] w fun e w' => e = .returned (.bool true) ∧ Below w.heap.size w w' := by
 obtain ⟨l0, rfl, hr0, hm0, hw0, hc0⟩ := ReadsInt.ofRowC w0
 obtain ⟨k, h⟩ := P l0 hm0 y0 hw0
 exact laws_FnRounded.calls k _ _ l0 w (Kd.C_of_reads (d := (0 : Int)) (h1 := fun _ => rfl) hr0) hc0 h

end Go.Proofs.Ytdoflfifnkpacaa.FA
