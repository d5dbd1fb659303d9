-- Printed by a program of this session (after the kit's print.sh, with contracts of its own beside): Lean checks it.
import Derived.Test.YtdoflfifnkpacaaFRx0
import Derived.Test.YtdoflfifnkpacaaFRx3
import Derived.Test.YtdoflfifnkpacaaFRx7
import Derived.Test.YtdoflfifnkpacaaFRx8
namespace Go.Proofs.Ytdoflfifnkpacaa.FR
open Go.RowKit Go.Proofs.YtdoflfifnkpacaaW.PrintWords Go.Proofs.YtdoflfifnkpacaaW.PrintLast Go.Proofs.YtdoflfifnkpacaaW.PrintMore
attribute [local go_sem] max2_int min2_int max_two min_two max_three min_three max_four min_four   -- for this text's walks alone
set_option linter.unusedVariables false
set_option linter.unusedSimpArgs false

/-! ### spec_l3Mul: function 67 -/
def spec_l3Mul.f (a0 : Int) (a1 : Int) : Option (Int × Int) := some (IntKind.u64.wrap ((IntKind.u64.wrap ((IntKind.u64.wrap ((a0 / 4294967296) * (a1 / 4294967296))) + ((IntKind.u64.wrap ((IntKind.u64.wrap ((Go.bits .and .u64 a0 4294967295) * (a1 / 4294967296))) + ((IntKind.u64.wrap ((Go.bits .and .u64 a0 4294967295) * (Go.bits .and .u64 a1 4294967295))) / 4294967296))) / 4294967296))) + ((IntKind.u64.wrap ((IntKind.u64.wrap ((a0 / 4294967296) * (Go.bits .and .u64 a1 4294967295))) + (Go.bits .and .u64 (IntKind.u64.wrap ((IntKind.u64.wrap ((Go.bits .and .u64 a0 4294967295) * (a1 / 4294967296))) + ((IntKind.u64.wrap ((Go.bits .and .u64 a0 4294967295) * (Go.bits .and .u64 a1 4294967295))) / 4294967296))) 4294967295))) / 4294967296)), Go.bits .or .u64 (IntKind.u64.wrap ((IntKind.u64.wrap ((IntKind.u64.wrap ((a0 / 4294967296) * (Go.bits .and .u64 a1 4294967295))) + (Go.bits .and .u64 (IntKind.u64.wrap ((IntKind.u64.wrap ((Go.bits .and .u64 a0 4294967295) * (a1 / 4294967296))) + ((IntKind.u64.wrap ((Go.bits .and .u64 a0 4294967295) * (Go.bits .and .u64 a1 4294967295))) / 4294967296))) 4294967295))) * 4294967296)) (Go.bits .and .u64 (IntKind.u64.wrap ((Go.bits .and .u64 a0 4294967295) * (Go.bits .and .u64 a1 4294967295))) 4294967295))
set_option maxHeartbeats 8000000 in
set_option maxRecDepth 100000 in
theorem spec_l3Mul.calls (a0 : Int) (a1 : Int) (r1 : Int) (r2 : Int) (w : World) (h : spec_l3Mul.f a0 a1 = some (r1, r2)) :
  Calls Try.prog 67 #[.int .u64 a0, .int .u64 a1] w fun e w' => e = .returned (.tuple #[.int .u64 r1, .int .u64 r2]) ∧ Drawn0 w w' := by
 have H : (some (IntKind.u64.wrap ((IntKind.u64.wrap ((IntKind.u64.wrap ((a0 / 4294967296) * (a1 / 4294967296))) + ((IntKind.u64.wrap ((IntKind.u64.wrap ((Go.bits .and .u64 a0 4294967295) * (a1 / 4294967296))) + ((IntKind.u64.wrap ((Go.bits .and .u64 a0 4294967295) * (Go.bits .and .u64 a1 4294967295))) / 4294967296))) / 4294967296))) + ((IntKind.u64.wrap ((IntKind.u64.wrap ((a0 / 4294967296) * (Go.bits .and .u64 a1 4294967295))) + (Go.bits .and .u64 (IntKind.u64.wrap ((IntKind.u64.wrap ((Go.bits .and .u64 a0 4294967295) * (a1 / 4294967296))) + ((IntKind.u64.wrap ((Go.bits .and .u64 a0 4294967295) * (Go.bits .and .u64 a1 4294967295))) / 4294967296))) 4294967295))) / 4294967296)), Go.bits .or .u64 (IntKind.u64.wrap ((IntKind.u64.wrap ((IntKind.u64.wrap ((a0 / 4294967296) * (Go.bits .and .u64 a1 4294967295))) + (Go.bits .and .u64 (IntKind.u64.wrap ((IntKind.u64.wrap ((Go.bits .and .u64 a0 4294967295) * (a1 / 4294967296))) + ((IntKind.u64.wrap ((Go.bits .and .u64 a0 4294967295) * (Go.bits .and .u64 a1 4294967295))) / 4294967296))) 4294967295))) * 4294967296)) (Go.bits .and .u64 (IntKind.u64.wrap ((Go.bits .and .u64 a0 4294967295) * (Go.bits .and .u64 a1 4294967295))) 4294967295))) = some (r1, r2) := h
 clear h
 simp only [Option.some.injEq, Prod.mk.injEq] at H
 obtain ⟨rfl, rfl⟩ := H
 go_enter Try.func67, Try.ntmps67
 go_wp2
 go_ret2
 exact ⟨by first | rfl | (simp; done) | (simp [*]; done), by repeat (first | exact Drawn0.refl _ | apply Drawn0.step)⟩

/-! ### spec_Mul128: function 15 -/
def spec_Mul128.f (a0 : Int) (a1 : Int) : Option (Int × Int) := (spec_l3Mul.f a0 a1).bind fun bt265 => (some (bt265.1, bt265.2))
set_option maxHeartbeats 8000000 in
set_option maxRecDepth 100000 in
theorem spec_Mul128.calls (a0 : Int) (a1 : Int) (r1 : Int) (r2 : Int) (w : World) (h : spec_Mul128.f a0 a1 = some (r1, r2)) :
  Calls Try.prog 15 #[.int .u64 a0, .int .u64 a1] w fun e w' => e = .returned (.tuple #[.int .u64 r1, .int .u64 r2]) ∧ Drawn0 w w' := by
 have H : ((spec_l3Mul.f a0 a1).bind fun bt265 => (some (bt265.1, bt265.2))) = some (r1, r2) := h
 clear h
 replace H := Option.bind_eq_some_iff.mp H
 obtain ⟨⟨t265, t266⟩, A30, H⟩ := H
 replace H : (some (t265, t266)) = some (r1, r2) := H
 have A3 := Aside0.mk A30
 clear A30
 simp only [Option.some.injEq, Prod.mk.injEq] at H
 obtain ⟨rfl, rfl⟩ := H
 go_enter Try.func15, Try.ntmps15
 go_wp2_with (first | ((with_reducible refine gate_callee (f := 67) rfl ?_); refine goesL_ (some 8) rfl rfl Try.func67 (by kernel_rfl) rfl #[.int .u64 a0, .int .u64 a1] rfl (by (try simp only [List.map_toArray, List.map_cons, List.map_nil]); first | done | rfl | (simp only [List.length_drop, List.length_take]; rfl)) ?_; (with_reducible refine (spec_l3Mul.calls a0 a1 t265 t266 _ A3.out).mono ?_); rintro e w' ⟨rfl, ⟨nd, rfl⟩⟩; refine ⟨_, rfl, ?_⟩))
 go_ret2
 exact ⟨by first | rfl | (simp; done) | (simp [*]; done), by repeat (first | exact Drawn0.refl _ | apply Drawn0.step)⟩

/-! ### laws_FnRoots: function 3 -/
mutual
def laws_FnRoots.j0 : Nat → Int → Int → Bool → Option (Bool)
 | 0, _, _, _ => none
 | k + 1, x5, x6, x50 => if x50 = true then (some true) else ((laws_exact.f x5).bind fun bt273 => ((laws_exact.f ((x5 + 1) % 4294967296)).bind fun bt275 => ((laws_exact.f ((x5 - 1) % 4294967296)).bind fun bt277 => (if bt273.2 = true then (if bt275.2 = true then (if bt277.2 = true then (laws_FnRoots.j1 k x6 bt273.1 bt275.1 bt277.1 (decide (bt273.1 ≤ 0))) else (laws_FnRoots.j1 k x6 bt273.1 bt275.1 bt277.1 true)) else (laws_FnRoots.j1 k x6 bt273.1 bt275.1 bt277.1 true)) else (laws_FnRoots.j1 k x6 bt273.1 bt275.1 bt277.1 true)))))
def laws_FnRoots.j1 : Nat → Int → Int → Int → Int → Bool → Option (Bool)
 | 0, _, _, _, _, _ => none
 | k + 1, x6, x8, x10, x12, x81 => if x81 = true then (some false) else ((spec_Mul128.f (IntKind.u64.wrap (x6)) 67108864).bind fun bt279 => ((spec_Mul128.f (IntKind.u64.wrap (wrap64 (x8 + x10))) (IntKind.u64.wrap (wrap64 (x8 + x10)))).bind fun bt281 => ((spec_Mul128.f (IntKind.u64.wrap (wrap64 (x8 + x12))) (IntKind.u64.wrap (wrap64 (x8 + x12)))).bind fun bt283 => (if bt279.1 < bt281.1 then (if bt279.1 > bt283.1 then (some true) else (if bt279.1 = bt283.1 then (some (decide (bt279.2 ≥ bt283.2))) else (some false))) else (if bt279.1 = bt281.1 then (if bt279.2 ≤ bt281.2 then (if bt279.1 > bt283.1 then (some true) else (if bt279.1 = bt283.1 then (some (decide (bt279.2 ≥ bt283.2))) else (some false))) else (some false)) else (some false))))))
end
def laws_FnRoots.f (k : Nat) (l0 : List Int) : Option (Bool) := if (l0.length : Int) > 1048576 then (some true) else ((spec_DrawFSqrt.f k l0).bind fun bt267 => ((impl_FSqrt.f k bt267.1 bt267.2).bind fun t269 => ((spec_FSqrt.f k bt267.1 bt267.2).bind fun t270 => (if t269 = t270 then ((laws_exact.f bt267.2).bind fun bt271 => (if bt267.1 = 16 then (if bt271.2 = true then (laws_FnRoots.j0 k t269 bt271.1 (decide (bt271.1 ≤ 0))) else (laws_FnRoots.j0 k t269 bt271.1 true)) else (laws_FnRoots.j0 k t269 bt271.1 true))) else (some false)))))
theorem laws_FnRoots.mono_l : ∀ k, (∀ y0 y1 y2, LeO (laws_FnRoots.j0 k y0 y1 y2) (laws_FnRoots.j0 (k + 1) y0 y1 y2)) ∧ (∀ y0 y1 y2 y3 y4, LeO (laws_FnRoots.j1 k y0 y1 y2 y3 y4) (laws_FnRoots.j1 (k + 1) y0 y1 y2 y3 y4))
 | 0 => ⟨fun _ _ _ r h => by simp [laws_FnRoots.j0] at h, fun _ _ _ _ _ r h => by simp [laws_FnRoots.j1] at h⟩
 | k + 1 => by
  obtain ⟨ih0, ih1⟩ := laws_FnRoots.mono_l k
  refine ⟨?_, ?_⟩
  ·intro y0 y1 y2
   unfold laws_FnRoots.j0
   repeat' first
   | (with_reducible exact ih0 _ _ _)
   | (with_reducible exact ih1 _ _ _ _ _)
   | (with_reducible exact impl_FSqrt.mono _ _ _)
   | (with_reducible exact spec_DrawFSqrt.mono _ _)
   | (with_reducible exact spec_FSqrt.mono _ _ _)
   | (with_reducible exact LeO.refl _)
   | (with_reducible exact LeO.none _)
   | (with_reducible refine LeO.ite ?_ ?_)
   | (with_reducible refine LeO.bind ?_ (fun _ => ?_))
   | exact ih0 _ _ _
   | exact ih1 _ _ _ _ _
   | exact impl_FSqrt.mono _ _ _
   | exact spec_DrawFSqrt.mono _ _
   | exact spec_FSqrt.mono _ _ _
   | exact LeO.none _
   | refine LeO.ite ?_ ?_
   | refine LeO.bind ?_ (fun _ => ?_)
  ·intro y0 y1 y2 y3 y4
   unfold laws_FnRoots.j1
   repeat' first
   | (with_reducible exact ih0 _ _ _)
   | (with_reducible exact ih1 _ _ _ _ _)
   | (with_reducible exact impl_FSqrt.mono _ _ _)
   | (with_reducible exact spec_DrawFSqrt.mono _ _)
   | (with_reducible exact spec_FSqrt.mono _ _ _)
   | (with_reducible exact LeO.refl _)
   | (with_reducible exact LeO.none _)
   | (with_reducible refine LeO.ite ?_ ?_)
   | (with_reducible refine LeO.bind ?_ (fun _ => ?_))
   | exact ih0 _ _ _
   | exact ih1 _ _ _ _ _
   | exact impl_FSqrt.mono _ _ _
   | exact spec_DrawFSqrt.mono _ _
   | exact spec_FSqrt.mono _ _ _
   | exact LeO.none _
   | refine LeO.ite ?_ ?_
   | refine LeO.bind ?_ (fun _ => ?_)
theorem laws_FnRoots.mono : ∀ a0 k, LeO (laws_FnRoots.f k a0) (laws_FnRoots.f (k + 1) a0) := by
 intro a0 k
 obtain ⟨ih0, ih1⟩ := laws_FnRoots.mono_l k
 unfold laws_FnRoots.f
 repeat' first
   | (with_reducible exact ih0 _ _ _)
   | (with_reducible exact ih1 _ _ _ _ _)
   | (with_reducible exact impl_FSqrt.mono _ _ _)
   | (with_reducible exact spec_DrawFSqrt.mono _ _)
   | (with_reducible exact spec_FSqrt.mono _ _ _)
   | (with_reducible exact LeO.refl _)
   | (with_reducible exact LeO.none _)
   | (with_reducible refine LeO.ite ?_ ?_)
   | (with_reducible refine LeO.bind ?_ (fun _ => ?_))
   | exact ih0 _ _ _
   | exact ih1 _ _ _ _ _
   | exact impl_FSqrt.mono _ _ _
   | exact spec_DrawFSqrt.mono _ _
   | exact spec_FSqrt.mono _ _ _
   | exact LeO.none _
   | refine LeO.ite ?_ ?_
   | refine LeO.bind ?_ (fun _ => ?_)
set_option maxHeartbeats 8000000 in
set_option maxRecDepth 100000 in
theorem laws_FnRoots.calls (k : Nat) (A0 : Option Addr) (c0 : Nat) (l0 : List Int) (w : World) (hr0 : Kd.C (Kd.int .u8) w A0 l0.length l0) (hc0 : l0.length ≤ c0) (h : laws_FnRoots.f k l0 = some true) :
  Calls Try.prog 3 #[.slice A0 l0.length c0] w fun e w' => e = .returned (.bool true) ∧ Below w.heap.size w w' := by
 have HR0 := Aside0.mk hr0
 have HC0 := Aside0.mk hc0
 clear hr0 hc0
 have HB := Aside0.mk (Below.refl w.heap.size w)
 have H : (if (l0.length : Int) > 1048576 then (some true) else ((spec_DrawFSqrt.f k l0).bind fun bt267 => ((impl_FSqrt.f k bt267.1 bt267.2).bind fun t269 => ((spec_FSqrt.f k bt267.1 bt267.2).bind fun t270 => (if t269 = t270 then ((laws_exact.f bt267.2).bind fun bt271 => (if bt267.1 = 16 then (if bt271.2 = true then (laws_FnRoots.j0 k t269 bt271.1 (decide (bt271.1 ≤ 0))) else (laws_FnRoots.j0 k t269 bt271.1 true)) else (laws_FnRoots.j0 k t269 bt271.1 true))) else (some false)))))) = some true := h
 clear h
 by_cases c2 : (l0.length : Int) > 1048576
 ·rw [if_pos c2] at H
  have c2b0 : decide (1048576 < (l0.length : Int)) = true := decide_eq_true c2
  have c2b1 : decide (1048576 < l0.length) = true := decide_eq_true (by omega)
  clear c2 H
  go_enter Try.func3, Try.ntmps3
  go_wp2
  go_ret
  exact ⟨by first | rfl | (simp [errW_none, errW_some] <;> rfl) | exact congrArg (fun b_ => Ending.returned (.bool b_)) HTR_.out | (simp [*, errW_none, errW_some] <;> rfl), by repeat (first | (with_reducible first | exact HB.out | apply eA | apply eN | apply eD) | exact HB.out)⟩
 ·rw [if_neg c2] at H
  have c2b0 : decide (1048576 < (l0.length : Int)) = false := decide_eq_false c2
  have c2b1 : decide (1048576 < l0.length) = false := decide_eq_false (by omega)
  clear c2
  replace H := Option.bind_eq_some_iff.mp H
  obtain ⟨⟨t267, t268⟩, A30, H⟩ := H
  replace H : ((impl_FSqrt.f k t267 t268).bind fun t269 => ((spec_FSqrt.f k t267 t268).bind fun t270 => (if t269 = t270 then ((laws_exact.f t268).bind fun bt271 => (if t267 = 16 then (if bt271.2 = true then (laws_FnRoots.j0 k t269 bt271.1 (decide (bt271.1 ≤ 0))) else (laws_FnRoots.j0 k t269 bt271.1 true)) else (laws_FnRoots.j0 k t269 bt271.1 true))) else (some false)))) = some true := H
  have A3 := Aside0.mk A30
  clear A30
  replace H := Option.bind_eq_some_iff.mp H
  obtain ⟨t269, A40, H⟩ := H
  replace H : ((spec_FSqrt.f k t267 t268).bind fun t270 => (if t269 = t270 then ((laws_exact.f t268).bind fun bt271 => (if t267 = 16 then (if bt271.2 = true then (laws_FnRoots.j0 k t269 bt271.1 (decide (bt271.1 ≤ 0))) else (laws_FnRoots.j0 k t269 bt271.1 true)) else (laws_FnRoots.j0 k t269 bt271.1 true))) else (some false))) = some true := H
  have A4 := Aside0.mk A40
  clear A40
  replace H := Option.bind_eq_some_iff.mp H
  obtain ⟨t270, A50, H⟩ := H
  replace H : (if t269 = t270 then ((laws_exact.f t268).bind fun bt271 => (if t267 = 16 then (if bt271.2 = true then (laws_FnRoots.j0 k t269 bt271.1 (decide (bt271.1 ≤ 0))) else (laws_FnRoots.j0 k t269 bt271.1 true)) else (laws_FnRoots.j0 k t269 bt271.1 true))) else (some false)) = some true := H
  have A5 := Aside0.mk A50
  clear A50
  by_cases c6 : t269 = t270
  ·rw [if_pos c6] at H
   have c6b0 : (t269 == t270) = true := beq_iff_eq.mpr c6
   have c6b1 : (t269 != t270) = false := bne_eq_false_iff_eq.mpr c6
   clear c6
   replace H := Option.bind_eq_some_iff.mp H
   obtain ⟨⟨t271, t272⟩, A70, H⟩ := H
   replace H : (if t267 = 16 then (if t272 = true then (laws_FnRoots.j0 k t269 t271 (decide (t271 ≤ 0))) else (laws_FnRoots.j0 k t269 t271 true)) else (laws_FnRoots.j0 k t269 t271 true)) = some true := H
   have A7 := Aside0.mk A70
   clear A70
   have HC8 := Aside0.mk H
   clear H
   go_enter Try.func3, Try.ntmps3
   go_upto_region 8 with (first | ((with_reducible refine gate_callee (f := 11) rfl ?_); refine goesL_ (some 25) rfl rfl Try.func11 (by kernel_rfl) rfl #[.slice A0 l0.length c0] rfl (by (try simp only [List.map_toArray, List.map_cons, List.map_nil]); first | done | rfl | (simp only [List.length_drop, List.length_take]; rfl)) ?_; (with_reducible refine (spec_DrawFSqrt.calls k _ _ l0 t267 t268 _ ?side1 ?side2 A3.out).mono ?_); (case side1 => repeat (first | exact HR0.out | (with_reducible refine Kd.C_alloc ?_ _) | (with_reducible refine Kd.C_drewN ?_ _) | (with_reducible refine Kd.C_drew ?_))); (case side2 => exact HC0.out); rintro e w9 ⟨rfl, hb⟩; refine ⟨_, rfl, ?_⟩; have n0_ := Aside0.mk (below_step (by repeat (first | (with_reducible first | exact HB.out | apply eA | apply eN | apply eD) | exact HB.out)) hb); clear HB; have HB := n0_; clear n0_; (try clear hb); (try clear hb2); (try clear hk); (try clear hi)) | ((with_reducible refine gate_callee (f := 12) rfl ?_); refine goesL_ (some 30) rfl rfl Try.func12 (by kernel_rfl) rfl #[.int .i64 t267, .int .u32 t268] rfl (by (try simp only [List.map_toArray, List.map_cons, List.map_nil]); first | done | rfl | (simp only [List.length_drop, List.length_take]; rfl)) ?_; (with_reducible refine (impl_FSqrt.calls k t267 t268 t269 _ A4.out).mono ?_); rintro e w10 ⟨rfl, hb⟩; refine ⟨_, rfl, ?_⟩; have n0_ := Aside0.mk (below_step (by repeat (first | (with_reducible first | exact HB.out | apply eA | apply eN | apply eD) | exact HB.out)) hb); clear HB; have HB := n0_; clear n0_; (try clear hb); (try clear hb2); (try clear hk); (try clear hi)) | ((with_reducible refine gate_callee (f := 13) rfl ?_); refine goesL_ (some 34) rfl rfl Try.func13 (by kernel_rfl) rfl #[.int .i64 t267, .int .u32 t268] rfl (by (try simp only [List.map_toArray, List.map_cons, List.map_nil]); first | done | rfl | (simp only [List.length_drop, List.length_take]; rfl)) ?_; (with_reducible refine (spec_FSqrt.calls k t267 t268 t270 _ A5.out).mono ?_); rintro e w11 ⟨rfl, hb⟩; refine ⟨_, rfl, ?_⟩; have n0_ := Aside0.mk (below_step (by repeat (first | (with_reducible first | exact HB.out | apply eA | apply eN | apply eD) | exact HB.out)) hb); clear HB; have HB := n0_; clear n0_; (try clear hb); (try clear hb2); (try clear hk); (try clear hi)) | ((with_reducible refine gate_callee (f := 14) rfl ?_); refine goesL_ (some 38) rfl rfl Try.func14 (by kernel_rfl) rfl #[.int .u32 t268] rfl (by (try simp only [List.map_toArray, List.map_cons, List.map_nil]); first | done | rfl | (simp only [List.length_drop, List.length_take]; rfl)) ?_; (with_reducible refine (laws_exact.calls t268 t271 t272 _ A7.out).mono ?_); rintro e w12 ⟨rfl, hb⟩; refine ⟨_, rfl, ?_⟩; have n0_ := Aside0.mk (below_step (by repeat (first | (with_reducible first | exact HB.out | apply eA | apply eN | apply eD) | exact HB.out)) hb); clear HB; have HB := n0_; clear n0_; (try clear hb); (try clear hb2); (try clear hk); (try clear hi)))
   (try simp only [Act.put, List.setIfInBounds_toArray, List.set_cons_zero, List.set_cons_succ])
   go_cut [50] (fun v50 wc => ∃ (kq : Nat) (x50_7 : Bool), v50 = .bool x50_7 ∧ Aside0 (laws_FnRoots.j0 kq t269 t271 x50_7 = some true) ∧ Aside0 (kq ≤ k) ∧ Aside0 (Below w.heap.size w wc))
   case first =>
    have H := HC8.out
    clear HC8
    by_cases c13 : t267 = 16
    ·rw [if_pos c13] at H
     have c13b0 : (t267 == 16) = true := beq_iff_eq.mpr c13
     have c13b1 : (t267 != 16) = false := bne_eq_false_iff_eq.mpr c13
     clear c13
     (first | rw [c13b0] | (simp only [i64_w, i32_w]; rw [c13b0]) | skip)
     by_cases c14 : t272 = true
     ·subst c14
      have H1 : (laws_FnRoots.j0 k t269 t271 (decide (t271 ≤ 0))) = some true := by rw [if_pos rfl] at H; first | done | exact H
      clear H
      have H := H1
      clear H1
      have H' := Aside0.mk H
      clear H
      go_wp2
      go_meet
      case rel => exact ⟨_, (decide (t271 ≤ 0)), (by first | rfl | (simp; done) | (simp [*]; done)), H', ⟨by first | omega | exact Nat.le_refl _⟩, ⟨by repeat (first | (with_reducible first | exact HB.out | apply eA | apply eN | apply eD) | exact HB.out)⟩⟩
     ·replace c14 := Bool.eq_false_iff.mpr c14
      subst c14
      have H1 : (laws_FnRoots.j0 k t269 t271 true) = some true := by rw [if_neg (show ¬ (false = true) by decide)] at H; first | done | exact H
      clear H
      have H := H1
      clear H1
      have H' := Aside0.mk H
      clear H
      go_wp2
      go_meet
      case rel => exact ⟨_, (true), (by first | rfl | (simp; done) | (simp [*]; done)), H', ⟨by first | omega | exact Nat.le_refl _⟩, ⟨by repeat (first | (with_reducible first | exact HB.out | apply eA | apply eN | apply eD) | exact HB.out)⟩⟩
    ·rw [if_neg c13] at H
     have c13b0 : (t267 == 16) = false := beq_eq_false_iff_ne.mpr c13
     have c13b1 : (t267 != 16) = true := bne_iff_ne.mpr c13
     (first | rw [c13b0] | (simp only [i64_w, i32_w]; rw [c13b0]) | skip)
     have H' := Aside0.mk H
     clear H
     go_wp2
     go_meet
     case rel => exact ⟨_, (true), (by first | rfl | (simp; done) | (simp [*]; done)), H', ⟨by first | omega | exact Nat.le_refl _⟩, ⟨by repeat (first | (with_reducible first | exact HB.out | apply eA | apply eN | apply eD) | exact HB.out)⟩⟩
   case rest =>
    clear HC8
    try clear c1
    try clear c2
    try clear c2b0
    try clear c2b1
    try clear p2
    try clear c3
    try clear c6
    try clear c6b0
    try clear c6b1
    try clear c11
    try clear c12
    try clear c13
    try clear c13b0
    try clear c13b1
    try clear c14
    obtain ⟨kq, x50_7, rfl, HA, HJ7, HB⟩ := hcut
    cases kq with
    | zero => exact absurd HA.out (by simp [laws_FnRoots.j0])
    | succ kj7 =>
     have H := HA.out
     clear HA
     simp only [laws_FnRoots.j0] at H
     by_cases c15 : x50_7 = true
     ·subst c15
      have H1 : (some true) = some true := by rw [if_pos rfl] at H; first | done | exact H
      clear H
      have H := H1
      clear H1 H
      go_wp2
      go_ret
      exact ⟨by first | rfl | (simp [errW_none, errW_some] <;> rfl) | exact congrArg (fun b_ => Ending.returned (.bool b_)) HTR_.out | (simp [*, errW_none, errW_some] <;> rfl), by repeat (first | (with_reducible first | exact HB.out | apply eA | apply eN | apply eD) | exact HB.out)⟩
     ·replace c15 := Bool.eq_false_iff.mpr c15
      subst c15
      have H1 : ((laws_exact.f t269).bind fun bt273 => ((laws_exact.f ((t269 + 1) % 4294967296)).bind fun bt275 => ((laws_exact.f ((t269 - 1) % 4294967296)).bind fun bt277 => (if bt273.2 = true then (if bt275.2 = true then (if bt277.2 = true then (laws_FnRoots.j1 kj7 t271 bt273.1 bt275.1 bt277.1 (decide (bt273.1 ≤ 0))) else (laws_FnRoots.j1 kj7 t271 bt273.1 bt275.1 bt277.1 true)) else (laws_FnRoots.j1 kj7 t271 bt273.1 bt275.1 bt277.1 true)) else (laws_FnRoots.j1 kj7 t271 bt273.1 bt275.1 bt277.1 true))))) = some true := by rw [if_neg (show ¬ (false = true) by decide)] at H; first | done | exact H
      clear H
      have H := H1
      clear H1
      replace H := Option.bind_eq_some_iff.mp H
      obtain ⟨⟨t273, t274⟩, A160, H⟩ := H
      replace H : ((laws_exact.f ((t269 + 1) % 4294967296)).bind fun bt275 => ((laws_exact.f ((t269 - 1) % 4294967296)).bind fun bt277 => (if t274 = true then (if bt275.2 = true then (if bt277.2 = true then (laws_FnRoots.j1 kj7 t271 t273 bt275.1 bt277.1 (decide (t273 ≤ 0))) else (laws_FnRoots.j1 kj7 t271 t273 bt275.1 bt277.1 true)) else (laws_FnRoots.j1 kj7 t271 t273 bt275.1 bt277.1 true)) else (laws_FnRoots.j1 kj7 t271 t273 bt275.1 bt277.1 true)))) = some true := H
      have A16 := Aside0.mk A160
      clear A160
      replace H := Option.bind_eq_some_iff.mp H
      obtain ⟨⟨t275, t276⟩, A170, H⟩ := H
      replace H : ((laws_exact.f ((t269 - 1) % 4294967296)).bind fun bt277 => (if t274 = true then (if t276 = true then (if bt277.2 = true then (laws_FnRoots.j1 kj7 t271 t273 t275 bt277.1 (decide (t273 ≤ 0))) else (laws_FnRoots.j1 kj7 t271 t273 t275 bt277.1 true)) else (laws_FnRoots.j1 kj7 t271 t273 t275 bt277.1 true)) else (laws_FnRoots.j1 kj7 t271 t273 t275 bt277.1 true))) = some true := H
      have A17 := Aside0.mk A170
      clear A170
      replace H := Option.bind_eq_some_iff.mp H
      obtain ⟨⟨t277, t278⟩, A180, H⟩ := H
      replace H : (if t274 = true then (if t276 = true then (if t278 = true then (laws_FnRoots.j1 kj7 t271 t273 t275 t277 (decide (t273 ≤ 0))) else (laws_FnRoots.j1 kj7 t271 t273 t275 t277 true)) else (laws_FnRoots.j1 kj7 t271 t273 t275 t277 true)) else (laws_FnRoots.j1 kj7 t271 t273 t275 t277 true)) = some true := H
      have A18 := Aside0.mk A180
      clear A180
      have HC19 := Aside0.mk H
      clear H
      go_upto_region 13 with (first | ((with_reducible refine gate_callee (f := 14) rfl ?_); refine goesL_ (some 53) rfl rfl Try.func14 (by kernel_rfl) rfl #[.int .u32 t269] rfl (by (try simp only [List.map_toArray, List.map_cons, List.map_nil]); first | done | rfl | (simp only [List.length_drop, List.length_take]; rfl)) ?_; (with_reducible refine (laws_exact.calls t269 t273 t274 _ A16.out).mono ?_); rintro e w20 ⟨rfl, hb⟩; refine ⟨_, rfl, ?_⟩; have n0_ := Aside0.mk (below_step (by repeat (first | (with_reducible first | exact HB.out | apply eA | apply eN | apply eD) | exact HB.out)) hb); clear HB; have HB := n0_; clear n0_; (try clear hb); (try clear hb2); (try clear hk); (try clear hi)) | ((with_reducible refine gate_callee (f := 14) rfl ?_); refine goesL_ (some 59) rfl rfl Try.func14 (by kernel_rfl) rfl #[.int .u32 ((t269 + 1) % 4294967296)] rfl (by (try simp only [List.map_toArray, List.map_cons, List.map_nil]); first | done | rfl | (simp only [List.length_drop, List.length_take]; rfl)) ?_; (with_reducible refine (laws_exact.calls ((t269 + 1) % 4294967296) t275 t276 _ A17.out).mono ?_); rintro e w21 ⟨rfl, hb⟩; refine ⟨_, rfl, ?_⟩; have n0_ := Aside0.mk (below_step (by repeat (first | (with_reducible first | exact HB.out | apply eA | apply eN | apply eD) | exact HB.out)) hb); clear HB; have HB := n0_; clear n0_; (try clear hb); (try clear hb2); (try clear hk); (try clear hi)) | ((with_reducible refine gate_callee (f := 14) rfl ?_); refine goesL_ (some 65) rfl rfl Try.func14 (by kernel_rfl) rfl #[.int .u32 ((t269 - 1) % 4294967296)] rfl (by (try simp only [List.map_toArray, List.map_cons, List.map_nil]); first | done | rfl | (simp only [List.length_drop, List.length_take]; rfl)) ?_; (with_reducible refine (laws_exact.calls ((t269 - 1) % 4294967296) t277 t278 _ A18.out).mono ?_); rintro e w22 ⟨rfl, hb⟩; refine ⟨_, rfl, ?_⟩; have n0_ := Aside0.mk (below_step (by repeat (first | (with_reducible first | exact HB.out | apply eA | apply eN | apply eD) | exact HB.out)) hb); clear HB; have HB := n0_; clear n0_; (try clear hb); (try clear hb2); (try clear hk); (try clear hi)))
      (try simp only [Act.put, List.setIfInBounds_toArray, List.set_cons_zero, List.set_cons_succ])
      go_cut [81] (fun v81 wc => ∃ (kq : Nat) (x81_18 : Bool), v81 = .bool x81_18 ∧ Aside0 (laws_FnRoots.j1 kq t271 t273 t275 t277 x81_18 = some true) ∧ Aside0 (kq ≤ kj7) ∧ Aside0 (Below w.heap.size w wc))
      case first =>
       have H := HC19.out
       clear HC19
       by_cases c23 : t274 = true
       ·subst c23
        have H1 : (if t276 = true then (if t278 = true then (laws_FnRoots.j1 kj7 t271 t273 t275 t277 (decide (t273 ≤ 0))) else (laws_FnRoots.j1 kj7 t271 t273 t275 t277 true)) else (laws_FnRoots.j1 kj7 t271 t273 t275 t277 true)) = some true := by rw [if_pos rfl] at H; first | done | exact H
        clear H
        have H := H1
        clear H1
        by_cases c24 : t276 = true
        ·subst c24
         have H1 : (if t278 = true then (laws_FnRoots.j1 kj7 t271 t273 t275 t277 (decide (t273 ≤ 0))) else (laws_FnRoots.j1 kj7 t271 t273 t275 t277 true)) = some true := by rw [if_pos rfl] at H; first | done | exact H
         clear H
         have H := H1
         clear H1
         by_cases c25 : t278 = true
         ·subst c25
          have H1 : (laws_FnRoots.j1 kj7 t271 t273 t275 t277 (decide (t273 ≤ 0))) = some true := by rw [if_pos rfl] at H; first | done | exact H
          clear H
          have H := H1
          clear H1
          have H' := Aside0.mk H
          clear H
          go_wp2
          go_meet
          case rel => exact ⟨_, (decide (t273 ≤ 0)), (by first | rfl | (simp; done) | (simp [*]; done)), H', ⟨by have := HJ7.out; first | omega | exact Nat.le_refl _⟩, ⟨by repeat (first | (with_reducible first | exact HB.out | apply eA | apply eN | apply eD) | exact HB.out)⟩⟩
         ·replace c25 := Bool.eq_false_iff.mpr c25
          subst c25
          have H1 : (laws_FnRoots.j1 kj7 t271 t273 t275 t277 true) = some true := by rw [if_neg (show ¬ (false = true) by decide)] at H; first | done | exact H
          clear H
          have H := H1
          clear H1
          have H' := Aside0.mk H
          clear H
          go_wp2
          go_meet
          case rel => exact ⟨_, (true), (by first | rfl | (simp; done) | (simp [*]; done)), H', ⟨by have := HJ7.out; first | omega | exact Nat.le_refl _⟩, ⟨by repeat (first | (with_reducible first | exact HB.out | apply eA | apply eN | apply eD) | exact HB.out)⟩⟩
        ·replace c24 := Bool.eq_false_iff.mpr c24
         subst c24
         have H1 : (laws_FnRoots.j1 kj7 t271 t273 t275 t277 true) = some true := by rw [if_neg (show ¬ (false = true) by decide)] at H; first | done | exact H
         clear H
         have H := H1
         clear H1
         have H' := Aside0.mk H
         clear H
         go_wp2
         go_meet
         case rel => exact ⟨_, (true), (by first | rfl | (simp; done) | (simp [*]; done)), H', ⟨by have := HJ7.out; first | omega | exact Nat.le_refl _⟩, ⟨by repeat (first | (with_reducible first | exact HB.out | apply eA | apply eN | apply eD) | exact HB.out)⟩⟩
       ·replace c23 := Bool.eq_false_iff.mpr c23
        subst c23
        have H1 : (laws_FnRoots.j1 kj7 t271 t273 t275 t277 true) = some true := by rw [if_neg (show ¬ (false = true) by decide)] at H; first | done | exact H
        clear H
        have H := H1
        clear H1
        have H' := Aside0.mk H
        clear H
        go_wp2
        go_meet
        case rel => exact ⟨_, (true), (by first | rfl | (simp; done) | (simp [*]; done)), H', ⟨by have := HJ7.out; first | omega | exact Nat.le_refl _⟩, ⟨by repeat (first | (with_reducible first | exact HB.out | apply eA | apply eN | apply eD) | exact HB.out)⟩⟩
      case rest =>
       clear HC19
       try clear c1
       try clear c2
       try clear c2b0
       try clear c2b1
       try clear p2
       try clear c3
       try clear c6
       try clear c6b0
       try clear c6b1
       try clear c11
       try clear c12
       try clear c13
       try clear c13b0
       try clear c13b1
       try clear c14
       try clear c15
       try clear c23
       try clear c24
       try clear c25
       try clear p2
       obtain ⟨kq, x81_18, rfl, HA, HJ18, HB⟩ := hcut
       cases kq with
       | zero => exact absurd HA.out (by simp [laws_FnRoots.j1])
       | succ kj18 =>
        have H := HA.out
        clear HA
        simp only [laws_FnRoots.j1] at H
        by_cases c26 : x81_18 = true
        ·subst c26
         have H1 : (some false) = some true := by rw [if_pos rfl] at H; first | done | exact H
         clear H
         have H := H1
         clear H1
         exact absurd H (by simp)
        ·replace c26 := Bool.eq_false_iff.mpr c26
         subst c26
         have H1 : ((spec_Mul128.f (IntKind.u64.wrap (t271)) 67108864).bind fun bt279 => ((spec_Mul128.f (IntKind.u64.wrap (wrap64 (t273 + t275))) (IntKind.u64.wrap (wrap64 (t273 + t275)))).bind fun bt281 => ((spec_Mul128.f (IntKind.u64.wrap (wrap64 (t273 + t277))) (IntKind.u64.wrap (wrap64 (t273 + t277)))).bind fun bt283 => (if bt279.1 < bt281.1 then (if bt279.1 > bt283.1 then (some true) else (if bt279.1 = bt283.1 then (some (decide (bt279.2 ≥ bt283.2))) else (some false))) else (if bt279.1 = bt281.1 then (if bt279.2 ≤ bt281.2 then (if bt279.1 > bt283.1 then (some true) else (if bt279.1 = bt283.1 then (some (decide (bt279.2 ≥ bt283.2))) else (some false))) else (some false)) else (some false)))))) = some true := by rw [if_neg (show ¬ (false = true) by decide)] at H; first | done | exact H
         clear H
         have H := H1
         clear H1
         replace H := Option.bind_eq_some_iff.mp H
         obtain ⟨⟨t279, t280⟩, A270, H⟩ := H
         replace H : ((spec_Mul128.f (IntKind.u64.wrap (wrap64 (t273 + t275))) (IntKind.u64.wrap (wrap64 (t273 + t275)))).bind fun bt281 => ((spec_Mul128.f (IntKind.u64.wrap (wrap64 (t273 + t277))) (IntKind.u64.wrap (wrap64 (t273 + t277)))).bind fun bt283 => (if t279 < bt281.1 then (if t279 > bt283.1 then (some true) else (if t279 = bt283.1 then (some (decide (t280 ≥ bt283.2))) else (some false))) else (if t279 = bt281.1 then (if t280 ≤ bt281.2 then (if t279 > bt283.1 then (some true) else (if t279 = bt283.1 then (some (decide (t280 ≥ bt283.2))) else (some false))) else (some false)) else (some false))))) = some true := H
         have A27 := Aside0.mk A270
         clear A270
         replace H := Option.bind_eq_some_iff.mp H
         obtain ⟨⟨t281, t282⟩, A280, H⟩ := H
         replace H : ((spec_Mul128.f (IntKind.u64.wrap (wrap64 (t273 + t277))) (IntKind.u64.wrap (wrap64 (t273 + t277)))).bind fun bt283 => (if t279 < t281 then (if t279 > bt283.1 then (some true) else (if t279 = bt283.1 then (some (decide (t280 ≥ bt283.2))) else (some false))) else (if t279 = t281 then (if t280 ≤ t282 then (if t279 > bt283.1 then (some true) else (if t279 = bt283.1 then (some (decide (t280 ≥ bt283.2))) else (some false))) else (some false)) else (some false)))) = some true := H
         have A28 := Aside0.mk A280
         clear A280
         replace H := Option.bind_eq_some_iff.mp H
         obtain ⟨⟨t283, t284⟩, A290, H⟩ := H
         replace H : (if t279 < t281 then (if t279 > t283 then (some true) else (if t279 = t283 then (some (decide (t280 ≥ t284))) else (some false))) else (if t279 = t281 then (if t280 ≤ t282 then (if t279 > t283 then (some true) else (if t279 = t283 then (some (decide (t280 ≥ t284))) else (some false))) else (some false)) else (some false))) = some true := H
         have A29 := Aside0.mk A290
         clear A290
         by_cases c30 : t279 < t281
         ·rw [if_pos c30] at H
          have c30b0 : decide (t279 < t281) = true := decide_eq_true c30
          clear c30
          by_cases c31 : t279 > t283
          ·rw [if_pos c31] at H
           have c31b0 : decide (t283 < t279) = true := decide_eq_true c31
           clear c31 H
           go_wp2_with (first | ((with_reducible refine gate_callee (f := 15) rfl ?_); refine goesL_ (some 85) rfl rfl Try.func15 (by kernel_rfl) rfl #[.int .u64 (IntKind.u64.wrap (t271)), .int .u64 67108864] rfl (by (try simp only [List.map_toArray, List.map_cons, List.map_nil]); first | done | rfl | (simp only [List.length_drop, List.length_take]; rfl)) ?_; (with_reducible refine (spec_Mul128.calls (IntKind.u64.wrap (t271)) 67108864 t279 t280 _ A27.out).mono ?_); rintro e w' ⟨rfl, ⟨nd, rfl⟩⟩; refine ⟨_, rfl, ?_⟩) | ((with_reducible refine gate_callee (f := 15) rfl ?_); refine goesL_ (some 97) rfl rfl Try.func15 (by kernel_rfl) rfl #[.int .u64 (IntKind.u64.wrap (wrap64 (t273 + t275))), .int .u64 (IntKind.u64.wrap (wrap64 (t273 + t275)))] rfl (by (try simp only [List.map_toArray, List.map_cons, List.map_nil]); first | done | rfl | (simp only [List.length_drop, List.length_take]; rfl)) ?_; (with_reducible refine (spec_Mul128.calls (IntKind.u64.wrap (wrap64 (t273 + t275))) (IntKind.u64.wrap (wrap64 (t273 + t275))) t281 t282 _ A28.out).mono ?_); rintro e w' ⟨rfl, ⟨nd, rfl⟩⟩; refine ⟨_, rfl, ?_⟩) | ((with_reducible refine gate_callee (f := 15) rfl ?_); refine goesL_ (some 109) rfl rfl Try.func15 (by kernel_rfl) rfl #[.int .u64 (IntKind.u64.wrap (wrap64 (t273 + t277))), .int .u64 (IntKind.u64.wrap (wrap64 (t273 + t277)))] rfl (by (try simp only [List.map_toArray, List.map_cons, List.map_nil]); first | done | rfl | (simp only [List.length_drop, List.length_take]; rfl)) ?_; (with_reducible refine (spec_Mul128.calls (IntKind.u64.wrap (wrap64 (t273 + t277))) (IntKind.u64.wrap (wrap64 (t273 + t277))) t283 t284 _ A29.out).mono ?_); rintro e w' ⟨rfl, ⟨nd, rfl⟩⟩; refine ⟨_, rfl, ?_⟩))
           go_ret
           exact ⟨by first | rfl | (simp [errW_none, errW_some] <;> rfl) | exact congrArg (fun b_ => Ending.returned (.bool b_)) HTR_.out | (simp [*, errW_none, errW_some] <;> rfl), by repeat (first | (with_reducible first | exact HB.out | apply eA | apply eN | apply eD) | exact HB.out)⟩
          ·rw [if_neg c31] at H
           have c31b0 : decide (t283 < t279) = false := decide_eq_false c31
           clear c31
           by_cases c32 : t279 = t283
           ·rw [if_pos c32] at H
            have c32b0 : (t279 == t283) = true := beq_iff_eq.mpr c32
            have c32b1 : (t279 != t283) = false := bne_eq_false_iff_eq.mpr c32
            clear c32
            have HTR_ := Option.some.inj H
            clear H
            have HTR_ := Aside0.mk HTR_
            go_wp2_with (first | ((with_reducible refine gate_callee (f := 15) rfl ?_); refine goesL_ (some 85) rfl rfl Try.func15 (by kernel_rfl) rfl #[.int .u64 (IntKind.u64.wrap (t271)), .int .u64 67108864] rfl (by (try simp only [List.map_toArray, List.map_cons, List.map_nil]); first | done | rfl | (simp only [List.length_drop, List.length_take]; rfl)) ?_; (with_reducible refine (spec_Mul128.calls (IntKind.u64.wrap (t271)) 67108864 t279 t280 _ A27.out).mono ?_); rintro e w' ⟨rfl, ⟨nd, rfl⟩⟩; refine ⟨_, rfl, ?_⟩) | ((with_reducible refine gate_callee (f := 15) rfl ?_); refine goesL_ (some 97) rfl rfl Try.func15 (by kernel_rfl) rfl #[.int .u64 (IntKind.u64.wrap (wrap64 (t273 + t275))), .int .u64 (IntKind.u64.wrap (wrap64 (t273 + t275)))] rfl (by (try simp only [List.map_toArray, List.map_cons, List.map_nil]); first | done | rfl | (simp only [List.length_drop, List.length_take]; rfl)) ?_; (with_reducible refine (spec_Mul128.calls (IntKind.u64.wrap (wrap64 (t273 + t275))) (IntKind.u64.wrap (wrap64 (t273 + t275))) t281 t282 _ A28.out).mono ?_); rintro e w' ⟨rfl, ⟨nd, rfl⟩⟩; refine ⟨_, rfl, ?_⟩) | ((with_reducible refine gate_callee (f := 15) rfl ?_); refine goesL_ (some 109) rfl rfl Try.func15 (by kernel_rfl) rfl #[.int .u64 (IntKind.u64.wrap (wrap64 (t273 + t277))), .int .u64 (IntKind.u64.wrap (wrap64 (t273 + t277)))] rfl (by (try simp only [List.map_toArray, List.map_cons, List.map_nil]); first | done | rfl | (simp only [List.length_drop, List.length_take]; rfl)) ?_; (with_reducible refine (spec_Mul128.calls (IntKind.u64.wrap (wrap64 (t273 + t277))) (IntKind.u64.wrap (wrap64 (t273 + t277))) t283 t284 _ A29.out).mono ?_); rintro e w' ⟨rfl, ⟨nd, rfl⟩⟩; refine ⟨_, rfl, ?_⟩))
            go_ret
            exact ⟨by first | rfl | (simp [errW_none, errW_some] <;> rfl) | exact congrArg (fun b_ => Ending.returned (.bool b_)) HTR_.out | (simp [*, errW_none, errW_some] <;> rfl), by repeat (first | (with_reducible first | exact HB.out | apply eA | apply eN | apply eD) | exact HB.out)⟩
           ·rw [if_neg c32] at H
            have c32b0 : (t279 == t283) = false := beq_eq_false_iff_ne.mpr c32
            have c32b1 : (t279 != t283) = true := bne_iff_ne.mpr c32
            exact absurd H (by simp)
         ·rw [if_neg c30] at H
          have c30b0 : decide (t279 < t281) = false := decide_eq_false c30
          clear c30
          by_cases c33 : t279 = t281
          ·rw [if_pos c33] at H
           have c33b0 : (t279 == t281) = true := beq_iff_eq.mpr c33
           have c33b1 : (t279 != t281) = false := bne_eq_false_iff_eq.mpr c33
           clear c33
           by_cases c34 : t280 ≤ t282
           ·rw [if_pos c34] at H
            have c34b0 : decide (t280 ≤ t282) = true := decide_eq_true c34
            clear c34
            by_cases c35 : t279 > t283
            ·rw [if_pos c35] at H
             have c35b0 : decide (t283 < t279) = true := decide_eq_true c35
             clear c35 H
             go_wp2_with (first | ((with_reducible refine gate_callee (f := 15) rfl ?_); refine goesL_ (some 85) rfl rfl Try.func15 (by kernel_rfl) rfl #[.int .u64 (IntKind.u64.wrap (t271)), .int .u64 67108864] rfl (by (try simp only [List.map_toArray, List.map_cons, List.map_nil]); first | done | rfl | (simp only [List.length_drop, List.length_take]; rfl)) ?_; (with_reducible refine (spec_Mul128.calls (IntKind.u64.wrap (t271)) 67108864 t279 t280 _ A27.out).mono ?_); rintro e w' ⟨rfl, ⟨nd, rfl⟩⟩; refine ⟨_, rfl, ?_⟩) | ((with_reducible refine gate_callee (f := 15) rfl ?_); refine goesL_ (some 97) rfl rfl Try.func15 (by kernel_rfl) rfl #[.int .u64 (IntKind.u64.wrap (wrap64 (t273 + t275))), .int .u64 (IntKind.u64.wrap (wrap64 (t273 + t275)))] rfl (by (try simp only [List.map_toArray, List.map_cons, List.map_nil]); first | done | rfl | (simp only [List.length_drop, List.length_take]; rfl)) ?_; (with_reducible refine (spec_Mul128.calls (IntKind.u64.wrap (wrap64 (t273 + t275))) (IntKind.u64.wrap (wrap64 (t273 + t275))) t281 t282 _ A28.out).mono ?_); rintro e w' ⟨rfl, ⟨nd, rfl⟩⟩; refine ⟨_, rfl, ?_⟩) | ((with_reducible refine gate_callee (f := 15) rfl ?_); refine goesL_ (some 109) rfl rfl Try.func15 (by kernel_rfl) rfl #[.int .u64 (IntKind.u64.wrap (wrap64 (t273 + t277))), .int .u64 (IntKind.u64.wrap (wrap64 (t273 + t277)))] rfl (by (try simp only [List.map_toArray, List.map_cons, List.map_nil]); first | done | rfl | (simp only [List.length_drop, List.length_take]; rfl)) ?_; (with_reducible refine (spec_Mul128.calls (IntKind.u64.wrap (wrap64 (t273 + t277))) (IntKind.u64.wrap (wrap64 (t273 + t277))) t283 t284 _ A29.out).mono ?_); rintro e w' ⟨rfl, ⟨nd, rfl⟩⟩; refine ⟨_, rfl, ?_⟩))
             go_ret
             exact ⟨by first | rfl | (simp [errW_none, errW_some] <;> rfl) | exact congrArg (fun b_ => Ending.returned (.bool b_)) HTR_.out | (simp [*, errW_none, errW_some] <;> rfl), by repeat (first | (with_reducible first | exact HB.out | apply eA | apply eN | apply eD) | exact HB.out)⟩
            ·rw [if_neg c35] at H
             have c35b0 : decide (t283 < t279) = false := decide_eq_false c35
             clear c35
             by_cases c36 : t279 = t283
             ·rw [if_pos c36] at H
              have c36b0 : (t279 == t283) = true := beq_iff_eq.mpr c36
              have c36b1 : (t279 != t283) = false := bne_eq_false_iff_eq.mpr c36
              clear c36
              have HTR_ := Option.some.inj H
              clear H
              have HTR_ := Aside0.mk HTR_
              go_wp2_with (first | ((with_reducible refine gate_callee (f := 15) rfl ?_); refine goesL_ (some 85) rfl rfl Try.func15 (by kernel_rfl) rfl #[.int .u64 (IntKind.u64.wrap (t271)), .int .u64 67108864] rfl (by (try simp only [List.map_toArray, List.map_cons, List.map_nil]); first | done | rfl | (simp only [List.length_drop, List.length_take]; rfl)) ?_; (with_reducible refine (spec_Mul128.calls (IntKind.u64.wrap (t271)) 67108864 t279 t280 _ A27.out).mono ?_); rintro e w' ⟨rfl, ⟨nd, rfl⟩⟩; refine ⟨_, rfl, ?_⟩) | ((with_reducible refine gate_callee (f := 15) rfl ?_); refine goesL_ (some 97) rfl rfl Try.func15 (by kernel_rfl) rfl #[.int .u64 (IntKind.u64.wrap (wrap64 (t273 + t275))), .int .u64 (IntKind.u64.wrap (wrap64 (t273 + t275)))] rfl (by (try simp only [List.map_toArray, List.map_cons, List.map_nil]); first | done | rfl | (simp only [List.length_drop, List.length_take]; rfl)) ?_; (with_reducible refine (spec_Mul128.calls (IntKind.u64.wrap (wrap64 (t273 + t275))) (IntKind.u64.wrap (wrap64 (t273 + t275))) t281 t282 _ A28.out).mono ?_); rintro e w' ⟨rfl, ⟨nd, rfl⟩⟩; refine ⟨_, rfl, ?_⟩) | ((with_reducible refine gate_callee (f := 15) rfl ?_); refine goesL_ (some 109) rfl rfl Try.func15 (by kernel_rfl) rfl #[.int .u64 (IntKind.u64.wrap (wrap64 (t273 + t277))), .int .u64 (IntKind.u64.wrap (wrap64 (t273 + t277)))] rfl (by (try simp only [List.map_toArray, List.map_cons, List.map_nil]); first | done | rfl | (simp only [List.length_drop, List.length_take]; rfl)) ?_; (with_reducible refine (spec_Mul128.calls (IntKind.u64.wrap (wrap64 (t273 + t277))) (IntKind.u64.wrap (wrap64 (t273 + t277))) t283 t284 _ A29.out).mono ?_); rintro e w' ⟨rfl, ⟨nd, rfl⟩⟩; refine ⟨_, rfl, ?_⟩))
              go_ret
              exact ⟨by first | rfl | (simp [errW_none, errW_some] <;> rfl) | exact congrArg (fun b_ => Ending.returned (.bool b_)) HTR_.out | (simp [*, errW_none, errW_some] <;> rfl), by repeat (first | (with_reducible first | exact HB.out | apply eA | apply eN | apply eD) | exact HB.out)⟩
             ·rw [if_neg c36] at H
              have c36b0 : (t279 == t283) = false := beq_eq_false_iff_ne.mpr c36
              have c36b1 : (t279 != t283) = true := bne_iff_ne.mpr c36
              exact absurd H (by simp)
           ·rw [if_neg c34] at H
            have c34b0 : decide (t280 ≤ t282) = false := decide_eq_false c34
            clear c34
            exact absurd H (by simp)
          ·rw [if_neg c33] at H
           have c33b0 : (t279 == t281) = false := beq_eq_false_iff_ne.mpr c33
           have c33b1 : (t279 != t281) = true := bne_iff_ne.mpr c33
           exact absurd H (by simp)
  ·rw [if_neg c6] at H
   have c6b0 : (t269 == t270) = false := beq_eq_false_iff_ne.mpr c6
   have c6b1 : (t269 != t270) = true := bne_iff_ne.mpr c6
   exact absurd H (by simp)

/-- THE ONE PURE STATEMENT of laws_FnRoots: yours. -/
def laws_FnRoots.Pure : Prop := ∀ (l0 : List Int), l0.length ≤ maxLen → l0.length * 1 ≤ 140737488351232 → (∀ x ∈ l0, (Lit.int .u8 x).wf = true) → ∃ k, laws_FnRoots.f k l0 = some true
theorem laws_FnRoots.walk (P : laws_FnRoots.Pure) (a0 : Option Addr) (len0 cap0 : Nat) (z0 : List Int) (w : World) (w0 : (a0 = none ∧ len0 = 0 ∧ cap0 = 0 ∧ z0 = []) ∨ ∃ x, a0 = some x ∧ len0 ≤ cap0 ∧ cap0 ≤ maxLen ∧ z0.length = cap0 ∧ (∀ i, i < z0.length → w.cell? (x.add i) = some (.int .u8 (z0.getD i 0))) ∧ ∀ n ∈ z0, (Lit.int .u8 n).wf = true) (y0 : len0 * 1 ≤ 140737488351232) :
  Calls Try.prog 3 #[.slice a0 len0 cap0] w fun e w' => e = .returned (.bool true) ∧ Below w.heap.size w w' := by
 obtain ⟨l0, rfl, hr0, hm0, hw0, hc0⟩ := ReadsInt.ofRowC w0
 obtain ⟨k, h⟩ := P l0 hm0 y0 hw0
 exact laws_FnRoots.calls k _ _ l0 w (Kd.C_of_reads (d := (0 : Int)) (h1 := fun _ => rfl) hr0) hc0 h

end Go.Proofs.Ytdoflfifnkpacaa.FR
