import Derived.Test.YtoomeeoijbkmnaaC12Lw
import Derived.Test.YtoomeeoijbkmnaaC12EvDrop
import Derived.Lib.Hide
import Derived.Deep.QuietTactic
import Derived.BigQuiet
import Derived.WalkSpells
import Derived.WalkLawsBesides
import Derived.StillTailTactics
namespace Go.Proofs.Ytoomeeoijbkmnaa.PH
open Go.RowKit Go.Proofs.YtoomeeoijbkmnaaW.PrintWords Go.Proofs.YtoomeeoijbkmnaaW.PrintLast Go.Proofs.YtoomeeoijbkmnaaW.PrintMore
set_option linter.unusedVariables false
set_option linter.unusedSimpArgs false
set_option maxHeartbeats 8000000 in
set_option maxRecDepth 100000 in
theorem walk_MoveHandle (w : World) (A0 A1 : Option Addr) (c0 c1 : Nat) (S : List S60) (F : List Int) (a1 a2 : Int) (hr0 : Kd.C k60 w A0 S.length S) (hc0 : S.length ≤ c0) (hr1 : Kd.C (Kd.int .i64) w A1 F.length F) (hc1 : F.length ≤ c1)
    (t : Int) (hsz : laws_szTable.f S F 1048576 = some t) (ht : ¬ t < 0) (M : List S46) (R1 : List S46) (R2 : List Int) (b0 : Bool) (b1 b2 : Int) (b3 : Bool) (b4 b5 code : Int) (n1 n2 : Int) (X1 X2 : List S46) (Y1 Y2 : List Int) (k : Nat)
    (hto : laws_toTable.f k S F = some (M, F)) (hsp : spec_MoveHandle.f k M F a1 a2 = some (R1, R2, b0, b1, b2, b3, b4, b5, code)) (him : impl_MoveHandle.f k M F a1 a2 = some (R1, R2, b0, b1, b2, b3, b4, b5, code))
    (he1 : laws_eqTable.f k R1 R2 R1 R2 = some true) (he2 : laws_eqTable.f k M F M F = some true) (heh : laws_eqHandle.f b0 b1 b2 b3 b4 b5 b0 b1 b2 b3 b4 b5 = some true) (hm1 : laws_markTable.f k M F 1 = some (n1, X1, Y1)) (hn1 : ¬ n1 < 0) (hm2 : laws_markTable.f k R1 R2 1 = some (n2, X2, Y2)) (hn2 : ¬ n2 < 0) (hh : laws_heldTable.f k X2 Y2 1 = some n2) :
    Calls Try.prog 14 #[.agg #[.slice A0 S.length c0, .slice A1 F.length c1], .int .i64 a1, .int .i64 a2] w fun e w' => e = .returned (.bool true) ∧ Below w.heap.size w w' := by
  have H0 := Aside0.mk hr0
  have H1 := Aside0.mk hr1
  have C0 := Aside0.mk hc0
  have C1 := Aside0.mk hc1
  have Hsz := Aside0.mk hsz
  have Hto := Aside0.mk hto
  have Hsp := Aside0.mk hsp
  have Him := Aside0.mk him
  have He1 := Aside0.mk he1
  have He2 := Aside0.mk he2
  have Heh := Aside0.mk heh
  have Hm1 := Aside0.mk hm1
  have Hm2 := Aside0.mk hm2
  have Hh := Aside0.mk hh
  clear hr0 hr1 hc0 hc1 hsz hto hsp him he1 he2 heh hm1 hm2 hh
  have d1 : decide (t < 0) = false := decide_eq_false ht
  have d2 : decide (n1 < 0) = false := decide_eq_false hn1
  have d3 : decide (n2 < 0) = false := decide_eq_false hn2
  clear ht hn1 hn2
  go_enter Try.func14, Try.ntmps14
  go_upto_region 5 with (go_at_call 24; refine (laws_szTable.calls _ c0 S _ c1 F 1048576 t _ (Kd.C_below H0.out (below_alloc (Below.refl _ _) _)) C0.out (Kd.C_below H1.out (below_alloc (Below.refl _ _) _)) C1.out Hsz.out).mono ?_; rintro e w1 ⟨rfl, hb⟩; have QA := Aside0.mk (blk_below (blk_new w _) hb); have L1 := Aside0.mk (below_step (below_alloc (Below.refl _ _) _) hb); have Z1 := Aside0.mk (Nat.le_trans (Nat.le_of_eq (show w.heap.size + 1 = (w.alloc (.cells #[.slice A0 S.length c0, .slice A1 F.length c1] 43 (0, 0))).heap.size from (Array.size_push _).symm)) hb.size); clear hb)
  have m0 : w1.cell? ⟨w.heap.size, 0, none⟩ = some (.slice A0 S.length c0) := (blk_cell QA.out 0).trans rfl
  have m1 : w1.cell? ⟨w.heap.size, 1, none⟩ = some (.slice A1 F.length c1) := (blk_cell QA.out 1).trans rfl
  go_upto_region 6 with (first | (go_at_call 26; refine (laws_toTable.calls k _ c0 S _ c1 F M F _ (Kd.C_below H0.out L1.out) C0.out (Kd.C_below H1.out L1.out) C1.out Hto.out).mono ?_; rintro e w2 ⟨u0, u1, rfl, x0, x1, hb⟩; obtain ⟨Au0, cu0, rfl⟩ := Kd.R_slice x0; obtain ⟨Au1, cu1, rfl⟩ := Kd.R_slice x1; have T2 := Aside0.mk (Tb.new (below_size L1.out) x0 x1); have B2 := Aside0.mk hb; clear hb x0 x1) | (go_at_call 52; have q0 := Kd.R_reads' T2.out.1; have q1 := Kd.R_reads' T2.out.2; refine (spec_MoveHandle.calls k _ _ M _ _ F a1 a2 R1 R2 b0 b1 b2 b3 b4 b5 code _ q0.2.2 q0.2.1 q1.2.2 q1.2.1 Hsp.out).mono ?_; clear q0 q1; rintro e w3 ⟨v80, v81, rfl, x0, x1, hb⟩; obtain ⟨A80, c80, rfl⟩ := Kd.R_slice x0; obtain ⟨A81, c81, rfl⟩ := Kd.R_slice x1; have T8 := Aside0.mk (Tb.new (below_size (below_step L1.out B2.out)) x0 x1); have B8 := Aside0.mk hb; clear hb x0 x1))
  obtain ⟨W4, hW⟩ : ∃ W4, W4 = (w3.alloc (.cells #[.slice A80 R1.length c80, .slice A81 R2.length c81] 51 (0, 0))).alloc (.cells #[.bool b0, .int .i64 b1, .int .i64 b2, .bool b3, .int .i64 b4, .int .i64 b5] 46 (0, 0)) := ⟨_, rfl⟩
  obtain ⟨p8, hp8⟩ : ∃ p8, p8 = w3.heap.size := ⟨_, rfl⟩
  have q8 : W4.heap[p8]? = some (.cells #[.slice A80 R1.length c80, .slice A81 R2.length c81] 51 (0, 0)) := by rw [hW, hp8]; exact blk_alloc (blk_new w3 _) _
  have q9 : W4.heap[p8 + 1]? = some (.cells #[.bool b0, .int .i64 b1, .int .i64 b2, .bool b3, .int .i64 b4, .int .i64 b5] 46 (0, 0)) := by rw [hW, hp8]; exact z_new2 w3 _ _
  have t8 : Tb W4 w.heap.size w2.heap.size p8 (.slice A80 R1.length c80) (.slice A81 R2.length c81) R1 R2 := by rw [hW, hp8]; exact (T8.out.alloc _).alloc _
  have qa : W4.heap[w.heap.size]? = some (.cells #[.slice A0 S.length c0, .slice A1 F.length c1] 43 (0, 0)) := by rw [hW]; exact blk_alloc (blk_alloc (blk_below (blk_below QA.out B2.out) B8.out) _) _
  have l4 : Below w.heap.size w W4 := by rw [hW]; exact below_alloc (below_alloc (below_step (below_step L1.out B2.out) B8.out) _) _
  have o4 : w.heap.size < w2.heap.size ∧ w2.heap.size ≤ p8 ∧ p8 + 1 < W4.heap.size := by rw [hW, hp8]; exact ⟨Nat.lt_of_lt_of_le Z1.out B2.out.size, B8.out.size, z_new2_lt w3 _ _⟩
  rw [← hW, ← hp8]
  generalize w2.heap.size = lo8 at t8 o4
  have QA4 := Aside0.mk qa
  have Q8 := Aside0.mk q8
  have Q9 := Aside0.mk q9
  have T84 := Aside0.mk t8
  have L4 := Aside0.mk l4
  have O4 := Aside0.mk o4
  clear hW hp8 m0 m1 qa q8 q9 t8 l4 o4 QA L1 Z1 T2 B2 T8 B8 Hsp w1 w2 w3
  have m0 : W4.cell? ⟨w.heap.size, 0, none⟩ = some (.slice A0 S.length c0) := (blk_cell QA4.out 0).trans rfl
  have m1 : W4.cell? ⟨w.heap.size, 1, none⟩ = some (.slice A1 F.length c1) := (blk_cell QA4.out 1).trans rfl
  go_upto_region 7 with (go_at_call 26; refine (laws_toTable.calls k _ c0 S _ c1 F M F _ (Kd.C_below H0.out L4.out) C0.out (Kd.C_below H1.out L4.out) C1.out Hto.out).mono ?_; rintro e w5 ⟨x110, x111, rfl, x0, x1, hb⟩; obtain ⟨Ax110, cx110, rfl⟩ := Kd.R_slice x0; obtain ⟨Ax111, cx111, rfl⟩ := Kd.R_slice x1; have T11 := Aside0.mk (Tb.new (below_size L4.out) x0 x1); have B11 := Aside0.mk hb; clear hb x0 x1)
  obtain ⟨W6, hW⟩ : ∃ W6, W6 = w5.alloc (.cells #[.slice Ax110 M.length cx110, .slice Ax111 F.length cx111] 51 (0, 0)) := ⟨_, rfl⟩
  obtain ⟨p11, hp11⟩ : ∃ p11, p11 = w5.heap.size := ⟨_, rfl⟩
  have qa := blk_alloc (blk_below QA4.out B11.out) (.cells #[.slice Ax110 M.length cx110, .slice Ax111 F.length cx111] 51 (0, 0))
  have q8 := blk_alloc (blk_below Q8.out B11.out) (.cells #[.slice Ax110 M.length cx110, .slice Ax111 F.length cx111] 51 (0, 0))
  have q9 := blk_alloc (blk_below Q9.out B11.out) (.cells #[.slice Ax110 M.length cx110, .slice Ax111 F.length cx111] 51 (0, 0))
  have q11 : W6.heap[p11]? = some (.cells #[.slice Ax110 M.length cx110, .slice Ax111 F.length cx111] 51 (0, 0)) := by rw [hW, hp11]; exact blk_new w5 _
  have t8 := (T84.out.below B11.out).alloc (.cells #[.slice Ax110 M.length cx110, .slice Ax111 F.length cx111] 51 (0, 0))
  have t11 : Tb W6 w.heap.size W4.heap.size p11 (.slice Ax110 M.length cx110) (.slice Ax111 F.length cx111) M F := by rw [hW, hp11]; exact T11.out.alloc _
  have l6 : Below w.heap.size w W6 := by rw [hW]; exact below_alloc (below_step L4.out B11.out) _
  have o6 : p8 + 1 < W4.heap.size ∧ W4.heap.size ≤ p11 ∧ p11 < W6.heap.size := by rw [hW, hp11]; exact ⟨O4.out.2.2, B11.out.size, z_lt_alloc w5 _⟩
  rw [← hW] at qa q8 q9 t8
  rw [← hW, ← hp11]
  generalize W4.heap.size = lo11 at t11 o6
  have O4' := Aside0.mk (show w.heap.size < lo8 ∧ lo8 ≤ p8 from ⟨O4.out.1, O4.out.2.1⟩)
  have QA6 := Aside0.mk qa
  have Q86 := Aside0.mk q8
  have Q96 := Aside0.mk q9
  have Q116 := Aside0.mk q11
  have T86 := Aside0.mk t8
  have T116 := Aside0.mk t11
  have L6 := Aside0.mk l6
  have O6 := Aside0.mk o6
  clear hW hp11 m0 m1 qa q8 q9 q11 t8 t11 l6 o6 QA4 Q8 Q9 T84 L4 O4 T11 B11 W4 w5
  have m0 : W6.cell? ⟨p11, 0, none⟩ = some (.slice Ax110 M.length cx110) := (blk_cell Q116.out 0).trans rfl
  have m1 : W6.cell? ⟨p11, 1, none⟩ = some (.slice Ax111 F.length cx111) := (blk_cell Q116.out 1).trans rfl
  go_upto_region 8 with (go_at_call 45; have q0 := Kd.R_reads' T116.out.1; have q1 := Kd.R_reads' T116.out.2; refine (impl_MoveHandle.calls k _ _ M _ _ F a1 a2 R1 R2 b0 b1 b2 b3 b4 b5 code _ q0.2.2 q0.2.1 q1.2.2 q1.2.1 Him.out).mono ?_; clear q0 q1; rintro e w7 ⟨v120, v121, rfl, x0, x1, hb⟩; obtain ⟨A120, c120, rfl⟩ := Kd.R_slice x0; obtain ⟨A121, c121, rfl⟩ := Kd.R_slice x1; have T12 := Aside0.mk (Tb.new (below_size L6.out) x0 x1); have B12 := Aside0.mk hb; clear hb x0 x1)
  obtain ⟨W8, hW⟩ : ∃ W8, W8 = (w7.alloc (.cells #[.slice A120 R1.length c120, .slice A121 R2.length c121] 51 (0, 0))).alloc (.cells #[.bool b0, .int .i64 b1, .int .i64 b2, .bool b3, .int .i64 b4, .int .i64 b5] 46 (0, 0)) := ⟨_, rfl⟩
  obtain ⟨p12, hp12⟩ : ∃ p12, p12 = w7.heap.size := ⟨_, rfl⟩
  obtain ⟨lo12, hlo⟩ : ∃ lo12, lo12 = W6.heap.size := ⟨_, rfl⟩
  have st : St w (.slice A0 S.length c0) (.slice A1 F.length c1) (.slice A80 R1.length c80) (.slice A81 R2.length c81) (.slice Ax110 M.length cx110) (.slice Ax111 F.length cx111) (.slice A120 R1.length c120) (.slice A121 R2.length c121) R1 R2 #[.bool b0, .int .i64 b1, .int .i64 b2, .bool b3, .int .i64 b4, .int .i64 b5] lo8 p8 (p8 + 1) lo11 p11 lo12 p12 (p12 + 1) M F R1 R2 W8 := by
    rw [hW]
    refine ⟨blk_alloc (blk_alloc (blk_below QA6.out B12.out) _) _, blk_alloc (blk_alloc (blk_below Q86.out B12.out) _) _, blk_alloc (blk_alloc (blk_below Q96.out B12.out) _) _, blk_alloc (blk_alloc (blk_below Q116.out B12.out) _) _, by rw [hp12]; exact blk_alloc (blk_new w7 _) _, by rw [hp12]; exact z_new2 w7 _ _, ((T86.out.below B12.out).alloc _).alloc _, ((T116.out.below B12.out).alloc _).alloc _, by rw [hp12, hlo]; exact (T12.out.alloc _).alloc _, ?_, below_alloc (below_alloc (below_step L6.out B12.out) _) _⟩
    have := O4'.out
    have := O6.out
    have := B12.out.size
    omega
  rw [← hW, ← hp12]
  have ST := Aside0.mk st
  clear hW hp12 hlo m0 m1 st QA6 Q86 Q96 Q116 T86 T116 L6 O6 O4' T12 B12 W6 w7
  have m12_0 : W8.cell? ⟨p12, 0, none⟩ = some (.slice A120 R1.length c120) := (blk_cell (ST.out).q12 0).trans rfl
  have m12_1 : W8.cell? ⟨p12, 1, none⟩ = some (.slice A121 R2.length c121) := (blk_cell (ST.out).q12 1).trans rfl
  have m8_0 : W8.cell? ⟨p8, 0, none⟩ = some (.slice A80 R1.length c80) := (blk_cell (ST.out).q8 0).trans rfl
  have m8_1 : W8.cell? ⟨p8, 1, none⟩ = some (.slice A81 R2.length c81) := (blk_cell (ST.out).q8 1).trans rfl
  go_upto_region 10 with (first | (go_at_call 29; have x0 := Kd.R_reads' ST.out.t12.1; have x1 := Kd.R_reads' ST.out.t12.2; have y0 := Kd.R_reads' ST.out.t8.1; have y1 := Kd.R_reads' ST.out.t8.2; refine (laws_eqTable.calls k _ _ R1 _ _ R2 _ _ R1 _ _ R2 true _ x0.2.2 x0.2.1 x1.2.2 x1.2.1 y0.2.2 y0.2.1 y1.2.2 y1.2.1 He1.out).mono ?_; clear x0 x1 y0 y1; rintro e w9 ⟨rfl, hb⟩; have ST1 := Aside0.mk (ST.out.below hb); clear hb; clear m12_0 m12_1 m8_0 m8_1; have m13_0 : w9.cell? ⟨p12 + 1, 0, none⟩ = some (.bool b0) := (blk_cell (ST1.out).q13 0).trans rfl; have m13_1 : w9.cell? ⟨p12 + 1, 1, none⟩ = some (.int .i64 b1) := (blk_cell (ST1.out).q13 1).trans rfl; have m13_2 : w9.cell? ⟨p12 + 1, 2, none⟩ = some (.int .i64 b2) := (blk_cell (ST1.out).q13 2).trans rfl; have m13_3 : w9.cell? ⟨p12 + 1, 3, none⟩ = some (.bool b3) := (blk_cell (ST1.out).q13 3).trans rfl; have m13_4 : w9.cell? ⟨p12 + 1, 4, none⟩ = some (.int .i64 b4) := (blk_cell (ST1.out).q13 4).trans rfl; have m13_5 : w9.cell? ⟨p12 + 1, 5, none⟩ = some (.int .i64 b5) := (blk_cell (ST1.out).q13 5).trans rfl; have m9_0 : w9.cell? ⟨p8 + 1, 0, none⟩ = some (.bool b0) := (blk_cell (ST1.out).q9 0).trans rfl; have m9_1 : w9.cell? ⟨p8 + 1, 1, none⟩ = some (.int .i64 b1) := (blk_cell (ST1.out).q9 1).trans rfl; have m9_2 : w9.cell? ⟨p8 + 1, 2, none⟩ = some (.int .i64 b2) := (blk_cell (ST1.out).q9 2).trans rfl; have m9_3 : w9.cell? ⟨p8 + 1, 3, none⟩ = some (.bool b3) := (blk_cell (ST1.out).q9 3).trans rfl; have m9_4 : w9.cell? ⟨p8 + 1, 4, none⟩ = some (.int .i64 b4) := (blk_cell (ST1.out).q9 4).trans rfl; have m9_5 : w9.cell? ⟨p8 + 1, 5, none⟩ = some (.int .i64 b5) := (blk_cell (ST1.out).q9 5).trans rfl) | (go_at_call 28; refine (laws_eqHandle.calls b0 b1 b2 b3 b4 b5 b0 b1 b2 b3 b4 b5 true _ Heh.out).mono ?_; rintro e w10 ⟨rfl, hb⟩; have ST2 := Aside0.mk (ST1.out.below hb); clear hb; clear m13_0 m13_1 m13_2 m13_3 m13_4 m13_5 m9_0 m9_1 m9_2 m9_3 m9_4 m9_5; have m11_0 : w10.cell? ⟨p11, 0, none⟩ = some (.slice Ax110 M.length cx110) := (blk_cell (ST2.out).q11 0).trans rfl; have m11_1 : w10.cell? ⟨p11, 1, none⟩ = some (.slice Ax111 F.length cx111) := (blk_cell (ST2.out).q11 1).trans rfl; have ma_0 : w10.cell? ⟨w.heap.size, 0, none⟩ = some (.slice A0 S.length c0) := (blk_cell (ST2.out).qa 0).trans rfl; have ma_1 : w10.cell? ⟨w.heap.size, 1, none⟩ = some (.slice A1 F.length c1) := (blk_cell (ST2.out).qa 1).trans rfl))
  clear ST ST1
  refine start_ (n := 5) (S := fun w' => w'.cell? ⟨p11, 0, none⟩ = some (.slice Ax110 M.length cx110) ∧ w'.cell? ⟨p11, 1, none⟩ = some (.slice Ax111 F.length cx111) ∧ w'.cell? ⟨w.heap.size, 0, none⟩ = some (.slice A0 S.length c0) ∧ w'.cell? ⟨w.heap.size, 1, none⟩ = some (.slice A1 F.length c1)) (ds := []) #[false, false, false, false, false] (by kernel_rfl) rfl rfl ⟨(blk_cell (blk_drew ST2.out.q11) 0).trans rfl, (blk_cell (blk_drew ST2.out.q11) 1).trans rfl, (blk_cell (blk_drew ST2.out.qa) 0).trans rfl, (blk_cell (blk_drew ST2.out.qa) 1).trans rfl⟩ (fun hHeld => ?_)
  have ST3 := Aside0.mk (ST2.out.below (below_drew (Below.refl _ _)))
  clear m11_0 m11_1 ma_0 ma_1
  clear ST2
  generalize w10.drew = w10' at ST3 hHeld ⊢
  refine take_ (i := 0) (N := some 60) (v := ?_) (a' := ?_) #[true, false, false, false, false] rfl rfl (by kernel_rfl) (fun _ _ _ h => h) (Or.inl ⟨by rfl, ?_⟩) hHeld ?_ ?_
  rotate_left
  · rintro w' ⟨s0, s1, s2, s3⟩
    go_simp
    with_reducible rfl
  rotate_left
  · simp only [Act.put, List.setIfInBounds_toArray, List.set_cons_zero, List.set_cons_succ, i64_w, i32_w]
    rfl
  refine take_ (i := 1) (N := some 61) (v := ?_) (a' := ?_) #[true, true, false, false, false] rfl rfl (by kernel_rfl) (fun _ _ _ h => h) (Or.inl ⟨by rfl, ?_⟩) hHeld ?_ ?_
  rotate_left
  · rintro w' ⟨s0, s1, s2, s3⟩
    go_simp
    with_reducible rfl
  rotate_left
  · simp only [Act.put, List.setIfInBounds_toArray, List.set_cons_zero, List.set_cons_succ, i64_w, i32_w]
    rfl
  refine one_ (i := 2) (N := some 62) #[true, true, true, false, false] rfl rfl (by kernel_rfl) (by decide) (fun K hK => ?_)
  refine goes_ Try.func26 (by kernel_rfl) rfl #[.agg #[.slice A0 S.length c0, .slice A1 F.length c1]] (by rfl) rfl rfl (by (try simp only [List.map_toArray, List.map_cons, List.map_nil]); first | done | rfl) ?_
  refine (laws_toTable.calls k _ c0 S _ c1 F M F _ (Kd.C_below H0.out ST3.out.l) C0.out (Kd.C_below H1.out ST3.out.l) C1.out Hto.out).mono ?_
  rintro e w11 ⟨x140, x141, rfl, x0, x1, hb⟩
  refine ⟨_, rfl, ?_⟩
  obtain ⟨A140, c140, rfl⟩ := Kd.R_slice x0
  obtain ⟨A141, c141, rfl⟩ := Kd.R_slice x1
  have T14 := Aside0.mk (Tb.new (below_size ST3.out.l) x0 x1)
  have ST4 := Aside0.mk (ST3.out.below hb)
  clear hb x0 x1 ST3 hHeld
  refine hK.out _ _ ⟨(blk_cell ST4.out.q11 0).trans rfl, (blk_cell ST4.out.q11 1).trans rfl, (blk_cell ST4.out.qa 0).trans rfl, (blk_cell ST4.out.qa 1).trans rfl⟩ (fun hHeld => ?_)
  clear hK K
  refine norm_ (a' := ?_) ?_ ?_
  rotate_left
  · show Act.put _ (some 62) _ = _
    simp only [Act.put, List.setIfInBounds_toArray, List.set_cons_zero, List.set_cons_succ, i64_w, i32_w]
    rfl
  refine one_ (i := 3) (N := some 63) #[true, true, true, true, false] rfl rfl (by kernel_rfl) (by decide) (fun K hK => ?_)
  refine goes_ Try.func29 (by kernel_rfl) rfl #[.agg #[.slice Ax110 M.length cx110, .slice Ax111 F.length cx111], .agg #[.slice A140 M.length c140, .slice A141 F.length c141]] (by rfl) rfl rfl (by (try simp only [List.map_toArray, List.map_cons, List.map_nil]); first | done | rfl) ?_
  have x0 := Kd.R_reads' ST4.out.t11.1
  have x1 := Kd.R_reads' ST4.out.t11.2
  have y0 := Kd.R_reads' T14.out.1
  have y1 := Kd.R_reads' T14.out.2
  refine (laws_eqTable.calls k _ _ M _ _ F _ _ M _ _ F true _ x0.2.2 x0.2.1 x1.2.2 x1.2.1 y0.2.2 y0.2.1 y1.2.2 y1.2.1 He2.out).mono ?_
  clear x0 x1 y0 y1
  rintro e w12 ⟨rfl, hb⟩
  refine ⟨_, rfl, ?_⟩
  have ST5 := Aside0.mk (ST4.out.below hb)
  clear hb ST4 T14 hHeld w10' w11
  refine hK.out _ _ ⟨(blk_cell ST5.out.q11 0).trans rfl, (blk_cell ST5.out.q11 1).trans rfl, (blk_cell ST5.out.qa 0).trans rfl, (blk_cell ST5.out.qa 1).trans rfl⟩ (fun hHeld => ?_)
  clear hK K hHeld
  refine norm_ (a' := ?_) ?_ ?_
  rotate_left
  · show Act.put _ (some 63) _ = _
    simp only [Act.put, List.setIfInBounds_toArray, List.set_cons_zero, List.set_cons_succ, i64_w, i32_w]
    rfl
  refine pure_ (i := 4) (N := some 64) (v := ?_) (a' := ?_) #[true, true, true, true, true] rfl rfl (by kernel_rfl) (fun _ _ _ h => h) (Or.inl ⟨by rfl, ?_⟩) ?_ ?_
  rotate_left
  · intro w'
    go_simp
    with_reducible rfl
  rotate_left
  · simp only [Act.put, List.setIfInBounds_toArray, List.set_cons_zero, List.set_cons_succ, i64_w, i32_w]
    rfl
  refine done_ (by kernel_rfl) ?_
  have m11_0 : w12.cell? ⟨p11, 0, none⟩ = some (.slice Ax110 M.length cx110) := (blk_cell (ST5.out).q11 0).trans rfl
  have m11_1 : w12.cell? ⟨p11, 1, none⟩ = some (.slice Ax111 F.length cx111) := (blk_cell (ST5.out).q11 1).trans rfl
  go_upto_region 14 with (go_at_call 32; refine (z_mark.calls k w n1 X1 Y1 _ ST5.out.l ST5.out.t11 Hm1.out).mono ?_; rintro e w13 ⟨rfl, tb, hb, hk⟩; have ST6 := Aside0.mk (ST5.out.mark11 tb hb hk); clear tb hb hk; clear m11_0 m11_1; have m12_0 : w13.cell? ⟨p12, 0, none⟩ = some (.slice A120 R1.length c120) := (blk_cell (ST6.out).q12 0).trans rfl; have m12_1 : w13.cell? ⟨p12, 1, none⟩ = some (.slice A121 R2.length c121) := (blk_cell (ST6.out).q12 1).trans rfl; have m8_0 : w13.cell? ⟨p8, 0, none⟩ = some (.slice A80 R1.length c80) := (blk_cell (ST6.out).q8 0).trans rfl; have m8_1 : w13.cell? ⟨p8, 1, none⟩ = some (.slice A81 R2.length c81) := (blk_cell (ST6.out).q8 1).trans rfl)
  clear ST5
  go_upto_region 16 with (first | (go_at_call 29; have x0 := Kd.R_reads' ST6.out.t12.1; have x1 := Kd.R_reads' ST6.out.t12.2; have y0 := Kd.R_reads' ST6.out.t8.1; have y1 := Kd.R_reads' ST6.out.t8.2; refine (laws_eqTable.calls k _ _ R1 _ _ R2 _ _ R1 _ _ R2 true _ x0.2.2 x0.2.1 x1.2.2 x1.2.1 y0.2.2 y0.2.1 y1.2.2 y1.2.1 He1.out).mono ?_; clear x0 x1 y0 y1; rintro e w14 ⟨rfl, hb⟩; have ST7 := Aside0.mk (ST6.out.below hb); clear hb; clear m12_0 m12_1 m8_0 m8_1; have m13_0 : w14.cell? ⟨p12 + 1, 0, none⟩ = some (.bool b0) := (blk_cell (ST7.out).q13 0).trans rfl; have m13_1 : w14.cell? ⟨p12 + 1, 1, none⟩ = some (.int .i64 b1) := (blk_cell (ST7.out).q13 1).trans rfl; have m13_2 : w14.cell? ⟨p12 + 1, 2, none⟩ = some (.int .i64 b2) := (blk_cell (ST7.out).q13 2).trans rfl; have m13_3 : w14.cell? ⟨p12 + 1, 3, none⟩ = some (.bool b3) := (blk_cell (ST7.out).q13 3).trans rfl; have m13_4 : w14.cell? ⟨p12 + 1, 4, none⟩ = some (.int .i64 b4) := (blk_cell (ST7.out).q13 4).trans rfl; have m13_5 : w14.cell? ⟨p12 + 1, 5, none⟩ = some (.int .i64 b5) := (blk_cell (ST7.out).q13 5).trans rfl; have m9_0 : w14.cell? ⟨p8 + 1, 0, none⟩ = some (.bool b0) := (blk_cell (ST7.out).q9 0).trans rfl; have m9_1 : w14.cell? ⟨p8 + 1, 1, none⟩ = some (.int .i64 b1) := (blk_cell (ST7.out).q9 1).trans rfl; have m9_2 : w14.cell? ⟨p8 + 1, 2, none⟩ = some (.int .i64 b2) := (blk_cell (ST7.out).q9 2).trans rfl; have m9_3 : w14.cell? ⟨p8 + 1, 3, none⟩ = some (.bool b3) := (blk_cell (ST7.out).q9 3).trans rfl; have m9_4 : w14.cell? ⟨p8 + 1, 4, none⟩ = some (.int .i64 b4) := (blk_cell (ST7.out).q9 4).trans rfl; have m9_5 : w14.cell? ⟨p8 + 1, 5, none⟩ = some (.int .i64 b5) := (blk_cell (ST7.out).q9 5).trans rfl) | (go_at_call 28; refine (laws_eqHandle.calls b0 b1 b2 b3 b4 b5 b0 b1 b2 b3 b4 b5 true _ Heh.out).mono ?_; rintro e w15 ⟨rfl, hb⟩; have ST8 := Aside0.mk (ST7.out.below hb); clear hb; clear m13_0 m13_1 m13_2 m13_3 m13_4 m13_5 m9_0 m9_1 m9_2 m9_3 m9_4 m9_5; have m12_0 : w15.cell? ⟨p12, 0, none⟩ = some (.slice A120 R1.length c120) := (blk_cell (ST8.out).q12 0).trans rfl; have m12_1 : w15.cell? ⟨p12, 1, none⟩ = some (.slice A121 R2.length c121) := (blk_cell (ST8.out).q12 1).trans rfl))
  clear ST6 ST7
  go_upto_region 18 with (go_at_call 32; refine (z_mark.calls k w n2 X2 Y2 _ ST8.out.l ST8.out.t12 Hm2.out).mono ?_; rintro e w16 ⟨rfl, tb, hb, hk⟩; have ST9 := Aside0.mk (ST8.out.mark12 tb hb hk); clear tb hb hk; clear m12_0 m12_1; skip)
  clear ST8
  have m12_0 : w16.cell? ⟨p12, 0, none⟩ = some (.slice A120 R1.length c120) := (blk_cell (ST9.out).q12 0).trans rfl
  have m12_1 : w16.cell? ⟨p12, 1, none⟩ = some (.slice A121 R2.length c121) := (blk_cell (ST9.out).q12 1).trans rfl
  go_upto_region 24 with (go_at_call 33; refine (z_held.calls k A120 A121 _ _ c120 c121 X2 Y2 n2 _ ST9.out.t12 Hh.out).mono ?_; rintro e w17 ⟨rfl, hb⟩; have ST10 := Aside0.mk (ST9.out.below hb); clear hb; clear m12_0 m12_1; have ma_0 : w17.cell? ⟨w.heap.size, 0, none⟩ = some (.slice A0 S.length c0) := (blk_cell (ST10.out).qa 0).trans rfl; have ma_1 : w17.cell? ⟨w.heap.size, 1, none⟩ = some (.slice A1 F.length c1) := (blk_cell (ST10.out).qa 1).trans rfl)
  clear ST9
  go_upto_region 25 with (first | (go_at_call 26; refine (laws_toTable.calls k _ c0 S _ c1 F M F _ (Kd.C_below H0.out ST10.out.l) C0.out (Kd.C_below H1.out ST10.out.l) C1.out Hto.out).mono ?_; rintro e w18 ⟨x150, x151, rfl, x0, x1, hb⟩; obtain ⟨Ax150, cx150, rfl⟩ := Kd.R_slice x0; obtain ⟨Ax151, cx151, rfl⟩ := Kd.R_slice x1; have T15 := Aside0.mk (Tb.new (below_size ST10.out.l) x0 x1); have ST11 := Aside0.mk (ST10.out.below hb); clear hb x0 x1 ma_0 ma_1) | (go_at_call 45; have q0 := Kd.R_reads' T15.out.1; have q1 := Kd.R_reads' T15.out.2; refine (impl_MoveHandle.calls k _ _ M _ _ F a1 a2 R1 R2 b0 b1 b2 b3 b4 b5 code _ q0.2.2 q0.2.1 q1.2.2 q1.2.1 Him.out).mono ?_; clear q0 q1; rintro e w19 ⟨v180, v181, rfl, x0, x1, hb⟩; obtain ⟨A180, c180, rfl⟩ := Kd.R_slice x0; obtain ⟨A181, c181, rfl⟩ := Kd.R_slice x1; have T18 := Aside0.mk (Tb.new (below_size ST11.out.l) x0 x1); have ST12 := Aside0.mk (ST11.out.below hb); clear hb x0 x1 T15))
  clear ST10 ST11
  have ST13 := Aside0.mk (ST12.out.below (below_alloc (below_alloc (Below.refl _ _) (.cells #[.slice A180 R1.length c180, .slice A181 R2.length c181] 51 (0, 0))) (.cells #[.bool b0, .int .i64 b1, .int .i64 b2, .bool b3, .int .i64 b4, .int .i64 b5] 46 (0, 0))))
  have T19 := Aside0.mk ((T18.out.alloc (.cells #[.slice A180 R1.length c180, .slice A181 R2.length c181] 51 (0, 0))).alloc (.cells #[.bool b0, .int .i64 b1, .int .i64 b2, .bool b3, .int .i64 b4, .int .i64 b5] 46 (0, 0)))
  have Q18 := Aside0.mk (blk_alloc (blk_new w19 (.cells #[.slice A180 R1.length c180, .slice A181 R2.length c181] 51 (0, 0))) (.cells #[.bool b0, .int .i64 b1, .int .i64 b2, .bool b3, .int .i64 b4, .int .i64 b5] 46 (0, 0)))
  have Q19 := Aside0.mk (z_new2 w19 (.cells #[.slice A180 R1.length c180, .slice A181 R2.length c181] 51 (0, 0)) (.cells #[.bool b0, .int .i64 b1, .int .i64 b2, .bool b3, .int .i64 b4, .int .i64 b5] 46 (0, 0)))
  clear ST12 T18
  obtain ⟨p18, hp18⟩ : ∃ p18, p18 = w19.heap.size := ⟨_, rfl⟩
  rw [← hp18] at Q18 Q19 ⊢
  generalize (w19.alloc (.cells #[.slice A180 R1.length c180, .slice A181 R2.length c181] 51 (0, 0))).alloc (.cells #[.bool b0, .int .i64 b1, .int .i64 b2, .bool b3, .int .i64 b4, .int .i64 b5] 46 (0, 0)) = w20 at ST13 T19 Q18 Q19 ⊢
  clear hp18
  have m8_0 : w20.cell? ⟨p8, 0, none⟩ = some (.slice A80 R1.length c80) := (blk_cell (ST13.out).q8 0).trans rfl
  have m8_1 : w20.cell? ⟨p8, 1, none⟩ = some (.slice A81 R2.length c81) := (blk_cell (ST13.out).q8 1).trans rfl
  have m18_0 : w20.cell? ⟨p18, 0, none⟩ = some (.slice A180 R1.length c180) := (blk_cell Q18.out 0).trans rfl
  have m18_1 : w20.cell? ⟨p18, 1, none⟩ = some (.slice A181 R2.length c181) := (blk_cell Q18.out 1).trans rfl
  go_upto_region 27 with (first | (go_at_call 29; have x0 := Kd.R_reads' T19.out.1; have x1 := Kd.R_reads' T19.out.2; have y0 := Kd.R_reads' ST13.out.t8.1; have y1 := Kd.R_reads' ST13.out.t8.2; refine (laws_eqTable.calls k _ _ R1 _ _ R2 _ _ R1 _ _ R2 true _ x0.2.2 x0.2.1 x1.2.2 x1.2.1 y0.2.2 y0.2.1 y1.2.2 y1.2.1 He1.out).mono ?_; clear x0 x1 y0 y1; rintro e w21 ⟨rfl, hb⟩; have ST14 := Aside0.mk (ST13.out.below hb); have Q20 := Aside0.mk (blk_below Q19.out hb); clear hb m18_0 m18_1 m8_0 m8_1; have m9_0 : w21.cell? ⟨p8 + 1, 0, none⟩ = some (.bool b0) := (blk_cell (ST14.out).q9 0).trans rfl; have m9_1 : w21.cell? ⟨p8 + 1, 1, none⟩ = some (.int .i64 b1) := (blk_cell (ST14.out).q9 1).trans rfl; have m9_2 : w21.cell? ⟨p8 + 1, 2, none⟩ = some (.int .i64 b2) := (blk_cell (ST14.out).q9 2).trans rfl; have m9_3 : w21.cell? ⟨p8 + 1, 3, none⟩ = some (.bool b3) := (blk_cell (ST14.out).q9 3).trans rfl; have m9_4 : w21.cell? ⟨p8 + 1, 4, none⟩ = some (.int .i64 b4) := (blk_cell (ST14.out).q9 4).trans rfl; have m9_5 : w21.cell? ⟨p8 + 1, 5, none⟩ = some (.int .i64 b5) := (blk_cell (ST14.out).q9 5).trans rfl; have m19_0 : w21.cell? ⟨p18 + 1, 0, none⟩ = some (.bool b0) := (blk_cell Q20.out 0).trans rfl; have m19_1 : w21.cell? ⟨p18 + 1, 1, none⟩ = some (.int .i64 b1) := (blk_cell Q20.out 1).trans rfl; have m19_2 : w21.cell? ⟨p18 + 1, 2, none⟩ = some (.int .i64 b2) := (blk_cell Q20.out 2).trans rfl; have m19_3 : w21.cell? ⟨p18 + 1, 3, none⟩ = some (.bool b3) := (blk_cell Q20.out 3).trans rfl; have m19_4 : w21.cell? ⟨p18 + 1, 4, none⟩ = some (.int .i64 b4) := (blk_cell Q20.out 4).trans rfl; have m19_5 : w21.cell? ⟨p18 + 1, 5, none⟩ = some (.int .i64 b5) := (blk_cell Q20.out 5).trans rfl) | (go_at_call 28; refine (laws_eqHandle.calls b0 b1 b2 b3 b4 b5 b0 b1 b2 b3 b4 b5 true _ Heh.out).mono ?_; rintro e w22 ⟨rfl, hb⟩; have ST15 := Aside0.mk (ST14.out.below hb); clear hb m9_0 m9_1 m9_2 m9_3 m9_4 m9_5 m19_0 m19_1 m19_2 m19_3 m19_4 m19_5; have m12_0 : w22.cell? ⟨p12, 0, none⟩ = some (.slice A120 R1.length c120) := (blk_cell (ST15.out).q12 0).trans rfl; have m12_1 : w22.cell? ⟨p12, 1, none⟩ = some (.slice A121 R2.length c121) := (blk_cell (ST15.out).q12 1).trans rfl))
  clear ST13 ST14 T19 Q18 Q19 Q20
  go_wp2_with (go_at_call 33; refine (z_held.calls k A120 A121 _ _ c120 c121 X2 Y2 n2 _ ST15.out.t12 Hh.out).mono ?_; rintro e w23 ⟨rfl, hb⟩; have ST16 := Aside0.mk (ST15.out.below hb); clear hb; clear m12_0 m12_1; skip)
  go_ret
  exact ⟨rfl, ST16.out.l⟩
set_option maxHeartbeats 2000000 in
set_option maxRecDepth 100000 in
theorem walk0_MoveHandle (w : World) (A0 A1 : Option Addr) (c0 c1 : Nat) (S : List S60) (F : List Int) (a1 a2 : Int) (hr0 : Kd.C k60 w A0 S.length S) (hc0 : S.length ≤ c0) (hr1 : Kd.C (Kd.int .i64) w A1 F.length F) (hc1 : F.length ≤ c1)
    (t : Int) (hsz : laws_szTable.f S F 1048576 = some t) (ht : t < 0) :
    Calls Try.prog 14 #[.agg #[.slice A0 S.length c0, .slice A1 F.length c1], .int .i64 a1, .int .i64 a2] w fun e w' => e = .returned (.bool true) ∧ Below w.heap.size w w' := by
  have H0 := Aside0.mk hr0
  have H1 := Aside0.mk hr1
  have C0 := Aside0.mk hc0
  have C1 := Aside0.mk hc1
  have Hsz := Aside0.mk hsz
  clear hr0 hr1 hc0 hc1 hsz
  have d1 : decide (t < 0) = true := decide_eq_true ht
  clear ht
  go_enter Try.func14, Try.ntmps14
  go_wp2_with (go_at_call 24; refine (laws_szTable.calls _ c0 S _ c1 F 1048576 t _ (Kd.C_below H0.out (below_alloc (Below.refl _ _) _)) C0.out (Kd.C_below H1.out (below_alloc (Below.refl _ _) _)) C1.out Hsz.out).mono ?_; rintro e w1 ⟨rfl, hb⟩; have L1 := Aside0.mk (below_step (below_alloc (Below.refl _ _) _) hb); clear hb)
  go_ret
  exact ⟨rfl, L1.out⟩
theorem walked_FnExactMoveHandle (A0 : Option Addr) (c0 : Nat) (S : List S60) (A1 : Option Addr) (c1 : Nat) (F : List Int) (a1 a2 : Int) (w : World) (hr0 : Kd.C k60 w A0 S.length S) (hc0 : S.length ≤ c0) (hr1 : Kd.C (Kd.int .i64) w A1 F.length F) (hc1 : F.length ≤ c1) (h : S.length * 48 ≤ 140737488351232) (h' : F.length * 8 ≤ 140737488351232) :
    Calls Try.prog 14 #[.agg #[.slice A0 S.length c0, .slice A1 F.length c1], .int .i64 a1, .int .i64 a2] w fun e w' => e = .returned (.bool true) ∧ Below w.heap.size w w' := by
  obtain ⟨t, ht⟩ := szTable_some S F
  by_cases c : t < 0
  · exact walk0_MoveHandle w A0 A1 c0 c1 S F a1 a2 hr0 hc0 hr1 hc1 t ht c
  have hm : (S.map to46).length ≤ 140737488351232 := by rw [List.length_map]; omega
  have hf : F.length ≤ 140737488351232 := by omega
  obtain ⟨⟨R1, R2, b0, b1, b2, b3, b4, b5, code⟩, r1, r2, h1, h2⟩ := both_MoveHandle (S.map to46) hm F hf a1 a2
  have e2 := eqTable_ev (S.map to46) F hm hf
  have e1 := eqTable_ev R1 R2 r1 r2
  obtain ⟨K1, g1⟩ := toTable_ev S F h h'
  obtain ⟨K2, g2⟩ := h1
  obtain ⟨K3, g3⟩ := h2
  obtain ⟨K4, g4⟩ := e1
  obtain ⟨K5, g5⟩ := e2
  obtain ⟨K6, g6⟩ := mark_ev (S.map to46) F 1 hm hf
  obtain ⟨K7, g7⟩ := mark_ev R1 R2 1 r1 r2
  obtain ⟨K8, g8⟩ := held_ev R1.length R2.length 1 r1 r2 (by omega) (by omega)
  obtain ⟨k, hk⟩ : ∃ k, K1 ≤ k ∧ K2 ≤ k ∧ K3 ≤ k ∧ K4 ≤ k ∧ K5 ≤ k ∧ K6 ≤ k ∧ K7 ≤ k ∧ K8 ≤ k := ⟨K1 + K2 + K3 + K4 + K5 + K6 + K7 + K8, by omega⟩
  exact walk_MoveHandle w A0 A1 c0 c1 S F a1 a2 hr0 hc0 hr1 hc1 t ht c (S.map to46) R1 R2 b0 b1 b2 b3 b4 b5 code _ _ _ _ _ _ k (g1 k hk.1) (g3 k hk.2.2.1) (g2 k hk.2.1) (g4 k hk.2.2.2.1) (g5 k hk.2.2.2.2.1) (eqHandle_same ⟨b0, b1, b2, b3, b4, b5⟩) (g6 k hk.2.2.2.2.2.1) (fin_pos _ _ hm hf) (g7 k hk.2.2.2.2.2.2.1) (fin_pos _ _ r1 r2) (g8 k hk.2.2.2.2.2.2.2)
end Go.Proofs.Ytoomeeoijbkmnaa.PH
