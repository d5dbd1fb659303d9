import Derived.Test.YtoomeeoijbkmnaaC6Lwn
import Derived.Test.YtoomeeoijbkmnaaC6EvNew
import Derived.Test.YtoomeeoijbkmnaaC6PHx4
import Derived.Test.YtoomeeoijbkmnaaC6PHx6
import Derived.Test.YtoomeeoijbkmnaaC6PHx12
import Derived.Test.YtoomeeoijbkmnaaC6PHx13
import Derived.Lib.Hide
import Derived.Deep.QuietTactic
import Derived.BigQuiet
import Derived.WalkSpells
import Derived.WalkLawsBesides
import Derived.StillTailTactics
namespace Go.Proofs.Ytoomeeoijbkmnaa.PH
open Go.RowKit Go.Proofs.YtoomeeoijbkmnaaW.PrintWords Go.Proofs.YtoomeeoijbkmnaaW.PrintLast Go.Proofs.YtoomeeoijbkmnaaW.PrintMore
set_option linter.unusedVariables false
set_option linter.unusedSimpArgs false
set_option maxHeartbeats 8000000 in
set_option maxRecDepth 100000 in
theorem walk_NewHandle (w : World) (A0 A1 : Option Addr) (c0 c1 : Nat) (S : List S60) (F : List Int) (h : S46) (hr0 : Kd.C k60 w A0 S.length S) (hc0 : S.length ≤ c0) (hr1 : Kd.C (Kd.int .i64) w A1 F.length F) (hc1 : F.length ≤ c1)
    (t : Int) (hsz : laws_szTable.f S F 1048576 = some t) (ht : ¬ t < 0) (M : List S46) (R1 : List S46) (R2 : List Int) (at_ code : Int) (n1 n2 : Int) (X1 X2 : List S46) (Y1 Y2 : List Int) (k : Nat)
    (hto : laws_toTable.f k S F = some (M, F)) (hth : laws_toHandle.f h.f0 h.f1 h.f2 h.f3 h.f4 h.f5 = some (h.f0, h.f1, h.f2, h.f3, h.f4, h.f5)) (hsp : spec_NewHandle.f k M F h.f0 h.f1 h.f2 h.f3 h.f4 h.f5 = some (R1, R2, at_, code)) (him : impl_NewHandle.f k M F h.f0 h.f1 h.f2 h.f3 h.f4 h.f5 = some (R1, R2, at_, code))
    (he1 : laws_eqTable.f k R1 R2 R1 R2 = some true) (he2 : laws_eqTable.f k M F M F = some true) (hm1 : laws_markTable.f k M F 1 = some (n1, X1, Y1)) (hn1 : ¬ n1 < 0) (hm2 : laws_markTable.f k R1 R2 1 = some (n2, X2, Y2)) (hn2 : ¬ n2 < 0) (hh : laws_heldTable.f k X2 Y2 1 = some n2) :
    Calls Try.prog 8 #[.agg #[.slice A0 S.length c0, .slice A1 F.length c1], .agg #[.bool h.f0, .int .i64 h.f1, .int .i64 h.f2, .bool h.f3, .int .i64 h.f4, .int .i64 h.f5]] w fun e w' => e = .returned (.bool true) ∧ Below w.heap.size w w' := by
  have H0 := Aside0.mk hr0
  have H1 := Aside0.mk hr1
  have C0 := Aside0.mk hc0
  have C1 := Aside0.mk hc1
  have Hsz := Aside0.mk hsz
  have Hto := Aside0.mk hto
  have Hth := Aside0.mk hth
  have Hsp := Aside0.mk hsp
  have Him := Aside0.mk him
  have He1 := Aside0.mk he1
  have He2 := Aside0.mk he2
  have Hm1 := Aside0.mk hm1
  have Hm2 := Aside0.mk hm2
  have Hh := Aside0.mk hh
  clear hr0 hr1 hc0 hc1 hsz hto hth hsp him he1 he2 hm1 hm2 hh
  have d1 : decide (t < 0) = false := decide_eq_false ht
  have d2 : decide (n1 < 0) = false := decide_eq_false hn1
  have d3 : decide (n2 < 0) = false := decide_eq_false hn2
  clear ht hn1 hn2
  go_enter Try.func8, Try.ntmps8
  go_upto_region 5 with (go_at_call 24; refine (laws_szTable.calls _ c0 S _ c1 F 1048576 t _ (Kd.C_below H0.out (below_alloc (below_alloc (Below.refl _ _) _) _)) C0.out (Kd.C_below H1.out (below_alloc (below_alloc (Below.refl _ _) _) _)) C1.out Hsz.out).mono ?_; rintro e w1 ⟨rfl, hb⟩; have CX := Aside0.mk (C5.below (⟨blk_alloc (blk_new w _) _, z_new2 w _ _, below_alloc (below_alloc (Below.refl _ _) _) _⟩ : C5 w (.slice A0 S.length c0) (.slice A1 F.length c1) #[.bool h.f0, .int .i64 h.f1, .int .i64 h.f2, .bool h.f3, .int .i64 h.f4, .int .i64 h.f5] ((w.alloc (.cells #[.slice A0 S.length c0, .slice A1 F.length c1] 43 (0, 0))).alloc (.cells #[.bool h.f0, .int .i64 h.f1, .int .i64 h.f2, .bool h.f3, .int .i64 h.f4, .int .i64 h.f5] 60 (0, 0)))) hb); clear hb)
  refine start_ (n := 13) (S := fun w' => w'.cell? ⟨w.heap.size, 0, none⟩ = some (.slice A0 S.length c0) ∧ w'.cell? ⟨w.heap.size, 1, none⟩ = some (.slice A1 F.length c1) ∧ w'.cell? ⟨w.heap.size + 1, 0, none⟩ = some (.bool h.f0) ∧ w'.cell? ⟨w.heap.size + 1, 1, none⟩ = some (.int .i64 h.f1) ∧ w'.cell? ⟨w.heap.size + 1, 2, none⟩ = some (.int .i64 h.f2) ∧ w'.cell? ⟨w.heap.size + 1, 3, none⟩ = some (.bool h.f3) ∧ w'.cell? ⟨w.heap.size + 1, 4, none⟩ = some (.int .i64 h.f4) ∧ w'.cell? ⟨w.heap.size + 1, 5, none⟩ = some (.int .i64 h.f5)) (ds := []) #[false, false, false, false, false, false, false, false, false, false, false, false, false] (by kernel_rfl) rfl rfl ⟨(blk_cell (CX.out.below (below_drew (Below.refl _ _))).qa 0).trans rfl, (blk_cell (CX.out.below (below_drew (Below.refl _ _))).qa 1).trans rfl, (blk_cell (CX.out.below (below_drew (Below.refl _ _))).qh 0).trans rfl, (blk_cell (CX.out.below (below_drew (Below.refl _ _))).qh 1).trans rfl, (blk_cell (CX.out.below (below_drew (Below.refl _ _))).qh 2).trans rfl, (blk_cell (CX.out.below (below_drew (Below.refl _ _))).qh 3).trans rfl, (blk_cell (CX.out.below (below_drew (Below.refl _ _))).qh 4).trans rfl, (blk_cell (CX.out.below (below_drew (Below.refl _ _))).qh 5).trans rfl⟩ (fun hHeld => ?_)
  have CY := Aside0.mk (CX.out.below (below_drew (Below.refl _ _)))
  clear CX
  have D0 : w1.drew.heap.size = w1.heap.size := rfl
  generalize hW0 : w1.drew = W0 at CY hHeld D0 ⊢
  replace D0 := Aside0.mk D0
  clear hW0
  refine take_ (i := 0) (N := some 25) (v := ?_) (a' := ?_) #[true, false, false, false, false, false, false, false, false, false, false, false, false] rfl rfl (by kernel_rfl) (fun _ _ _ h => h) (Or.inl ⟨by rfl, ?_⟩) hHeld ?_ ?_
  rotate_left
  · rintro w' ⟨s0, s1, s2, s3, s4, s5, s6, s7⟩
    go_simp
    with_reducible rfl
  rotate_left
  · simp only [Act.put, List.setIfInBounds_toArray, List.set_cons_zero, List.set_cons_succ, i64_w, i32_w]
    rfl
  refine take_ (i := 2) (N := some 27) (v := ?_) (a' := ?_) #[true, false, true, false, false, false, false, false, false, false, false, false, false] rfl rfl (by kernel_rfl) (fun _ _ _ h => h) (Or.inl ⟨by rfl, ?_⟩) hHeld ?_ ?_
  rotate_left
  · rintro w' ⟨s0, s1, s2, s3, s4, s5, s6, s7⟩
    go_simp
    with_reducible rfl
  rotate_left
  · simp only [Act.put, List.setIfInBounds_toArray, List.set_cons_zero, List.set_cons_succ, i64_w, i32_w]
    rfl
  clear hHeld
  have LB := Aside0.mk (Below.refl W0.heap.size W0)
  obtain ⟨n0, hn0⟩ : ∃ n0, n0 = W0.heap.size := ⟨_, rfl⟩
  have N0 := Aside0.mk hn0
  clear hn0
  refine join_ (σ := Sg) 3 #[true, true, true, true, true, true, true, true, true, true, false, false, false] (fun s_ => [(26, s_.u), (28, .agg #[.bool h.f0, .int .i64 h.f1, .int .i64 h.f2, .bool h.f3, .int .i64 h.f4, .int .i64 h.f5]), (29, .tuple #[.agg #[.slice s_.A0 R1.length s_.c0, .slice s_.A1 R2.length s_.c1], .int .i64 at_, .int .i64 code]), (24, .tuple #[.agg #[.slice s_.A0 R1.length s_.c0, .slice s_.A1 R2.length s_.c1], .int .i64 at_, .int .i64 code]), (30, .agg #[.slice s_.A0 R1.length s_.c0, .slice s_.A1 R2.length s_.c1]), (31, .int .i64 at_), (32, .int .i64 code), (6, .pointer (some ⟨s_.p, 0, none⟩))]) (fun s_ w' => Below W0.heap.size W0 w' ∧ Tb w' w.heap.size s_.l s_.h (.slice s_.A0 R1.length s_.c0) (.slice s_.A1 R2.length s_.c1) R1 R2 ∧ w'.heap[s_.p]? = some (.cells #[.slice none 0 0, .slice none 0 0] 51 (0, 0)) ∧ n0 ≤ s_.l ∧ s_.l ≤ s_.h ∧ s_.h ≤ w'.heap.size ∧ n0 ≤ s_.p ∧ (s_.p < s_.l ∨ s_.h ≤ s_.p)) ?_ ?_
  rotate_left
  · intro hCont
    refine two_ (i := 1) (j := 9) (Ni := some 26) (Nj := some 6) #[true, true, true, false, false, false, false, false, false, false, false, false, false] #[true, false, true, false, false, false, false, false, false, true, false, false, false] rfl rfl rfl rfl (by kernel_rfl) (by decide) (by decide) (fun K hK => ?_) (fun K hK => ?_)
    · skip
      refine goes_ Try.func26 (by kernel_rfl) rfl #[.agg #[.slice A0 S.length c0, .slice A1 F.length c1]] (by rfl) rfl rfl (by (try simp only [List.map_toArray, List.map_cons, List.map_nil]); first | done | rfl) ?_
      refine (laws_toTable.calls k _ c0 S _ c1 F M F _ (Kd.C_below H0.out (CY.out.below LB.out).l) C0.out (Kd.C_below H1.out (CY.out.below LB.out).l) C1.out Hto.out).mono ?_
      rintro e v1 ⟨u0, u1, rfl, x0, x1, hb⟩
      refine ⟨_, rfl, ?_⟩
      obtain ⟨Au0, cu0, rfl⟩ := Kd.R_slice x0
      obtain ⟨Au1, cu1, rfl⟩ := Kd.R_slice x1
      have T1 := Aside0.mk (Tb.new (below_size (CY.out.below LB.out).l) x0 x1)
      clear x0 x1
      replace LB := Aside0.mk (below_step LB.out hb)
      clear hb
      refine hK.out _ _ ⟨(blk_cell (CY.out.below LB.out).qa 0).trans rfl, (blk_cell (CY.out.below LB.out).qa 1).trans rfl, (blk_cell (CY.out.below LB.out).qh 0).trans rfl, (blk_cell (CY.out.below LB.out).qh 1).trans rfl, (blk_cell (CY.out.below LB.out).qh 2).trans rfl, (blk_cell (CY.out.below LB.out).qh 3).trans rfl, (blk_cell (CY.out.below LB.out).qh 4).trans rfl, (blk_cell (CY.out.below LB.out).qh 5).trans rfl⟩ (fun hHeld => ?_)
      clear hK K hHeld
      refine norm_ (a' := ?_) ?_ ?_
      rotate_left
      · show Act.put _ (some 26) _ = _
        simp only [Act.put, List.setIfInBounds_toArray, List.set_cons_zero, List.set_cons_succ, i64_w, i32_w]
        rfl
      refine two_ (i := 3) (j := 9) (Ni := some 28) (Nj := some 6) #[true, true, true, true, false, false, false, false, false, false, false, false, false] #[true, true, true, false, false, false, false, false, false, true, false, false, false] rfl rfl rfl rfl (by kernel_rfl) (by decide) (by decide) (fun K hK => ?_) (fun K hK => ?_)
      · skip
        refine goes_ Try.func35 (by kernel_rfl) rfl #[.agg #[.bool h.f0, .int .i64 h.f1, .int .i64 h.f2, .bool h.f3, .int .i64 h.f4, .int .i64 h.f5]] (by rfl) rfl rfl (by (try simp only [List.map_toArray, List.map_cons, List.map_nil]); first | done | rfl) ?_
        refine (laws_toHandle.calls h.f0 h.f1 h.f2 h.f3 h.f4 h.f5 h.f0 h.f1 h.f2 h.f3 h.f4 h.f5 _ Hth.out).mono ?_
        rintro e v2 ⟨rfl, hb⟩
        refine ⟨_, rfl, ?_⟩
        replace T1 := Aside0.mk (T1.out.below hb)
        replace LB := Aside0.mk (below_step LB.out hb)
        clear hb
        refine hK.out _ _ ⟨(blk_cell (CY.out.below LB.out).qa 0).trans rfl, (blk_cell (CY.out.below LB.out).qa 1).trans rfl, (blk_cell (CY.out.below LB.out).qh 0).trans rfl, (blk_cell (CY.out.below LB.out).qh 1).trans rfl, (blk_cell (CY.out.below LB.out).qh 2).trans rfl, (blk_cell (CY.out.below LB.out).qh 3).trans rfl, (blk_cell (CY.out.below LB.out).qh 4).trans rfl, (blk_cell (CY.out.below LB.out).qh 5).trans rfl⟩ (fun hHeld => ?_)
        clear hK K hHeld
        refine norm_ (a' := ?_) ?_ ?_
        rotate_left
        · show Act.put _ (some 28) _ = _
          simp only [Act.put, List.setIfInBounds_toArray, List.set_cons_zero, List.set_cons_succ, i64_w, i32_w]
          rfl
        refine two_ (i := 4) (j := 9) (Ni := some 29) (Nj := some 6) #[true, true, true, true, true, false, false, false, false, false, false, false, false] #[true, true, true, true, false, false, false, false, false, true, false, false, false] rfl rfl rfl rfl (by kernel_rfl) (by decide) (by decide) (fun K hK => ?_) (fun K hK => ?_)
        · skip
          refine goes_ Try.func34 (by kernel_rfl) rfl #[.agg #[.slice Au0 M.length cu0, .slice Au1 F.length cu1], .agg #[.bool h.f0, .int .i64 h.f1, .int .i64 h.f2, .bool h.f3, .int .i64 h.f4, .int .i64 h.f5]] (by rfl) rfl rfl (by (try simp only [List.map_toArray, List.map_cons, List.map_nil]); first | done | rfl) ?_
          have q0 := Kd.R_reads' T1.out.1
          have q1 := Kd.R_reads' T1.out.2
          refine (spec_NewHandle.calls k _ _ M _ _ F h.f0 h.f1 h.f2 h.f3 h.f4 h.f5 R1 R2 at_ code _ q0.2.2 q0.2.1 q1.2.2 q1.2.1 Hsp.out).mono ?_
          clear q0 q1
          rintro e v3 ⟨y0, y1, rfl, x0, x1, hb⟩
          refine ⟨_, rfl, ?_⟩
          obtain ⟨Ar0, cr0, rfl⟩ := Kd.R_slice x0
          obtain ⟨Ar1, cr1, rfl⟩ := Kd.R_slice x1
          obtain ⟨lr, hlr⟩ : ∃ lr, lr = v2.heap.size := ⟨_, rfl⟩
          obtain ⟨hr, hhr⟩ : ∃ hr, hr = v3.heap.size := ⟨_, rfl⟩
          have TR := Aside0.mk (show Tb v3 w.heap.size lr hr _ _ R1 R2 by rw [hlr, hhr]; exact Tb.new (below_size (CY.out.below LB.out).l) x0 x1)
          have LH := Aside0.mk (show n0 ≤ lr ∧ lr ≤ hr ∧ hr ≤ v3.heap.size by rw [hlr, hhr, N0.out]; exact ⟨LB.out.size, hb.size, Nat.le_refl _⟩)
          have LR := Aside0.mk hlr
          clear x0 x1 hlr hhr
          replace T1 := Aside0.mk (T1.out.below hb)
          replace LB := Aside0.mk (below_step LB.out hb)
          clear hb
          refine hK.out _ _ ⟨(blk_cell (CY.out.below LB.out).qa 0).trans rfl, (blk_cell (CY.out.below LB.out).qa 1).trans rfl, (blk_cell (CY.out.below LB.out).qh 0).trans rfl, (blk_cell (CY.out.below LB.out).qh 1).trans rfl, (blk_cell (CY.out.below LB.out).qh 2).trans rfl, (blk_cell (CY.out.below LB.out).qh 3).trans rfl, (blk_cell (CY.out.below LB.out).qh 4).trans rfl, (blk_cell (CY.out.below LB.out).qh 5).trans rfl⟩ (fun hHeld => ?_)
          clear hK K hHeld
          refine norm_ (a' := ?_) ?_ ?_
          rotate_left
          · show Act.put _ (some 29) _ = _
            simp only [Act.put, List.setIfInBounds_toArray, List.set_cons_zero, List.set_cons_succ, i64_w, i32_w]
            rfl
          refine pure_ (i := 5) (N := some 24) (v := ?_) (a' := ?_) #[true, true, true, true, true, true, false, false, false, false, false, false, false] rfl rfl (by kernel_rfl) (fun _ _ _ h => h) (Or.inl ⟨by rfl, ?_⟩) ?_ ?_
          rotate_left
          · intro w'
            go_simp
            with_reducible rfl
          rotate_left
          · simp only [Act.put, List.setIfInBounds_toArray, List.set_cons_zero, List.set_cons_succ, i64_w, i32_w]
            rfl
          refine pure_ (i := 6) (N := some 30) (v := ?_) (a' := ?_) #[true, true, true, true, true, true, true, false, false, false, false, false, false] rfl rfl (by kernel_rfl) (fun _ _ _ h => h) (Or.inl ⟨by rfl, ?_⟩) ?_ ?_
          rotate_left
          · intro w'
            go_simp
            with_reducible rfl
          rotate_left
          · simp only [Act.put, List.setIfInBounds_toArray, List.set_cons_zero, List.set_cons_succ, i64_w, i32_w]
            rfl
          refine pure_ (i := 7) (N := some 31) (v := ?_) (a' := ?_) #[true, true, true, true, true, true, true, true, false, false, false, false, false] rfl rfl (by kernel_rfl) (fun _ _ _ h => h) (Or.inl ⟨by rfl, ?_⟩) ?_ ?_
          rotate_left
          · intro w'
            go_simp
            with_reducible rfl
          rotate_left
          · simp only [Act.put, List.setIfInBounds_toArray, List.set_cons_zero, List.set_cons_succ, i64_w, i32_w]
            rfl
          refine pure_ (i := 8) (N := some 32) (v := ?_) (a' := ?_) #[true, true, true, true, true, true, true, true, true, false, false, false, false] rfl rfl (by kernel_rfl) (fun _ _ _ h => h) (Or.inl ⟨by rfl, ?_⟩) ?_ ?_
          rotate_left
          · intro w'
            go_simp
            with_reducible rfl
          rotate_left
          · simp only [Act.put, List.setIfInBounds_toArray, List.set_cons_zero, List.set_cons_succ, i64_w, i32_w]
            rfl
          refine one_ (i := 9) (N := some 6) #[true, true, true, true, true, true, true, true, true, true, false, false, false] rfl rfl (by kernel_rfl) (by decide) (fun K hK => ?_)
          refine value_ (w1 := v3.alloc (.cells #[.slice none 0 0, .slice none 0 0] 51 (0, 0))) (v := .pointer (some ⟨v3.heap.size, 0, none⟩)) (by rfl) rfl ?_ ?_
          · go_simp
          have hb : Below v3.heap.size v3 (v3.alloc (.cells #[.slice none 0 0, .slice none 0 0] 51 (0, 0))) := below_alloc (Below.refl _ _) _
          have al := blk_new v3 (.cells #[.slice none 0 0, .slice none 0 0] 51 (0, 0))
          obtain ⟨p, hp⟩ : ∃ p, p = v3.heap.size := ⟨_, rfl⟩
          rw [← hp] at al ⊢
          have PN := Aside0.mk (show n0 ≤ p by rw [hp, N0.out]; exact LB.out.size)
          have PH_ := Aside0.mk hp
          clear hp
          have AL := Aside0.mk al
          clear al
          generalize hv : v3.alloc (.cells #[.slice none 0 0, .slice none 0 0] 51 (0, 0)) = v4 at hb AL ⊢
          clear hv
          have PR := Aside0.mk (show p < lr ∨ hr ≤ p from Or.inr (by rw [PH_.out]; exact LH.out.2.2))
          replace T1 := Aside0.mk (T1.out.below hb)
          replace TR := Aside0.mk (TR.out.below hb)
          replace LH := Aside0.mk (⟨LH.out.1, LH.out.2.1, Nat.le_trans LH.out.2.2 hb.size⟩ : n0 ≤ lr ∧ lr ≤ hr ∧ hr ≤ v4.heap.size)
          replace LB := Aside0.mk (below_step LB.out hb)
          clear hb
          refine hK.out _ _ ⟨(blk_cell (CY.out.below LB.out).qa 0).trans rfl, (blk_cell (CY.out.below LB.out).qa 1).trans rfl, (blk_cell (CY.out.below LB.out).qh 0).trans rfl, (blk_cell (CY.out.below LB.out).qh 1).trans rfl, (blk_cell (CY.out.below LB.out).qh 2).trans rfl, (blk_cell (CY.out.below LB.out).qh 3).trans rfl, (blk_cell (CY.out.below LB.out).qh 4).trans rfl, (blk_cell (CY.out.below LB.out).qh 5).trans rfl⟩ (fun hHeld => ?_)
          clear hK K hHeld
          refine norm_ (a' := ?_) ?_ ?_
          rotate_left
          · show Act.put _ (some 6) _ = _
            simp only [Act.put, List.setIfInBounds_toArray, List.set_cons_zero, List.set_cons_succ, i64_w, i32_w]
            rfl
          exact norm_ (by simp only [putAll, Act.put, List.setIfInBounds_toArray, List.set_cons_zero, List.set_cons_succ]) (hCont ⟨.agg #[.slice Au0 M.length cu0, .slice Au1 F.length cu1], Ar0, cr0, Ar1, cr1, p, lr, hr⟩ _ ⟨LB.out, TR.out, AL.out, LH.out.1, LH.out.2.1, LH.out.2.2, PN.out, PR.out⟩)
        · skip
          refine value_ (w1 := v2.alloc (.cells #[.slice none 0 0, .slice none 0 0] 51 (0, 0))) (v := .pointer (some ⟨v2.heap.size, 0, none⟩)) (by rfl) rfl ?_ ?_
          · go_simp
          have hb : Below v2.heap.size v2 (v2.alloc (.cells #[.slice none 0 0, .slice none 0 0] 51 (0, 0))) := below_alloc (Below.refl _ _) _
          have al := blk_new v2 (.cells #[.slice none 0 0, .slice none 0 0] 51 (0, 0))
          obtain ⟨p, hp⟩ : ∃ p, p = v2.heap.size := ⟨_, rfl⟩
          rw [← hp] at al ⊢
          have PN := Aside0.mk (show n0 ≤ p by rw [hp, N0.out]; exact LB.out.size)
          have PH_ := Aside0.mk hp
          clear hp
          have AL := Aside0.mk al
          clear al
          generalize hv : v2.alloc (.cells #[.slice none 0 0, .slice none 0 0] 51 (0, 0)) = v5 at hb AL ⊢
          clear hv
          replace T1 := Aside0.mk (T1.out.below hb)
          replace LB := Aside0.mk (below_step LB.out hb)
          clear hb
          refine hK.out _ _ ⟨(blk_cell (CY.out.below LB.out).qa 0).trans rfl, (blk_cell (CY.out.below LB.out).qa 1).trans rfl, (blk_cell (CY.out.below LB.out).qh 0).trans rfl, (blk_cell (CY.out.below LB.out).qh 1).trans rfl, (blk_cell (CY.out.below LB.out).qh 2).trans rfl, (blk_cell (CY.out.below LB.out).qh 3).trans rfl, (blk_cell (CY.out.below LB.out).qh 4).trans rfl, (blk_cell (CY.out.below LB.out).qh 5).trans rfl⟩ (fun hHeld => ?_)
          clear hK K hHeld
          refine norm_ (a' := ?_) ?_ ?_
          rotate_left
          · show Act.put _ (some 6) _ = _
            simp only [Act.put, List.setIfInBounds_toArray, List.set_cons_zero, List.set_cons_succ, i64_w, i32_w]
            rfl
          refine one_ (i := 4) (N := some 29) #[true, true, true, true, true, false, false, false, false, true, false, false, false] rfl rfl (by kernel_rfl) (by decide) (fun K hK => ?_)
          refine goes_ Try.func34 (by kernel_rfl) rfl #[.agg #[.slice Au0 M.length cu0, .slice Au1 F.length cu1], .agg #[.bool h.f0, .int .i64 h.f1, .int .i64 h.f2, .bool h.f3, .int .i64 h.f4, .int .i64 h.f5]] (by rfl) rfl rfl (by (try simp only [List.map_toArray, List.map_cons, List.map_nil]); first | done | rfl) ?_
          have q0 := Kd.R_reads' T1.out.1
          have q1 := Kd.R_reads' T1.out.2
          refine (spec_NewHandle.calls k _ _ M _ _ F h.f0 h.f1 h.f2 h.f3 h.f4 h.f5 R1 R2 at_ code _ q0.2.2 q0.2.1 q1.2.2 q1.2.1 Hsp.out).mono ?_
          clear q0 q1
          rintro e v6 ⟨y0, y1, rfl, x0, x1, hb⟩
          refine ⟨_, rfl, ?_⟩
          obtain ⟨Ar0, cr0, rfl⟩ := Kd.R_slice x0
          obtain ⟨Ar1, cr1, rfl⟩ := Kd.R_slice x1
          obtain ⟨lr, hlr⟩ : ∃ lr, lr = v5.heap.size := ⟨_, rfl⟩
          obtain ⟨hr, hhr⟩ : ∃ hr, hr = v6.heap.size := ⟨_, rfl⟩
          have TR := Aside0.mk (show Tb v6 w.heap.size lr hr _ _ R1 R2 by rw [hlr, hhr]; exact Tb.new (below_size (CY.out.below LB.out).l) x0 x1)
          have LH := Aside0.mk (show n0 ≤ lr ∧ lr ≤ hr ∧ hr ≤ v6.heap.size by rw [hlr, hhr, N0.out]; exact ⟨LB.out.size, hb.size, Nat.le_refl _⟩)
          have LR := Aside0.mk hlr
          clear x0 x1 hlr hhr
          have PR := Aside0.mk (show p < lr ∨ hr ≤ p from Or.inl (by rw [LR.out]; exact blk_lt AL.out))
          replace T1 := Aside0.mk (T1.out.below hb)
          replace AL := Aside0.mk (blk_below AL.out hb)
          replace LB := Aside0.mk (below_step LB.out hb)
          clear hb
          refine hK.out _ _ ⟨(blk_cell (CY.out.below LB.out).qa 0).trans rfl, (blk_cell (CY.out.below LB.out).qa 1).trans rfl, (blk_cell (CY.out.below LB.out).qh 0).trans rfl, (blk_cell (CY.out.below LB.out).qh 1).trans rfl, (blk_cell (CY.out.below LB.out).qh 2).trans rfl, (blk_cell (CY.out.below LB.out).qh 3).trans rfl, (blk_cell (CY.out.below LB.out).qh 4).trans rfl, (blk_cell (CY.out.below LB.out).qh 5).trans rfl⟩ (fun hHeld => ?_)
          clear hK K hHeld
          refine norm_ (a' := ?_) ?_ ?_
          rotate_left
          · show Act.put _ (some 29) _ = _
            simp only [Act.put, List.setIfInBounds_toArray, List.set_cons_zero, List.set_cons_succ, i64_w, i32_w]
            rfl
          refine pure_ (i := 5) (N := some 24) (v := ?_) (a' := ?_) #[true, true, true, true, true, true, false, false, false, true, false, false, false] rfl rfl (by kernel_rfl) (fun _ _ _ h => h) (Or.inl ⟨by rfl, ?_⟩) ?_ ?_
          rotate_left
          · intro w'
            go_simp
            with_reducible rfl
          rotate_left
          · simp only [Act.put, List.setIfInBounds_toArray, List.set_cons_zero, List.set_cons_succ, i64_w, i32_w]
            rfl
          refine pure_ (i := 6) (N := some 30) (v := ?_) (a' := ?_) #[true, true, true, true, true, true, true, false, false, true, false, false, false] rfl rfl (by kernel_rfl) (fun _ _ _ h => h) (Or.inl ⟨by rfl, ?_⟩) ?_ ?_
          rotate_left
          · intro w'
            go_simp
            with_reducible rfl
          rotate_left
          · simp only [Act.put, List.setIfInBounds_toArray, List.set_cons_zero, List.set_cons_succ, i64_w, i32_w]
            rfl
          refine pure_ (i := 7) (N := some 31) (v := ?_) (a' := ?_) #[true, true, true, true, true, true, true, true, false, true, false, false, false] rfl rfl (by kernel_rfl) (fun _ _ _ h => h) (Or.inl ⟨by rfl, ?_⟩) ?_ ?_
          rotate_left
          · intro w'
            go_simp
            with_reducible rfl
          rotate_left
          · simp only [Act.put, List.setIfInBounds_toArray, List.set_cons_zero, List.set_cons_succ, i64_w, i32_w]
            rfl
          refine pure_ (i := 8) (N := some 32) (v := ?_) (a' := ?_) #[true, true, true, true, true, true, true, true, true, true, false, false, false] rfl rfl (by kernel_rfl) (fun _ _ _ h => h) (Or.inl ⟨by rfl, ?_⟩) ?_ ?_
          rotate_left
          · intro w'
            go_simp
            with_reducible rfl
          rotate_left
          · simp only [Act.put, List.setIfInBounds_toArray, List.set_cons_zero, List.set_cons_succ, i64_w, i32_w]
            rfl
          exact norm_ (by simp only [putAll, Act.put, List.setIfInBounds_toArray, List.set_cons_zero, List.set_cons_succ]) (hCont ⟨.agg #[.slice Au0 M.length cu0, .slice Au1 F.length cu1], Ar0, cr0, Ar1, cr1, p, lr, hr⟩ _ ⟨LB.out, TR.out, AL.out, LH.out.1, LH.out.2.1, LH.out.2.2, PN.out, PR.out⟩)
      · skip
        refine value_ (w1 := v1.alloc (.cells #[.slice none 0 0, .slice none 0 0] 51 (0, 0))) (v := .pointer (some ⟨v1.heap.size, 0, none⟩)) (by rfl) rfl ?_ ?_
        · go_simp
        have hb : Below v1.heap.size v1 (v1.alloc (.cells #[.slice none 0 0, .slice none 0 0] 51 (0, 0))) := below_alloc (Below.refl _ _) _
        have al := blk_new v1 (.cells #[.slice none 0 0, .slice none 0 0] 51 (0, 0))
        obtain ⟨p, hp⟩ : ∃ p, p = v1.heap.size := ⟨_, rfl⟩
        rw [← hp] at al ⊢
        have PN := Aside0.mk (show n0 ≤ p by rw [hp, N0.out]; exact LB.out.size)
        have PH_ := Aside0.mk hp
        clear hp
        have AL := Aside0.mk al
        clear al
        generalize hv : v1.alloc (.cells #[.slice none 0 0, .slice none 0 0] 51 (0, 0)) = v7 at hb AL ⊢
        clear hv
        replace T1 := Aside0.mk (T1.out.below hb)
        replace LB := Aside0.mk (below_step LB.out hb)
        clear hb
        refine hK.out _ _ ⟨(blk_cell (CY.out.below LB.out).qa 0).trans rfl, (blk_cell (CY.out.below LB.out).qa 1).trans rfl, (blk_cell (CY.out.below LB.out).qh 0).trans rfl, (blk_cell (CY.out.below LB.out).qh 1).trans rfl, (blk_cell (CY.out.below LB.out).qh 2).trans rfl, (blk_cell (CY.out.below LB.out).qh 3).trans rfl, (blk_cell (CY.out.below LB.out).qh 4).trans rfl, (blk_cell (CY.out.below LB.out).qh 5).trans rfl⟩ (fun hHeld => ?_)
        clear hK K hHeld
        refine norm_ (a' := ?_) ?_ ?_
        rotate_left
        · show Act.put _ (some 6) _ = _
          simp only [Act.put, List.setIfInBounds_toArray, List.set_cons_zero, List.set_cons_succ, i64_w, i32_w]
          rfl
        refine one_ (i := 3) (N := some 28) #[true, true, true, true, false, false, false, false, false, true, false, false, false] rfl rfl (by kernel_rfl) (by decide) (fun K hK => ?_)
        refine goes_ Try.func35 (by kernel_rfl) rfl #[.agg #[.bool h.f0, .int .i64 h.f1, .int .i64 h.f2, .bool h.f3, .int .i64 h.f4, .int .i64 h.f5]] (by rfl) rfl rfl (by (try simp only [List.map_toArray, List.map_cons, List.map_nil]); first | done | rfl) ?_
        refine (laws_toHandle.calls h.f0 h.f1 h.f2 h.f3 h.f4 h.f5 h.f0 h.f1 h.f2 h.f3 h.f4 h.f5 _ Hth.out).mono ?_
        rintro e v8 ⟨rfl, hb⟩
        refine ⟨_, rfl, ?_⟩
        replace T1 := Aside0.mk (T1.out.below hb)
        replace AL := Aside0.mk (blk_below AL.out hb)
        replace LB := Aside0.mk (below_step LB.out hb)
        clear hb
        refine hK.out _ _ ⟨(blk_cell (CY.out.below LB.out).qa 0).trans rfl, (blk_cell (CY.out.below LB.out).qa 1).trans rfl, (blk_cell (CY.out.below LB.out).qh 0).trans rfl, (blk_cell (CY.out.below LB.out).qh 1).trans rfl, (blk_cell (CY.out.below LB.out).qh 2).trans rfl, (blk_cell (CY.out.below LB.out).qh 3).trans rfl, (blk_cell (CY.out.below LB.out).qh 4).trans rfl, (blk_cell (CY.out.below LB.out).qh 5).trans rfl⟩ (fun hHeld => ?_)
        clear hK K hHeld
        refine norm_ (a' := ?_) ?_ ?_
        rotate_left
        · show Act.put _ (some 28) _ = _
          simp only [Act.put, List.setIfInBounds_toArray, List.set_cons_zero, List.set_cons_succ, i64_w, i32_w]
          rfl
        refine one_ (i := 4) (N := some 29) #[true, true, true, true, true, false, false, false, false, true, false, false, false] rfl rfl (by kernel_rfl) (by decide) (fun K hK => ?_)
        refine goes_ Try.func34 (by kernel_rfl) rfl #[.agg #[.slice Au0 M.length cu0, .slice Au1 F.length cu1], .agg #[.bool h.f0, .int .i64 h.f1, .int .i64 h.f2, .bool h.f3, .int .i64 h.f4, .int .i64 h.f5]] (by rfl) rfl rfl (by (try simp only [List.map_toArray, List.map_cons, List.map_nil]); first | done | rfl) ?_
        have q0 := Kd.R_reads' T1.out.1
        have q1 := Kd.R_reads' T1.out.2
        refine (spec_NewHandle.calls k _ _ M _ _ F h.f0 h.f1 h.f2 h.f3 h.f4 h.f5 R1 R2 at_ code _ q0.2.2 q0.2.1 q1.2.2 q1.2.1 Hsp.out).mono ?_
        clear q0 q1
        rintro e v9 ⟨y0, y1, rfl, x0, x1, hb⟩
        refine ⟨_, rfl, ?_⟩
        obtain ⟨Ar0, cr0, rfl⟩ := Kd.R_slice x0
        obtain ⟨Ar1, cr1, rfl⟩ := Kd.R_slice x1
        obtain ⟨lr, hlr⟩ : ∃ lr, lr = v8.heap.size := ⟨_, rfl⟩
        obtain ⟨hr, hhr⟩ : ∃ hr, hr = v9.heap.size := ⟨_, rfl⟩
        have TR := Aside0.mk (show Tb v9 w.heap.size lr hr _ _ R1 R2 by rw [hlr, hhr]; exact Tb.new (below_size (CY.out.below LB.out).l) x0 x1)
        have LH := Aside0.mk (show n0 ≤ lr ∧ lr ≤ hr ∧ hr ≤ v9.heap.size by rw [hlr, hhr, N0.out]; exact ⟨LB.out.size, hb.size, Nat.le_refl _⟩)
        have LR := Aside0.mk hlr
        clear x0 x1 hlr hhr
        have PR := Aside0.mk (show p < lr ∨ hr ≤ p from Or.inl (by rw [LR.out]; exact blk_lt AL.out))
        replace T1 := Aside0.mk (T1.out.below hb)
        replace AL := Aside0.mk (blk_below AL.out hb)
        replace LB := Aside0.mk (below_step LB.out hb)
        clear hb
        refine hK.out _ _ ⟨(blk_cell (CY.out.below LB.out).qa 0).trans rfl, (blk_cell (CY.out.below LB.out).qa 1).trans rfl, (blk_cell (CY.out.below LB.out).qh 0).trans rfl, (blk_cell (CY.out.below LB.out).qh 1).trans rfl, (blk_cell (CY.out.below LB.out).qh 2).trans rfl, (blk_cell (CY.out.below LB.out).qh 3).trans rfl, (blk_cell (CY.out.below LB.out).qh 4).trans rfl, (blk_cell (CY.out.below LB.out).qh 5).trans rfl⟩ (fun hHeld => ?_)
        clear hK K hHeld
        refine norm_ (a' := ?_) ?_ ?_
        rotate_left
        · show Act.put _ (some 29) _ = _
          simp only [Act.put, List.setIfInBounds_toArray, List.set_cons_zero, List.set_cons_succ, i64_w, i32_w]
          rfl
        refine pure_ (i := 5) (N := some 24) (v := ?_) (a' := ?_) #[true, true, true, true, true, true, false, false, false, true, false, false, false] rfl rfl (by kernel_rfl) (fun _ _ _ h => h) (Or.inl ⟨by rfl, ?_⟩) ?_ ?_
        rotate_left
        · intro w'
          go_simp
          with_reducible rfl
        rotate_left
        · simp only [Act.put, List.setIfInBounds_toArray, List.set_cons_zero, List.set_cons_succ, i64_w, i32_w]
          rfl
        refine pure_ (i := 6) (N := some 30) (v := ?_) (a' := ?_) #[true, true, true, true, true, true, true, false, false, true, false, false, false] rfl rfl (by kernel_rfl) (fun _ _ _ h => h) (Or.inl ⟨by rfl, ?_⟩) ?_ ?_
        rotate_left
        · intro w'
          go_simp
          with_reducible rfl
        rotate_left
        · simp only [Act.put, List.setIfInBounds_toArray, List.set_cons_zero, List.set_cons_succ, i64_w, i32_w]
          rfl
        refine pure_ (i := 7) (N := some 31) (v := ?_) (a' := ?_) #[true, true, true, true, true, true, true, true, false, true, false, false, false] rfl rfl (by kernel_rfl) (fun _ _ _ h => h) (Or.inl ⟨by rfl, ?_⟩) ?_ ?_
        rotate_left
        · intro w'
          go_simp
          with_reducible rfl
        rotate_left
        · simp only [Act.put, List.setIfInBounds_toArray, List.set_cons_zero, List.set_cons_succ, i64_w, i32_w]
          rfl
        refine pure_ (i := 8) (N := some 32) (v := ?_) (a' := ?_) #[true, true, true, true, true, true, true, true, true, true, false, false, false] rfl rfl (by kernel_rfl) (fun _ _ _ h => h) (Or.inl ⟨by rfl, ?_⟩) ?_ ?_
        rotate_left
        · intro w'
          go_simp
          with_reducible rfl
        rotate_left
        · simp only [Act.put, List.setIfInBounds_toArray, List.set_cons_zero, List.set_cons_succ, i64_w, i32_w]
          rfl
        exact norm_ (by simp only [putAll, Act.put, List.setIfInBounds_toArray, List.set_cons_zero, List.set_cons_succ]) (hCont ⟨.agg #[.slice Au0 M.length cu0, .slice Au1 F.length cu1], Ar0, cr0, Ar1, cr1, p, lr, hr⟩ _ ⟨LB.out, TR.out, AL.out, LH.out.1, LH.out.2.1, LH.out.2.2, PN.out, PR.out⟩)
    · skip
      refine value_ (w1 := W0.alloc (.cells #[.slice none 0 0, .slice none 0 0] 51 (0, 0))) (v := .pointer (some ⟨W0.heap.size, 0, none⟩)) (by rfl) rfl ?_ ?_
      · go_simp
      have hb : Below W0.heap.size W0 (W0.alloc (.cells #[.slice none 0 0, .slice none 0 0] 51 (0, 0))) := below_alloc (Below.refl _ _) _
      have al := blk_new W0 (.cells #[.slice none 0 0, .slice none 0 0] 51 (0, 0))
      obtain ⟨p, hp⟩ : ∃ p, p = W0.heap.size := ⟨_, rfl⟩
      rw [← hp] at al ⊢
      have PN := Aside0.mk (show n0 ≤ p by rw [hp, N0.out]; exact LB.out.size)
      have PH_ := Aside0.mk hp
      clear hp
      have AL := Aside0.mk al
      clear al
      generalize hv : W0.alloc (.cells #[.slice none 0 0, .slice none 0 0] 51 (0, 0)) = v10 at hb AL ⊢
      clear hv
      replace LB := Aside0.mk (below_step LB.out hb)
      clear hb
      refine hK.out _ _ ⟨(blk_cell (CY.out.below LB.out).qa 0).trans rfl, (blk_cell (CY.out.below LB.out).qa 1).trans rfl, (blk_cell (CY.out.below LB.out).qh 0).trans rfl, (blk_cell (CY.out.below LB.out).qh 1).trans rfl, (blk_cell (CY.out.below LB.out).qh 2).trans rfl, (blk_cell (CY.out.below LB.out).qh 3).trans rfl, (blk_cell (CY.out.below LB.out).qh 4).trans rfl, (blk_cell (CY.out.below LB.out).qh 5).trans rfl⟩ (fun hHeld => ?_)
      clear hK K hHeld
      refine norm_ (a' := ?_) ?_ ?_
      rotate_left
      · show Act.put _ (some 6) _ = _
        simp only [Act.put, List.setIfInBounds_toArray, List.set_cons_zero, List.set_cons_succ, i64_w, i32_w]
        rfl
      refine one_ (i := 1) (N := some 26) #[true, true, true, false, false, false, false, false, false, true, false, false, false] rfl rfl (by kernel_rfl) (by decide) (fun K hK => ?_)
      refine goes_ Try.func26 (by kernel_rfl) rfl #[.agg #[.slice A0 S.length c0, .slice A1 F.length c1]] (by rfl) rfl rfl (by (try simp only [List.map_toArray, List.map_cons, List.map_nil]); first | done | rfl) ?_
      refine (laws_toTable.calls k _ c0 S _ c1 F M F _ (Kd.C_below H0.out (CY.out.below LB.out).l) C0.out (Kd.C_below H1.out (CY.out.below LB.out).l) C1.out Hto.out).mono ?_
      rintro e v11 ⟨u0, u1, rfl, x0, x1, hb⟩
      refine ⟨_, rfl, ?_⟩
      obtain ⟨Au0, cu0, rfl⟩ := Kd.R_slice x0
      obtain ⟨Au1, cu1, rfl⟩ := Kd.R_slice x1
      have T1 := Aside0.mk (Tb.new (below_size (CY.out.below LB.out).l) x0 x1)
      clear x0 x1
      replace AL := Aside0.mk (blk_below AL.out hb)
      replace LB := Aside0.mk (below_step LB.out hb)
      clear hb
      refine hK.out _ _ ⟨(blk_cell (CY.out.below LB.out).qa 0).trans rfl, (blk_cell (CY.out.below LB.out).qa 1).trans rfl, (blk_cell (CY.out.below LB.out).qh 0).trans rfl, (blk_cell (CY.out.below LB.out).qh 1).trans rfl, (blk_cell (CY.out.below LB.out).qh 2).trans rfl, (blk_cell (CY.out.below LB.out).qh 3).trans rfl, (blk_cell (CY.out.below LB.out).qh 4).trans rfl, (blk_cell (CY.out.below LB.out).qh 5).trans rfl⟩ (fun hHeld => ?_)
      clear hK K hHeld
      refine norm_ (a' := ?_) ?_ ?_
      rotate_left
      · show Act.put _ (some 26) _ = _
        simp only [Act.put, List.setIfInBounds_toArray, List.set_cons_zero, List.set_cons_succ, i64_w, i32_w]
        rfl
      refine one_ (i := 3) (N := some 28) #[true, true, true, true, false, false, false, false, false, true, false, false, false] rfl rfl (by kernel_rfl) (by decide) (fun K hK => ?_)
      refine goes_ Try.func35 (by kernel_rfl) rfl #[.agg #[.bool h.f0, .int .i64 h.f1, .int .i64 h.f2, .bool h.f3, .int .i64 h.f4, .int .i64 h.f5]] (by rfl) rfl rfl (by (try simp only [List.map_toArray, List.map_cons, List.map_nil]); first | done | rfl) ?_
      refine (laws_toHandle.calls h.f0 h.f1 h.f2 h.f3 h.f4 h.f5 h.f0 h.f1 h.f2 h.f3 h.f4 h.f5 _ Hth.out).mono ?_
      rintro e v12 ⟨rfl, hb⟩
      refine ⟨_, rfl, ?_⟩
      replace T1 := Aside0.mk (T1.out.below hb)
      replace AL := Aside0.mk (blk_below AL.out hb)
      replace LB := Aside0.mk (below_step LB.out hb)
      clear hb
      refine hK.out _ _ ⟨(blk_cell (CY.out.below LB.out).qa 0).trans rfl, (blk_cell (CY.out.below LB.out).qa 1).trans rfl, (blk_cell (CY.out.below LB.out).qh 0).trans rfl, (blk_cell (CY.out.below LB.out).qh 1).trans rfl, (blk_cell (CY.out.below LB.out).qh 2).trans rfl, (blk_cell (CY.out.below LB.out).qh 3).trans rfl, (blk_cell (CY.out.below LB.out).qh 4).trans rfl, (blk_cell (CY.out.below LB.out).qh 5).trans rfl⟩ (fun hHeld => ?_)
      clear hK K hHeld
      refine norm_ (a' := ?_) ?_ ?_
      rotate_left
      · show Act.put _ (some 28) _ = _
        simp only [Act.put, List.setIfInBounds_toArray, List.set_cons_zero, List.set_cons_succ, i64_w, i32_w]
        rfl
      refine one_ (i := 4) (N := some 29) #[true, true, true, true, true, false, false, false, false, true, false, false, false] rfl rfl (by kernel_rfl) (by decide) (fun K hK => ?_)
      refine goes_ Try.func34 (by kernel_rfl) rfl #[.agg #[.slice Au0 M.length cu0, .slice Au1 F.length cu1], .agg #[.bool h.f0, .int .i64 h.f1, .int .i64 h.f2, .bool h.f3, .int .i64 h.f4, .int .i64 h.f5]] (by rfl) rfl rfl (by (try simp only [List.map_toArray, List.map_cons, List.map_nil]); first | done | rfl) ?_
      have q0 := Kd.R_reads' T1.out.1
      have q1 := Kd.R_reads' T1.out.2
      refine (spec_NewHandle.calls k _ _ M _ _ F h.f0 h.f1 h.f2 h.f3 h.f4 h.f5 R1 R2 at_ code _ q0.2.2 q0.2.1 q1.2.2 q1.2.1 Hsp.out).mono ?_
      clear q0 q1
      rintro e v13 ⟨y0, y1, rfl, x0, x1, hb⟩
      refine ⟨_, rfl, ?_⟩
      obtain ⟨Ar0, cr0, rfl⟩ := Kd.R_slice x0
      obtain ⟨Ar1, cr1, rfl⟩ := Kd.R_slice x1
      obtain ⟨lr, hlr⟩ : ∃ lr, lr = v12.heap.size := ⟨_, rfl⟩
      obtain ⟨hr, hhr⟩ : ∃ hr, hr = v13.heap.size := ⟨_, rfl⟩
      have TR := Aside0.mk (show Tb v13 w.heap.size lr hr _ _ R1 R2 by rw [hlr, hhr]; exact Tb.new (below_size (CY.out.below LB.out).l) x0 x1)
      have LH := Aside0.mk (show n0 ≤ lr ∧ lr ≤ hr ∧ hr ≤ v13.heap.size by rw [hlr, hhr, N0.out]; exact ⟨LB.out.size, hb.size, Nat.le_refl _⟩)
      have LR := Aside0.mk hlr
      clear x0 x1 hlr hhr
      have PR := Aside0.mk (show p < lr ∨ hr ≤ p from Or.inl (by rw [LR.out]; exact blk_lt AL.out))
      replace T1 := Aside0.mk (T1.out.below hb)
      replace AL := Aside0.mk (blk_below AL.out hb)
      replace LB := Aside0.mk (below_step LB.out hb)
      clear hb
      refine hK.out _ _ ⟨(blk_cell (CY.out.below LB.out).qa 0).trans rfl, (blk_cell (CY.out.below LB.out).qa 1).trans rfl, (blk_cell (CY.out.below LB.out).qh 0).trans rfl, (blk_cell (CY.out.below LB.out).qh 1).trans rfl, (blk_cell (CY.out.below LB.out).qh 2).trans rfl, (blk_cell (CY.out.below LB.out).qh 3).trans rfl, (blk_cell (CY.out.below LB.out).qh 4).trans rfl, (blk_cell (CY.out.below LB.out).qh 5).trans rfl⟩ (fun hHeld => ?_)
      clear hK K hHeld
      refine norm_ (a' := ?_) ?_ ?_
      rotate_left
      · show Act.put _ (some 29) _ = _
        simp only [Act.put, List.setIfInBounds_toArray, List.set_cons_zero, List.set_cons_succ, i64_w, i32_w]
        rfl
      refine pure_ (i := 5) (N := some 24) (v := ?_) (a' := ?_) #[true, true, true, true, true, true, false, false, false, true, false, false, false] rfl rfl (by kernel_rfl) (fun _ _ _ h => h) (Or.inl ⟨by rfl, ?_⟩) ?_ ?_
      rotate_left
      · intro w'
        go_simp
        with_reducible rfl
      rotate_left
      · simp only [Act.put, List.setIfInBounds_toArray, List.set_cons_zero, List.set_cons_succ, i64_w, i32_w]
        rfl
      refine pure_ (i := 6) (N := some 30) (v := ?_) (a' := ?_) #[true, true, true, true, true, true, true, false, false, true, false, false, false] rfl rfl (by kernel_rfl) (fun _ _ _ h => h) (Or.inl ⟨by rfl, ?_⟩) ?_ ?_
      rotate_left
      · intro w'
        go_simp
        with_reducible rfl
      rotate_left
      · simp only [Act.put, List.setIfInBounds_toArray, List.set_cons_zero, List.set_cons_succ, i64_w, i32_w]
        rfl
      refine pure_ (i := 7) (N := some 31) (v := ?_) (a' := ?_) #[true, true, true, true, true, true, true, true, false, true, false, false, false] rfl rfl (by kernel_rfl) (fun _ _ _ h => h) (Or.inl ⟨by rfl, ?_⟩) ?_ ?_
      rotate_left
      · intro w'
        go_simp
        with_reducible rfl
      rotate_left
      · simp only [Act.put, List.setIfInBounds_toArray, List.set_cons_zero, List.set_cons_succ, i64_w, i32_w]
        rfl
      refine pure_ (i := 8) (N := some 32) (v := ?_) (a' := ?_) #[true, true, true, true, true, true, true, true, true, true, false, false, false] rfl rfl (by kernel_rfl) (fun _ _ _ h => h) (Or.inl ⟨by rfl, ?_⟩) ?_ ?_
      rotate_left
      · intro w'
        go_simp
        with_reducible rfl
      rotate_left
      · simp only [Act.put, List.setIfInBounds_toArray, List.set_cons_zero, List.set_cons_succ, i64_w, i32_w]
        rfl
      exact norm_ (by simp only [putAll, Act.put, List.setIfInBounds_toArray, List.set_cons_zero, List.set_cons_succ]) (hCont ⟨.agg #[.slice Au0 M.length cu0, .slice Au1 F.length cu1], Ar0, cr0, Ar1, cr1, p, lr, hr⟩ _ ⟨LB.out, TR.out, AL.out, LH.out.1, LH.out.2.1, LH.out.2.2, PN.out, PR.out⟩)
  rintro ⟨u_, A80, c80, A81, c81, p8, l8, h8⟩ w9 ⟨LB', TR', AL', o1, o2, o3, o4, o5⟩
  dsimp only at TR' AL' o1 o2 o3 o4 o5
  have al0 : w9.cell? ⟨p8, 0, none⟩ = some (.slice none 0 0) := (blk_cell AL' 0).trans rfl
  have al1 : w9.cell? ⟨p8, 1, none⟩ = some (.slice none 0 0) := (blk_cell AL' 1).trans rfl
  have al2 := blk_frozen AL' 0
  have al3 := blk_frozen AL' 1
  replace LB' := Aside0.mk LB'
  replace TR' := Aside0.mk TR'
  replace AL' := Aside0.mk AL'
  replace o1 := Aside0.mk o1
  replace o2 := Aside0.mk o2
  replace o3 := Aside0.mk o3
  replace o4 := Aside0.mk o4
  replace o5 := Aside0.mk o5
  clear LB
  refine norm_ (a' := ?_) ?_ ?_
  rotate_left
  · simp only [putAll, Act.put, List.setIfInBounds_toArray, List.set_cons_zero, List.set_cons_succ]
    rfl
  refine one_ (i := 10) (N := none) #[true, true, true, true, true, true, true, true, true, true, true, false, false] rfl rfl (by kernel_rfl) (by decide) (fun K hK => ?_)
  refine skip_ (w1 := ((w9.setCell ⟨p8, 0, none⟩ (.slice A80 R1.length c80)).setCell ⟨p8, 1, none⟩ (.slice A81 R2.length c81))) (by rfl) rfl ?_ ?_
  · go_simp
  have Z := z_put2 (.slice A80 R1.length c80) (.slice A81 R2.length c81) AL'.out
  have LS : Below W0.heap.size W0 ((w9.setCell ⟨p8, 0, none⟩ (.slice A80 R1.length c80)).setCell ⟨p8, 1, none⟩ (.slice A81 R2.length c81)) := below_set (below_set LB'.out (by rw [← N0.out]; exact o4.out)) (by rw [← N0.out]; exact o4.out)
  have TS : Tb ((w9.setCell ⟨p8, 0, none⟩ (.slice A80 R1.length c80)).setCell ⟨p8, 1, none⟩ (.slice A81 R2.length c81)) w.heap.size l8 h8 (.slice A80 R1.length c80) (.slice A81 R2.length c81) R1 R2 := TR'.out.keep (fun k a b _ => Z.2.1 k (by have := o5.out; omega))
  have ZS := Z.2.2
  have ZP := Z.1
  clear Z
  have o6 := o3.out
  have o7 := blk_lt AL'.out
  rw [← ZS] at o6 o7
  generalize ((w9.setCell ⟨p8, 0, none⟩ (.slice A80 R1.length c80)).setCell ⟨p8, 1, none⟩ (.slice A81 R2.length c81)) = W9 at LS TS ZS ZP o6 o7 ⊢
  have CX := Aside0.mk (CY.out.below LS)
  have N9 := Aside0.mk (show n0 ≤ W9.heap.size by rw [N0.out]; exact LS.size)
  replace TS := Aside0.mk TS
  replace ZP := Aside0.mk ZP
  replace o6 := Aside0.mk o6
  replace o7 := Aside0.mk o7
  clear al0 al1 al2 al3 LS ZS LB' TR' AL' o3 CY
  refine hK.out _ _ ⟨(blk_cell (CX.out).qa 0).trans rfl, (blk_cell (CX.out).qa 1).trans rfl, (blk_cell (CX.out).qh 0).trans rfl, (blk_cell (CX.out).qh 1).trans rfl, (blk_cell (CX.out).qh 2).trans rfl, (blk_cell (CX.out).qh 3).trans rfl, (blk_cell (CX.out).qh 4).trans rfl, (blk_cell (CX.out).qh 5).trans rfl⟩ (fun hHeld => ?_)
  clear hK K hHeld
  refine pure_ (i := 11) (N := some 7) (v := ?_) (a' := ?_) #[true, true, true, true, true, true, true, true, true, true, true, true, false] rfl rfl (by kernel_rfl) (fun _ _ _ h => h) (Or.inl ⟨by rfl, ?_⟩) ?_ ?_
  rotate_left
  · intro w'
    go_simp
    with_reducible rfl
  rotate_left
  · simp only [Act.put, List.setIfInBounds_toArray, List.set_cons_zero, List.set_cons_succ, i64_w, i32_w]
    rfl
  refine pure_ (i := 12) (N := some 8) (v := ?_) (a' := ?_) #[true, true, true, true, true, true, true, true, true, true, true, true, true] rfl rfl (by kernel_rfl) (fun _ _ _ h => h) (Or.inl ⟨by rfl, ?_⟩) ?_ ?_
  rotate_left
  · intro w'
    go_simp
    with_reducible rfl
  rotate_left
  · simp only [Act.put, List.setIfInBounds_toArray, List.set_cons_zero, List.set_cons_succ, i64_w, i32_w]
    rfl
  refine done_ (by kernel_rfl) ?_
  have ma_0 : W9.cell? ⟨w.heap.size, 0, none⟩ = some (.slice A0 S.length c0) := (blk_cell (CX.out).qa 0).trans rfl
  have ma_1 : W9.cell? ⟨w.heap.size, 1, none⟩ = some (.slice A1 F.length c1) := (blk_cell (CX.out).qa 1).trans rfl
  go_upto_region 7 with (go_at_call 26; refine (laws_toTable.calls k _ c0 S _ c1 F M F _ (Kd.C_below H0.out CX.out.l) C0.out (Kd.C_below H1.out CX.out.l) C1.out Hto.out).mono ?_; rintro e w5 ⟨x110, x111, rfl, x0, x1, hb⟩; obtain ⟨Ax110, cx110, rfl⟩ := Kd.R_slice x0; obtain ⟨Ax111, cx111, rfl⟩ := Kd.R_slice x1; have T11 := Aside0.mk (Tb.new (below_size CX.out.l) x0 x1); have B11 := Aside0.mk hb; clear hb x0 x1)
  obtain ⟨W6, hW⟩ : ∃ W6, W6 = w5.alloc (.cells #[.slice Ax110 M.length cx110, .slice Ax111 F.length cx111] 51 (0, 0)) := ⟨_, rfl⟩
  obtain ⟨p11, hp11⟩ : ∃ p11, p11 = w5.heap.size := ⟨_, rfl⟩
  obtain ⟨l11, hl11⟩ : ∃ l11, l11 = W9.heap.size := ⟨_, rfl⟩
  obtain ⟨h11, hh11⟩ : ∃ h11, h11 = w5.heap.size := ⟨_, rfl⟩
  have cx : C7 w (.slice A0 S.length c0) (.slice A1 F.length c1) (.slice A80 R1.length c80) (.slice A81 R2.length c81) (.slice Ax110 M.length cx110) (.slice Ax111 F.length cx111) #[.bool h.f0, .int .i64 h.f1, .int .i64 h.f2, .bool h.f3, .int .i64 h.f4, .int .i64 h.f5] R1 R2 p8 l8 h8 p11 l11 h11 M F W6 := by
    rw [hW, hp11, hl11, hh11]
    have hB := below_step B11.out (below_alloc (Below.refl _ _) (.cells #[.slice Ax110 M.length cx110, .slice Ax111 F.length cx111] 51 (0, 0)))
    exact ⟨blk_below CX.out.qa hB, blk_below CX.out.qh hB, blk_below ZP.out hB, blk_new w5 _, TS.out.below hB, T11.out.alloc _, below_step CX.out.l hB⟩
  have o8 : w.heap.size + 1 < l11 ∧ p8 < l11 ∧ h8 ≤ l11 ∧ l11 ≤ h11 ∧ h11 ≤ p11 ∧ p11 < W6.heap.size := by
    rw [hW, hp11, hl11, hh11]
    exact ⟨blk_lt CX.out.qh, o7.out, o6.out, B11.out.size, Nat.le_refl _, z_lt_alloc w5 _⟩
  rw [← hW, ← hp11]
  replace CX := Aside0.mk cx
  have O8 := Aside0.mk o8
  clear hW hp11 hl11 hh11 cx o8 ma_0 ma_1 T11 B11 TS ZP o6 o7 o1 o2 o4 o5 N9 N0
  refine start_ (n := 12) (S := fun w' => w'.cell? ⟨p11, 0, none⟩ = some (.slice Ax110 M.length cx110) ∧ w'.cell? ⟨p11, 1, none⟩ = some (.slice Ax111 F.length cx111) ∧ w'.cell? ⟨w.heap.size + 1, 0, none⟩ = some (.bool h.f0) ∧ w'.cell? ⟨w.heap.size + 1, 1, none⟩ = some (.int .i64 h.f1) ∧ w'.cell? ⟨w.heap.size + 1, 2, none⟩ = some (.int .i64 h.f2) ∧ w'.cell? ⟨w.heap.size + 1, 3, none⟩ = some (.bool h.f3) ∧ w'.cell? ⟨w.heap.size + 1, 4, none⟩ = some (.int .i64 h.f4) ∧ w'.cell? ⟨w.heap.size + 1, 5, none⟩ = some (.int .i64 h.f5)) (ds := []) #[false, false, false, false, false, false, false, false, false, false, false, false] (by kernel_rfl) rfl rfl ⟨(blk_cell (CX.out.below (below_drew (Below.refl _ _))).q11 0).trans rfl, (blk_cell (CX.out.below (below_drew (Below.refl _ _))).q11 1).trans rfl, (blk_cell (CX.out.below (below_drew (Below.refl _ _))).qh 0).trans rfl, (blk_cell (CX.out.below (below_drew (Below.refl _ _))).qh 1).trans rfl, (blk_cell (CX.out.below (below_drew (Below.refl _ _))).qh 2).trans rfl, (blk_cell (CX.out.below (below_drew (Below.refl _ _))).qh 3).trans rfl, (blk_cell (CX.out.below (below_drew (Below.refl _ _))).qh 4).trans rfl, (blk_cell (CX.out.below (below_drew (Below.refl _ _))).qh 5).trans rfl⟩ (fun hHeld => ?_)
  have CY := Aside0.mk (CX.out.below (below_drew (Below.refl _ _)))
  clear CX
  have D0 : W6.drew.heap.size = W6.heap.size := rfl
  generalize hW0 : W6.drew = W0 at CY hHeld D0 ⊢
  replace D0 := Aside0.mk D0
  clear hW0
  refine take_ (i := 0) (N := some 36) (v := ?_) (a' := ?_) #[true, false, false, false, false, false, false, false, false, false, false, false] rfl rfl (by kernel_rfl) (fun _ _ _ h => h) (Or.inl ⟨by rfl, ?_⟩) hHeld ?_ ?_
  rotate_left
  · rintro w' ⟨s0, s1, s2, s3, s4, s5, s6, s7⟩
    go_simp
    with_reducible rfl
  rotate_left
  · simp only [Act.put, List.setIfInBounds_toArray, List.set_cons_zero, List.set_cons_succ, i64_w, i32_w]
    rfl
  refine take_ (i := 1) (N := some 37) (v := ?_) (a' := ?_) #[true, true, false, false, false, false, false, false, false, false, false, false] rfl rfl (by kernel_rfl) (fun _ _ _ h => h) (Or.inl ⟨by rfl, ?_⟩) hHeld ?_ ?_
  rotate_left
  · rintro w' ⟨s0, s1, s2, s3, s4, s5, s6, s7⟩
    go_simp
    with_reducible rfl
  rotate_left
  · simp only [Act.put, List.setIfInBounds_toArray, List.set_cons_zero, List.set_cons_succ, i64_w, i32_w]
    rfl
  clear hHeld
  have LB := Aside0.mk (Below.refl W0.heap.size W0)
  obtain ⟨n0, hn0⟩ : ∃ n0, n0 = W0.heap.size := ⟨_, rfl⟩
  have N0 := Aside0.mk hn0
  clear hn0
  refine join_ (σ := Sg) 3 #[true, true, true, true, true, true, true, true, true, false, false, false] (fun s_ => [(38, .agg #[.bool h.f0, .int .i64 h.f1, .int .i64 h.f2, .bool h.f3, .int .i64 h.f4, .int .i64 h.f5]), (39, .tuple #[.agg #[.slice s_.A0 R1.length s_.c0, .slice s_.A1 R2.length s_.c1], .int .i64 at_, .int .i64 code]), (35, .tuple #[.agg #[.slice s_.A0 R1.length s_.c0, .slice s_.A1 R2.length s_.c1], .int .i64 at_, .int .i64 code]), (40, .agg #[.slice s_.A0 R1.length s_.c0, .slice s_.A1 R2.length s_.c1]), (41, .int .i64 at_), (42, .int .i64 code), (10, .pointer (some ⟨s_.p, 0, none⟩))]) (fun s_ w' => Below W0.heap.size W0 w' ∧ Tb w' w.heap.size s_.l s_.h (.slice s_.A0 R1.length s_.c0) (.slice s_.A1 R2.length s_.c1) R1 R2 ∧ w'.heap[s_.p]? = some (.cells #[.slice none 0 0, .slice none 0 0] 51 (0, 0)) ∧ n0 ≤ s_.l ∧ s_.l ≤ s_.h ∧ s_.h ≤ w'.heap.size ∧ n0 ≤ s_.p ∧ (s_.p < s_.l ∨ s_.h ≤ s_.p)) ?_ ?_
  rotate_left
  · intro hCont
    refine two_ (i := 2) (j := 8) (Ni := some 38) (Nj := some 10) #[true, true, true, false, false, false, false, false, false, false, false, false] #[true, true, false, false, false, false, false, false, true, false, false, false] rfl rfl rfl rfl (by kernel_rfl) (by decide) (by decide) (fun K hK => ?_) (fun K hK => ?_)
    · skip
      refine goes_ Try.func35 (by kernel_rfl) rfl #[.agg #[.bool h.f0, .int .i64 h.f1, .int .i64 h.f2, .bool h.f3, .int .i64 h.f4, .int .i64 h.f5]] (by rfl) rfl rfl (by (try simp only [List.map_toArray, List.map_cons, List.map_nil]); first | done | rfl) ?_
      refine (laws_toHandle.calls h.f0 h.f1 h.f2 h.f3 h.f4 h.f5 h.f0 h.f1 h.f2 h.f3 h.f4 h.f5 _ Hth.out).mono ?_
      rintro e v14 ⟨rfl, hb⟩
      refine ⟨_, rfl, ?_⟩
      replace LB := Aside0.mk (below_step LB.out hb)
      clear hb
      refine hK.out _ _ ⟨(blk_cell (CY.out.below LB.out).q11 0).trans rfl, (blk_cell (CY.out.below LB.out).q11 1).trans rfl, (blk_cell (CY.out.below LB.out).qh 0).trans rfl, (blk_cell (CY.out.below LB.out).qh 1).trans rfl, (blk_cell (CY.out.below LB.out).qh 2).trans rfl, (blk_cell (CY.out.below LB.out).qh 3).trans rfl, (blk_cell (CY.out.below LB.out).qh 4).trans rfl, (blk_cell (CY.out.below LB.out).qh 5).trans rfl⟩ (fun hHeld => ?_)
      clear hK K hHeld
      refine norm_ (a' := ?_) ?_ ?_
      rotate_left
      · show Act.put _ (some 38) _ = _
        simp only [Act.put, List.setIfInBounds_toArray, List.set_cons_zero, List.set_cons_succ, i64_w, i32_w]
        rfl
      refine two_ (i := 3) (j := 8) (Ni := some 39) (Nj := some 10) #[true, true, true, true, false, false, false, false, false, false, false, false] #[true, true, true, false, false, false, false, false, true, false, false, false] rfl rfl rfl rfl (by kernel_rfl) (by decide) (by decide) (fun K hK => ?_) (fun K hK => ?_)
      · skip
        refine goes_ Try.func36 (by kernel_rfl) rfl #[.agg #[.slice Ax110 M.length cx110, .slice Ax111 F.length cx111], .agg #[.bool h.f0, .int .i64 h.f1, .int .i64 h.f2, .bool h.f3, .int .i64 h.f4, .int .i64 h.f5]] (by rfl) rfl rfl (by (try simp only [List.map_toArray, List.map_cons, List.map_nil]); first | done | rfl) ?_
        have q0 := Kd.R_reads' (CY.out.below LB.out).t11.1
        have q1 := Kd.R_reads' (CY.out.below LB.out).t11.2
        refine (impl_NewHandle.calls k _ _ M _ _ F h.f0 h.f1 h.f2 h.f3 h.f4 h.f5 R1 R2 at_ code _ q0.2.2 q0.2.1 q1.2.2 q1.2.1 Him.out).mono ?_
        clear q0 q1
        rintro e v15 ⟨y0, y1, rfl, x0, x1, hb⟩
        refine ⟨_, rfl, ?_⟩
        obtain ⟨Ar0, cr0, rfl⟩ := Kd.R_slice x0
        obtain ⟨Ar1, cr1, rfl⟩ := Kd.R_slice x1
        obtain ⟨lr, hlr⟩ : ∃ lr, lr = v14.heap.size := ⟨_, rfl⟩
        obtain ⟨hr, hhr⟩ : ∃ hr, hr = v15.heap.size := ⟨_, rfl⟩
        have TR := Aside0.mk (show Tb v15 w.heap.size lr hr _ _ R1 R2 by rw [hlr, hhr]; exact Tb.new (below_size (CY.out.below LB.out).l) x0 x1)
        have LH := Aside0.mk (show n0 ≤ lr ∧ lr ≤ hr ∧ hr ≤ v15.heap.size by rw [hlr, hhr, N0.out]; exact ⟨LB.out.size, hb.size, Nat.le_refl _⟩)
        have LR := Aside0.mk hlr
        clear x0 x1 hlr hhr
        replace LB := Aside0.mk (below_step LB.out hb)
        clear hb
        refine hK.out _ _ ⟨(blk_cell (CY.out.below LB.out).q11 0).trans rfl, (blk_cell (CY.out.below LB.out).q11 1).trans rfl, (blk_cell (CY.out.below LB.out).qh 0).trans rfl, (blk_cell (CY.out.below LB.out).qh 1).trans rfl, (blk_cell (CY.out.below LB.out).qh 2).trans rfl, (blk_cell (CY.out.below LB.out).qh 3).trans rfl, (blk_cell (CY.out.below LB.out).qh 4).trans rfl, (blk_cell (CY.out.below LB.out).qh 5).trans rfl⟩ (fun hHeld => ?_)
        clear hK K hHeld
        refine norm_ (a' := ?_) ?_ ?_
        rotate_left
        · show Act.put _ (some 39) _ = _
          simp only [Act.put, List.setIfInBounds_toArray, List.set_cons_zero, List.set_cons_succ, i64_w, i32_w]
          rfl
        refine pure_ (i := 4) (N := some 35) (v := ?_) (a' := ?_) #[true, true, true, true, true, false, false, false, false, false, false, false] rfl rfl (by kernel_rfl) (fun _ _ _ h => h) (Or.inl ⟨by rfl, ?_⟩) ?_ ?_
        rotate_left
        · intro w'
          go_simp
          with_reducible rfl
        rotate_left
        · simp only [Act.put, List.setIfInBounds_toArray, List.set_cons_zero, List.set_cons_succ, i64_w, i32_w]
          rfl
        refine pure_ (i := 5) (N := some 40) (v := ?_) (a' := ?_) #[true, true, true, true, true, true, false, false, false, false, false, false] rfl rfl (by kernel_rfl) (fun _ _ _ h => h) (Or.inl ⟨by rfl, ?_⟩) ?_ ?_
        rotate_left
        · intro w'
          go_simp
          with_reducible rfl
        rotate_left
        · simp only [Act.put, List.setIfInBounds_toArray, List.set_cons_zero, List.set_cons_succ, i64_w, i32_w]
          rfl
        refine pure_ (i := 6) (N := some 41) (v := ?_) (a' := ?_) #[true, true, true, true, true, true, true, false, false, false, false, false] rfl rfl (by kernel_rfl) (fun _ _ _ h => h) (Or.inl ⟨by rfl, ?_⟩) ?_ ?_
        rotate_left
        · intro w'
          go_simp
          with_reducible rfl
        rotate_left
        · simp only [Act.put, List.setIfInBounds_toArray, List.set_cons_zero, List.set_cons_succ, i64_w, i32_w]
          rfl
        refine pure_ (i := 7) (N := some 42) (v := ?_) (a' := ?_) #[true, true, true, true, true, true, true, true, false, false, false, false] rfl rfl (by kernel_rfl) (fun _ _ _ h => h) (Or.inl ⟨by rfl, ?_⟩) ?_ ?_
        rotate_left
        · intro w'
          go_simp
          with_reducible rfl
        rotate_left
        · simp only [Act.put, List.setIfInBounds_toArray, List.set_cons_zero, List.set_cons_succ, i64_w, i32_w]
          rfl
        refine one_ (i := 8) (N := some 10) #[true, true, true, true, true, true, true, true, true, false, false, false] rfl rfl (by kernel_rfl) (by decide) (fun K hK => ?_)
        refine value_ (w1 := v15.alloc (.cells #[.slice none 0 0, .slice none 0 0] 51 (0, 0))) (v := .pointer (some ⟨v15.heap.size, 0, none⟩)) (by rfl) rfl ?_ ?_
        · go_simp
        have hb : Below v15.heap.size v15 (v15.alloc (.cells #[.slice none 0 0, .slice none 0 0] 51 (0, 0))) := below_alloc (Below.refl _ _) _
        have al := blk_new v15 (.cells #[.slice none 0 0, .slice none 0 0] 51 (0, 0))
        obtain ⟨p, hp⟩ : ∃ p, p = v15.heap.size := ⟨_, rfl⟩
        rw [← hp] at al ⊢
        have PN := Aside0.mk (show n0 ≤ p by rw [hp, N0.out]; exact LB.out.size)
        have PH_ := Aside0.mk hp
        clear hp
        have AL := Aside0.mk al
        clear al
        generalize hv : v15.alloc (.cells #[.slice none 0 0, .slice none 0 0] 51 (0, 0)) = v16 at hb AL ⊢
        clear hv
        have PR := Aside0.mk (show p < lr ∨ hr ≤ p from Or.inr (by rw [PH_.out]; exact LH.out.2.2))
        replace TR := Aside0.mk (TR.out.below hb)
        replace LH := Aside0.mk (⟨LH.out.1, LH.out.2.1, Nat.le_trans LH.out.2.2 hb.size⟩ : n0 ≤ lr ∧ lr ≤ hr ∧ hr ≤ v16.heap.size)
        replace LB := Aside0.mk (below_step LB.out hb)
        clear hb
        refine hK.out _ _ ⟨(blk_cell (CY.out.below LB.out).q11 0).trans rfl, (blk_cell (CY.out.below LB.out).q11 1).trans rfl, (blk_cell (CY.out.below LB.out).qh 0).trans rfl, (blk_cell (CY.out.below LB.out).qh 1).trans rfl, (blk_cell (CY.out.below LB.out).qh 2).trans rfl, (blk_cell (CY.out.below LB.out).qh 3).trans rfl, (blk_cell (CY.out.below LB.out).qh 4).trans rfl, (blk_cell (CY.out.below LB.out).qh 5).trans rfl⟩ (fun hHeld => ?_)
        clear hK K hHeld
        refine norm_ (a' := ?_) ?_ ?_
        rotate_left
        · show Act.put _ (some 10) _ = _
          simp only [Act.put, List.setIfInBounds_toArray, List.set_cons_zero, List.set_cons_succ, i64_w, i32_w]
          rfl
        exact norm_ (by simp only [putAll, Act.put, List.setIfInBounds_toArray, List.set_cons_zero, List.set_cons_succ]) (hCont ⟨.bool false, Ar0, cr0, Ar1, cr1, p, lr, hr⟩ _ ⟨LB.out, TR.out, AL.out, LH.out.1, LH.out.2.1, LH.out.2.2, PN.out, PR.out⟩)
      · skip
        refine value_ (w1 := v14.alloc (.cells #[.slice none 0 0, .slice none 0 0] 51 (0, 0))) (v := .pointer (some ⟨v14.heap.size, 0, none⟩)) (by rfl) rfl ?_ ?_
        · go_simp
        have hb : Below v14.heap.size v14 (v14.alloc (.cells #[.slice none 0 0, .slice none 0 0] 51 (0, 0))) := below_alloc (Below.refl _ _) _
        have al := blk_new v14 (.cells #[.slice none 0 0, .slice none 0 0] 51 (0, 0))
        obtain ⟨p, hp⟩ : ∃ p, p = v14.heap.size := ⟨_, rfl⟩
        rw [← hp] at al ⊢
        have PN := Aside0.mk (show n0 ≤ p by rw [hp, N0.out]; exact LB.out.size)
        have PH_ := Aside0.mk hp
        clear hp
        have AL := Aside0.mk al
        clear al
        generalize hv : v14.alloc (.cells #[.slice none 0 0, .slice none 0 0] 51 (0, 0)) = v17 at hb AL ⊢
        clear hv
        replace LB := Aside0.mk (below_step LB.out hb)
        clear hb
        refine hK.out _ _ ⟨(blk_cell (CY.out.below LB.out).q11 0).trans rfl, (blk_cell (CY.out.below LB.out).q11 1).trans rfl, (blk_cell (CY.out.below LB.out).qh 0).trans rfl, (blk_cell (CY.out.below LB.out).qh 1).trans rfl, (blk_cell (CY.out.below LB.out).qh 2).trans rfl, (blk_cell (CY.out.below LB.out).qh 3).trans rfl, (blk_cell (CY.out.below LB.out).qh 4).trans rfl, (blk_cell (CY.out.below LB.out).qh 5).trans rfl⟩ (fun hHeld => ?_)
        clear hK K hHeld
        refine norm_ (a' := ?_) ?_ ?_
        rotate_left
        · show Act.put _ (some 10) _ = _
          simp only [Act.put, List.setIfInBounds_toArray, List.set_cons_zero, List.set_cons_succ, i64_w, i32_w]
          rfl
        refine one_ (i := 3) (N := some 39) #[true, true, true, true, false, false, false, false, true, false, false, false] rfl rfl (by kernel_rfl) (by decide) (fun K hK => ?_)
        refine goes_ Try.func36 (by kernel_rfl) rfl #[.agg #[.slice Ax110 M.length cx110, .slice Ax111 F.length cx111], .agg #[.bool h.f0, .int .i64 h.f1, .int .i64 h.f2, .bool h.f3, .int .i64 h.f4, .int .i64 h.f5]] (by rfl) rfl rfl (by (try simp only [List.map_toArray, List.map_cons, List.map_nil]); first | done | rfl) ?_
        have q0 := Kd.R_reads' (CY.out.below LB.out).t11.1
        have q1 := Kd.R_reads' (CY.out.below LB.out).t11.2
        refine (impl_NewHandle.calls k _ _ M _ _ F h.f0 h.f1 h.f2 h.f3 h.f4 h.f5 R1 R2 at_ code _ q0.2.2 q0.2.1 q1.2.2 q1.2.1 Him.out).mono ?_
        clear q0 q1
        rintro e v18 ⟨y0, y1, rfl, x0, x1, hb⟩
        refine ⟨_, rfl, ?_⟩
        obtain ⟨Ar0, cr0, rfl⟩ := Kd.R_slice x0
        obtain ⟨Ar1, cr1, rfl⟩ := Kd.R_slice x1
        obtain ⟨lr, hlr⟩ : ∃ lr, lr = v17.heap.size := ⟨_, rfl⟩
        obtain ⟨hr, hhr⟩ : ∃ hr, hr = v18.heap.size := ⟨_, rfl⟩
        have TR := Aside0.mk (show Tb v18 w.heap.size lr hr _ _ R1 R2 by rw [hlr, hhr]; exact Tb.new (below_size (CY.out.below LB.out).l) x0 x1)
        have LH := Aside0.mk (show n0 ≤ lr ∧ lr ≤ hr ∧ hr ≤ v18.heap.size by rw [hlr, hhr, N0.out]; exact ⟨LB.out.size, hb.size, Nat.le_refl _⟩)
        have LR := Aside0.mk hlr
        clear x0 x1 hlr hhr
        have PR := Aside0.mk (show p < lr ∨ hr ≤ p from Or.inl (by rw [LR.out]; exact blk_lt AL.out))
        replace AL := Aside0.mk (blk_below AL.out hb)
        replace LB := Aside0.mk (below_step LB.out hb)
        clear hb
        refine hK.out _ _ ⟨(blk_cell (CY.out.below LB.out).q11 0).trans rfl, (blk_cell (CY.out.below LB.out).q11 1).trans rfl, (blk_cell (CY.out.below LB.out).qh 0).trans rfl, (blk_cell (CY.out.below LB.out).qh 1).trans rfl, (blk_cell (CY.out.below LB.out).qh 2).trans rfl, (blk_cell (CY.out.below LB.out).qh 3).trans rfl, (blk_cell (CY.out.below LB.out).qh 4).trans rfl, (blk_cell (CY.out.below LB.out).qh 5).trans rfl⟩ (fun hHeld => ?_)
        clear hK K hHeld
        refine norm_ (a' := ?_) ?_ ?_
        rotate_left
        · show Act.put _ (some 39) _ = _
          simp only [Act.put, List.setIfInBounds_toArray, List.set_cons_zero, List.set_cons_succ, i64_w, i32_w]
          rfl
        refine pure_ (i := 4) (N := some 35) (v := ?_) (a' := ?_) #[true, true, true, true, true, false, false, false, true, false, false, false] rfl rfl (by kernel_rfl) (fun _ _ _ h => h) (Or.inl ⟨by rfl, ?_⟩) ?_ ?_
        rotate_left
        · intro w'
          go_simp
          with_reducible rfl
        rotate_left
        · simp only [Act.put, List.setIfInBounds_toArray, List.set_cons_zero, List.set_cons_succ, i64_w, i32_w]
          rfl
        refine pure_ (i := 5) (N := some 40) (v := ?_) (a' := ?_) #[true, true, true, true, true, true, false, false, true, false, false, false] rfl rfl (by kernel_rfl) (fun _ _ _ h => h) (Or.inl ⟨by rfl, ?_⟩) ?_ ?_
        rotate_left
        · intro w'
          go_simp
          with_reducible rfl
        rotate_left
        · simp only [Act.put, List.setIfInBounds_toArray, List.set_cons_zero, List.set_cons_succ, i64_w, i32_w]
          rfl
        refine pure_ (i := 6) (N := some 41) (v := ?_) (a' := ?_) #[true, true, true, true, true, true, true, false, true, false, false, false] rfl rfl (by kernel_rfl) (fun _ _ _ h => h) (Or.inl ⟨by rfl, ?_⟩) ?_ ?_
        rotate_left
        · intro w'
          go_simp
          with_reducible rfl
        rotate_left
        · simp only [Act.put, List.setIfInBounds_toArray, List.set_cons_zero, List.set_cons_succ, i64_w, i32_w]
          rfl
        refine pure_ (i := 7) (N := some 42) (v := ?_) (a' := ?_) #[true, true, true, true, true, true, true, true, true, false, false, false] rfl rfl (by kernel_rfl) (fun _ _ _ h => h) (Or.inl ⟨by rfl, ?_⟩) ?_ ?_
        rotate_left
        · intro w'
          go_simp
          with_reducible rfl
        rotate_left
        · simp only [Act.put, List.setIfInBounds_toArray, List.set_cons_zero, List.set_cons_succ, i64_w, i32_w]
          rfl
        exact norm_ (by simp only [putAll, Act.put, List.setIfInBounds_toArray, List.set_cons_zero, List.set_cons_succ]) (hCont ⟨.bool false, Ar0, cr0, Ar1, cr1, p, lr, hr⟩ _ ⟨LB.out, TR.out, AL.out, LH.out.1, LH.out.2.1, LH.out.2.2, PN.out, PR.out⟩)
    · skip
      refine value_ (w1 := W0.alloc (.cells #[.slice none 0 0, .slice none 0 0] 51 (0, 0))) (v := .pointer (some ⟨W0.heap.size, 0, none⟩)) (by rfl) rfl ?_ ?_
      · go_simp
      have hb : Below W0.heap.size W0 (W0.alloc (.cells #[.slice none 0 0, .slice none 0 0] 51 (0, 0))) := below_alloc (Below.refl _ _) _
      have al := blk_new W0 (.cells #[.slice none 0 0, .slice none 0 0] 51 (0, 0))
      obtain ⟨p, hp⟩ : ∃ p, p = W0.heap.size := ⟨_, rfl⟩
      rw [← hp] at al ⊢
      have PN := Aside0.mk (show n0 ≤ p by rw [hp, N0.out]; exact LB.out.size)
      have PH_ := Aside0.mk hp
      clear hp
      have AL := Aside0.mk al
      clear al
      generalize hv : W0.alloc (.cells #[.slice none 0 0, .slice none 0 0] 51 (0, 0)) = v19 at hb AL ⊢
      clear hv
      replace LB := Aside0.mk (below_step LB.out hb)
      clear hb
      refine hK.out _ _ ⟨(blk_cell (CY.out.below LB.out).q11 0).trans rfl, (blk_cell (CY.out.below LB.out).q11 1).trans rfl, (blk_cell (CY.out.below LB.out).qh 0).trans rfl, (blk_cell (CY.out.below LB.out).qh 1).trans rfl, (blk_cell (CY.out.below LB.out).qh 2).trans rfl, (blk_cell (CY.out.below LB.out).qh 3).trans rfl, (blk_cell (CY.out.below LB.out).qh 4).trans rfl, (blk_cell (CY.out.below LB.out).qh 5).trans rfl⟩ (fun hHeld => ?_)
      clear hK K hHeld
      refine norm_ (a' := ?_) ?_ ?_
      rotate_left
      · show Act.put _ (some 10) _ = _
        simp only [Act.put, List.setIfInBounds_toArray, List.set_cons_zero, List.set_cons_succ, i64_w, i32_w]
        rfl
      refine one_ (i := 2) (N := some 38) #[true, true, true, false, false, false, false, false, true, false, false, false] rfl rfl (by kernel_rfl) (by decide) (fun K hK => ?_)
      refine goes_ Try.func35 (by kernel_rfl) rfl #[.agg #[.bool h.f0, .int .i64 h.f1, .int .i64 h.f2, .bool h.f3, .int .i64 h.f4, .int .i64 h.f5]] (by rfl) rfl rfl (by (try simp only [List.map_toArray, List.map_cons, List.map_nil]); first | done | rfl) ?_
      refine (laws_toHandle.calls h.f0 h.f1 h.f2 h.f3 h.f4 h.f5 h.f0 h.f1 h.f2 h.f3 h.f4 h.f5 _ Hth.out).mono ?_
      rintro e v20 ⟨rfl, hb⟩
      refine ⟨_, rfl, ?_⟩
      replace AL := Aside0.mk (blk_below AL.out hb)
      replace LB := Aside0.mk (below_step LB.out hb)
      clear hb
      refine hK.out _ _ ⟨(blk_cell (CY.out.below LB.out).q11 0).trans rfl, (blk_cell (CY.out.below LB.out).q11 1).trans rfl, (blk_cell (CY.out.below LB.out).qh 0).trans rfl, (blk_cell (CY.out.below LB.out).qh 1).trans rfl, (blk_cell (CY.out.below LB.out).qh 2).trans rfl, (blk_cell (CY.out.below LB.out).qh 3).trans rfl, (blk_cell (CY.out.below LB.out).qh 4).trans rfl, (blk_cell (CY.out.below LB.out).qh 5).trans rfl⟩ (fun hHeld => ?_)
      clear hK K hHeld
      refine norm_ (a' := ?_) ?_ ?_
      rotate_left
      · show Act.put _ (some 38) _ = _
        simp only [Act.put, List.setIfInBounds_toArray, List.set_cons_zero, List.set_cons_succ, i64_w, i32_w]
        rfl
      refine one_ (i := 3) (N := some 39) #[true, true, true, true, false, false, false, false, true, false, false, false] rfl rfl (by kernel_rfl) (by decide) (fun K hK => ?_)
      refine goes_ Try.func36 (by kernel_rfl) rfl #[.agg #[.slice Ax110 M.length cx110, .slice Ax111 F.length cx111], .agg #[.bool h.f0, .int .i64 h.f1, .int .i64 h.f2, .bool h.f3, .int .i64 h.f4, .int .i64 h.f5]] (by rfl) rfl rfl (by (try simp only [List.map_toArray, List.map_cons, List.map_nil]); first | done | rfl) ?_
      have q0 := Kd.R_reads' (CY.out.below LB.out).t11.1
      have q1 := Kd.R_reads' (CY.out.below LB.out).t11.2
      refine (impl_NewHandle.calls k _ _ M _ _ F h.f0 h.f1 h.f2 h.f3 h.f4 h.f5 R1 R2 at_ code _ q0.2.2 q0.2.1 q1.2.2 q1.2.1 Him.out).mono ?_
      clear q0 q1
      rintro e v21 ⟨y0, y1, rfl, x0, x1, hb⟩
      refine ⟨_, rfl, ?_⟩
      obtain ⟨Ar0, cr0, rfl⟩ := Kd.R_slice x0
      obtain ⟨Ar1, cr1, rfl⟩ := Kd.R_slice x1
      obtain ⟨lr, hlr⟩ : ∃ lr, lr = v20.heap.size := ⟨_, rfl⟩
      obtain ⟨hr, hhr⟩ : ∃ hr, hr = v21.heap.size := ⟨_, rfl⟩
      have TR := Aside0.mk (show Tb v21 w.heap.size lr hr _ _ R1 R2 by rw [hlr, hhr]; exact Tb.new (below_size (CY.out.below LB.out).l) x0 x1)
      have LH := Aside0.mk (show n0 ≤ lr ∧ lr ≤ hr ∧ hr ≤ v21.heap.size by rw [hlr, hhr, N0.out]; exact ⟨LB.out.size, hb.size, Nat.le_refl _⟩)
      have LR := Aside0.mk hlr
      clear x0 x1 hlr hhr
      have PR := Aside0.mk (show p < lr ∨ hr ≤ p from Or.inl (by rw [LR.out]; exact blk_lt AL.out))
      replace AL := Aside0.mk (blk_below AL.out hb)
      replace LB := Aside0.mk (below_step LB.out hb)
      clear hb
      refine hK.out _ _ ⟨(blk_cell (CY.out.below LB.out).q11 0).trans rfl, (blk_cell (CY.out.below LB.out).q11 1).trans rfl, (blk_cell (CY.out.below LB.out).qh 0).trans rfl, (blk_cell (CY.out.below LB.out).qh 1).trans rfl, (blk_cell (CY.out.below LB.out).qh 2).trans rfl, (blk_cell (CY.out.below LB.out).qh 3).trans rfl, (blk_cell (CY.out.below LB.out).qh 4).trans rfl, (blk_cell (CY.out.below LB.out).qh 5).trans rfl⟩ (fun hHeld => ?_)
      clear hK K hHeld
      refine norm_ (a' := ?_) ?_ ?_
      rotate_left
      · show Act.put _ (some 39) _ = _
        simp only [Act.put, List.setIfInBounds_toArray, List.set_cons_zero, List.set_cons_succ, i64_w, i32_w]
        rfl
      refine pure_ (i := 4) (N := some 35) (v := ?_) (a' := ?_) #[true, true, true, true, true, false, false, false, true, false, false, false] rfl rfl (by kernel_rfl) (fun _ _ _ h => h) (Or.inl ⟨by rfl, ?_⟩) ?_ ?_
      rotate_left
      · intro w'
        go_simp
        with_reducible rfl
      rotate_left
      · simp only [Act.put, List.setIfInBounds_toArray, List.set_cons_zero, List.set_cons_succ, i64_w, i32_w]
        rfl
      refine pure_ (i := 5) (N := some 40) (v := ?_) (a' := ?_) #[true, true, true, true, true, true, false, false, true, false, false, false] rfl rfl (by kernel_rfl) (fun _ _ _ h => h) (Or.inl ⟨by rfl, ?_⟩) ?_ ?_
      rotate_left
      · intro w'
        go_simp
        with_reducible rfl
      rotate_left
      · simp only [Act.put, List.setIfInBounds_toArray, List.set_cons_zero, List.set_cons_succ, i64_w, i32_w]
        rfl
      refine pure_ (i := 6) (N := some 41) (v := ?_) (a' := ?_) #[true, true, true, true, true, true, true, false, true, false, false, false] rfl rfl (by kernel_rfl) (fun _ _ _ h => h) (Or.inl ⟨by rfl, ?_⟩) ?_ ?_
      rotate_left
      · intro w'
        go_simp
        with_reducible rfl
      rotate_left
      · simp only [Act.put, List.setIfInBounds_toArray, List.set_cons_zero, List.set_cons_succ, i64_w, i32_w]
        rfl
      refine pure_ (i := 7) (N := some 42) (v := ?_) (a' := ?_) #[true, true, true, true, true, true, true, true, true, false, false, false] rfl rfl (by kernel_rfl) (fun _ _ _ h => h) (Or.inl ⟨by rfl, ?_⟩) ?_ ?_
      rotate_left
      · intro w'
        go_simp
        with_reducible rfl
      rotate_left
      · simp only [Act.put, List.setIfInBounds_toArray, List.set_cons_zero, List.set_cons_succ, i64_w, i32_w]
        rfl
      exact norm_ (by simp only [putAll, Act.put, List.setIfInBounds_toArray, List.set_cons_zero, List.set_cons_succ]) (hCont ⟨.bool false, Ar0, cr0, Ar1, cr1, p, lr, hr⟩ _ ⟨LB.out, TR.out, AL.out, LH.out.1, LH.out.2.1, LH.out.2.2, PN.out, PR.out⟩)
  rintro ⟨u_, A120, c120, A121, c121, p12, l12, h12⟩ w9 ⟨LB', TR', AL', o1, o2, o3, o4, o5⟩
  dsimp only at TR' AL' o1 o2 o3 o4 o5
  have al0 : w9.cell? ⟨p12, 0, none⟩ = some (.slice none 0 0) := (blk_cell AL' 0).trans rfl
  have al1 : w9.cell? ⟨p12, 1, none⟩ = some (.slice none 0 0) := (blk_cell AL' 1).trans rfl
  have al2 := blk_frozen AL' 0
  have al3 := blk_frozen AL' 1
  replace LB' := Aside0.mk LB'
  replace TR' := Aside0.mk TR'
  replace AL' := Aside0.mk AL'
  replace o1 := Aside0.mk o1
  replace o2 := Aside0.mk o2
  replace o3 := Aside0.mk o3
  replace o4 := Aside0.mk o4
  replace o5 := Aside0.mk o5
  clear LB
  refine norm_ (a' := ?_) ?_ ?_
  rotate_left
  · simp only [putAll, Act.put, List.setIfInBounds_toArray, List.set_cons_zero, List.set_cons_succ]
    rfl
  refine one_ (i := 9) (N := none) #[true, true, true, true, true, true, true, true, true, true, false, false] rfl rfl (by kernel_rfl) (by decide) (fun K hK => ?_)
  refine skip_ (w1 := ((w9.setCell ⟨p12, 0, none⟩ (.slice A120 R1.length c120)).setCell ⟨p12, 1, none⟩ (.slice A121 R2.length c121))) (by rfl) rfl ?_ ?_
  · go_simp
  have Z := z_put2 (.slice A120 R1.length c120) (.slice A121 R2.length c121) AL'.out
  have LS : Below W0.heap.size W0 ((w9.setCell ⟨p12, 0, none⟩ (.slice A120 R1.length c120)).setCell ⟨p12, 1, none⟩ (.slice A121 R2.length c121)) := below_set (below_set LB'.out (by rw [← N0.out]; exact o4.out)) (by rw [← N0.out]; exact o4.out)
  have TS : Tb ((w9.setCell ⟨p12, 0, none⟩ (.slice A120 R1.length c120)).setCell ⟨p12, 1, none⟩ (.slice A121 R2.length c121)) w.heap.size l12 h12 (.slice A120 R1.length c120) (.slice A121 R2.length c121) R1 R2 := TR'.out.keep (fun k a b _ => Z.2.1 k (by have := o5.out; omega))
  have ZS := Z.2.2
  have ZP := Z.1
  clear Z
  have o6 := o3.out
  have o7 := blk_lt AL'.out
  rw [← ZS] at o6 o7
  generalize ((w9.setCell ⟨p12, 0, none⟩ (.slice A120 R1.length c120)).setCell ⟨p12, 1, none⟩ (.slice A121 R2.length c121)) = W9 at LS TS ZS ZP o6 o7 ⊢
  have CX := Aside0.mk (CY.out.below LS)
  have N9 := Aside0.mk (show n0 ≤ W9.heap.size by rw [N0.out]; exact LS.size)
  replace TS := Aside0.mk TS
  replace ZP := Aside0.mk ZP
  replace o6 := Aside0.mk o6
  replace o7 := Aside0.mk o7
  clear al0 al1 al2 al3 LS ZS LB' TR' AL' o3 CY
  refine hK.out _ _ ⟨(blk_cell (CX.out).q11 0).trans rfl, (blk_cell (CX.out).q11 1).trans rfl, (blk_cell (CX.out).qh 0).trans rfl, (blk_cell (CX.out).qh 1).trans rfl, (blk_cell (CX.out).qh 2).trans rfl, (blk_cell (CX.out).qh 3).trans rfl, (blk_cell (CX.out).qh 4).trans rfl, (blk_cell (CX.out).qh 5).trans rfl⟩ (fun hHeld => ?_)
  clear hK K hHeld
  refine pure_ (i := 10) (N := some 11) (v := ?_) (a' := ?_) #[true, true, true, true, true, true, true, true, true, true, true, false] rfl rfl (by kernel_rfl) (fun _ _ _ h => h) (Or.inl ⟨by rfl, ?_⟩) ?_ ?_
  rotate_left
  · intro w'
    go_simp
    with_reducible rfl
  rotate_left
  · simp only [Act.put, List.setIfInBounds_toArray, List.set_cons_zero, List.set_cons_succ, i64_w, i32_w]
    rfl
  refine pure_ (i := 11) (N := some 12) (v := ?_) (a' := ?_) #[true, true, true, true, true, true, true, true, true, true, true, true] rfl rfl (by kernel_rfl) (fun _ _ _ h => h) (Or.inl ⟨by rfl, ?_⟩) ?_ ?_
  rotate_left
  · intro w'
    go_simp
    with_reducible rfl
  rotate_left
  · simp only [Act.put, List.setIfInBounds_toArray, List.set_cons_zero, List.set_cons_succ, i64_w, i32_w]
    rfl
  refine done_ (by kernel_rfl) ?_
  have st : Sn w (.slice A0 S.length c0) (.slice A1 F.length c1) (.slice A80 R1.length c80) (.slice A81 R2.length c81) (.slice Ax110 M.length cx110) (.slice Ax111 F.length cx111) (.slice A120 R1.length c120) (.slice A121 R2.length c121) #[.bool h.f0, .int .i64 h.f1, .int .i64 h.f2, .bool h.f3, .int .i64 h.f4, .int .i64 h.f5] R1 R2 p8 l8 h8 p11 l11 h11 p12 l12 h12 M F R1 R2 W9 := ⟨CX.out.qa, CX.out.qh, CX.out.q8, CX.out.q11, ZP.out, CX.out.t8, CX.out.t11, TS.out, by have := O8.out; have := D0.out; have := N0.out; have := o1.out; have := o4.out; have := o5.out; omega, CX.out.l⟩
  have ST := Aside0.mk st
  clear st CX TS ZP O8 D0 N0 N9 o1 o2 o4 o5 o6 o7
  have m12_0 : W9.cell? ⟨p12, 0, none⟩ = some (.slice A120 R1.length c120) := (blk_cell (ST.out).q12 0).trans rfl
  have m12_1 : W9.cell? ⟨p12, 1, none⟩ = some (.slice A121 R2.length c121) := (blk_cell (ST.out).q12 1).trans rfl
  have m8_0 : W9.cell? ⟨p8, 0, none⟩ = some (.slice A80 R1.length c80) := (blk_cell (ST.out).q8 0).trans rfl
  have m8_1 : W9.cell? ⟨p8, 1, none⟩ = some (.slice A81 R2.length c81) := (blk_cell (ST.out).q8 1).trans rfl
  go_upto_region 10 with (go_at_call 29; have x0 := Kd.R_reads' ST.out.t12.1; have x1 := Kd.R_reads' ST.out.t12.2; have y0 := Kd.R_reads' ST.out.t8.1; have y1 := Kd.R_reads' ST.out.t8.2; refine (laws_eqTable.calls k _ _ R1 _ _ R2 _ _ R1 _ _ R2 true _ x0.2.2 x0.2.1 x1.2.2 x1.2.1 y0.2.2 y0.2.1 y1.2.2 y1.2.1 He1.out).mono ?_; clear x0 x1 y0 y1; rintro e y1 ⟨rfl, hb⟩; have ST2 := Aside0.mk (ST.out.below hb); clear hb; clear m12_0 m12_1 m8_0 m8_1; skip)
  clear ST
  refine start_ (n := 5) (S := fun w' => w'.cell? ⟨p11, 0, none⟩ = some (.slice Ax110 M.length cx110) ∧ w'.cell? ⟨p11, 1, none⟩ = some (.slice Ax111 F.length cx111) ∧ w'.cell? ⟨w.heap.size, 0, none⟩ = some (.slice A0 S.length c0) ∧ w'.cell? ⟨w.heap.size, 1, none⟩ = some (.slice A1 F.length c1)) (ds := []) #[false, false, false, false, false] (by kernel_rfl) rfl rfl ⟨(blk_cell (blk_drew ST2.out.q11) 0).trans rfl, (blk_cell (blk_drew ST2.out.q11) 1).trans rfl, (blk_cell (blk_drew ST2.out.qa) 0).trans rfl, (blk_cell (blk_drew ST2.out.qa) 1).trans rfl⟩ (fun hHeld => ?_)
  have ST3 := Aside0.mk (ST2.out.below (below_drew (Below.refl _ _)))
  clear ST2
  generalize y1.drew = y1' at ST3 hHeld ⊢
  refine take_ (i := 0) (N := some 57) (v := ?_) (a' := ?_) #[true, false, false, false, false] rfl rfl (by kernel_rfl) (fun _ _ _ h => h) (Or.inl ⟨by rfl, ?_⟩) hHeld ?_ ?_
  rotate_left
  · rintro w' ⟨s0, s1, s2, s3⟩
    go_simp
    with_reducible rfl
  rotate_left
  · simp only [Act.put, List.setIfInBounds_toArray, List.set_cons_zero, List.set_cons_succ, i64_w, i32_w]
    rfl
  refine take_ (i := 1) (N := some 58) (v := ?_) (a' := ?_) #[true, true, false, false, false] rfl rfl (by kernel_rfl) (fun _ _ _ h => h) (Or.inl ⟨by rfl, ?_⟩) hHeld ?_ ?_
  rotate_left
  · rintro w' ⟨s0, s1, s2, s3⟩
    go_simp
    with_reducible rfl
  rotate_left
  · simp only [Act.put, List.setIfInBounds_toArray, List.set_cons_zero, List.set_cons_succ, i64_w, i32_w]
    rfl
  refine one_ (i := 2) (N := some 59) #[true, true, true, false, false] rfl rfl (by kernel_rfl) (by decide) (fun K hK => ?_)
  refine goes_ Try.func26 (by kernel_rfl) rfl #[.agg #[.slice A0 S.length c0, .slice A1 F.length c1]] (by rfl) rfl rfl (by (try simp only [List.map_toArray, List.map_cons, List.map_nil]); first | done | rfl) ?_
  refine (laws_toTable.calls k _ c0 S _ c1 F M F _ (Kd.C_below H0.out ST3.out.l) C0.out (Kd.C_below H1.out ST3.out.l) C1.out Hto.out).mono ?_
  rintro e y2 ⟨x140, x141, rfl, x0, x1, hb⟩
  refine ⟨_, rfl, ?_⟩
  obtain ⟨A140, c140, rfl⟩ := Kd.R_slice x0
  obtain ⟨A141, c141, rfl⟩ := Kd.R_slice x1
  have T14 := Aside0.mk (Tb.new (below_size ST3.out.l) x0 x1)
  have ST4 := Aside0.mk (ST3.out.below hb)
  clear hb x0 x1 ST3 hHeld
  refine hK.out _ _ ⟨(blk_cell ST4.out.q11 0).trans rfl, (blk_cell ST4.out.q11 1).trans rfl, (blk_cell ST4.out.qa 0).trans rfl, (blk_cell ST4.out.qa 1).trans rfl⟩ (fun hHeld => ?_)
  clear hK K
  refine norm_ (a' := ?_) ?_ ?_
  rotate_left
  · show Act.put _ (some 59) _ = _
    simp only [Act.put, List.setIfInBounds_toArray, List.set_cons_zero, List.set_cons_succ, i64_w, i32_w]
    rfl
  refine one_ (i := 3) (N := some 60) #[true, true, true, true, false] rfl rfl (by kernel_rfl) (by decide) (fun K hK => ?_)
  refine goes_ Try.func29 (by kernel_rfl) rfl #[.agg #[.slice Ax110 M.length cx110, .slice Ax111 F.length cx111], .agg #[.slice A140 M.length c140, .slice A141 F.length c141]] (by rfl) rfl rfl (by (try simp only [List.map_toArray, List.map_cons, List.map_nil]); first | done | rfl) ?_
  have x0 := Kd.R_reads' ST4.out.t11.1
  have x1 := Kd.R_reads' ST4.out.t11.2
  have y0 := Kd.R_reads' T14.out.1
  have y1_ := Kd.R_reads' T14.out.2
  refine (laws_eqTable.calls k _ _ M _ _ F _ _ M _ _ F true _ x0.2.2 x0.2.1 x1.2.2 x1.2.1 y0.2.2 y0.2.1 y1_.2.2 y1_.2.1 He2.out).mono ?_
  clear x0 x1 y0 y1_
  rintro e y3 ⟨rfl, hb⟩
  refine ⟨_, rfl, ?_⟩
  have ST5 := Aside0.mk (ST4.out.below hb)
  clear hb ST4 T14 hHeld y1' y2
  refine hK.out _ _ ⟨(blk_cell ST5.out.q11 0).trans rfl, (blk_cell ST5.out.q11 1).trans rfl, (blk_cell ST5.out.qa 0).trans rfl, (blk_cell ST5.out.qa 1).trans rfl⟩ (fun hHeld => ?_)
  clear hK K hHeld
  refine norm_ (a' := ?_) ?_ ?_
  rotate_left
  · show Act.put _ (some 60) _ = _
    simp only [Act.put, List.setIfInBounds_toArray, List.set_cons_zero, List.set_cons_succ, i64_w, i32_w]
    rfl
  refine pure_ (i := 4) (N := some 61) (v := ?_) (a' := ?_) #[true, true, true, true, true] rfl rfl (by kernel_rfl) (fun _ _ _ h => h) (Or.inl ⟨by rfl, ?_⟩) ?_ ?_
  rotate_left
  · intro w'
    go_simp
    with_reducible rfl
  rotate_left
  · simp only [Act.put, List.setIfInBounds_toArray, List.set_cons_zero, List.set_cons_succ, i64_w, i32_w]
    rfl
  refine done_ (by kernel_rfl) ?_
  have m11_0 : y3.cell? ⟨p11, 0, none⟩ = some (.slice Ax110 M.length cx110) := (blk_cell (ST5.out).q11 0).trans rfl
  have m11_1 : y3.cell? ⟨p11, 1, none⟩ = some (.slice Ax111 F.length cx111) := (blk_cell (ST5.out).q11 1).trans rfl
  go_upto_region 14 with (go_at_call 32; refine (z_mark.calls k w n1 X1 Y1 _ ST5.out.l ST5.out.t11 Hm1.out).mono ?_; rintro e y4 ⟨rfl, tb, hb, hk⟩; have ST6 := Aside0.mk (ST5.out.mark11 tb hb hk); clear tb hb hk; clear m11_0 m11_1; have m12_0 : y4.cell? ⟨p12, 0, none⟩ = some (.slice A120 R1.length c120) := (blk_cell (ST6.out).q12 0).trans rfl; have m12_1 : y4.cell? ⟨p12, 1, none⟩ = some (.slice A121 R2.length c121) := (blk_cell (ST6.out).q12 1).trans rfl; have m8_0 : y4.cell? ⟨p8, 0, none⟩ = some (.slice A80 R1.length c80) := (blk_cell (ST6.out).q8 0).trans rfl; have m8_1 : y4.cell? ⟨p8, 1, none⟩ = some (.slice A81 R2.length c81) := (blk_cell (ST6.out).q8 1).trans rfl)
  clear ST5
  go_upto_region 16 with (go_at_call 29; have x0 := Kd.R_reads' ST6.out.t12.1; have x1 := Kd.R_reads' ST6.out.t12.2; have y0 := Kd.R_reads' ST6.out.t8.1; have y1 := Kd.R_reads' ST6.out.t8.2; refine (laws_eqTable.calls k _ _ R1 _ _ R2 _ _ R1 _ _ R2 true _ x0.2.2 x0.2.1 x1.2.2 x1.2.1 y0.2.2 y0.2.1 y1.2.2 y1.2.1 He1.out).mono ?_; clear x0 x1 y0 y1; rintro e y5 ⟨rfl, hb⟩; have ST8 := Aside0.mk (ST6.out.below hb); clear hb; clear m12_0 m12_1 m8_0 m8_1; have m12_0 : y5.cell? ⟨p12, 0, none⟩ = some (.slice A120 R1.length c120) := (blk_cell (ST8.out).q12 0).trans rfl; have m12_1 : y5.cell? ⟨p12, 1, none⟩ = some (.slice A121 R2.length c121) := (blk_cell (ST8.out).q12 1).trans rfl)
  clear ST6
  go_upto_region 18 with (go_at_call 32; refine (z_mark.calls k w n2 X2 Y2 _ ST8.out.l ST8.out.t12 Hm2.out).mono ?_; rintro e y6 ⟨rfl, tb, hb, hk⟩; have ST9 := Aside0.mk (ST8.out.mark12 tb hb hk); clear tb hb hk; clear m12_0 m12_1; skip)
  clear ST8
  have m12_0 : y6.cell? ⟨p12, 0, none⟩ = some (.slice A120 R1.length c120) := (blk_cell (ST9.out).q12 0).trans rfl
  have m12_1 : y6.cell? ⟨p12, 1, none⟩ = some (.slice A121 R2.length c121) := (blk_cell (ST9.out).q12 1).trans rfl
  go_upto_region 24 with (go_at_call 33; refine (z_held.calls k A120 A121 _ _ c120 c121 X2 Y2 n2 _ ST9.out.t12 Hh.out).mono ?_; rintro e y7 ⟨rfl, hb⟩; have ST10 := Aside0.mk (ST9.out.below hb); clear hb; clear m12_0 m12_1; skip)
  clear ST9
  clear W0 w9 n0
  refine start_ (n := 13) (S := fun w' => w'.cell? ⟨w.heap.size, 0, none⟩ = some (.slice A0 S.length c0) ∧ w'.cell? ⟨w.heap.size, 1, none⟩ = some (.slice A1 F.length c1) ∧ w'.cell? ⟨w.heap.size + 1, 0, none⟩ = some (.bool h.f0) ∧ w'.cell? ⟨w.heap.size + 1, 1, none⟩ = some (.int .i64 h.f1) ∧ w'.cell? ⟨w.heap.size + 1, 2, none⟩ = some (.int .i64 h.f2) ∧ w'.cell? ⟨w.heap.size + 1, 3, none⟩ = some (.bool h.f3) ∧ w'.cell? ⟨w.heap.size + 1, 4, none⟩ = some (.int .i64 h.f4) ∧ w'.cell? ⟨w.heap.size + 1, 5, none⟩ = some (.int .i64 h.f5)) (ds := []) #[false, false, false, false, false, false, false, false, false, false, false, false, false] (by kernel_rfl) rfl rfl ⟨(blk_cell (ST10.out.below (below_drew (Below.refl _ _))).qa 0).trans rfl, (blk_cell (ST10.out.below (below_drew (Below.refl _ _))).qa 1).trans rfl, (blk_cell (ST10.out.below (below_drew (Below.refl _ _))).qh 0).trans rfl, (blk_cell (ST10.out.below (below_drew (Below.refl _ _))).qh 1).trans rfl, (blk_cell (ST10.out.below (below_drew (Below.refl _ _))).qh 2).trans rfl, (blk_cell (ST10.out.below (below_drew (Below.refl _ _))).qh 3).trans rfl, (blk_cell (ST10.out.below (below_drew (Below.refl _ _))).qh 4).trans rfl, (blk_cell (ST10.out.below (below_drew (Below.refl _ _))).qh 5).trans rfl⟩ (fun hHeld => ?_)
  have CY := Aside0.mk (ST10.out.below (below_drew (Below.refl _ _)))
  clear ST10
  have D0 : y7.drew.heap.size = y7.heap.size := rfl
  generalize hW0 : y7.drew = W0 at CY hHeld D0 ⊢
  replace D0 := Aside0.mk D0
  clear hW0
  refine take_ (i := 0) (N := some 95) (v := ?_) (a' := ?_) #[true, false, false, false, false, false, false, false, false, false, false, false, false] rfl rfl (by kernel_rfl) (fun _ _ _ h => h) (Or.inl ⟨by rfl, ?_⟩) hHeld ?_ ?_
  rotate_left
  · rintro w' ⟨s0, s1, s2, s3, s4, s5, s6, s7⟩
    go_simp
    with_reducible rfl
  rotate_left
  · simp only [Act.put, List.setIfInBounds_toArray, List.set_cons_zero, List.set_cons_succ, i64_w, i32_w]
    rfl
  refine take_ (i := 2) (N := some 97) (v := ?_) (a' := ?_) #[true, false, true, false, false, false, false, false, false, false, false, false, false] rfl rfl (by kernel_rfl) (fun _ _ _ h => h) (Or.inl ⟨by rfl, ?_⟩) hHeld ?_ ?_
  rotate_left
  · rintro w' ⟨s0, s1, s2, s3, s4, s5, s6, s7⟩
    go_simp
    with_reducible rfl
  rotate_left
  · simp only [Act.put, List.setIfInBounds_toArray, List.set_cons_zero, List.set_cons_succ, i64_w, i32_w]
    rfl
  clear hHeld
  have LB := Aside0.mk (Below.refl W0.heap.size W0)
  obtain ⟨n0, hn0⟩ : ∃ n0, n0 = W0.heap.size := ⟨_, rfl⟩
  have N0 := Aside0.mk hn0
  clear hn0
  refine join_ (σ := Sg) 3 #[true, true, true, true, true, true, true, true, true, true, false, false, false] (fun s_ => [(96, s_.u), (98, .agg #[.bool h.f0, .int .i64 h.f1, .int .i64 h.f2, .bool h.f3, .int .i64 h.f4, .int .i64 h.f5]), (99, .tuple #[.agg #[.slice s_.A0 R1.length s_.c0, .slice s_.A1 R2.length s_.c1], .int .i64 at_, .int .i64 code]), (94, .tuple #[.agg #[.slice s_.A0 R1.length s_.c0, .slice s_.A1 R2.length s_.c1], .int .i64 at_, .int .i64 code]), (100, .agg #[.slice s_.A0 R1.length s_.c0, .slice s_.A1 R2.length s_.c1]), (101, .int .i64 at_), (102, .int .i64 code), (16, .pointer (some ⟨s_.p, 0, none⟩))]) (fun s_ w' => Below W0.heap.size W0 w' ∧ Tb w' w.heap.size s_.l s_.h (.slice s_.A0 R1.length s_.c0) (.slice s_.A1 R2.length s_.c1) R1 R2 ∧ w'.heap[s_.p]? = some (.cells #[.slice none 0 0, .slice none 0 0] 51 (0, 0)) ∧ n0 ≤ s_.l ∧ s_.l ≤ s_.h ∧ s_.h ≤ w'.heap.size ∧ n0 ≤ s_.p ∧ (s_.p < s_.l ∨ s_.h ≤ s_.p)) ?_ ?_
  rotate_left
  · intro hCont
    refine two_ (i := 1) (j := 9) (Ni := some 96) (Nj := some 16) #[true, true, true, false, false, false, false, false, false, false, false, false, false] #[true, false, true, false, false, false, false, false, false, true, false, false, false] rfl rfl rfl rfl (by kernel_rfl) (by decide) (by decide) (fun K hK => ?_) (fun K hK => ?_)
    · skip
      refine goes_ Try.func26 (by kernel_rfl) rfl #[.agg #[.slice A0 S.length c0, .slice A1 F.length c1]] (by rfl) rfl rfl (by (try simp only [List.map_toArray, List.map_cons, List.map_nil]); first | done | rfl) ?_
      refine (laws_toTable.calls k _ c0 S _ c1 F M F _ (Kd.C_below H0.out (CY.out.below LB.out).l) C0.out (Kd.C_below H1.out (CY.out.below LB.out).l) C1.out Hto.out).mono ?_
      rintro e v22 ⟨u0, u1, rfl, x0, x1, hb⟩
      refine ⟨_, rfl, ?_⟩
      obtain ⟨Au0, cu0, rfl⟩ := Kd.R_slice x0
      obtain ⟨Au1, cu1, rfl⟩ := Kd.R_slice x1
      have T1 := Aside0.mk (Tb.new (below_size (CY.out.below LB.out).l) x0 x1)
      clear x0 x1
      replace LB := Aside0.mk (below_step LB.out hb)
      clear hb
      refine hK.out _ _ ⟨(blk_cell (CY.out.below LB.out).qa 0).trans rfl, (blk_cell (CY.out.below LB.out).qa 1).trans rfl, (blk_cell (CY.out.below LB.out).qh 0).trans rfl, (blk_cell (CY.out.below LB.out).qh 1).trans rfl, (blk_cell (CY.out.below LB.out).qh 2).trans rfl, (blk_cell (CY.out.below LB.out).qh 3).trans rfl, (blk_cell (CY.out.below LB.out).qh 4).trans rfl, (blk_cell (CY.out.below LB.out).qh 5).trans rfl⟩ (fun hHeld => ?_)
      clear hK K hHeld
      refine norm_ (a' := ?_) ?_ ?_
      rotate_left
      · show Act.put _ (some 96) _ = _
        simp only [Act.put, List.setIfInBounds_toArray, List.set_cons_zero, List.set_cons_succ, i64_w, i32_w]
        rfl
      refine two_ (i := 3) (j := 9) (Ni := some 98) (Nj := some 16) #[true, true, true, true, false, false, false, false, false, false, false, false, false] #[true, true, true, false, false, false, false, false, false, true, false, false, false] rfl rfl rfl rfl (by kernel_rfl) (by decide) (by decide) (fun K hK => ?_) (fun K hK => ?_)
      · skip
        refine goes_ Try.func35 (by kernel_rfl) rfl #[.agg #[.bool h.f0, .int .i64 h.f1, .int .i64 h.f2, .bool h.f3, .int .i64 h.f4, .int .i64 h.f5]] (by rfl) rfl rfl (by (try simp only [List.map_toArray, List.map_cons, List.map_nil]); first | done | rfl) ?_
        refine (laws_toHandle.calls h.f0 h.f1 h.f2 h.f3 h.f4 h.f5 h.f0 h.f1 h.f2 h.f3 h.f4 h.f5 _ Hth.out).mono ?_
        rintro e v23 ⟨rfl, hb⟩
        refine ⟨_, rfl, ?_⟩
        replace T1 := Aside0.mk (T1.out.below hb)
        replace LB := Aside0.mk (below_step LB.out hb)
        clear hb
        refine hK.out _ _ ⟨(blk_cell (CY.out.below LB.out).qa 0).trans rfl, (blk_cell (CY.out.below LB.out).qa 1).trans rfl, (blk_cell (CY.out.below LB.out).qh 0).trans rfl, (blk_cell (CY.out.below LB.out).qh 1).trans rfl, (blk_cell (CY.out.below LB.out).qh 2).trans rfl, (blk_cell (CY.out.below LB.out).qh 3).trans rfl, (blk_cell (CY.out.below LB.out).qh 4).trans rfl, (blk_cell (CY.out.below LB.out).qh 5).trans rfl⟩ (fun hHeld => ?_)
        clear hK K hHeld
        refine norm_ (a' := ?_) ?_ ?_
        rotate_left
        · show Act.put _ (some 98) _ = _
          simp only [Act.put, List.setIfInBounds_toArray, List.set_cons_zero, List.set_cons_succ, i64_w, i32_w]
          rfl
        refine two_ (i := 4) (j := 9) (Ni := some 99) (Nj := some 16) #[true, true, true, true, true, false, false, false, false, false, false, false, false] #[true, true, true, true, false, false, false, false, false, true, false, false, false] rfl rfl rfl rfl (by kernel_rfl) (by decide) (by decide) (fun K hK => ?_) (fun K hK => ?_)
        · skip
          refine goes_ Try.func36 (by kernel_rfl) rfl #[.agg #[.slice Au0 M.length cu0, .slice Au1 F.length cu1], .agg #[.bool h.f0, .int .i64 h.f1, .int .i64 h.f2, .bool h.f3, .int .i64 h.f4, .int .i64 h.f5]] (by rfl) rfl rfl (by (try simp only [List.map_toArray, List.map_cons, List.map_nil]); first | done | rfl) ?_
          have q0 := Kd.R_reads' T1.out.1
          have q1 := Kd.R_reads' T1.out.2
          refine (impl_NewHandle.calls k _ _ M _ _ F h.f0 h.f1 h.f2 h.f3 h.f4 h.f5 R1 R2 at_ code _ q0.2.2 q0.2.1 q1.2.2 q1.2.1 Him.out).mono ?_
          clear q0 q1
          rintro e v24 ⟨y0, y1, rfl, x0, x1, hb⟩
          refine ⟨_, rfl, ?_⟩
          obtain ⟨Ar0, cr0, rfl⟩ := Kd.R_slice x0
          obtain ⟨Ar1, cr1, rfl⟩ := Kd.R_slice x1
          obtain ⟨lr, hlr⟩ : ∃ lr, lr = v23.heap.size := ⟨_, rfl⟩
          obtain ⟨hr, hhr⟩ : ∃ hr, hr = v24.heap.size := ⟨_, rfl⟩
          have TR := Aside0.mk (show Tb v24 w.heap.size lr hr _ _ R1 R2 by rw [hlr, hhr]; exact Tb.new (below_size (CY.out.below LB.out).l) x0 x1)
          have LH := Aside0.mk (show n0 ≤ lr ∧ lr ≤ hr ∧ hr ≤ v24.heap.size by rw [hlr, hhr, N0.out]; exact ⟨LB.out.size, hb.size, Nat.le_refl _⟩)
          have LR := Aside0.mk hlr
          clear x0 x1 hlr hhr
          replace T1 := Aside0.mk (T1.out.below hb)
          replace LB := Aside0.mk (below_step LB.out hb)
          clear hb
          refine hK.out _ _ ⟨(blk_cell (CY.out.below LB.out).qa 0).trans rfl, (blk_cell (CY.out.below LB.out).qa 1).trans rfl, (blk_cell (CY.out.below LB.out).qh 0).trans rfl, (blk_cell (CY.out.below LB.out).qh 1).trans rfl, (blk_cell (CY.out.below LB.out).qh 2).trans rfl, (blk_cell (CY.out.below LB.out).qh 3).trans rfl, (blk_cell (CY.out.below LB.out).qh 4).trans rfl, (blk_cell (CY.out.below LB.out).qh 5).trans rfl⟩ (fun hHeld => ?_)
          clear hK K hHeld
          refine norm_ (a' := ?_) ?_ ?_
          rotate_left
          · show Act.put _ (some 99) _ = _
            simp only [Act.put, List.setIfInBounds_toArray, List.set_cons_zero, List.set_cons_succ, i64_w, i32_w]
            rfl
          refine pure_ (i := 5) (N := some 94) (v := ?_) (a' := ?_) #[true, true, true, true, true, true, false, false, false, false, false, false, false] rfl rfl (by kernel_rfl) (fun _ _ _ h => h) (Or.inl ⟨by rfl, ?_⟩) ?_ ?_
          rotate_left
          · intro w'
            go_simp
            with_reducible rfl
          rotate_left
          · simp only [Act.put, List.setIfInBounds_toArray, List.set_cons_zero, List.set_cons_succ, i64_w, i32_w]
            rfl
          refine pure_ (i := 6) (N := some 100) (v := ?_) (a' := ?_) #[true, true, true, true, true, true, true, false, false, false, false, false, false] rfl rfl (by kernel_rfl) (fun _ _ _ h => h) (Or.inl ⟨by rfl, ?_⟩) ?_ ?_
          rotate_left
          · intro w'
            go_simp
            with_reducible rfl
          rotate_left
          · simp only [Act.put, List.setIfInBounds_toArray, List.set_cons_zero, List.set_cons_succ, i64_w, i32_w]
            rfl
          refine pure_ (i := 7) (N := some 101) (v := ?_) (a' := ?_) #[true, true, true, true, true, true, true, true, false, false, false, false, false] rfl rfl (by kernel_rfl) (fun _ _ _ h => h) (Or.inl ⟨by rfl, ?_⟩) ?_ ?_
          rotate_left
          · intro w'
            go_simp
            with_reducible rfl
          rotate_left
          · simp only [Act.put, List.setIfInBounds_toArray, List.set_cons_zero, List.set_cons_succ, i64_w, i32_w]
            rfl
          refine pure_ (i := 8) (N := some 102) (v := ?_) (a' := ?_) #[true, true, true, true, true, true, true, true, true, false, false, false, false] rfl rfl (by kernel_rfl) (fun _ _ _ h => h) (Or.inl ⟨by rfl, ?_⟩) ?_ ?_
          rotate_left
          · intro w'
            go_simp
            with_reducible rfl
          rotate_left
          · simp only [Act.put, List.setIfInBounds_toArray, List.set_cons_zero, List.set_cons_succ, i64_w, i32_w]
            rfl
          refine one_ (i := 9) (N := some 16) #[true, true, true, true, true, true, true, true, true, true, false, false, false] rfl rfl (by kernel_rfl) (by decide) (fun K hK => ?_)
          refine value_ (w1 := v24.alloc (.cells #[.slice none 0 0, .slice none 0 0] 51 (0, 0))) (v := .pointer (some ⟨v24.heap.size, 0, none⟩)) (by rfl) rfl ?_ ?_
          · go_simp
          have hb : Below v24.heap.size v24 (v24.alloc (.cells #[.slice none 0 0, .slice none 0 0] 51 (0, 0))) := below_alloc (Below.refl _ _) _
          have al := blk_new v24 (.cells #[.slice none 0 0, .slice none 0 0] 51 (0, 0))
          obtain ⟨p, hp⟩ : ∃ p, p = v24.heap.size := ⟨_, rfl⟩
          rw [← hp] at al ⊢
          have PN := Aside0.mk (show n0 ≤ p by rw [hp, N0.out]; exact LB.out.size)
          have PH_ := Aside0.mk hp
          clear hp
          have AL := Aside0.mk al
          clear al
          generalize hv : v24.alloc (.cells #[.slice none 0 0, .slice none 0 0] 51 (0, 0)) = v25 at hb AL ⊢
          clear hv
          have PR := Aside0.mk (show p < lr ∨ hr ≤ p from Or.inr (by rw [PH_.out]; exact LH.out.2.2))
          replace T1 := Aside0.mk (T1.out.below hb)
          replace TR := Aside0.mk (TR.out.below hb)
          replace LH := Aside0.mk (⟨LH.out.1, LH.out.2.1, Nat.le_trans LH.out.2.2 hb.size⟩ : n0 ≤ lr ∧ lr ≤ hr ∧ hr ≤ v25.heap.size)
          replace LB := Aside0.mk (below_step LB.out hb)
          clear hb
          refine hK.out _ _ ⟨(blk_cell (CY.out.below LB.out).qa 0).trans rfl, (blk_cell (CY.out.below LB.out).qa 1).trans rfl, (blk_cell (CY.out.below LB.out).qh 0).trans rfl, (blk_cell (CY.out.below LB.out).qh 1).trans rfl, (blk_cell (CY.out.below LB.out).qh 2).trans rfl, (blk_cell (CY.out.below LB.out).qh 3).trans rfl, (blk_cell (CY.out.below LB.out).qh 4).trans rfl, (blk_cell (CY.out.below LB.out).qh 5).trans rfl⟩ (fun hHeld => ?_)
          clear hK K hHeld
          refine norm_ (a' := ?_) ?_ ?_
          rotate_left
          · show Act.put _ (some 16) _ = _
            simp only [Act.put, List.setIfInBounds_toArray, List.set_cons_zero, List.set_cons_succ, i64_w, i32_w]
            rfl
          exact norm_ (by simp only [putAll, Act.put, List.setIfInBounds_toArray, List.set_cons_zero, List.set_cons_succ]) (hCont ⟨.agg #[.slice Au0 M.length cu0, .slice Au1 F.length cu1], Ar0, cr0, Ar1, cr1, p, lr, hr⟩ _ ⟨LB.out, TR.out, AL.out, LH.out.1, LH.out.2.1, LH.out.2.2, PN.out, PR.out⟩)
        · skip
          refine value_ (w1 := v23.alloc (.cells #[.slice none 0 0, .slice none 0 0] 51 (0, 0))) (v := .pointer (some ⟨v23.heap.size, 0, none⟩)) (by rfl) rfl ?_ ?_
          · go_simp
          have hb : Below v23.heap.size v23 (v23.alloc (.cells #[.slice none 0 0, .slice none 0 0] 51 (0, 0))) := below_alloc (Below.refl _ _) _
          have al := blk_new v23 (.cells #[.slice none 0 0, .slice none 0 0] 51 (0, 0))
          obtain ⟨p, hp⟩ : ∃ p, p = v23.heap.size := ⟨_, rfl⟩
          rw [← hp] at al ⊢
          have PN := Aside0.mk (show n0 ≤ p by rw [hp, N0.out]; exact LB.out.size)
          have PH_ := Aside0.mk hp
          clear hp
          have AL := Aside0.mk al
          clear al
          generalize hv : v23.alloc (.cells #[.slice none 0 0, .slice none 0 0] 51 (0, 0)) = v26 at hb AL ⊢
          clear hv
          replace T1 := Aside0.mk (T1.out.below hb)
          replace LB := Aside0.mk (below_step LB.out hb)
          clear hb
          refine hK.out _ _ ⟨(blk_cell (CY.out.below LB.out).qa 0).trans rfl, (blk_cell (CY.out.below LB.out).qa 1).trans rfl, (blk_cell (CY.out.below LB.out).qh 0).trans rfl, (blk_cell (CY.out.below LB.out).qh 1).trans rfl, (blk_cell (CY.out.below LB.out).qh 2).trans rfl, (blk_cell (CY.out.below LB.out).qh 3).trans rfl, (blk_cell (CY.out.below LB.out).qh 4).trans rfl, (blk_cell (CY.out.below LB.out).qh 5).trans rfl⟩ (fun hHeld => ?_)
          clear hK K hHeld
          refine norm_ (a' := ?_) ?_ ?_
          rotate_left
          · show Act.put _ (some 16) _ = _
            simp only [Act.put, List.setIfInBounds_toArray, List.set_cons_zero, List.set_cons_succ, i64_w, i32_w]
            rfl
          refine one_ (i := 4) (N := some 99) #[true, true, true, true, true, false, false, false, false, true, false, false, false] rfl rfl (by kernel_rfl) (by decide) (fun K hK => ?_)
          refine goes_ Try.func36 (by kernel_rfl) rfl #[.agg #[.slice Au0 M.length cu0, .slice Au1 F.length cu1], .agg #[.bool h.f0, .int .i64 h.f1, .int .i64 h.f2, .bool h.f3, .int .i64 h.f4, .int .i64 h.f5]] (by rfl) rfl rfl (by (try simp only [List.map_toArray, List.map_cons, List.map_nil]); first | done | rfl) ?_
          have q0 := Kd.R_reads' T1.out.1
          have q1 := Kd.R_reads' T1.out.2
          refine (impl_NewHandle.calls k _ _ M _ _ F h.f0 h.f1 h.f2 h.f3 h.f4 h.f5 R1 R2 at_ code _ q0.2.2 q0.2.1 q1.2.2 q1.2.1 Him.out).mono ?_
          clear q0 q1
          rintro e v27 ⟨y0, y1, rfl, x0, x1, hb⟩
          refine ⟨_, rfl, ?_⟩
          obtain ⟨Ar0, cr0, rfl⟩ := Kd.R_slice x0
          obtain ⟨Ar1, cr1, rfl⟩ := Kd.R_slice x1
          obtain ⟨lr, hlr⟩ : ∃ lr, lr = v26.heap.size := ⟨_, rfl⟩
          obtain ⟨hr, hhr⟩ : ∃ hr, hr = v27.heap.size := ⟨_, rfl⟩
          have TR := Aside0.mk (show Tb v27 w.heap.size lr hr _ _ R1 R2 by rw [hlr, hhr]; exact Tb.new (below_size (CY.out.below LB.out).l) x0 x1)
          have LH := Aside0.mk (show n0 ≤ lr ∧ lr ≤ hr ∧ hr ≤ v27.heap.size by rw [hlr, hhr, N0.out]; exact ⟨LB.out.size, hb.size, Nat.le_refl _⟩)
          have LR := Aside0.mk hlr
          clear x0 x1 hlr hhr
          have PR := Aside0.mk (show p < lr ∨ hr ≤ p from Or.inl (by rw [LR.out]; exact blk_lt AL.out))
          replace T1 := Aside0.mk (T1.out.below hb)
          replace AL := Aside0.mk (blk_below AL.out hb)
          replace LB := Aside0.mk (below_step LB.out hb)
          clear hb
          refine hK.out _ _ ⟨(blk_cell (CY.out.below LB.out).qa 0).trans rfl, (blk_cell (CY.out.below LB.out).qa 1).trans rfl, (blk_cell (CY.out.below LB.out).qh 0).trans rfl, (blk_cell (CY.out.below LB.out).qh 1).trans rfl, (blk_cell (CY.out.below LB.out).qh 2).trans rfl, (blk_cell (CY.out.below LB.out).qh 3).trans rfl, (blk_cell (CY.out.below LB.out).qh 4).trans rfl, (blk_cell (CY.out.below LB.out).qh 5).trans rfl⟩ (fun hHeld => ?_)
          clear hK K hHeld
          refine norm_ (a' := ?_) ?_ ?_
          rotate_left
          · show Act.put _ (some 99) _ = _
            simp only [Act.put, List.setIfInBounds_toArray, List.set_cons_zero, List.set_cons_succ, i64_w, i32_w]
            rfl
          refine pure_ (i := 5) (N := some 94) (v := ?_) (a' := ?_) #[true, true, true, true, true, true, false, false, false, true, false, false, false] rfl rfl (by kernel_rfl) (fun _ _ _ h => h) (Or.inl ⟨by rfl, ?_⟩) ?_ ?_
          rotate_left
          · intro w'
            go_simp
            with_reducible rfl
          rotate_left
          · simp only [Act.put, List.setIfInBounds_toArray, List.set_cons_zero, List.set_cons_succ, i64_w, i32_w]
            rfl
          refine pure_ (i := 6) (N := some 100) (v := ?_) (a' := ?_) #[true, true, true, true, true, true, true, false, false, true, false, false, false] rfl rfl (by kernel_rfl) (fun _ _ _ h => h) (Or.inl ⟨by rfl, ?_⟩) ?_ ?_
          rotate_left
          · intro w'
            go_simp
            with_reducible rfl
          rotate_left
          · simp only [Act.put, List.setIfInBounds_toArray, List.set_cons_zero, List.set_cons_succ, i64_w, i32_w]
            rfl
          refine pure_ (i := 7) (N := some 101) (v := ?_) (a' := ?_) #[true, true, true, true, true, true, true, true, false, true, false, false, false] rfl rfl (by kernel_rfl) (fun _ _ _ h => h) (Or.inl ⟨by rfl, ?_⟩) ?_ ?_
          rotate_left
          · intro w'
            go_simp
            with_reducible rfl
          rotate_left
          · simp only [Act.put, List.setIfInBounds_toArray, List.set_cons_zero, List.set_cons_succ, i64_w, i32_w]
            rfl
          refine pure_ (i := 8) (N := some 102) (v := ?_) (a' := ?_) #[true, true, true, true, true, true, true, true, true, true, false, false, false] rfl rfl (by kernel_rfl) (fun _ _ _ h => h) (Or.inl ⟨by rfl, ?_⟩) ?_ ?_
          rotate_left
          · intro w'
            go_simp
            with_reducible rfl
          rotate_left
          · simp only [Act.put, List.setIfInBounds_toArray, List.set_cons_zero, List.set_cons_succ, i64_w, i32_w]
            rfl
          exact norm_ (by simp only [putAll, Act.put, List.setIfInBounds_toArray, List.set_cons_zero, List.set_cons_succ]) (hCont ⟨.agg #[.slice Au0 M.length cu0, .slice Au1 F.length cu1], Ar0, cr0, Ar1, cr1, p, lr, hr⟩ _ ⟨LB.out, TR.out, AL.out, LH.out.1, LH.out.2.1, LH.out.2.2, PN.out, PR.out⟩)
      · skip
        refine value_ (w1 := v22.alloc (.cells #[.slice none 0 0, .slice none 0 0] 51 (0, 0))) (v := .pointer (some ⟨v22.heap.size, 0, none⟩)) (by rfl) rfl ?_ ?_
        · go_simp
        have hb : Below v22.heap.size v22 (v22.alloc (.cells #[.slice none 0 0, .slice none 0 0] 51 (0, 0))) := below_alloc (Below.refl _ _) _
        have al := blk_new v22 (.cells #[.slice none 0 0, .slice none 0 0] 51 (0, 0))
        obtain ⟨p, hp⟩ : ∃ p, p = v22.heap.size := ⟨_, rfl⟩
        rw [← hp] at al ⊢
        have PN := Aside0.mk (show n0 ≤ p by rw [hp, N0.out]; exact LB.out.size)
        have PH_ := Aside0.mk hp
        clear hp
        have AL := Aside0.mk al
        clear al
        generalize hv : v22.alloc (.cells #[.slice none 0 0, .slice none 0 0] 51 (0, 0)) = v28 at hb AL ⊢
        clear hv
        replace T1 := Aside0.mk (T1.out.below hb)
        replace LB := Aside0.mk (below_step LB.out hb)
        clear hb
        refine hK.out _ _ ⟨(blk_cell (CY.out.below LB.out).qa 0).trans rfl, (blk_cell (CY.out.below LB.out).qa 1).trans rfl, (blk_cell (CY.out.below LB.out).qh 0).trans rfl, (blk_cell (CY.out.below LB.out).qh 1).trans rfl, (blk_cell (CY.out.below LB.out).qh 2).trans rfl, (blk_cell (CY.out.below LB.out).qh 3).trans rfl, (blk_cell (CY.out.below LB.out).qh 4).trans rfl, (blk_cell (CY.out.below LB.out).qh 5).trans rfl⟩ (fun hHeld => ?_)
        clear hK K hHeld
        refine norm_ (a' := ?_) ?_ ?_
        rotate_left
        · show Act.put _ (some 16) _ = _
          simp only [Act.put, List.setIfInBounds_toArray, List.set_cons_zero, List.set_cons_succ, i64_w, i32_w]
          rfl
        refine one_ (i := 3) (N := some 98) #[true, true, true, true, false, false, false, false, false, true, false, false, false] rfl rfl (by kernel_rfl) (by decide) (fun K hK => ?_)
        refine goes_ Try.func35 (by kernel_rfl) rfl #[.agg #[.bool h.f0, .int .i64 h.f1, .int .i64 h.f2, .bool h.f3, .int .i64 h.f4, .int .i64 h.f5]] (by rfl) rfl rfl (by (try simp only [List.map_toArray, List.map_cons, List.map_nil]); first | done | rfl) ?_
        refine (laws_toHandle.calls h.f0 h.f1 h.f2 h.f3 h.f4 h.f5 h.f0 h.f1 h.f2 h.f3 h.f4 h.f5 _ Hth.out).mono ?_
        rintro e v29 ⟨rfl, hb⟩
        refine ⟨_, rfl, ?_⟩
        replace T1 := Aside0.mk (T1.out.below hb)
        replace AL := Aside0.mk (blk_below AL.out hb)
        replace LB := Aside0.mk (below_step LB.out hb)
        clear hb
        refine hK.out _ _ ⟨(blk_cell (CY.out.below LB.out).qa 0).trans rfl, (blk_cell (CY.out.below LB.out).qa 1).trans rfl, (blk_cell (CY.out.below LB.out).qh 0).trans rfl, (blk_cell (CY.out.below LB.out).qh 1).trans rfl, (blk_cell (CY.out.below LB.out).qh 2).trans rfl, (blk_cell (CY.out.below LB.out).qh 3).trans rfl, (blk_cell (CY.out.below LB.out).qh 4).trans rfl, (blk_cell (CY.out.below LB.out).qh 5).trans rfl⟩ (fun hHeld => ?_)
        clear hK K hHeld
        refine norm_ (a' := ?_) ?_ ?_
        rotate_left
        · show Act.put _ (some 98) _ = _
          simp only [Act.put, List.setIfInBounds_toArray, List.set_cons_zero, List.set_cons_succ, i64_w, i32_w]
          rfl
        refine one_ (i := 4) (N := some 99) #[true, true, true, true, true, false, false, false, false, true, false, false, false] rfl rfl (by kernel_rfl) (by decide) (fun K hK => ?_)
        refine goes_ Try.func36 (by kernel_rfl) rfl #[.agg #[.slice Au0 M.length cu0, .slice Au1 F.length cu1], .agg #[.bool h.f0, .int .i64 h.f1, .int .i64 h.f2, .bool h.f3, .int .i64 h.f4, .int .i64 h.f5]] (by rfl) rfl rfl (by (try simp only [List.map_toArray, List.map_cons, List.map_nil]); first | done | rfl) ?_
        have q0 := Kd.R_reads' T1.out.1
        have q1 := Kd.R_reads' T1.out.2
        refine (impl_NewHandle.calls k _ _ M _ _ F h.f0 h.f1 h.f2 h.f3 h.f4 h.f5 R1 R2 at_ code _ q0.2.2 q0.2.1 q1.2.2 q1.2.1 Him.out).mono ?_
        clear q0 q1
        rintro e v30 ⟨y0, y1, rfl, x0, x1, hb⟩
        refine ⟨_, rfl, ?_⟩
        obtain ⟨Ar0, cr0, rfl⟩ := Kd.R_slice x0
        obtain ⟨Ar1, cr1, rfl⟩ := Kd.R_slice x1
        obtain ⟨lr, hlr⟩ : ∃ lr, lr = v29.heap.size := ⟨_, rfl⟩
        obtain ⟨hr, hhr⟩ : ∃ hr, hr = v30.heap.size := ⟨_, rfl⟩
        have TR := Aside0.mk (show Tb v30 w.heap.size lr hr _ _ R1 R2 by rw [hlr, hhr]; exact Tb.new (below_size (CY.out.below LB.out).l) x0 x1)
        have LH := Aside0.mk (show n0 ≤ lr ∧ lr ≤ hr ∧ hr ≤ v30.heap.size by rw [hlr, hhr, N0.out]; exact ⟨LB.out.size, hb.size, Nat.le_refl _⟩)
        have LR := Aside0.mk hlr
        clear x0 x1 hlr hhr
        have PR := Aside0.mk (show p < lr ∨ hr ≤ p from Or.inl (by rw [LR.out]; exact blk_lt AL.out))
        replace T1 := Aside0.mk (T1.out.below hb)
        replace AL := Aside0.mk (blk_below AL.out hb)
        replace LB := Aside0.mk (below_step LB.out hb)
        clear hb
        refine hK.out _ _ ⟨(blk_cell (CY.out.below LB.out).qa 0).trans rfl, (blk_cell (CY.out.below LB.out).qa 1).trans rfl, (blk_cell (CY.out.below LB.out).qh 0).trans rfl, (blk_cell (CY.out.below LB.out).qh 1).trans rfl, (blk_cell (CY.out.below LB.out).qh 2).trans rfl, (blk_cell (CY.out.below LB.out).qh 3).trans rfl, (blk_cell (CY.out.below LB.out).qh 4).trans rfl, (blk_cell (CY.out.below LB.out).qh 5).trans rfl⟩ (fun hHeld => ?_)
        clear hK K hHeld
        refine norm_ (a' := ?_) ?_ ?_
        rotate_left
        · show Act.put _ (some 99) _ = _
          simp only [Act.put, List.setIfInBounds_toArray, List.set_cons_zero, List.set_cons_succ, i64_w, i32_w]
          rfl
        refine pure_ (i := 5) (N := some 94) (v := ?_) (a' := ?_) #[true, true, true, true, true, true, false, false, false, true, false, false, false] rfl rfl (by kernel_rfl) (fun _ _ _ h => h) (Or.inl ⟨by rfl, ?_⟩) ?_ ?_
        rotate_left
        · intro w'
          go_simp
          with_reducible rfl
        rotate_left
        · simp only [Act.put, List.setIfInBounds_toArray, List.set_cons_zero, List.set_cons_succ, i64_w, i32_w]
          rfl
        refine pure_ (i := 6) (N := some 100) (v := ?_) (a' := ?_) #[true, true, true, true, true, true, true, false, false, true, false, false, false] rfl rfl (by kernel_rfl) (fun _ _ _ h => h) (Or.inl ⟨by rfl, ?_⟩) ?_ ?_
        rotate_left
        · intro w'
          go_simp
          with_reducible rfl
        rotate_left
        · simp only [Act.put, List.setIfInBounds_toArray, List.set_cons_zero, List.set_cons_succ, i64_w, i32_w]
          rfl
        refine pure_ (i := 7) (N := some 101) (v := ?_) (a' := ?_) #[true, true, true, true, true, true, true, true, false, true, false, false, false] rfl rfl (by kernel_rfl) (fun _ _ _ h => h) (Or.inl ⟨by rfl, ?_⟩) ?_ ?_
        rotate_left
        · intro w'
          go_simp
          with_reducible rfl
        rotate_left
        · simp only [Act.put, List.setIfInBounds_toArray, List.set_cons_zero, List.set_cons_succ, i64_w, i32_w]
          rfl
        refine pure_ (i := 8) (N := some 102) (v := ?_) (a' := ?_) #[true, true, true, true, true, true, true, true, true, true, false, false, false] rfl rfl (by kernel_rfl) (fun _ _ _ h => h) (Or.inl ⟨by rfl, ?_⟩) ?_ ?_
        rotate_left
        · intro w'
          go_simp
          with_reducible rfl
        rotate_left
        · simp only [Act.put, List.setIfInBounds_toArray, List.set_cons_zero, List.set_cons_succ, i64_w, i32_w]
          rfl
        exact norm_ (by simp only [putAll, Act.put, List.setIfInBounds_toArray, List.set_cons_zero, List.set_cons_succ]) (hCont ⟨.agg #[.slice Au0 M.length cu0, .slice Au1 F.length cu1], Ar0, cr0, Ar1, cr1, p, lr, hr⟩ _ ⟨LB.out, TR.out, AL.out, LH.out.1, LH.out.2.1, LH.out.2.2, PN.out, PR.out⟩)
    · skip
      refine value_ (w1 := W0.alloc (.cells #[.slice none 0 0, .slice none 0 0] 51 (0, 0))) (v := .pointer (some ⟨W0.heap.size, 0, none⟩)) (by rfl) rfl ?_ ?_
      · go_simp
      have hb : Below W0.heap.size W0 (W0.alloc (.cells #[.slice none 0 0, .slice none 0 0] 51 (0, 0))) := below_alloc (Below.refl _ _) _
      have al := blk_new W0 (.cells #[.slice none 0 0, .slice none 0 0] 51 (0, 0))
      obtain ⟨p, hp⟩ : ∃ p, p = W0.heap.size := ⟨_, rfl⟩
      rw [← hp] at al ⊢
      have PN := Aside0.mk (show n0 ≤ p by rw [hp, N0.out]; exact LB.out.size)
      have PH_ := Aside0.mk hp
      clear hp
      have AL := Aside0.mk al
      clear al
      generalize hv : W0.alloc (.cells #[.slice none 0 0, .slice none 0 0] 51 (0, 0)) = v31 at hb AL ⊢
      clear hv
      replace LB := Aside0.mk (below_step LB.out hb)
      clear hb
      refine hK.out _ _ ⟨(blk_cell (CY.out.below LB.out).qa 0).trans rfl, (blk_cell (CY.out.below LB.out).qa 1).trans rfl, (blk_cell (CY.out.below LB.out).qh 0).trans rfl, (blk_cell (CY.out.below LB.out).qh 1).trans rfl, (blk_cell (CY.out.below LB.out).qh 2).trans rfl, (blk_cell (CY.out.below LB.out).qh 3).trans rfl, (blk_cell (CY.out.below LB.out).qh 4).trans rfl, (blk_cell (CY.out.below LB.out).qh 5).trans rfl⟩ (fun hHeld => ?_)
      clear hK K hHeld
      refine norm_ (a' := ?_) ?_ ?_
      rotate_left
      · show Act.put _ (some 16) _ = _
        simp only [Act.put, List.setIfInBounds_toArray, List.set_cons_zero, List.set_cons_succ, i64_w, i32_w]
        rfl
      refine one_ (i := 1) (N := some 96) #[true, true, true, false, false, false, false, false, false, true, false, false, false] rfl rfl (by kernel_rfl) (by decide) (fun K hK => ?_)
      refine goes_ Try.func26 (by kernel_rfl) rfl #[.agg #[.slice A0 S.length c0, .slice A1 F.length c1]] (by rfl) rfl rfl (by (try simp only [List.map_toArray, List.map_cons, List.map_nil]); first | done | rfl) ?_
      refine (laws_toTable.calls k _ c0 S _ c1 F M F _ (Kd.C_below H0.out (CY.out.below LB.out).l) C0.out (Kd.C_below H1.out (CY.out.below LB.out).l) C1.out Hto.out).mono ?_
      rintro e v32 ⟨u0, u1, rfl, x0, x1, hb⟩
      refine ⟨_, rfl, ?_⟩
      obtain ⟨Au0, cu0, rfl⟩ := Kd.R_slice x0
      obtain ⟨Au1, cu1, rfl⟩ := Kd.R_slice x1
      have T1 := Aside0.mk (Tb.new (below_size (CY.out.below LB.out).l) x0 x1)
      clear x0 x1
      replace AL := Aside0.mk (blk_below AL.out hb)
      replace LB := Aside0.mk (below_step LB.out hb)
      clear hb
      refine hK.out _ _ ⟨(blk_cell (CY.out.below LB.out).qa 0).trans rfl, (blk_cell (CY.out.below LB.out).qa 1).trans rfl, (blk_cell (CY.out.below LB.out).qh 0).trans rfl, (blk_cell (CY.out.below LB.out).qh 1).trans rfl, (blk_cell (CY.out.below LB.out).qh 2).trans rfl, (blk_cell (CY.out.below LB.out).qh 3).trans rfl, (blk_cell (CY.out.below LB.out).qh 4).trans rfl, (blk_cell (CY.out.below LB.out).qh 5).trans rfl⟩ (fun hHeld => ?_)
      clear hK K hHeld
      refine norm_ (a' := ?_) ?_ ?_
      rotate_left
      · show Act.put _ (some 96) _ = _
        simp only [Act.put, List.setIfInBounds_toArray, List.set_cons_zero, List.set_cons_succ, i64_w, i32_w]
        rfl
      refine one_ (i := 3) (N := some 98) #[true, true, true, true, false, false, false, false, false, true, false, false, false] rfl rfl (by kernel_rfl) (by decide) (fun K hK => ?_)
      refine goes_ Try.func35 (by kernel_rfl) rfl #[.agg #[.bool h.f0, .int .i64 h.f1, .int .i64 h.f2, .bool h.f3, .int .i64 h.f4, .int .i64 h.f5]] (by rfl) rfl rfl (by (try simp only [List.map_toArray, List.map_cons, List.map_nil]); first | done | rfl) ?_
      refine (laws_toHandle.calls h.f0 h.f1 h.f2 h.f3 h.f4 h.f5 h.f0 h.f1 h.f2 h.f3 h.f4 h.f5 _ Hth.out).mono ?_
      rintro e v33 ⟨rfl, hb⟩
      refine ⟨_, rfl, ?_⟩
      replace T1 := Aside0.mk (T1.out.below hb)
      replace AL := Aside0.mk (blk_below AL.out hb)
      replace LB := Aside0.mk (below_step LB.out hb)
      clear hb
      refine hK.out _ _ ⟨(blk_cell (CY.out.below LB.out).qa 0).trans rfl, (blk_cell (CY.out.below LB.out).qa 1).trans rfl, (blk_cell (CY.out.below LB.out).qh 0).trans rfl, (blk_cell (CY.out.below LB.out).qh 1).trans rfl, (blk_cell (CY.out.below LB.out).qh 2).trans rfl, (blk_cell (CY.out.below LB.out).qh 3).trans rfl, (blk_cell (CY.out.below LB.out).qh 4).trans rfl, (blk_cell (CY.out.below LB.out).qh 5).trans rfl⟩ (fun hHeld => ?_)
      clear hK K hHeld
      refine norm_ (a' := ?_) ?_ ?_
      rotate_left
      · show Act.put _ (some 98) _ = _
        simp only [Act.put, List.setIfInBounds_toArray, List.set_cons_zero, List.set_cons_succ, i64_w, i32_w]
        rfl
      refine one_ (i := 4) (N := some 99) #[true, true, true, true, true, false, false, false, false, true, false, false, false] rfl rfl (by kernel_rfl) (by decide) (fun K hK => ?_)
      refine goes_ Try.func36 (by kernel_rfl) rfl #[.agg #[.slice Au0 M.length cu0, .slice Au1 F.length cu1], .agg #[.bool h.f0, .int .i64 h.f1, .int .i64 h.f2, .bool h.f3, .int .i64 h.f4, .int .i64 h.f5]] (by rfl) rfl rfl (by (try simp only [List.map_toArray, List.map_cons, List.map_nil]); first | done | rfl) ?_
      have q0 := Kd.R_reads' T1.out.1
      have q1 := Kd.R_reads' T1.out.2
      refine (impl_NewHandle.calls k _ _ M _ _ F h.f0 h.f1 h.f2 h.f3 h.f4 h.f5 R1 R2 at_ code _ q0.2.2 q0.2.1 q1.2.2 q1.2.1 Him.out).mono ?_
      clear q0 q1
      rintro e v34 ⟨y0, y1, rfl, x0, x1, hb⟩
      refine ⟨_, rfl, ?_⟩
      obtain ⟨Ar0, cr0, rfl⟩ := Kd.R_slice x0
      obtain ⟨Ar1, cr1, rfl⟩ := Kd.R_slice x1
      obtain ⟨lr, hlr⟩ : ∃ lr, lr = v33.heap.size := ⟨_, rfl⟩
      obtain ⟨hr, hhr⟩ : ∃ hr, hr = v34.heap.size := ⟨_, rfl⟩
      have TR := Aside0.mk (show Tb v34 w.heap.size lr hr _ _ R1 R2 by rw [hlr, hhr]; exact Tb.new (below_size (CY.out.below LB.out).l) x0 x1)
      have LH := Aside0.mk (show n0 ≤ lr ∧ lr ≤ hr ∧ hr ≤ v34.heap.size by rw [hlr, hhr, N0.out]; exact ⟨LB.out.size, hb.size, Nat.le_refl _⟩)
      have LR := Aside0.mk hlr
      clear x0 x1 hlr hhr
      have PR := Aside0.mk (show p < lr ∨ hr ≤ p from Or.inl (by rw [LR.out]; exact blk_lt AL.out))
      replace T1 := Aside0.mk (T1.out.below hb)
      replace AL := Aside0.mk (blk_below AL.out hb)
      replace LB := Aside0.mk (below_step LB.out hb)
      clear hb
      refine hK.out _ _ ⟨(blk_cell (CY.out.below LB.out).qa 0).trans rfl, (blk_cell (CY.out.below LB.out).qa 1).trans rfl, (blk_cell (CY.out.below LB.out).qh 0).trans rfl, (blk_cell (CY.out.below LB.out).qh 1).trans rfl, (blk_cell (CY.out.below LB.out).qh 2).trans rfl, (blk_cell (CY.out.below LB.out).qh 3).trans rfl, (blk_cell (CY.out.below LB.out).qh 4).trans rfl, (blk_cell (CY.out.below LB.out).qh 5).trans rfl⟩ (fun hHeld => ?_)
      clear hK K hHeld
      refine norm_ (a' := ?_) ?_ ?_
      rotate_left
      · show Act.put _ (some 99) _ = _
        simp only [Act.put, List.setIfInBounds_toArray, List.set_cons_zero, List.set_cons_succ, i64_w, i32_w]
        rfl
      refine pure_ (i := 5) (N := some 94) (v := ?_) (a' := ?_) #[true, true, true, true, true, true, false, false, false, true, false, false, false] rfl rfl (by kernel_rfl) (fun _ _ _ h => h) (Or.inl ⟨by rfl, ?_⟩) ?_ ?_
      rotate_left
      · intro w'
        go_simp
        with_reducible rfl
      rotate_left
      · simp only [Act.put, List.setIfInBounds_toArray, List.set_cons_zero, List.set_cons_succ, i64_w, i32_w]
        rfl
      refine pure_ (i := 6) (N := some 100) (v := ?_) (a' := ?_) #[true, true, true, true, true, true, true, false, false, true, false, false, false] rfl rfl (by kernel_rfl) (fun _ _ _ h => h) (Or.inl ⟨by rfl, ?_⟩) ?_ ?_
      rotate_left
      · intro w'
        go_simp
        with_reducible rfl
      rotate_left
      · simp only [Act.put, List.setIfInBounds_toArray, List.set_cons_zero, List.set_cons_succ, i64_w, i32_w]
        rfl
      refine pure_ (i := 7) (N := some 101) (v := ?_) (a' := ?_) #[true, true, true, true, true, true, true, true, false, true, false, false, false] rfl rfl (by kernel_rfl) (fun _ _ _ h => h) (Or.inl ⟨by rfl, ?_⟩) ?_ ?_
      rotate_left
      · intro w'
        go_simp
        with_reducible rfl
      rotate_left
      · simp only [Act.put, List.setIfInBounds_toArray, List.set_cons_zero, List.set_cons_succ, i64_w, i32_w]
        rfl
      refine pure_ (i := 8) (N := some 102) (v := ?_) (a' := ?_) #[true, true, true, true, true, true, true, true, true, true, false, false, false] rfl rfl (by kernel_rfl) (fun _ _ _ h => h) (Or.inl ⟨by rfl, ?_⟩) ?_ ?_
      rotate_left
      · intro w'
        go_simp
        with_reducible rfl
      rotate_left
      · simp only [Act.put, List.setIfInBounds_toArray, List.set_cons_zero, List.set_cons_succ, i64_w, i32_w]
        rfl
      exact norm_ (by simp only [putAll, Act.put, List.setIfInBounds_toArray, List.set_cons_zero, List.set_cons_succ]) (hCont ⟨.agg #[.slice Au0 M.length cu0, .slice Au1 F.length cu1], Ar0, cr0, Ar1, cr1, p, lr, hr⟩ _ ⟨LB.out, TR.out, AL.out, LH.out.1, LH.out.2.1, LH.out.2.2, PN.out, PR.out⟩)
  rintro ⟨u_, A180, c180, A181, c181, p18, l18, h18⟩ w9 ⟨LB', TR', AL', o1, o2, o3, o4, o5⟩
  dsimp only at TR' AL' o1 o2 o3 o4 o5
  have al0 : w9.cell? ⟨p18, 0, none⟩ = some (.slice none 0 0) := (blk_cell AL' 0).trans rfl
  have al1 : w9.cell? ⟨p18, 1, none⟩ = some (.slice none 0 0) := (blk_cell AL' 1).trans rfl
  have al2 := blk_frozen AL' 0
  have al3 := blk_frozen AL' 1
  replace LB' := Aside0.mk LB'
  replace TR' := Aside0.mk TR'
  replace AL' := Aside0.mk AL'
  replace o1 := Aside0.mk o1
  replace o2 := Aside0.mk o2
  replace o3 := Aside0.mk o3
  replace o4 := Aside0.mk o4
  replace o5 := Aside0.mk o5
  clear LB
  refine norm_ (a' := ?_) ?_ ?_
  rotate_left
  · simp only [putAll, Act.put, List.setIfInBounds_toArray, List.set_cons_zero, List.set_cons_succ]
    rfl
  refine one_ (i := 10) (N := none) #[true, true, true, true, true, true, true, true, true, true, true, false, false] rfl rfl (by kernel_rfl) (by decide) (fun K hK => ?_)
  refine skip_ (w1 := ((w9.setCell ⟨p18, 0, none⟩ (.slice A180 R1.length c180)).setCell ⟨p18, 1, none⟩ (.slice A181 R2.length c181))) (by rfl) rfl ?_ ?_
  · go_simp
  have Z := z_put2 (.slice A180 R1.length c180) (.slice A181 R2.length c181) AL'.out
  have LS : Below W0.heap.size W0 ((w9.setCell ⟨p18, 0, none⟩ (.slice A180 R1.length c180)).setCell ⟨p18, 1, none⟩ (.slice A181 R2.length c181)) := below_set (below_set LB'.out (by rw [← N0.out]; exact o4.out)) (by rw [← N0.out]; exact o4.out)
  have TS : Tb ((w9.setCell ⟨p18, 0, none⟩ (.slice A180 R1.length c180)).setCell ⟨p18, 1, none⟩ (.slice A181 R2.length c181)) w.heap.size l18 h18 (.slice A180 R1.length c180) (.slice A181 R2.length c181) R1 R2 := TR'.out.keep (fun k a b _ => Z.2.1 k (by have := o5.out; omega))
  have ZS := Z.2.2
  have ZP := Z.1
  clear Z
  have o6 := o3.out
  have o7 := blk_lt AL'.out
  rw [← ZS] at o6 o7
  generalize ((w9.setCell ⟨p18, 0, none⟩ (.slice A180 R1.length c180)).setCell ⟨p18, 1, none⟩ (.slice A181 R2.length c181)) = W9 at LS TS ZS ZP o6 o7 ⊢
  have CX := Aside0.mk (CY.out.below LS)
  have N9 := Aside0.mk (show n0 ≤ W9.heap.size by rw [N0.out]; exact LS.size)
  replace TS := Aside0.mk TS
  replace ZP := Aside0.mk ZP
  replace o6 := Aside0.mk o6
  replace o7 := Aside0.mk o7
  clear al0 al1 al2 al3 LS ZS LB' TR' AL' o3 CY
  refine hK.out _ _ ⟨(blk_cell (CX.out).qa 0).trans rfl, (blk_cell (CX.out).qa 1).trans rfl, (blk_cell (CX.out).qh 0).trans rfl, (blk_cell (CX.out).qh 1).trans rfl, (blk_cell (CX.out).qh 2).trans rfl, (blk_cell (CX.out).qh 3).trans rfl, (blk_cell (CX.out).qh 4).trans rfl, (blk_cell (CX.out).qh 5).trans rfl⟩ (fun hHeld => ?_)
  clear hK K hHeld
  refine pure_ (i := 11) (N := some 17) (v := ?_) (a' := ?_) #[true, true, true, true, true, true, true, true, true, true, true, true, false] rfl rfl (by kernel_rfl) (fun _ _ _ h => h) (Or.inl ⟨by rfl, ?_⟩) ?_ ?_
  rotate_left
  · intro w'
    go_simp
    with_reducible rfl
  rotate_left
  · simp only [Act.put, List.setIfInBounds_toArray, List.set_cons_zero, List.set_cons_succ, i64_w, i32_w]
    rfl
  refine pure_ (i := 12) (N := some 18) (v := ?_) (a' := ?_) #[true, true, true, true, true, true, true, true, true, true, true, true, true] rfl rfl (by kernel_rfl) (fun _ _ _ h => h) (Or.inl ⟨by rfl, ?_⟩) ?_ ?_
  rotate_left
  · intro w'
    go_simp
    with_reducible rfl
  rotate_left
  · simp only [Act.put, List.setIfInBounds_toArray, List.set_cons_zero, List.set_cons_succ, i64_w, i32_w]
    rfl
  refine done_ (by kernel_rfl) ?_
  have m8_0 : W9.cell? ⟨p8, 0, none⟩ = some (.slice A80 R1.length c80) := (blk_cell (CX.out).q8 0).trans rfl
  have m8_1 : W9.cell? ⟨p8, 1, none⟩ = some (.slice A81 R2.length c81) := (blk_cell (CX.out).q8 1).trans rfl
  have m18_0 : W9.cell? ⟨p18, 0, none⟩ = some (.slice A180 R1.length c180) := (blk_cell ZP.out 0).trans rfl
  have m18_1 : W9.cell? ⟨p18, 1, none⟩ = some (.slice A181 R2.length c181) := (blk_cell ZP.out 1).trans rfl
  go_upto_region 27 with (go_at_call 29; have x0 := Kd.R_reads' TS.out.1; have x1 := Kd.R_reads' TS.out.2; have y0 := Kd.R_reads' CX.out.t8.1; have y1 := Kd.R_reads' CX.out.t8.2; refine (laws_eqTable.calls k _ _ R1 _ _ R2 _ _ R1 _ _ R2 true _ x0.2.2 x0.2.1 x1.2.2 x1.2.1 y0.2.2 y0.2.1 y1.2.2 y1.2.1 He1.out).mono ?_; clear x0 x1 y0 y1; rintro e y8 ⟨rfl, hb⟩; have ST15 := Aside0.mk (CX.out.below hb); clear hb m18_0 m18_1 m8_0 m8_1; have m12_0 : y8.cell? ⟨p12, 0, none⟩ = some (.slice A120 R1.length c120) := (blk_cell (ST15.out).q12 0).trans rfl; have m12_1 : y8.cell? ⟨p12, 1, none⟩ = some (.slice A121 R2.length c121) := (blk_cell (ST15.out).q12 1).trans rfl)
  clear CX TS ZP
  go_wp2_with (go_at_call 33; refine (z_held.calls k A120 A121 _ _ c120 c121 X2 Y2 n2 _ ST15.out.t12 Hh.out).mono ?_; rintro e y9 ⟨rfl, hb⟩; have ST16 := Aside0.mk (ST15.out.below hb); clear hb; clear m12_0 m12_1; skip)
  go_ret
  exact ⟨rfl, ST16.out.l⟩
set_option maxHeartbeats 2000000 in
set_option maxRecDepth 100000 in
theorem walk0_NewHandle (w : World) (A0 A1 : Option Addr) (c0 c1 : Nat) (S : List S60) (F : List Int) (h : S46) (hr0 : Kd.C k60 w A0 S.length S) (hc0 : S.length ≤ c0) (hr1 : Kd.C (Kd.int .i64) w A1 F.length F) (hc1 : F.length ≤ c1)
    (t : Int) (hsz : laws_szTable.f S F 1048576 = some t) (ht : t < 0) :
    Calls Try.prog 8 #[.agg #[.slice A0 S.length c0, .slice A1 F.length c1], .agg #[.bool h.f0, .int .i64 h.f1, .int .i64 h.f2, .bool h.f3, .int .i64 h.f4, .int .i64 h.f5]] w fun e w' => e = .returned (.bool true) ∧ Below w.heap.size w w' := by
  have H0 := Aside0.mk hr0
  have H1 := Aside0.mk hr1
  have C0 := Aside0.mk hc0
  have C1 := Aside0.mk hc1
  have Hsz := Aside0.mk hsz
  clear hr0 hr1 hc0 hc1 hsz
  have d1 : decide (t < 0) = true := decide_eq_true ht
  clear ht
  go_enter Try.func8, Try.ntmps8
  go_wp2_with (go_at_call 24; refine (laws_szTable.calls _ c0 S _ c1 F 1048576 t _ (Kd.C_below H0.out (below_alloc (below_alloc (Below.refl _ _) _) _)) C0.out (Kd.C_below H1.out (below_alloc (below_alloc (Below.refl _ _) _) _)) C1.out Hsz.out).mono ?_; rintro e w1 ⟨rfl, hb⟩; have L1 := Aside0.mk (below_step (below_alloc (below_alloc (Below.refl _ _) _) _) hb); clear hb)
  go_ret
  exact ⟨rfl, L1.out⟩
theorem walked_FnExactNewHandle (A0 : Option Addr) (c0 : Nat) (S : List S60) (A1 : Option Addr) (c1 : Nat) (F : List Int) (h : S46) (w : World) (hr0 : Kd.C k60 w A0 S.length S) (hc0 : S.length ≤ c0) (hr1 : Kd.C (Kd.int .i64) w A1 F.length F) (hc1 : F.length ≤ c1) (hs : S.length * 48 ≤ 140737488351232) (h' : F.length * 8 ≤ 140737488351232) :
    Calls Try.prog 8 #[.agg #[.slice A0 S.length c0, .slice A1 F.length c1], .agg #[.bool h.f0, .int .i64 h.f1, .int .i64 h.f2, .bool h.f3, .int .i64 h.f4, .int .i64 h.f5]] w fun e w' => e = .returned (.bool true) ∧ Below w.heap.size w w' := by
  obtain ⟨t, ht⟩ := szTable_some S F
  by_cases c : t < 0
  · exact walk0_NewHandle w A0 A1 c0 c1 S F h hr0 hc0 hr1 hc1 t ht c
  have hm : (S.map to46).length ≤ 140737488351232 := by rw [List.length_map]; omega
  have hf : F.length ≤ 140737488351232 := by omega
  obtain ⟨⟨R1, R2, at_, code⟩, r1, r2, h1, h2⟩ := both_NewHandle (S.map to46) hm F hf h
  have e2 := eqTable_ev (S.map to46) F hm hf
  have e1 := eqTable_ev R1 R2 r1 r2
  obtain ⟨K1, g1⟩ := toTable_ev S F hs h'
  obtain ⟨K2, g2⟩ := h1
  obtain ⟨K3, g3⟩ := h2
  obtain ⟨K4, g4⟩ := e1
  obtain ⟨K5, g5⟩ := e2
  obtain ⟨K6, g6⟩ := mark_ev (S.map to46) F 1 hm hf
  obtain ⟨K7, g7⟩ := mark_ev R1 R2 1 r1 r2
  obtain ⟨K8, g8⟩ := held_ev R1.length R2.length 1 r1 r2 (by omega) (by omega)
  obtain ⟨k, hk⟩ : ∃ k, K1 ≤ k ∧ K2 ≤ k ∧ K3 ≤ k ∧ K4 ≤ k ∧ K5 ≤ k ∧ K6 ≤ k ∧ K7 ≤ k ∧ K8 ≤ k := ⟨K1 + K2 + K3 + K4 + K5 + K6 + K7 + K8, by omega⟩
  exact walk_NewHandle w A0 A1 c0 c1 S F h hr0 hc0 hr1 hc1 t ht c (S.map to46) R1 R2 at_ code _ _ _ _ _ _ k (g1 k hk.1) rfl (g3 k hk.2.2.1) (g2 k hk.2.1) (g4 k hk.2.2.2.1) (g5 k hk.2.2.2.2.1) (g6 k hk.2.2.2.2.2.1) (fin_pos _ _ hm hf) (g7 k hk.2.2.2.2.2.2.1) (fin_pos _ _ r1 r2) (g8 k hk.2.2.2.2.2.2.2)
end Go.Proofs.Ytoomeeoijbkmnaa.PH
