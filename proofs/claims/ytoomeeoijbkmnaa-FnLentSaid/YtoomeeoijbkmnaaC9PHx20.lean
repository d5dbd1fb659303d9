-- Printed by a program of this session (after the kit's print.sh, with contracts of its own beside): Lean checks it.
import Derived.Test.YtoomeeoijbkmnaaC9PHx0
import Derived.Test.YtoomeeoijbkmnaaC9PHx2
import Derived.Test.YtoomeeoijbkmnaaC9PHx16
import Derived.Test.YtoomeeoijbkmnaaC9PHx17
import Derived.Test.YtoomeeoijbkmnaaC9PHx18
import Derived.Test.YtoomeeoijbkmnaaC9PHx19
namespace Go.Proofs.Ytoomeeoijbkmnaa.PH
open Go.RowKit Go.Proofs.YtoomeeoijbkmnaaW.PrintWords Go.Proofs.YtoomeeoijbkmnaaW.PrintLast Go.Proofs.YtoomeeoijbkmnaaW.PrintMore
attribute [local go_sem] max2_int min2_int max_two min_two max_three min_three max_four min_four   -- for this text's walks alone
set_option linter.unusedVariables false
set_option linter.unusedSimpArgs false

def spec_DrawFindHandle.f (k : Nat) (l0 : List Int) : Option (List (S46) × List Int × Int × Int) :=
 (spec_l1Cur_tableOf.f k l0 0 0).bind fun t => (spec_l1Cur_pick.f l0 t.2.2.1 t.2.2.2 (wrap64 ((t.1.length : Int) + 2))).bind fun p => (spec_l1In.f (wrap64 (p.1 - 1)) 0 (wrap64 ((t.1.length : Int) - 1))).bind fun b =>
  if b = true then ((spec_l1Cur_one.f l0 p.2.1 p.2.2 4).bind fun c => if c.1 = true then ((spec_l1Cur_pick.f l0 c.2.1 c.2.2 4).bind fun q => some (t.1, t.2.1, wrap64 (p.1 - 1), q.1)) else (if 0 ≤ wrap64 (p.1 - 1) then (if wrap64 (p.1 - 1) < (t.1.length : Int) then some (t.1, t.2.1, wrap64 (p.1 - 1), (rd_T46 t.1 (wrap64 (p.1 - 1))).f1) else none) else none))
  else ((spec_l1Cur_pick.f l0 p.2.1 p.2.2 4).bind fun q => some (t.1, t.2.1, wrap64 (p.1 - 1), q.1))
/-- What lies where: the result's block, the table's, the reader's, the table's rows. -/
structure Df (w : World) (l0 : List Int) (t1 : List S46) (t2 : List Int) (v0 v1 : Value) (g2 g6 g7 lo hi : Nat) (a s : Int) (W : World) : Prop where
 b2 : W.heap[g2]? = some (.cells #[.slice none 0 0, .slice none 0 0] 51 (0, 0))
 b6 : W.heap[g6]? = some (.cells #[v0, v1] 51 (0, 0))
 i : IsS106 w W g7 l0 a s
 t : Td W w.heap.size lo hi v0 v1 t1 t2
 l : Below w.heap.size w W
 o : g2 < g7 ∧ g7 < lo ∧ lo ≤ hi ∧ hi ≤ g6 ∧ g2 = w.heap.size
theorem Df.next {w W W' : World} {l0 : List Int} {t1 : List S46} {t2 : List Int} {v0 v1 : Value} {g2 g6 g7 lo hi : Nat} {a s a' s' : Int} (h : Df w l0 t1 t2 v0 v1 g2 g6 g7 lo hi a s W) (hi' : IsS106 w W' g7 l0 a' s') (hb : Below w.heap.size w W') (hk : KeepBut W W' g7 none) :
  Df w l0 t1 t2 v0 v1 g2 g6 g7 lo hi a' s' W' := by
 have o := h.o
 exact ⟨(hk.2 g2 (blk_lt h.b2) (by omega) (by simp)).trans h.b2, (hk.2 g6 (blk_lt h.b6) (by omega) (by simp)).trans h.b6, hi', h.t.keep (fun j x _ y => hk.2 j y (by omega) (by simp)), hb, o⟩
theorem Df.quiet {w W W' : World} {l0 : List Int} {t1 : List S46} {t2 : List Int} {v0 v1 : Value} {g2 g6 g7 lo hi : Nat} {a s : Int} (h : Df w l0 t1 t2 v0 v1 g2 g6 g7 lo hi a s W) (hb : Below W.heap.size W W') :
  Df w l0 t1 t2 v0 v1 g2 g6 g7 lo hi a s W' :=
 ⟨blk_below h.b2 hb, blk_below h.b6 hb, h.i.below hb, h.t.keep (fun j _ _ y => hb.block j y), below_step h.l hb, h.o⟩
set_option maxHeartbeats 8000000 in
set_option maxRecDepth 100000 in
theorem spec_DrawFindHandle.calls (k : Nat) (A0 : Option Addr) (c0 : Nat) (l0 : List Int) (r1 : List (S46)) (r2 : List Int) (r3 : Int) (r4 : Int) (w : World) (hr0 : Kd.C (Kd.int .u8) w A0 l0.length l0) (hc0 : l0.length ≤ c0) (h : spec_DrawFindHandle.f k l0 = some (r1, r2, r3, r4)) :
  Calls Try.prog 86 #[.slice A0 l0.length c0] w fun e w' => ∃ v0_ v1_ : Value, e = .returned (.tuple #[.agg #[v0_, v1_], .int .i64 r3, .int .i64 r4]) ∧ Kd.R k46 46 w' w.heap.size (fun _ => True) v0_ r1 ∧ Kd.R (Kd.int .i64) 3 w' w.heap.size (fun _ => True) v1_ r2 ∧ Below w.heap.size w w' := by
 unfold spec_DrawFindHandle.f at h
 obtain ⟨⟨t1, t2, t3, t4⟩, ht, h⟩ := Option.bind_eq_some_iff.1 h
 obtain ⟨⟨p1, p2, p3⟩, hp, h⟩ := Option.bind_eq_some_iff.1 h
 obtain ⟨b, hin, h⟩ := Option.bind_eq_some_iff.1 h
 dsimp only at hp hin h
 obtain ⟨at_, hat⟩ : ∃ at_, at_ = wrap64 (p1 - 1) := ⟨_, rfl⟩
 rw [← hat] at hin h
 have hat' : IntKind.i64.wrap (p1 - 1) = at_ := by rw [hat]; exact i64_w _
 have HT := Aside0.mk ht
 have HP := Aside0.mk hp
 have HIN := Aside0.mk hin
 have HR := Aside0.mk hr0
 have HC := Aside0.mk hc0
 have HH := Aside0.mk h
 clear ht hp hin hr0 hc0 h hat
 have hu106 := Try.underlying106
 have hu51 := Try.underlying51
 go_enter Try.func86, Try.ntmps86
 go_upto_region 3 with (first | ((with_reducible refine gate_dst (N := 2) rfl ?_); refine box_event ?hg (N := 2) ?hd (cs := #[.slice none 0 0, .slice none 0 0]) (t := 51) ?hr ?_; (case hd => rfl); (case hg => rfl); (case hr => first | (go_simp; done) | (go_simp; rfl)); intro g2 hg w1 hbox hb; have B2 := Aside0.mk hbox; have G2 := Aside0.mk hg; have L1 := Aside0.mk hb; clear hbox hg hb) | ((with_reducible refine gate_dst (N := 10) rfl ?_); refine box_event ?hg (N := 10) ?hd (cs := #[.slice A0 l0.length c0, .int .i64 0, .int .u64 0]) (t := 106) ?hr ?_; (case hd => rfl); (case hg => rfl); (case hr => first | (go_simp; done) | (go_simp; rfl)); intro g7 hg w3 hbox hb; have HI := Aside0.mk (show IsS106 w w3 g7 l0 0 0 from ⟨A0, c0, hbox, by rw [hg]; exact L1.out.size, HR.out⟩); have Z2 := Aside0.mk (show g2 < g7 by rw [hg]; exact blk_lt B2.out); replace B2 := Aside0.mk (blk_below B2.out hb); replace L1 := Aside0.mk (below_step L1.out hb); have ZB := Aside0.mk (blk_lt hbox); clear hbox hg hb) | (go_at_call 82; refine (spec_l1Cur_tableOf.calls k g7 l0 0 0 t1 t2 t3 t4 w w3 HI.out L1.out HT.out).mono ?_; rintro e w4 ⟨v0, v1, rfl, x0, x1, i2, b2, kb⟩; have T := Aside0.mk (Td.new L1.out.size x0 x1); have ZS := Aside0.mk kb.1; replace HI := Aside0.mk i2; replace L1 := Aside0.mk b2; replace B2 := Aside0.mk ((kb.2 g2 (blk_lt B2.out) (by have := Z2.out; omega) (by simp)).trans B2.out); obtain ⟨Ar0, cr0, rfl⟩ := Kd.R_slice x0; obtain ⟨Ar1, cr1, rfl⟩ := Kd.R_slice x1; clear i2 b2 kb x0 x1) | ((with_reducible refine gate_dst (N := 6) rfl ?_); refine box_event ?hg (N := 6) ?hd (cs := #[.slice none 0 0, .slice none 0 0]) (t := 51) ?hr ?_; (case hd => rfl); (case hg => rfl); (case hr => first | (go_simp; done) | (go_simp; rfl)); intro g6 hg w5 hbox hb; have G6 := Aside0.mk hg; replace HI := Aside0.mk (HI.out.below hb); replace B2 := Aside0.mk (blk_below B2.out hb); replace T := Aside0.mk (T.out.keep (fun j _ _ y => hb.block j y)); replace L1 := Aside0.mk (below_step L1.out hb); have B6 := Aside0.mk hbox; have c0_ := (blk_cell hbox 0).trans rfl; have c1_ := (blk_cell hbox 1).trans rfl; have f0_ := blk_frozen hbox 0; have f1_ := blk_frozen hbox 1; clear hg hb hbox))
 have P6 := z_put2' (.slice Ar0 t1.length cr0) (.slice Ar1 t2.length cr1) B6.out
 obtain ⟨lo, hlo⟩ : ∃ lo, lo = w3.heap.size := ⟨_, rfl⟩
 obtain ⟨hi, hhi⟩ : ∃ hi, hi = w4.heap.size := ⟨_, rfl⟩
 have T' := T.out
 rw [← hlo, ← hhi] at T'
 have oo : g2 < g7 ∧ g7 < lo ∧ lo ≤ hi ∧ hi ≤ g6 ∧ g2 = w.heap.size := by rw [hlo, hhi]; exact ⟨Z2.out, ZB.out, ZS.out, Nat.le_of_eq G6.out.symm, G2.out⟩
 have D := Aside0.mk (show Df w l0 t1 t2 (.slice Ar0 t1.length cr0) (.slice Ar1 t2.length cr1) g2 g6 g7 lo hi t3 t4 ((w5.setCell ⟨g6, 0, none⟩ (.slice Ar0 t1.length cr0)).setCell ⟨g6, 1, none⟩ (.slice Ar1 t2.length cr1)) from ⟨(P6.2 g2 (by omega)).trans B2.out, P6.1, (HI.out.far (p := ⟨g6, 0, none⟩) (by show g7 ≠ g6; omega) _).far (p := ⟨g6, 1, none⟩) (by show g7 ≠ g6; omega) _, T'.keep (fun j x y _ => P6.2 j (by omega)), below_set (below_set L1.out (by omega)) (by omega), oo⟩)
 generalize ((w5.setCell ⟨g6, 0, none⟩ (.slice Ar0 t1.length cr0)).setCell ⟨g6, 1, none⟩ (.slice Ar1 t2.length cr1)) = W6 at D ⊢
 clear P6 T' oo hlo hhi T B2 HI L1 Z2 ZB ZS G6 G2 B6 c0_ c1_ f0_ f1_
 have m0 : W6.cell? ⟨g6, 0, none⟩ = some (.slice Ar0 t1.length cr0) := (blk_cell D.out.b6 0).trans rfl
 have hlw : IntKind.i64.wrap ((t1.length : Int) + 2) = wrap64 ((t1.length : Int) + 2) := i64_w _
 have hlw1 : IntKind.i64.wrap ((t1.length : Int) - 1) = wrap64 ((t1.length : Int) - 1) := i64_w _
 go_upto_region 4 with (go_at_call 102; refine (spec_l1Cur_pick.calls g7 l0 t3 t4 (wrap64 ((t1.length : Int) + 2)) p1 p2 p3 w W6 D.out.i D.out.l HP.out).mono ?_; rintro e W7 ⟨rfl, i2, b2, kb⟩; replace D := Aside0.mk (D.out.next i2 b2 kb); clear i2 b2 kb m0; have m0 : W7.cell? ⟨g6, 0, none⟩ = some (.slice Ar0 t1.length cr0) := (blk_cell D.out.b6 0).trans rfl)
 have h := HH.out
 clear HH
 cases b with
 | false =>
  rw [if_neg (by decide)] at h
  obtain ⟨⟨q1, q2, q3⟩, hq, h⟩ := Option.bind_eq_some_iff.1 h
  have HQ := Aside0.mk hq
  dsimp only at h
  simp only [Option.some.injEq, Prod.mk.injEq] at h
  obtain ⟨rfl, rfl, rfl, rfl⟩ := h
  clear hq
  go_upto_region 6 with (go_at_call 72; refine (spec_l1In.calls at_ 0 (wrap64 ((t1.length : Int) - 1)) _ _ HIN.out).mono ?_; rintro e W8 ⟨rfl, hd⟩; replace D := Aside0.mk (D.out.quiet hd.below); clear hd m0)
  refine start_ (n := 7) (S := fun w' => w'.cell? ⟨g6, 0, none⟩ = some (.slice Ar0 t1.length cr0) ∧ w'.cell? ⟨g6, 1, none⟩ = some (.slice Ar1 t2.length cr1)) (ds := []) #[false, false, false, false, false, false, false] (by kernel_rfl) rfl rfl ⟨(blk_cell (blk_drew D.out.b6) 0).trans rfl, (blk_cell (blk_drew D.out.b6) 1).trans rfl⟩ (fun hHeld => ?_)
  replace D := Aside0.mk (D.out.quiet (below_drew (Below.refl _ _)))
  generalize hWd : W8.drew = Wd at D hHeld ⊢
  clear hWd
  refine take_ (i := 0) (N := some 39) (v := ?_) (a' := ?_) #[true, false, false, false, false, false, false] rfl rfl (by kernel_rfl) (fun _ _ _ h => h) (Or.inl ⟨by rfl, ?_⟩) hHeld ?_ ?_
  rotate_left
  ·rintro w' ⟨s0, s1⟩
   go_simp
   with_reducible rfl
  rotate_left
  ·simp only [Act.put, List.setIfInBounds_toArray, List.set_cons_zero, List.set_cons_succ, i64_w, i32_w]
   rfl
  refine pure_ (i := 1) (N := some 40) (v := ?_) (a' := ?_) #[true, true, false, false, false, false, false] rfl rfl (by kernel_rfl) (fun _ _ _ h => h) (Or.inl ⟨by rfl, ?_⟩) ?_ ?_
  rotate_left
  ·intro w'
   go_simp
   with_reducible rfl
  rotate_left
  ·simp only [Act.put, List.setIfInBounds_toArray, List.set_cons_zero, List.set_cons_succ, i64_w, i32_w]
   rfl
  refine pure_ (i := 2) (N := some 41) (v := ?_) (a' := ?_) #[true, true, true, false, false, false, false] rfl rfl (by kernel_rfl) (fun _ _ _ h => h) (Or.inl ⟨by rfl, ?_⟩) ?_ ?_
  rotate_left
  ·intro w'
   go_simp
   with_reducible rfl
  rotate_left
  ·simp only [Act.put, List.setIfInBounds_toArray, List.set_cons_zero, List.set_cons_succ, i64_w, i32_w]
   rfl
  refine one_ (i := 3) (N := some 42) #[true, true, true, true, false, false, false] rfl rfl (by kernel_rfl) (by decide) (fun K hK => ?_)
  refine goes_ Try.func102 (by kernel_rfl) rfl #[.pointer (some ⟨g7, 0, none⟩), .int .i64 4] (by rfl) rfl rfl (by (try simp only [List.map_toArray, List.map_cons, List.map_nil]); first | done | rfl) ?_
  refine (spec_l1Cur_pick.calls g7 l0 p2 p3 4 q1 q2 q3 w Wd D.out.i D.out.l HQ.out).mono ?_
  rintro e We ⟨rfl, i2, b2, kb⟩
  refine ⟨_, rfl, ?_⟩
  replace D := Aside0.mk (D.out.next i2 b2 kb)
  clear i2 b2 kb hHeld
  refine hK.out _ _ ⟨(blk_cell D.out.b6 0).trans rfl, (blk_cell D.out.b6 1).trans rfl⟩ (fun hHeld => ?_)
  clear hK K hHeld
  refine norm_ (a' := ?_) ?_ ?_
  rotate_left
  ·show Act.put _ (some 42) _ = _
   simp only [Act.put, List.setIfInBounds_toArray, List.set_cons_zero, List.set_cons_succ, i64_w, i32_w]
   rfl
  refine one_ (i := 4) (N := none) #[true, true, true, true, true, false, false] rfl rfl (by kernel_rfl) (by decide) (fun K hK => ?_)
  have e0 : We.cell? ⟨g2, 0, none⟩ = some (.slice none 0 0) := (blk_cell D.out.b2 0).trans rfl
  have e1 : We.cell? ⟨g2, 1, none⟩ = some (.slice none 0 0) := (blk_cell D.out.b2 1).trans rfl
  have e2 := blk_frozen D.out.b2 0
  have e3 := blk_frozen D.out.b2 1
  refine skip_ (w1 := ((We.setCell ⟨g2, 0, none⟩ (.slice Ar0 t1.length cr0)).setCell ⟨g2, 1, none⟩ (.slice Ar1 t2.length cr1))) (by rfl) rfl ?_ ?_
  ·go_simp
  clear e0 e1 e2 e3
  have PZ := z_put2' (.slice Ar0 t1.length cr0) (.slice Ar1 t2.length cr1) D.out.b2
  have oo := D.out.o
  have BZ := Aside0.mk PZ.1
  have B6 := Aside0.mk ((PZ.2 g6 (by omega)).trans D.out.b6)
  have TZ := Aside0.mk (D.out.t.keep (fun j x y _ => PZ.2 j (by omega)))
  have LZ := Aside0.mk (below_set (below_set D.out.l (g := g2) (j := 0) (v := (.slice Ar0 t1.length cr0)) (by omega)) (g := g2) (j := 1) (v := (.slice Ar1 t2.length cr1)) (by omega))
  clear PZ oo D
  generalize ((We.setCell ⟨g2, 0, none⟩ (.slice Ar0 t1.length cr0)).setCell ⟨g2, 1, none⟩ (.slice Ar1 t2.length cr1)) = Wz at BZ B6 TZ LZ ⊢
  refine hK.out _ _ ⟨(blk_cell B6.out 0).trans rfl, (blk_cell B6.out 1).trans rfl⟩ (fun hHeld => ?_)
  clear hK K hHeld
  refine pure_ (i := 5) (N := some 3) (v := ?_) (a' := ?_) #[true, true, true, true, true, true, false] rfl rfl (by kernel_rfl) (fun _ _ _ h => h) (Or.inl ⟨by rfl, ?_⟩) ?_ ?_
  rotate_left
  ·intro w'
   go_simp
   with_reducible rfl
  rotate_left
  ·simp only [Act.put, List.setIfInBounds_toArray, List.set_cons_zero, List.set_cons_succ, i64_w, i32_w]
   rfl
  refine pure_ (i := 6) (N := some 4) (v := ?_) (a' := ?_) #[true, true, true, true, true, true, true] rfl rfl (by kernel_rfl) (fun _ _ _ h => h) (Or.inl ⟨by rfl, ?_⟩) ?_ ?_
  rotate_left
  ·intro w'
   go_simp
   with_reducible rfl
  rotate_left
  ·simp only [Act.put, List.setIfInBounds_toArray, List.set_cons_zero, List.set_cons_succ, i64_w, i32_w]
   rfl
  refine done_ (by kernel_rfl) ?_
  try go_wp2
  refine bodyPost_ret (results_list (rs := [.cell 2 51, .tmp 3, .tmp 4]) rfl (by simp) (.cell g2 51 #[(.slice Ar0 t1.length cr0), (.slice Ar1 t2.length cr1)] (0, 0) _ rfl BZ.out Try.underlying51 rfl (by kernel_rfl) (.tmp (.tmp .nil)))) rfl ?_
  exact ⟨_, _, rfl, Kd.R_mono TZ.out.1 (fun _ _ => trivial), Kd.R_mono TZ.out.2 (fun _ _ => trivial), LZ.out⟩
 | true =>
  rw [if_pos rfl] at h
  obtain ⟨⟨c1, c2, c3⟩, ho, h⟩ := Option.bind_eq_some_iff.1 h
  have HO := Aside0.mk ho
  dsimp only at h
  clear ho
  cases c1 with
  | true =>
   rw [if_pos rfl] at h
   obtain ⟨⟨q1, q2, q3⟩, hq, h⟩ := Option.bind_eq_some_iff.1 h
   have HQ := Aside0.mk hq
   dsimp only at h
   simp only [Option.some.injEq, Prod.mk.injEq] at h
   obtain ⟨rfl, rfl, rfl, rfl⟩ := h
   clear hq
   go_upto_region 6 with (first | (go_at_call 72; refine (spec_l1In.calls at_ 0 (wrap64 ((t1.length : Int) - 1)) _ _ HIN.out).mono ?_; rintro e W8 ⟨rfl, hd⟩; replace D := Aside0.mk (D.out.quiet hd.below); clear hd m0) | (go_at_call 103; refine (spec_l1Cur_one.calls g7 l0 p2 p3 4 true c2 c3 w W8 D.out.i D.out.l HO.out).mono ?_; rintro e W9 ⟨rfl, i2, b2, kb⟩; replace D := Aside0.mk (D.out.next i2 b2 kb); clear i2 b2 kb))
   refine start_ (n := 7) (S := fun w' => w'.cell? ⟨g6, 0, none⟩ = some (.slice Ar0 t1.length cr0) ∧ w'.cell? ⟨g6, 1, none⟩ = some (.slice Ar1 t2.length cr1)) (ds := []) #[false, false, false, false, false, false, false] (by kernel_rfl) rfl rfl ⟨(blk_cell (blk_drew D.out.b6) 0).trans rfl, (blk_cell (blk_drew D.out.b6) 1).trans rfl⟩ (fun hHeld => ?_)
   replace D := Aside0.mk (D.out.quiet (below_drew (Below.refl _ _)))
   generalize hWd : W9.drew = Wd at D hHeld ⊢
   clear hWd
   refine take_ (i := 0) (N := some 39) (v := ?_) (a' := ?_) #[true, false, false, false, false, false, false] rfl rfl (by kernel_rfl) (fun _ _ _ h => h) (Or.inl ⟨by rfl, ?_⟩) hHeld ?_ ?_
   rotate_left
   ·rintro w' ⟨s0, s1⟩
    go_simp
    with_reducible rfl
   rotate_left
   ·simp only [Act.put, List.setIfInBounds_toArray, List.set_cons_zero, List.set_cons_succ, i64_w, i32_w]
    rfl
   refine pure_ (i := 1) (N := some 40) (v := ?_) (a' := ?_) #[true, true, false, false, false, false, false] rfl rfl (by kernel_rfl) (fun _ _ _ h => h) (Or.inl ⟨by rfl, ?_⟩) ?_ ?_
   rotate_left
   ·intro w'
    go_simp
    with_reducible rfl
   rotate_left
   ·simp only [Act.put, List.setIfInBounds_toArray, List.set_cons_zero, List.set_cons_succ, i64_w, i32_w]
    rfl
   refine pure_ (i := 2) (N := some 41) (v := ?_) (a' := ?_) #[true, true, true, false, false, false, false] rfl rfl (by kernel_rfl) (fun _ _ _ h => h) (Or.inl ⟨by rfl, ?_⟩) ?_ ?_
   rotate_left
   ·intro w'
    go_simp
    with_reducible rfl
   rotate_left
   ·simp only [Act.put, List.setIfInBounds_toArray, List.set_cons_zero, List.set_cons_succ, i64_w, i32_w]
    rfl
   refine one_ (i := 3) (N := some 42) #[true, true, true, true, false, false, false] rfl rfl (by kernel_rfl) (by decide) (fun K hK => ?_)
   refine goes_ Try.func102 (by kernel_rfl) rfl #[.pointer (some ⟨g7, 0, none⟩), .int .i64 4] (by rfl) rfl rfl (by (try simp only [List.map_toArray, List.map_cons, List.map_nil]); first | done | rfl) ?_
   refine (spec_l1Cur_pick.calls g7 l0 c2 c3 4 q1 q2 q3 w Wd D.out.i D.out.l HQ.out).mono ?_
   rintro e We ⟨rfl, i2, b2, kb⟩
   refine ⟨_, rfl, ?_⟩
   replace D := Aside0.mk (D.out.next i2 b2 kb)
   clear i2 b2 kb hHeld
   refine hK.out _ _ ⟨(blk_cell D.out.b6 0).trans rfl, (blk_cell D.out.b6 1).trans rfl⟩ (fun hHeld => ?_)
   clear hK K hHeld
   refine norm_ (a' := ?_) ?_ ?_
   rotate_left
   ·show Act.put _ (some 42) _ = _
    simp only [Act.put, List.setIfInBounds_toArray, List.set_cons_zero, List.set_cons_succ, i64_w, i32_w]
    rfl
   refine one_ (i := 4) (N := none) #[true, true, true, true, true, false, false] rfl rfl (by kernel_rfl) (by decide) (fun K hK => ?_)
   have e0 : We.cell? ⟨g2, 0, none⟩ = some (.slice none 0 0) := (blk_cell D.out.b2 0).trans rfl
   have e1 : We.cell? ⟨g2, 1, none⟩ = some (.slice none 0 0) := (blk_cell D.out.b2 1).trans rfl
   have e2 := blk_frozen D.out.b2 0
   have e3 := blk_frozen D.out.b2 1
   refine skip_ (w1 := ((We.setCell ⟨g2, 0, none⟩ (.slice Ar0 t1.length cr0)).setCell ⟨g2, 1, none⟩ (.slice Ar1 t2.length cr1))) (by rfl) rfl ?_ ?_
   ·go_simp
   clear e0 e1 e2 e3
   have PZ := z_put2' (.slice Ar0 t1.length cr0) (.slice Ar1 t2.length cr1) D.out.b2
   have oo := D.out.o
   have BZ := Aside0.mk PZ.1
   have B6 := Aside0.mk ((PZ.2 g6 (by omega)).trans D.out.b6)
   have TZ := Aside0.mk (D.out.t.keep (fun j x y _ => PZ.2 j (by omega)))
   have LZ := Aside0.mk (below_set (below_set D.out.l (g := g2) (j := 0) (v := (.slice Ar0 t1.length cr0)) (by omega)) (g := g2) (j := 1) (v := (.slice Ar1 t2.length cr1)) (by omega))
   clear PZ oo D
   generalize ((We.setCell ⟨g2, 0, none⟩ (.slice Ar0 t1.length cr0)).setCell ⟨g2, 1, none⟩ (.slice Ar1 t2.length cr1)) = Wz at BZ B6 TZ LZ ⊢
   refine hK.out _ _ ⟨(blk_cell B6.out 0).trans rfl, (blk_cell B6.out 1).trans rfl⟩ (fun hHeld => ?_)
   clear hK K hHeld
   refine pure_ (i := 5) (N := some 3) (v := ?_) (a' := ?_) #[true, true, true, true, true, true, false] rfl rfl (by kernel_rfl) (fun _ _ _ h => h) (Or.inl ⟨by rfl, ?_⟩) ?_ ?_
   rotate_left
   ·intro w'
    go_simp
    with_reducible rfl
   rotate_left
   ·simp only [Act.put, List.setIfInBounds_toArray, List.set_cons_zero, List.set_cons_succ, i64_w, i32_w]
    rfl
   refine pure_ (i := 6) (N := some 4) (v := ?_) (a' := ?_) #[true, true, true, true, true, true, true] rfl rfl (by kernel_rfl) (fun _ _ _ h => h) (Or.inl ⟨by rfl, ?_⟩) ?_ ?_
   rotate_left
   ·intro w'
    go_simp
    with_reducible rfl
   rotate_left
   ·simp only [Act.put, List.setIfInBounds_toArray, List.set_cons_zero, List.set_cons_succ, i64_w, i32_w]
    rfl
   refine done_ (by kernel_rfl) ?_
   try go_wp2
   refine bodyPost_ret (results_list (rs := [.cell 2 51, .tmp 3, .tmp 4]) rfl (by simp) (.cell g2 51 #[(.slice Ar0 t1.length cr0), (.slice Ar1 t2.length cr1)] (0, 0) _ rfl BZ.out Try.underlying51 rfl (by kernel_rfl) (.tmp (.tmp .nil)))) rfl ?_
   exact ⟨_, _, rfl, Kd.R_mono TZ.out.1 (fun _ _ => trivial), Kd.R_mono TZ.out.2 (fun _ _ => trivial), LZ.out⟩
  | false =>
   rw [if_neg (by decide)] at h
   by_cases i0 : 0 ≤ at_
   ·rw [if_pos i0] at h
    by_cases i1 : at_ < (t1.length : Int)
    ·rw [if_pos i1] at h
     simp only [Option.some.injEq, Prod.mk.injEq] at h
     obtain ⟨rfl, rfl, rfl, rfl⟩ := h
     go_upto_region 5 with (first | (go_at_call 72; refine (spec_l1In.calls at_ 0 (wrap64 ((t1.length : Int) - 1)) _ _ HIN.out).mono ?_; rintro e W8 ⟨rfl, hd⟩; replace D := Aside0.mk (D.out.quiet hd.below); clear hd m0) | (go_at_call 103; refine (spec_l1Cur_one.calls g7 l0 p2 p3 4 false c2 c3 w W8 D.out.i D.out.l HO.out).mono ?_; rintro e W9 ⟨rfl, i2, b2, kb⟩; replace D := Aside0.mk (D.out.next i2 b2 kb); clear i2 b2 kb))
     obtain ⟨ad, ea, _, ga, _, _, _, _⟩ := at_T46 (Kd.R_reads' D.out.t.1).2.2 at_ i0 i1
     cases ea
     have zq : (0 ≤ at_) = True := eq_true i0
     have zq1 : (at_ < (t1.length : Int)) = True := eq_true i1
     have GA := Aside0.mk ga
     clear ga
     refine start_ (n := 11) (S := fun w' => w'.cell? ⟨g6, 0, none⟩ = some (.slice (some ad) t1.length cr0) ∧ w'.cell? ⟨g6, 1, none⟩ = some (.slice Ar1 t2.length cr1) ∧ w'.cell? ⟨(ad.add (at_.toNat * 6)).block, (ad.add (at_.toNat * 6)).off + 1, none⟩ = some (.int .i64 (rd_T46 t1 at_).f1)) (ds := []) #[false, false, false, false, false, false, false, false, false, false, false] (by kernel_rfl) rfl rfl ⟨(blk_cell (blk_drew D.out.b6) 0).trans rfl, (blk_cell (blk_drew D.out.b6) 1).trans rfl, GA.out⟩ (fun hHeld => ?_)
     replace D := Aside0.mk (D.out.quiet (below_drew (Below.refl _ _)))
     replace GA : Aside0 (W9.drew.cell? ⟨(ad.add (at_.toNat * 6)).block, (ad.add (at_.toNat * 6)).off + 1, none⟩ = some (.int .i64 (rd_T46 t1 at_).f1)) := GA
     generalize hWd : W9.drew = Wd at D GA hHeld ⊢
     clear hWd
     refine take_ (i := 0) (N := some 31) (v := ?_) (a' := ?_) #[true, false, false, false, false, false, false, false, false, false, false] rfl rfl (by kernel_rfl) (fun _ _ _ h => h) (Or.inl ⟨by rfl, ?_⟩) hHeld ?_ ?_
     rotate_left
     ·rintro w' ⟨s0, s1, s2⟩
      go_simp
      with_reducible rfl
     rotate_left
     ·simp only [Act.put, List.setIfInBounds_toArray, List.set_cons_zero, List.set_cons_succ, i64_w, i32_w]
      rfl
     refine pure_ (i := 1) (N := some 32) (v := ?_) (a' := ?_) #[true, true, false, false, false, false, false, false, false, false, false] rfl rfl (by kernel_rfl) (fun _ _ _ h => h) (Or.inl ⟨by rfl, ?_⟩) ?_ ?_
     rotate_left
     ·intro w'
      go_simp
      with_reducible rfl
     rotate_left
     ·simp only [Act.put, List.setIfInBounds_toArray, List.set_cons_zero, List.set_cons_succ, i64_w, i32_w]
      rfl
     refine pure_ (i := 2) (N := some 33) (v := ?_) (a' := ?_) #[true, true, true, false, false, false, false, false, false, false, false] rfl rfl (by kernel_rfl) (fun _ _ _ h => h) (Or.inl ⟨by rfl, ?_⟩) ?_ ?_
     rotate_left
     ·intro w'
      go_simp
      with_reducible rfl
     rotate_left
     ·simp only [Act.put, List.setIfInBounds_toArray, List.set_cons_zero, List.set_cons_succ, i64_w, i32_w]
      rfl
     refine take_ (i := 3) (N := some 34) (v := ?_) (a' := ?_) #[true, true, true, true, false, false, false, false, false, false, false] rfl rfl (by kernel_rfl) (fun _ _ _ h => h) (Or.inl ⟨by rfl, ?_⟩) hHeld ?_ ?_
     rotate_left
     ·rintro w' ⟨s0, s1, s2⟩
      go_simp
      with_reducible rfl
     rotate_left
     ·simp only [Act.put, List.setIfInBounds_toArray, List.set_cons_zero, List.set_cons_succ, i64_w, i32_w]
      rfl
     refine pure_ (i := 4) (N := some 35) (v := ?_) (a' := ?_) #[true, true, true, true, true, false, false, false, false, false, false] rfl rfl (by kernel_rfl) (fun _ _ _ h => h) (Or.inl ⟨by rfl, ?_⟩) ?_ ?_
     rotate_left
     ·intro w'
      go_simp
      with_reducible rfl
     rotate_left
     ·simp only [Act.put, List.setIfInBounds_toArray, List.set_cons_zero, List.set_cons_succ, i64_w, i32_w]
      rfl
     refine pure_ (i := 5) (N := some 36) (v := ?_) (a' := ?_) #[true, true, true, true, true, true, false, false, false, false, false] rfl rfl (by kernel_rfl) (fun _ _ _ h => h) (Or.inl ⟨by rfl, ?_⟩) ?_ ?_
     rotate_left
     ·intro w'
      go_simp
      with_reducible rfl
     rotate_left
     ·simp only [Act.put, List.setIfInBounds_toArray, List.set_cons_zero, List.set_cons_succ, i64_w, i32_w]
      rfl
     refine pure_ (i := 6) (N := some 37) (v := ?_) (a' := ?_) #[true, true, true, true, true, true, true, false, false, false, false] rfl rfl (by kernel_rfl) (fun _ _ _ h => h) (Or.inl ⟨by rfl, ?_⟩) ?_ ?_
     rotate_left
     ·intro w'
      go_simp
      with_reducible rfl
     rotate_left
     ·simp only [Act.put, List.setIfInBounds_toArray, List.set_cons_zero, List.set_cons_succ, i64_w, i32_w]
      rfl
     refine take_ (i := 7) (N := some 38) (v := ?_) (a' := ?_) #[true, true, true, true, true, true, true, true, false, false, false] rfl rfl (by kernel_rfl) (fun _ _ _ h => h) (Or.inl ⟨by rfl, ?_⟩) hHeld ?_ ?_
     rotate_left
     ·rintro w' ⟨s0, s1, s2⟩
      go_simp
      with_reducible rfl
     rotate_left
     ·simp only [Act.put, List.setIfInBounds_toArray, List.set_cons_zero, List.set_cons_succ, i64_w, i32_w]
      rfl
     clear hHeld
     refine one_ (i := 8) (N := none) #[true, true, true, true, true, true, true, true, true, false, false] rfl rfl (by kernel_rfl) (by decide) (fun K hK => ?_)
     have e0 : Wd.cell? ⟨g2, 0, none⟩ = some (.slice none 0 0) := (blk_cell D.out.b2 0).trans rfl
     have e1 : Wd.cell? ⟨g2, 1, none⟩ = some (.slice none 0 0) := (blk_cell D.out.b2 1).trans rfl
     have e2 := blk_frozen D.out.b2 0
     have e3 := blk_frozen D.out.b2 1
     refine skip_ (w1 := ((Wd.setCell ⟨g2, 0, none⟩ (.slice (some ad) t1.length cr0)).setCell ⟨g2, 1, none⟩ (.slice Ar1 t2.length cr1))) (by rfl) rfl ?_ ?_
     ·go_simp
     clear e0 e1 e2 e3
     have PZ := z_put2' (.slice (some ad) t1.length cr0) (.slice Ar1 t2.length cr1) D.out.b2
     have oo := D.out.o
     have BZ := Aside0.mk PZ.1
     have B6 := Aside0.mk ((PZ.2 g6 (by omega)).trans D.out.b6)
     have TZ := Aside0.mk (D.out.t.keep (fun j x y _ => PZ.2 j (by omega)))
     have LZ := Aside0.mk (below_set (below_set D.out.l (g := g2) (j := 0) (v := (.slice (some ad) t1.length cr0)) (by omega)) (g := g2) (j := 1) (v := (.slice Ar1 t2.length cr1)) (by omega))
     obtain ⟨ad2, ea2, _, CZ, _⟩ := at_T46 (Kd.R_reads' TZ.out.1).2.2 at_ i0 i1
     cases ea2
     replace CZ := Aside0.mk CZ
     clear PZ oo D
     generalize ((Wd.setCell ⟨g2, 0, none⟩ (.slice (some ad) t1.length cr0)).setCell ⟨g2, 1, none⟩ (.slice Ar1 t2.length cr1)) = Wz at BZ B6 TZ LZ CZ ⊢
     refine hK.out _ _ ⟨(blk_cell B6.out 0).trans rfl, (blk_cell B6.out 1).trans rfl, CZ.out⟩ (fun hHeld => ?_)
     clear hK K hHeld
     refine pure_ (i := 9) (N := some 3) (v := ?_) (a' := ?_) #[true, true, true, true, true, true, true, true, true, true, false] rfl rfl (by kernel_rfl) (fun _ _ _ h => h) (Or.inl ⟨by rfl, ?_⟩) ?_ ?_
     rotate_left
     ·intro w'
      go_simp
      with_reducible rfl
     rotate_left
     ·simp only [Act.put, List.setIfInBounds_toArray, List.set_cons_zero, List.set_cons_succ, i64_w, i32_w]
      rfl
     refine pure_ (i := 10) (N := some 4) (v := ?_) (a' := ?_) #[true, true, true, true, true, true, true, true, true, true, true] rfl rfl (by kernel_rfl) (fun _ _ _ h => h) (Or.inl ⟨by rfl, ?_⟩) ?_ ?_
     rotate_left
     ·intro w'
      go_simp
      with_reducible rfl
     rotate_left
     ·simp only [Act.put, List.setIfInBounds_toArray, List.set_cons_zero, List.set_cons_succ, i64_w, i32_w]
      rfl
     refine done_ (by kernel_rfl) ?_
     try go_wp2
     refine bodyPost_ret (results_list (rs := [.cell 2 51, .tmp 3, .tmp 4]) rfl (by simp) (.cell g2 51 #[(.slice (some ad) t1.length cr0), (.slice Ar1 t2.length cr1)] (0, 0) _ rfl BZ.out Try.underlying51 rfl (by kernel_rfl) (.tmp (.tmp .nil)))) rfl ?_
     exact ⟨_, _, rfl, Kd.R_mono TZ.out.1 (fun _ _ => trivial), Kd.R_mono TZ.out.2 (fun _ _ => trivial), LZ.out⟩
    ·rw [if_neg i1] at h; cases h
   ·rw [if_neg i0] at h; cases h

def spec_DrawLendHandle.f (k : Nat) (l0 : List Int) : Option ((List (S46)) × List Int × Int × Int) := (spec_DrawFindHandle.f k l0).bind fun bt1068 => (some (bt1068.1, bt1068.2.1, bt1068.2.2.1, bt1068.2.2.2))
set_option maxHeartbeats 8000000 in
set_option maxRecDepth 100000 in
theorem spec_DrawLendHandle.calls (k : Nat) (A0 : Option Addr) (c0 : Nat) (l0 : List Int) (r1 : List (S46)) (r2 : List Int) (r3 : Int) (r4 : Int) (w : World) (hr0 : Kd.C (Kd.int .u8) w A0 l0.length l0) (hc0 : l0.length ≤ c0) (h : spec_DrawLendHandle.f k l0 = some (r1, r2, r3, r4)) :
  Calls Try.prog 42 #[.slice A0 l0.length c0] w fun e w' => ∃ v0_ v1_ : Value, e = .returned (.tuple #[.agg #[v0_, v1_], .int .i64 r3, .int .i64 r4]) ∧ Kd.R k46 46 w' w.heap.size (fun _ => True) v0_ r1 ∧ Kd.R (Kd.int .i64) 3 w' w.heap.size (fun _ => True) v1_ r2 ∧ Below w.heap.size w w' := by
 have hu51 := Try.underlying51
 have HR0 := Aside0.mk hr0
 have HC0 := Aside0.mk hc0
 clear hr0 hc0
 have HB := Aside0.mk (Below.refl w.heap.size w)
 have H : ((spec_DrawFindHandle.f k l0).bind fun bt1068 => (some (bt1068.1, bt1068.2.1, bt1068.2.2.1, bt1068.2.2.2))) = some (r1, r2, r3, r4) := h
 clear h
 replace H := Option.bind_eq_some_iff.mp H
 obtain ⟨⟨t1068, t1071, t1074, t1075⟩, A20, H⟩ := H
 replace H : (some (t1068, t1071, t1074, t1075)) = some (r1, r2, r3, r4) := H
 have A2 := Aside0.mk A20
 clear A20
 simp only [Option.some.injEq, Prod.mk.injEq] at H
 obtain ⟨rfl, rfl, rfl, rfl⟩ := H
 go_enter Try.func42, Try.ntmps42
 go_wp2_with (first | ((with_reducible refine gate_dst (N := 2) rfl ?_); refine box_event ?hg (N := 2) ?hd (cs := #[.slice none 0 0, .slice none 0 0]) (t := 51) ?hr ?_; (case hd => rfl); (case hg => rfl); (case hr => first | (go_simp; done) | (go_simp; rfl)); intro gb1067 hg w3 hbox hb; have n0_ := Aside0.mk (below_step (by repeat (first | (with_reducible first | exact HB.out | apply eA | apply eN | apply eD) | exact HB.out)) hb); have n1_ := Aside0.mk (hbox); have n2_ := Aside0.mk ((by rw [hg]; exact (below_size (by repeat (first | (with_reducible first | exact HB.out | apply eA | apply eN | apply eD) | exact HB.out))) : w.heap.size ≤ gb1067)); have n3_ := Aside0.mk ((by rw [hg]; exact (below_size (by repeat (first | (with_reducible first | exact HB.out | apply eA | apply eN | apply eD) | exact HB.out))) : w.heap.size ≤ gb1067)); clear HB; have HB := n0_; have BK1067 := n1_; have GW1067 := n2_; have GE1067 := n3_; clear n0_ n1_ n2_ n3_; clear hb hbox hg) | ((with_reducible refine gate_callee (f := 86) rfl ?_); refine goesL_ (some 6) rfl rfl Try.func86 (by kernel_rfl) rfl #[.slice A0 l0.length c0] rfl (by (try simp only [List.map_toArray, List.map_cons, List.map_nil]); first | done | rfl | (simp only [List.length_drop, List.length_take]; rfl)) ?_; (with_reducible refine (spec_DrawFindHandle.calls k _ _ l0 t1068 t1071 t1074 t1075 _ ?side1 ?side2 A2.out).mono ?_); (case side1 => repeat (first | exact (Kd.C_below HR0.out HB.out) | (with_reducible refine Kd.C_alloc ?_ _) | (with_reducible refine Kd.C_drewN ?_ _) | (with_reducible refine Kd.C_drew ?_))); (case side2 => exact HC0.out); rintro e w4 ⟨v1069, v1072, rfl, ho0, ho1, hb⟩; refine ⟨_, rfl, ?_⟩; have n0_ := Aside0.mk (Kd.R_lower ho0 (below_size (by repeat (first | (with_reducible first | exact HB.out | apply eA | apply eN | apply eD | refine below_set ?_ GE1067.out) | exact HB.out)))); have n1_ := Aside0.mk (Kd.R_lower ho1 (below_size (by repeat (first | (with_reducible first | exact HB.out | apply eA | apply eN | apply eD | refine below_set ?_ GE1067.out) | exact HB.out)))); have n2_ := Aside0.mk (blk_below (g := gb1067) (o := .cells #[.slice none 0 0, .slice none 0 0] 51 (0, 0)) (by (with_reducible repeat first | apply bN | apply bD | apply bA); exact BK1067.out) hb); have n3_ := Aside0.mk (below_step (by repeat (first | (with_reducible first | exact HB.out | apply eA | apply eN | apply eD | refine below_set ?_ GE1067.out) | exact HB.out)) hb); clear BK1067 HB; have HO1070 := n0_; have HO1073 := n1_; have BK1067 := n2_; have HB := n3_; clear n0_ n1_ n2_ n3_; (try clear hb); (try clear hb2); (try clear hk); (try clear hi); (try clear ho0); (try clear ho1); obtain ⟨Ao5, co5, eo5⟩ := Kd.R_slice HO1070.out; subst eo5; have hcz6_0 : w4.cell? ⟨gb1067, 0, none⟩ = some (.slice none 0 0) := (blk_cell BK1067.out 0).trans rfl; have hcz6_1 : w4.cell? ⟨gb1067, 1, none⟩ = some (.slice none 0 0) := (blk_cell BK1067.out 1).trans rfl; have hfz6_0 := blk_frozen BK1067.out 0; have hfz6_1 := blk_frozen BK1067.out 1; obtain ⟨Ao7, co7, eo7⟩ := Kd.R_slice HO1073.out; subst eo7))
 refine bodyPost_ret (results_ctt rfl _ _ gb1067 51 #[.slice Ao5 t1068.length co5, .slice Ao7 t1071.length co7] (0, 0) _ rfl (by (with_reducible repeat first | apply bN | apply bD | apply bA); refine blk_put (cs := #[.slice Ao5 t1068.length co5, .slice none 0 0]) ?_ 1 _ rfl; (with_reducible repeat first | apply bN | apply bD | apply bA); refine blk_put (cs := #[.slice none 0 0, .slice none 0 0]) ?_ 0 _ rfl; (with_reducible repeat first | apply bN | apply bD | apply bA); exact BK1067.out) Try.underlying51 rfl (by kernel_rfl)) rfl ?_
 exact ⟨_, _, by first | rfl | (simp [errW_none, errW_some] <;> rfl) | (simp [*, errW_none, errW_some] <;> rfl), by (with_reducible repeat first | apply Kd.R_alloc | apply Kd.R_drewN | apply Kd.R_drew); exact Kd.R_mono (Kd.R_far (p := ⟨gb1067, 1, none⟩) (Kd.R_far (p := ⟨gb1067, 0, none⟩) (Kd.R_types HO1070.out BK1067.out (by decide)) (fun _ hk => hk.2) (.slice Ao5 t1068.length co5)) (fun _ hk => hk.2) (.slice Ao7 t1071.length co7)) (fun _ hk => trivial), by (with_reducible repeat first | apply Kd.R_alloc | apply Kd.R_drewN | apply Kd.R_drew); exact Kd.R_mono (Kd.R_far (p := ⟨gb1067, 1, none⟩) (Kd.R_far (p := ⟨gb1067, 0, none⟩) (Kd.R_types HO1073.out BK1067.out (by decide)) (fun _ hk => hk.2) (.slice Ao5 t1068.length co5)) (fun _ hk => hk.2) (.slice Ao7 t1071.length co7)) (fun _ hk => trivial), by repeat (first | (with_reducible first | exact HB.out | apply eA | apply eN | apply eD | refine below_set ?_ GE1067.out) | exact HB.out)⟩

-- NOT PRINTED: function 10 (laws_FnLent)

end Go.Proofs.Ytoomeeoijbkmnaa.PH
