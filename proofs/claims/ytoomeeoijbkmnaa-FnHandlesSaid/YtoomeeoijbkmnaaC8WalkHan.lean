import Derived.Test.YtoomeeoijbkmnaaC8Lwn
import Derived.Test.YtoomeeoijbkmnaaC8PHx19
import Derived.Lib.Hide
import Derived.Deep.QuietTactic
import Derived.BigQuiet
import Derived.WalkSpells
import Derived.WalkLawsBesides
import Derived.StillTailTactics
namespace Go.Proofs.Ytoomeeoijbkmnaa.PH
open Go.RowKit Go.Proofs.YtoomeeoijbkmnaaW.PrintWords Go.Proofs.YtoomeeoijbkmnaaW.PrintLast Go.Proofs.YtoomeeoijbkmnaaW.PrintMore
set_option linter.unusedVariables false
set_option linter.unusedSimpArgs false
attribute [local go_sem high] eqA46
set_option maxHeartbeats 8000000 in
set_option maxRecDepth 100000 in
theorem walk0_FnHandles (w : World) (A0 : Option Addr) (c0 : Nat) (l0 : List Int) (hr0 : Kd.C (Kd.int .u8) w A0 l0.length l0) (hc0 : l0.length ≤ c0) (k : Nat) (hl : decide ((l0.length : Int) > 1048576) = true) :
  Calls Try.prog 9 #[.slice A0 l0.length c0] w fun e w' => e = .returned (.bool true) ∧ Below w.heap.size w w' := by
 have HR := Aside0.mk hr0
 have HC := Aside0.mk hc0
 clear hr0 hc0
 have hu46 := Try.underlying46
 have L := Aside0.mk (Below.refl w.heap.size w)
 go_enter Try.func9, Try.ntmps9
 go_wp2
 go_ret
 exact ⟨rfl, L.out⟩
set_option maxHeartbeats 8000000 in
set_option maxRecDepth 100000 in
theorem walk1_FnHandles (w : World) (A0 : Option Addr) (c0 : Nat) (l0 : List Int) (hr0 : Kd.C (Kd.int .u8) w A0 l0.length l0) (hc0 : l0.length ≤ c0) (k : Nat) (S : List S46) (F : List Int) (h : S46) (hl : decide ((l0.length : Int) > 1048576) = false) (hd : spec_DrawNewHandle.f k l0 = some (S, F, h.f0, h.f1, h.f2, h.f3, h.f4, h.f5)) (X1 : List S46) (X2 : List Int) (at_ : Int) (hn : impl_NewHandle.f k S F h.f0 h.f1 h.f2 h.f3 h.f4 h.f5 = some (X1, X2, at_, 1)) (hs : spec_NewHandle.f k S F h.f0 h.f1 h.f2 h.f3 h.f4 h.f5 = some (X1, X2, at_, 1)) :
  Calls Try.prog 9 #[.slice A0 l0.length c0] w fun e w' => e = .returned (.bool true) ∧ Below w.heap.size w w' := by
 have HR := Aside0.mk hr0
 have HC := Aside0.mk hc0
 clear hr0 hc0
 have Hd := Aside0.mk hd
 clear hd
 have Hn := Aside0.mk hn
 clear hn
 have Hs := Aside0.mk hs
 clear hs
 have hu46 := Try.underlying46
 have L := Aside0.mk (Below.refl w.heap.size w)
 go_enter Try.func9, Try.ntmps9
 go_upto_region 4 with (go_at_call 37; refine (spec_DrawNewHandle.calls k A0 c0 l0 S F h.f0 h.f1 h.f2 h.f3 h.f4 h.f5 w HR.out HC.out Hd.out).mono ?_; rintro e W1 ⟨y0, y1, rfl, x0, x1, hb⟩; obtain ⟨At0, ct0, rfl⟩ := Kd.R_slice x0; obtain ⟨At1, ct1, rfl⟩ := Kd.R_slice x1; have Tt := Aside0.mk (Tb.new (below_size L.out) x0 x1); replace L := Aside0.mk (below_step L.out hb); clear hb x0 x1)
 have hb : Below W1.heap.size W1 ((W1.alloc (.cells #[.slice At0 S.length ct0, .slice At1 F.length ct1] 51 (0, 0))).alloc (.cells #[.bool h.f0, .int .i64 h.f1, .int .i64 h.f2, .bool h.f3, .int .i64 h.f4, .int .i64 h.f5] 46 (0, 0))) := (below_alloc (below_alloc (Below.refl _ _) (.cells #[.slice At0 S.length ct0, .slice At1 F.length ct1] 51 (0, 0))) (.cells #[.bool h.f0, .int .i64 h.f1, .int .i64 h.f2, .bool h.f3, .int .i64 h.f4, .int .i64 h.f5] 46 (0, 0)))
 have b0 := blk_alloc (blk_new W1 (.cells #[.slice At0 S.length ct0, .slice At1 F.length ct1] 51 (0, 0))) (.cells #[.bool h.f0, .int .i64 h.f1, .int .i64 h.f2, .bool h.f3, .int .i64 h.f4, .int .i64 h.f5] 46 (0, 0))
 have b1 := z_new2 W1 (.cells #[.slice At0 S.length ct0, .slice At1 F.length ct1] 51 (0, 0)) (.cells #[.bool h.f0, .int .i64 h.f1, .int .i64 h.f2, .bool h.f3, .int .i64 h.f4, .int .i64 h.f5] 46 (0, 0))
 replace L := Aside0.mk (below_step L.out hb)
 replace Tt := Aside0.mk (Tt.out.below hb)
 clear hb
 obtain ⟨gt, hg⟩ : ∃ gt, gt = W1.heap.size := ⟨_, rfl⟩
 rw [← hg] at b0 b1 ⊢
 clear hg
 generalize ((W1.alloc (.cells #[.slice At0 S.length ct0, .slice At1 F.length ct1] 51 (0, 0))).alloc (.cells #[.bool h.f0, .int .i64 h.f1, .int .i64 h.f2, .bool h.f3, .int .i64 h.f4, .int .i64 h.f5] 46 (0, 0))) = W2 at b0 b1 L Tt ⊢
 have Bt := Aside0.mk b0
 clear b0
 have Bh := Aside0.mk b1
 clear b1
 have mBt_0 : W2.cell? ⟨gt, 0, none⟩ = some (.slice At0 S.length ct0) := (blk_cell Bt.out 0).trans rfl
 have mBt_1 : W2.cell? ⟨gt, 1, none⟩ = some (.slice At1 F.length ct1) := (blk_cell Bt.out 1).trans rfl
 have mBh_0 : W2.cell? ⟨gt + 1, 0, none⟩ = some (.bool h.f0) := (blk_cell Bh.out 0).trans rfl
 have mBh_1 : W2.cell? ⟨gt + 1, 1, none⟩ = some (.int .i64 h.f1) := (blk_cell Bh.out 1).trans rfl
 have mBh_2 : W2.cell? ⟨gt + 1, 2, none⟩ = some (.int .i64 h.f2) := (blk_cell Bh.out 2).trans rfl
 have mBh_3 : W2.cell? ⟨gt + 1, 3, none⟩ = some (.bool h.f3) := (blk_cell Bh.out 3).trans rfl
 have mBh_4 : W2.cell? ⟨gt + 1, 4, none⟩ = some (.int .i64 h.f4) := (blk_cell Bh.out 4).trans rfl
 have mBh_5 : W2.cell? ⟨gt + 1, 5, none⟩ = some (.int .i64 h.f5) := (blk_cell Bh.out 5).trans rfl
 go_upto_region 5 with (go_at_call 36; have q00 := Kd.R_reads' Tt.out.1; have q01 := Kd.R_reads' Tt.out.2; refine (impl_NewHandle.calls k _ _ S _ _ F h.f0 h.f1 h.f2 h.f3 h.f4 h.f5 X1 X2 at_ 1 _ q00.2.2 q00.2.1 q01.2.2 q01.2.1 Hn.out).mono ?_; clear q00 q01; rintro e W3 ⟨y0, y1, rfl, x0, x1, hb⟩; obtain ⟨Ax0, cx0, rfl⟩ := Kd.R_slice x0; obtain ⟨Ax1, cx1, rfl⟩ := Kd.R_slice x1; have Tx := Aside0.mk (Tb.new (below_size L.out) x0 x1); replace L := Aside0.mk (below_step L.out hb); replace Tt := Aside0.mk (Tt.out.below hb); replace Bt := Aside0.mk (blk_below Bt.out hb); replace Bh := Aside0.mk (blk_below Bh.out hb); clear hb x0 x1; clear mBt_0 mBt_1 mBh_0 mBh_1 mBh_2 mBh_3 mBh_4 mBh_5)
 have hb : Below W3.heap.size W3 (W3.alloc (.cells #[.slice Ax0 X1.length cx0, .slice Ax1 X2.length cx1] 51 (0, 0))) := (below_alloc (Below.refl _ _) (.cells #[.slice Ax0 X1.length cx0, .slice Ax1 X2.length cx1] 51 (0, 0)))
 have b0 := blk_new W3 (.cells #[.slice Ax0 X1.length cx0, .slice Ax1 X2.length cx1] 51 (0, 0))
 replace L := Aside0.mk (below_step L.out hb)
 replace Tt := Aside0.mk (Tt.out.below hb)
 replace Bt := Aside0.mk (blk_below Bt.out hb)
 replace Bh := Aside0.mk (blk_below Bh.out hb)
 replace Tx := Aside0.mk (Tx.out.below hb)
 clear hb
 obtain ⟨gx, hg⟩ : ∃ gx, gx = W3.heap.size := ⟨_, rfl⟩
 rw [← hg] at b0 ⊢
 clear hg
 generalize (W3.alloc (.cells #[.slice Ax0 X1.length cx0, .slice Ax1 X2.length cx1] 51 (0, 0))) = W4 at b0 L Tt Bt Bh Tx ⊢
 have Bx := Aside0.mk b0
 clear b0
 have mBt_0 : W4.cell? ⟨gt, 0, none⟩ = some (.slice At0 S.length ct0) := (blk_cell Bt.out 0).trans rfl
 have mBt_1 : W4.cell? ⟨gt, 1, none⟩ = some (.slice At1 F.length ct1) := (blk_cell Bt.out 1).trans rfl
 have mBh_0 : W4.cell? ⟨gt + 1, 0, none⟩ = some (.bool h.f0) := (blk_cell Bh.out 0).trans rfl
 have mBh_1 : W4.cell? ⟨gt + 1, 1, none⟩ = some (.int .i64 h.f1) := (blk_cell Bh.out 1).trans rfl
 have mBh_2 : W4.cell? ⟨gt + 1, 2, none⟩ = some (.int .i64 h.f2) := (blk_cell Bh.out 2).trans rfl
 have mBh_3 : W4.cell? ⟨gt + 1, 3, none⟩ = some (.bool h.f3) := (blk_cell Bh.out 3).trans rfl
 have mBh_4 : W4.cell? ⟨gt + 1, 4, none⟩ = some (.int .i64 h.f4) := (blk_cell Bh.out 4).trans rfl
 have mBh_5 : W4.cell? ⟨gt + 1, 5, none⟩ = some (.int .i64 h.f5) := (blk_cell Bh.out 5).trans rfl
 go_upto_region 6 with (go_at_call 34; have q00 := Kd.R_reads' Tt.out.1; have q01 := Kd.R_reads' Tt.out.2; refine (spec_NewHandle.calls k _ _ S _ _ F h.f0 h.f1 h.f2 h.f3 h.f4 h.f5 X1 X2 at_ 1 _ q00.2.2 q00.2.1 q01.2.2 q01.2.1 Hs.out).mono ?_; clear q00 q01; rintro e W5 ⟨y0, y1, rfl, x0, x1, hb⟩; obtain ⟨Az0, cz0, rfl⟩ := Kd.R_slice x0; obtain ⟨Az1, cz1, rfl⟩ := Kd.R_slice x1; have Tz := Aside0.mk (Tb.new (below_size L.out) x0 x1); replace L := Aside0.mk (below_step L.out hb); replace Tt := Aside0.mk (Tt.out.below hb); replace Bt := Aside0.mk (blk_below Bt.out hb); replace Bh := Aside0.mk (blk_below Bh.out hb); replace Tx := Aside0.mk (Tx.out.below hb); replace Bx := Aside0.mk (blk_below Bx.out hb); clear hb x0 x1; clear mBt_0 mBt_1 mBh_0 mBh_1 mBh_2 mBh_3 mBh_4 mBh_5)
 have hb : Below W5.heap.size W5 (W5.alloc (.cells #[.slice Az0 X1.length cz0, .slice Az1 X2.length cz1] 51 (0, 0))) := (below_alloc (Below.refl _ _) (.cells #[.slice Az0 X1.length cz0, .slice Az1 X2.length cz1] 51 (0, 0)))
 have b0 := blk_new W5 (.cells #[.slice Az0 X1.length cz0, .slice Az1 X2.length cz1] 51 (0, 0))
 replace L := Aside0.mk (below_step L.out hb)
 replace Tt := Aside0.mk (Tt.out.below hb)
 replace Bt := Aside0.mk (blk_below Bt.out hb)
 replace Bh := Aside0.mk (blk_below Bh.out hb)
 replace Tx := Aside0.mk (Tx.out.below hb)
 replace Bx := Aside0.mk (blk_below Bx.out hb)
 replace Tz := Aside0.mk (Tz.out.below hb)
 clear hb
 obtain ⟨gz, hg⟩ : ∃ gz, gz = W5.heap.size := ⟨_, rfl⟩
 rw [← hg] at b0 ⊢
 clear hg
 generalize (W5.alloc (.cells #[.slice Az0 X1.length cz0, .slice Az1 X2.length cz1] 51 (0, 0))) = W6 at b0 L Tt Bt Bh Tx Bx Tz ⊢
 have Bz := Aside0.mk b0
 clear b0
 go_wp2
 go_ret
 exact ⟨rfl, L.out⟩
set_option maxHeartbeats 8000000 in
set_option maxRecDepth 100000 in
theorem walk2_FnHandles (w : World) (A0 : Option Addr) (c0 : Nat) (l0 : List Int) (hr0 : Kd.C (Kd.int .u8) w A0 l0.length l0) (hc0 : l0.length ≤ c0) (k : Nat) (S : List S46) (F : List Int) (h : S46) (hl : decide ((l0.length : Int) > 1048576) = false) (hd : spec_DrawNewHandle.f k l0 = some (S, F, h.f0, h.f1, h.f2, h.f3, h.f4, h.f5)) (at_ : Int) (hn : impl_NewHandle.f k S F h.f0 h.f1 h.f2 h.f3 h.f4 h.f5 = some (S, F, at_, 5)) (hs : spec_NewHandle.f k S F h.f0 h.f1 h.f2 h.f3 h.f4 h.f5 = some (S, F, at_, 5)) (he : laws_sameTables.f k S F S F = some true) :
  Calls Try.prog 9 #[.slice A0 l0.length c0] w fun e w' => e = .returned (.bool true) ∧ Below w.heap.size w w' := by
 have HR := Aside0.mk hr0
 have HC := Aside0.mk hc0
 clear hr0 hc0
 have Hd := Aside0.mk hd
 clear hd
 have Hn := Aside0.mk hn
 clear hn
 have Hs := Aside0.mk hs
 clear hs
 have He := Aside0.mk he
 clear he
 have hu46 := Try.underlying46
 have L := Aside0.mk (Below.refl w.heap.size w)
 go_enter Try.func9, Try.ntmps9
 go_upto_region 4 with (go_at_call 37; refine (spec_DrawNewHandle.calls k A0 c0 l0 S F h.f0 h.f1 h.f2 h.f3 h.f4 h.f5 w HR.out HC.out Hd.out).mono ?_; rintro e W1 ⟨y0, y1, rfl, x0, x1, hb⟩; obtain ⟨At0, ct0, rfl⟩ := Kd.R_slice x0; obtain ⟨At1, ct1, rfl⟩ := Kd.R_slice x1; have Tt := Aside0.mk (Tb.new (below_size L.out) x0 x1); replace L := Aside0.mk (below_step L.out hb); clear hb x0 x1)
 have hb : Below W1.heap.size W1 ((W1.alloc (.cells #[.slice At0 S.length ct0, .slice At1 F.length ct1] 51 (0, 0))).alloc (.cells #[.bool h.f0, .int .i64 h.f1, .int .i64 h.f2, .bool h.f3, .int .i64 h.f4, .int .i64 h.f5] 46 (0, 0))) := (below_alloc (below_alloc (Below.refl _ _) (.cells #[.slice At0 S.length ct0, .slice At1 F.length ct1] 51 (0, 0))) (.cells #[.bool h.f0, .int .i64 h.f1, .int .i64 h.f2, .bool h.f3, .int .i64 h.f4, .int .i64 h.f5] 46 (0, 0)))
 have b0 := blk_alloc (blk_new W1 (.cells #[.slice At0 S.length ct0, .slice At1 F.length ct1] 51 (0, 0))) (.cells #[.bool h.f0, .int .i64 h.f1, .int .i64 h.f2, .bool h.f3, .int .i64 h.f4, .int .i64 h.f5] 46 (0, 0))
 have b1 := z_new2 W1 (.cells #[.slice At0 S.length ct0, .slice At1 F.length ct1] 51 (0, 0)) (.cells #[.bool h.f0, .int .i64 h.f1, .int .i64 h.f2, .bool h.f3, .int .i64 h.f4, .int .i64 h.f5] 46 (0, 0))
 replace L := Aside0.mk (below_step L.out hb)
 replace Tt := Aside0.mk (Tt.out.below hb)
 clear hb
 obtain ⟨gt, hg⟩ : ∃ gt, gt = W1.heap.size := ⟨_, rfl⟩
 rw [← hg] at b0 b1 ⊢
 clear hg
 generalize ((W1.alloc (.cells #[.slice At0 S.length ct0, .slice At1 F.length ct1] 51 (0, 0))).alloc (.cells #[.bool h.f0, .int .i64 h.f1, .int .i64 h.f2, .bool h.f3, .int .i64 h.f4, .int .i64 h.f5] 46 (0, 0))) = W2 at b0 b1 L Tt ⊢
 have Bt := Aside0.mk b0
 clear b0
 have Bh := Aside0.mk b1
 clear b1
 have mBt_0 : W2.cell? ⟨gt, 0, none⟩ = some (.slice At0 S.length ct0) := (blk_cell Bt.out 0).trans rfl
 have mBt_1 : W2.cell? ⟨gt, 1, none⟩ = some (.slice At1 F.length ct1) := (blk_cell Bt.out 1).trans rfl
 have mBh_0 : W2.cell? ⟨gt + 1, 0, none⟩ = some (.bool h.f0) := (blk_cell Bh.out 0).trans rfl
 have mBh_1 : W2.cell? ⟨gt + 1, 1, none⟩ = some (.int .i64 h.f1) := (blk_cell Bh.out 1).trans rfl
 have mBh_2 : W2.cell? ⟨gt + 1, 2, none⟩ = some (.int .i64 h.f2) := (blk_cell Bh.out 2).trans rfl
 have mBh_3 : W2.cell? ⟨gt + 1, 3, none⟩ = some (.bool h.f3) := (blk_cell Bh.out 3).trans rfl
 have mBh_4 : W2.cell? ⟨gt + 1, 4, none⟩ = some (.int .i64 h.f4) := (blk_cell Bh.out 4).trans rfl
 have mBh_5 : W2.cell? ⟨gt + 1, 5, none⟩ = some (.int .i64 h.f5) := (blk_cell Bh.out 5).trans rfl
 go_upto_region 5 with (go_at_call 36; have q00 := Kd.R_reads' Tt.out.1; have q01 := Kd.R_reads' Tt.out.2; refine (impl_NewHandle.calls k _ _ S _ _ F h.f0 h.f1 h.f2 h.f3 h.f4 h.f5 S F at_ 5 _ q00.2.2 q00.2.1 q01.2.2 q01.2.1 Hn.out).mono ?_; clear q00 q01; rintro e W3 ⟨y0, y1, rfl, x0, x1, hb⟩; obtain ⟨Ax0, cx0, rfl⟩ := Kd.R_slice x0; obtain ⟨Ax1, cx1, rfl⟩ := Kd.R_slice x1; have Tx := Aside0.mk (Tb.new (below_size L.out) x0 x1); replace L := Aside0.mk (below_step L.out hb); replace Tt := Aside0.mk (Tt.out.below hb); replace Bt := Aside0.mk (blk_below Bt.out hb); replace Bh := Aside0.mk (blk_below Bh.out hb); clear hb x0 x1; clear mBt_0 mBt_1 mBh_0 mBh_1 mBh_2 mBh_3 mBh_4 mBh_5)
 have hb : Below W3.heap.size W3 (W3.alloc (.cells #[.slice Ax0 S.length cx0, .slice Ax1 F.length cx1] 51 (0, 0))) := (below_alloc (Below.refl _ _) (.cells #[.slice Ax0 S.length cx0, .slice Ax1 F.length cx1] 51 (0, 0)))
 have b0 := blk_new W3 (.cells #[.slice Ax0 S.length cx0, .slice Ax1 F.length cx1] 51 (0, 0))
 replace L := Aside0.mk (below_step L.out hb)
 replace Tt := Aside0.mk (Tt.out.below hb)
 replace Bt := Aside0.mk (blk_below Bt.out hb)
 replace Bh := Aside0.mk (blk_below Bh.out hb)
 replace Tx := Aside0.mk (Tx.out.below hb)
 clear hb
 obtain ⟨gx, hg⟩ : ∃ gx, gx = W3.heap.size := ⟨_, rfl⟩
 rw [← hg] at b0 ⊢
 clear hg
 generalize (W3.alloc (.cells #[.slice Ax0 S.length cx0, .slice Ax1 F.length cx1] 51 (0, 0))) = W4 at b0 L Tt Bt Bh Tx ⊢
 have Bx := Aside0.mk b0
 clear b0
 have mBt_0 : W4.cell? ⟨gt, 0, none⟩ = some (.slice At0 S.length ct0) := (blk_cell Bt.out 0).trans rfl
 have mBt_1 : W4.cell? ⟨gt, 1, none⟩ = some (.slice At1 F.length ct1) := (blk_cell Bt.out 1).trans rfl
 have mBh_0 : W4.cell? ⟨gt + 1, 0, none⟩ = some (.bool h.f0) := (blk_cell Bh.out 0).trans rfl
 have mBh_1 : W4.cell? ⟨gt + 1, 1, none⟩ = some (.int .i64 h.f1) := (blk_cell Bh.out 1).trans rfl
 have mBh_2 : W4.cell? ⟨gt + 1, 2, none⟩ = some (.int .i64 h.f2) := (blk_cell Bh.out 2).trans rfl
 have mBh_3 : W4.cell? ⟨gt + 1, 3, none⟩ = some (.bool h.f3) := (blk_cell Bh.out 3).trans rfl
 have mBh_4 : W4.cell? ⟨gt + 1, 4, none⟩ = some (.int .i64 h.f4) := (blk_cell Bh.out 4).trans rfl
 have mBh_5 : W4.cell? ⟨gt + 1, 5, none⟩ = some (.int .i64 h.f5) := (blk_cell Bh.out 5).trans rfl
 go_upto_region 6 with (go_at_call 34; have q00 := Kd.R_reads' Tt.out.1; have q01 := Kd.R_reads' Tt.out.2; refine (spec_NewHandle.calls k _ _ S _ _ F h.f0 h.f1 h.f2 h.f3 h.f4 h.f5 S F at_ 5 _ q00.2.2 q00.2.1 q01.2.2 q01.2.1 Hs.out).mono ?_; clear q00 q01; rintro e W5 ⟨y0, y1, rfl, x0, x1, hb⟩; obtain ⟨Az0, cz0, rfl⟩ := Kd.R_slice x0; obtain ⟨Az1, cz1, rfl⟩ := Kd.R_slice x1; have Tz := Aside0.mk (Tb.new (below_size L.out) x0 x1); replace L := Aside0.mk (below_step L.out hb); replace Tt := Aside0.mk (Tt.out.below hb); replace Bt := Aside0.mk (blk_below Bt.out hb); replace Bh := Aside0.mk (blk_below Bh.out hb); replace Tx := Aside0.mk (Tx.out.below hb); replace Bx := Aside0.mk (blk_below Bx.out hb); clear hb x0 x1; clear mBt_0 mBt_1 mBh_0 mBh_1 mBh_2 mBh_3 mBh_4 mBh_5)
 have hb : Below W5.heap.size W5 (W5.alloc (.cells #[.slice Az0 S.length cz0, .slice Az1 F.length cz1] 51 (0, 0))) := (below_alloc (Below.refl _ _) (.cells #[.slice Az0 S.length cz0, .slice Az1 F.length cz1] 51 (0, 0)))
 have b0 := blk_new W5 (.cells #[.slice Az0 S.length cz0, .slice Az1 F.length cz1] 51 (0, 0))
 replace L := Aside0.mk (below_step L.out hb)
 replace Tt := Aside0.mk (Tt.out.below hb)
 replace Bt := Aside0.mk (blk_below Bt.out hb)
 replace Bh := Aside0.mk (blk_below Bh.out hb)
 replace Tx := Aside0.mk (Tx.out.below hb)
 replace Bx := Aside0.mk (blk_below Bx.out hb)
 replace Tz := Aside0.mk (Tz.out.below hb)
 clear hb
 obtain ⟨gz, hg⟩ : ∃ gz, gz = W5.heap.size := ⟨_, rfl⟩
 rw [← hg] at b0 ⊢
 clear hg
 generalize (W5.alloc (.cells #[.slice Az0 S.length cz0, .slice Az1 F.length cz1] 51 (0, 0))) = W6 at b0 L Tt Bt Bh Tx Bx Tz ⊢
 have Bz := Aside0.mk b0
 clear b0
 have mBx_0 : W6.cell? ⟨gx, 0, none⟩ = some (.slice Ax0 S.length cx0) := (blk_cell Bx.out 0).trans rfl
 have mBx_1 : W6.cell? ⟨gx, 1, none⟩ = some (.slice Ax1 F.length cx1) := (blk_cell Bx.out 1).trans rfl
 have mBt_0 : W6.cell? ⟨gt, 0, none⟩ = some (.slice At0 S.length ct0) := (blk_cell Bt.out 0).trans rfl
 have mBt_1 : W6.cell? ⟨gt, 1, none⟩ = some (.slice At1 F.length ct1) := (blk_cell Bt.out 1).trans rfl
 go_wp2_with (go_at_call 38; have q00 := Kd.R_reads' Tx.out.1; have q01 := Kd.R_reads' Tx.out.2; have q10 := Kd.R_reads' Tt.out.1; have q11 := Kd.R_reads' Tt.out.2; refine (laws_sameTables.calls k _ _ S _ _ F _ _ S _ _ F true _ q00.2.2 q00.2.1 q01.2.2 q01.2.1 q10.2.2 q10.2.1 q11.2.2 q11.2.1 He.out).mono ?_; clear q00 q01 q10 q11; rintro e W7 ⟨rfl, hb⟩; replace L := Aside0.mk (below_step L.out hb); replace Tt := Aside0.mk (Tt.out.below hb); replace Bt := Aside0.mk (blk_below Bt.out hb); replace Bh := Aside0.mk (blk_below Bh.out hb); replace Tx := Aside0.mk (Tx.out.below hb); replace Bx := Aside0.mk (blk_below Bx.out hb); replace Tz := Aside0.mk (Tz.out.below hb); replace Bz := Aside0.mk (blk_below Bz.out hb); clear hb; clear mBx_0 mBx_1 mBt_0 mBt_1)
 go_ret
 exact ⟨rfl, L.out⟩
set_option maxHeartbeats 8000000 in
set_option maxRecDepth 100000 in
theorem walk3_FnHandles (w : World) (A0 : Option Addr) (c0 : Nat) (l0 : List Int) (hr0 : Kd.C (Kd.int .u8) w A0 l0.length l0) (hc0 : l0.length ≤ c0) (k : Nat) (S : List S46) (F : List Int) (h : S46) (hl : decide ((l0.length : Int) > 1048576) = false) (hd : spec_DrawNewHandle.f k l0 = some (S, F, h.f0, h.f1, h.f2, h.f3, h.f4, h.f5)) (X1 Y1 Z1 : List S46) (X2 Y2 Z2 : List Int) (at_ n m r0 r1 : Int) (hn : impl_NewHandle.f k S F h.f0 h.f1 h.f2 h.f3 h.f4 h.f5 = some (X1, X2, at_, 0)) (hs : spec_NewHandle.f k S F h.f0 h.f1 h.f2 h.f3 h.f4 h.f5 = some (X1, X2, at_, 0)) (hfa : impl_FindHandle.f k X1 X2 at_ h.f1 = some (h.f0, h.f1, h.f2, h.f3, h.f4, h.f5, 0)) (hfb : impl_FindHandle.f k X1 X2 at_ r1 = some (false, 0, 0, false, 0, 0, 3)) (hq0 : IntKind.i64.wrap (h.f1 + 1) = r0) (hq1 : Int.tmod r0 10 = r1) (hca : impl_CountUsed.f k S F (-1) = some (n, true)) (hcb : impl_CountUsed.f k X1 X2 (-1) = some (m, true)) (hw : IntKind.i64.wrap (n + 1) = m) (hga : impl_GoodTable.f k X1 X2 = some true) (hdr : impl_DropHandle.f k X1 X2 at_ h.f1 = some (Y1, Y2, h.f0, h.f1, h.f2, h.f3, h.f4, h.f5, 0)) (hfc : impl_FindHandle.f k Y1 Y2 at_ h.f1 = some (false, 0, 0, false, 0, 0, 2)) (hnb : impl_NewHandle.f k Y1 Y2 h.f0 h.f1 h.f2 h.f3 h.f4 h.f5 = some (Z1, Z2, at_, 0)) (hgb : impl_GoodTable.f k Y1 Y2 = some true) :
  Calls Try.prog 9 #[.slice A0 l0.length c0] w fun e w' => e = .returned (.bool true) ∧ Below w.heap.size w w' := by
 have HR := Aside0.mk hr0
 have HC := Aside0.mk hc0
 clear hr0 hc0
 have Hd := Aside0.mk hd
 clear hd
 have Hn := Aside0.mk hn
 clear hn
 have Hs := Aside0.mk hs
 clear hs
 have Hfa := Aside0.mk hfa
 clear hfa
 have Hfb := Aside0.mk hfb
 clear hfb
 have Hca := Aside0.mk hca
 clear hca
 have Hcb := Aside0.mk hcb
 clear hcb
 have Hga := Aside0.mk hga
 clear hga
 have Hdr := Aside0.mk hdr
 clear hdr
 have Hfc := Aside0.mk hfc
 clear hfc
 have Hnb := Aside0.mk hnb
 clear hnb
 have Hgb := Aside0.mk hgb
 clear hgb
 have hu46 := Try.underlying46
 have L := Aside0.mk (Below.refl w.heap.size w)
 go_enter Try.func9, Try.ntmps9
 go_upto_region 4 with (go_at_call 37; refine (spec_DrawNewHandle.calls k A0 c0 l0 S F h.f0 h.f1 h.f2 h.f3 h.f4 h.f5 w HR.out HC.out Hd.out).mono ?_; rintro e W1 ⟨y0, y1, rfl, x0, x1, hb⟩; obtain ⟨At0, ct0, rfl⟩ := Kd.R_slice x0; obtain ⟨At1, ct1, rfl⟩ := Kd.R_slice x1; have Tt := Aside0.mk (Tb.new (below_size L.out) x0 x1); replace L := Aside0.mk (below_step L.out hb); clear hb x0 x1)
 have hb : Below W1.heap.size W1 ((W1.alloc (.cells #[.slice At0 S.length ct0, .slice At1 F.length ct1] 51 (0, 0))).alloc (.cells #[.bool h.f0, .int .i64 h.f1, .int .i64 h.f2, .bool h.f3, .int .i64 h.f4, .int .i64 h.f5] 46 (0, 0))) := (below_alloc (below_alloc (Below.refl _ _) (.cells #[.slice At0 S.length ct0, .slice At1 F.length ct1] 51 (0, 0))) (.cells #[.bool h.f0, .int .i64 h.f1, .int .i64 h.f2, .bool h.f3, .int .i64 h.f4, .int .i64 h.f5] 46 (0, 0)))
 have b0 := blk_alloc (blk_new W1 (.cells #[.slice At0 S.length ct0, .slice At1 F.length ct1] 51 (0, 0))) (.cells #[.bool h.f0, .int .i64 h.f1, .int .i64 h.f2, .bool h.f3, .int .i64 h.f4, .int .i64 h.f5] 46 (0, 0))
 have b1 := z_new2 W1 (.cells #[.slice At0 S.length ct0, .slice At1 F.length ct1] 51 (0, 0)) (.cells #[.bool h.f0, .int .i64 h.f1, .int .i64 h.f2, .bool h.f3, .int .i64 h.f4, .int .i64 h.f5] 46 (0, 0))
 replace L := Aside0.mk (below_step L.out hb)
 replace Tt := Aside0.mk (Tt.out.below hb)
 clear hb
 obtain ⟨gt, hg⟩ : ∃ gt, gt = W1.heap.size := ⟨_, rfl⟩
 rw [← hg] at b0 b1 ⊢
 clear hg
 generalize ((W1.alloc (.cells #[.slice At0 S.length ct0, .slice At1 F.length ct1] 51 (0, 0))).alloc (.cells #[.bool h.f0, .int .i64 h.f1, .int .i64 h.f2, .bool h.f3, .int .i64 h.f4, .int .i64 h.f5] 46 (0, 0))) = W2 at b0 b1 L Tt ⊢
 have Bt := Aside0.mk b0
 clear b0
 have Bh := Aside0.mk b1
 clear b1
 have mBt_0 : W2.cell? ⟨gt, 0, none⟩ = some (.slice At0 S.length ct0) := (blk_cell Bt.out 0).trans rfl
 have mBt_1 : W2.cell? ⟨gt, 1, none⟩ = some (.slice At1 F.length ct1) := (blk_cell Bt.out 1).trans rfl
 have mBh_0 : W2.cell? ⟨gt + 1, 0, none⟩ = some (.bool h.f0) := (blk_cell Bh.out 0).trans rfl
 have mBh_1 : W2.cell? ⟨gt + 1, 1, none⟩ = some (.int .i64 h.f1) := (blk_cell Bh.out 1).trans rfl
 have mBh_2 : W2.cell? ⟨gt + 1, 2, none⟩ = some (.int .i64 h.f2) := (blk_cell Bh.out 2).trans rfl
 have mBh_3 : W2.cell? ⟨gt + 1, 3, none⟩ = some (.bool h.f3) := (blk_cell Bh.out 3).trans rfl
 have mBh_4 : W2.cell? ⟨gt + 1, 4, none⟩ = some (.int .i64 h.f4) := (blk_cell Bh.out 4).trans rfl
 have mBh_5 : W2.cell? ⟨gt + 1, 5, none⟩ = some (.int .i64 h.f5) := (blk_cell Bh.out 5).trans rfl
 go_upto_region 5 with (go_at_call 36; have q00 := Kd.R_reads' Tt.out.1; have q01 := Kd.R_reads' Tt.out.2; refine (impl_NewHandle.calls k _ _ S _ _ F h.f0 h.f1 h.f2 h.f3 h.f4 h.f5 X1 X2 at_ 0 _ q00.2.2 q00.2.1 q01.2.2 q01.2.1 Hn.out).mono ?_; clear q00 q01; rintro e W3 ⟨y0, y1, rfl, x0, x1, hb⟩; obtain ⟨Ax0, cx0, rfl⟩ := Kd.R_slice x0; obtain ⟨Ax1, cx1, rfl⟩ := Kd.R_slice x1; have Tx := Aside0.mk (Tb.new (below_size L.out) x0 x1); replace L := Aside0.mk (below_step L.out hb); replace Tt := Aside0.mk (Tt.out.below hb); replace Bt := Aside0.mk (blk_below Bt.out hb); replace Bh := Aside0.mk (blk_below Bh.out hb); clear hb x0 x1; clear mBt_0 mBt_1 mBh_0 mBh_1 mBh_2 mBh_3 mBh_4 mBh_5)
 have hb : Below W3.heap.size W3 (W3.alloc (.cells #[.slice Ax0 X1.length cx0, .slice Ax1 X2.length cx1] 51 (0, 0))) := (below_alloc (Below.refl _ _) (.cells #[.slice Ax0 X1.length cx0, .slice Ax1 X2.length cx1] 51 (0, 0)))
 have b0 := blk_new W3 (.cells #[.slice Ax0 X1.length cx0, .slice Ax1 X2.length cx1] 51 (0, 0))
 replace L := Aside0.mk (below_step L.out hb)
 replace Tt := Aside0.mk (Tt.out.below hb)
 replace Bt := Aside0.mk (blk_below Bt.out hb)
 replace Bh := Aside0.mk (blk_below Bh.out hb)
 replace Tx := Aside0.mk (Tx.out.below hb)
 clear hb
 obtain ⟨gx, hg⟩ : ∃ gx, gx = W3.heap.size := ⟨_, rfl⟩
 rw [← hg] at b0 ⊢
 clear hg
 generalize (W3.alloc (.cells #[.slice Ax0 X1.length cx0, .slice Ax1 X2.length cx1] 51 (0, 0))) = W4 at b0 L Tt Bt Bh Tx ⊢
 have Bx := Aside0.mk b0
 clear b0
 have mBt_0 : W4.cell? ⟨gt, 0, none⟩ = some (.slice At0 S.length ct0) := (blk_cell Bt.out 0).trans rfl
 have mBt_1 : W4.cell? ⟨gt, 1, none⟩ = some (.slice At1 F.length ct1) := (blk_cell Bt.out 1).trans rfl
 have mBh_0 : W4.cell? ⟨gt + 1, 0, none⟩ = some (.bool h.f0) := (blk_cell Bh.out 0).trans rfl
 have mBh_1 : W4.cell? ⟨gt + 1, 1, none⟩ = some (.int .i64 h.f1) := (blk_cell Bh.out 1).trans rfl
 have mBh_2 : W4.cell? ⟨gt + 1, 2, none⟩ = some (.int .i64 h.f2) := (blk_cell Bh.out 2).trans rfl
 have mBh_3 : W4.cell? ⟨gt + 1, 3, none⟩ = some (.bool h.f3) := (blk_cell Bh.out 3).trans rfl
 have mBh_4 : W4.cell? ⟨gt + 1, 4, none⟩ = some (.int .i64 h.f4) := (blk_cell Bh.out 4).trans rfl
 have mBh_5 : W4.cell? ⟨gt + 1, 5, none⟩ = some (.int .i64 h.f5) := (blk_cell Bh.out 5).trans rfl
 go_upto_region 6 with (go_at_call 34; have q00 := Kd.R_reads' Tt.out.1; have q01 := Kd.R_reads' Tt.out.2; refine (spec_NewHandle.calls k _ _ S _ _ F h.f0 h.f1 h.f2 h.f3 h.f4 h.f5 X1 X2 at_ 0 _ q00.2.2 q00.2.1 q01.2.2 q01.2.1 Hs.out).mono ?_; clear q00 q01; rintro e W5 ⟨y0, y1, rfl, x0, x1, hb⟩; obtain ⟨Az0, cz0, rfl⟩ := Kd.R_slice x0; obtain ⟨Az1, cz1, rfl⟩ := Kd.R_slice x1; have Tz := Aside0.mk (Tb.new (below_size L.out) x0 x1); replace L := Aside0.mk (below_step L.out hb); replace Tt := Aside0.mk (Tt.out.below hb); replace Bt := Aside0.mk (blk_below Bt.out hb); replace Bh := Aside0.mk (blk_below Bh.out hb); replace Tx := Aside0.mk (Tx.out.below hb); replace Bx := Aside0.mk (blk_below Bx.out hb); clear hb x0 x1; clear mBt_0 mBt_1 mBh_0 mBh_1 mBh_2 mBh_3 mBh_4 mBh_5)
 have hb : Below W5.heap.size W5 (W5.alloc (.cells #[.slice Az0 X1.length cz0, .slice Az1 X2.length cz1] 51 (0, 0))) := (below_alloc (Below.refl _ _) (.cells #[.slice Az0 X1.length cz0, .slice Az1 X2.length cz1] 51 (0, 0)))
 have b0 := blk_new W5 (.cells #[.slice Az0 X1.length cz0, .slice Az1 X2.length cz1] 51 (0, 0))
 replace L := Aside0.mk (below_step L.out hb)
 replace Tt := Aside0.mk (Tt.out.below hb)
 replace Bt := Aside0.mk (blk_below Bt.out hb)
 replace Bh := Aside0.mk (blk_below Bh.out hb)
 replace Tx := Aside0.mk (Tx.out.below hb)
 replace Bx := Aside0.mk (blk_below Bx.out hb)
 replace Tz := Aside0.mk (Tz.out.below hb)
 clear hb
 obtain ⟨gz, hg⟩ : ∃ gz, gz = W5.heap.size := ⟨_, rfl⟩
 rw [← hg] at b0 ⊢
 clear hg
 generalize (W5.alloc (.cells #[.slice Az0 X1.length cz0, .slice Az1 X2.length cz1] 51 (0, 0))) = W6 at b0 L Tt Bt Bh Tx Bx Tz ⊢
 have Bz := Aside0.mk b0
 clear b0
 have mBx_0 : W6.cell? ⟨gx, 0, none⟩ = some (.slice Ax0 X1.length cx0) := (blk_cell Bx.out 0).trans rfl
 have mBx_1 : W6.cell? ⟨gx, 1, none⟩ = some (.slice Ax1 X2.length cx1) := (blk_cell Bx.out 1).trans rfl
 have mBh_0 : W6.cell? ⟨gt + 1, 0, none⟩ = some (.bool h.f0) := (blk_cell Bh.out 0).trans rfl
 have mBh_1 : W6.cell? ⟨gt + 1, 1, none⟩ = some (.int .i64 h.f1) := (blk_cell Bh.out 1).trans rfl
 have mBh_2 : W6.cell? ⟨gt + 1, 2, none⟩ = some (.int .i64 h.f2) := (blk_cell Bh.out 2).trans rfl
 have mBh_3 : W6.cell? ⟨gt + 1, 3, none⟩ = some (.bool h.f3) := (blk_cell Bh.out 3).trans rfl
 have mBh_4 : W6.cell? ⟨gt + 1, 4, none⟩ = some (.int .i64 h.f4) := (blk_cell Bh.out 4).trans rfl
 have mBh_5 : W6.cell? ⟨gt + 1, 5, none⟩ = some (.int .i64 h.f5) := (blk_cell Bh.out 5).trans rfl
 go_upto_region 11 with (go_at_call 27; have q00 := Kd.R_reads' Tx.out.1; have q01 := Kd.R_reads' Tx.out.2; refine (impl_FindHandle.calls k _ _ X1 _ _ X2 at_ h.f1 h.f0 h.f1 h.f2 h.f3 h.f4 h.f5 0 _ q00.2.2 q00.2.1 q01.2.2 q01.2.1 Hfa.out).mono ?_; clear q00 q01; rintro e W7 ⟨rfl, hb⟩; replace L := Aside0.mk (below_step L.out hb); replace Tt := Aside0.mk (Tt.out.below hb); replace Bt := Aside0.mk (blk_below Bt.out hb); replace Bh := Aside0.mk (blk_below Bh.out hb); replace Tx := Aside0.mk (Tx.out.below hb); replace Bx := Aside0.mk (blk_below Bx.out hb); replace Tz := Aside0.mk (Tz.out.below hb); replace Bz := Aside0.mk (blk_below Bz.out hb); clear hb; clear mBx_0 mBx_1 mBh_0 mBh_1 mBh_2 mBh_3 mBh_4 mBh_5)
 have hb : Below W7.heap.size W7 (W7.alloc (.cells #[.bool h.f0, .int .i64 h.f1, .int .i64 h.f2, .bool h.f3, .int .i64 h.f4, .int .i64 h.f5] 46 (0, 0))) := (below_alloc (Below.refl _ _) (.cells #[.bool h.f0, .int .i64 h.f1, .int .i64 h.f2, .bool h.f3, .int .i64 h.f4, .int .i64 h.f5] 46 (0, 0)))
 have b0 := blk_new W7 (.cells #[.bool h.f0, .int .i64 h.f1, .int .i64 h.f2, .bool h.f3, .int .i64 h.f4, .int .i64 h.f5] 46 (0, 0))
 replace L := Aside0.mk (below_step L.out hb)
 replace Tt := Aside0.mk (Tt.out.below hb)
 replace Bt := Aside0.mk (blk_below Bt.out hb)
 replace Bh := Aside0.mk (blk_below Bh.out hb)
 replace Tx := Aside0.mk (Tx.out.below hb)
 replace Bx := Aside0.mk (blk_below Bx.out hb)
 replace Tz := Aside0.mk (Tz.out.below hb)
 replace Bz := Aside0.mk (blk_below Bz.out hb)
 clear hb
 obtain ⟨ga, hg⟩ : ∃ ga, ga = W7.heap.size := ⟨_, rfl⟩
 rw [← hg] at b0 ⊢
 clear hg
 generalize (W7.alloc (.cells #[.bool h.f0, .int .i64 h.f1, .int .i64 h.f2, .bool h.f3, .int .i64 h.f4, .int .i64 h.f5] 46 (0, 0))) = W8 at b0 L Tt Bt Bh Tx Bx Tz Bz ⊢
 have Ba := Aside0.mk b0
 clear b0
 have mBx_0 : W8.cell? ⟨gx, 0, none⟩ = some (.slice Ax0 X1.length cx0) := (blk_cell Bx.out 0).trans rfl
 have mBx_1 : W8.cell? ⟨gx, 1, none⟩ = some (.slice Ax1 X2.length cx1) := (blk_cell Bx.out 1).trans rfl
 have mBh_0 : W8.cell? ⟨gt + 1, 0, none⟩ = some (.bool h.f0) := (blk_cell Bh.out 0).trans rfl
 have mBh_1 : W8.cell? ⟨gt + 1, 1, none⟩ = some (.int .i64 h.f1) := (blk_cell Bh.out 1).trans rfl
 have mBh_2 : W8.cell? ⟨gt + 1, 2, none⟩ = some (.int .i64 h.f2) := (blk_cell Bh.out 2).trans rfl
 have mBh_3 : W8.cell? ⟨gt + 1, 3, none⟩ = some (.bool h.f3) := (blk_cell Bh.out 3).trans rfl
 have mBh_4 : W8.cell? ⟨gt + 1, 4, none⟩ = some (.int .i64 h.f4) := (blk_cell Bh.out 4).trans rfl
 have mBh_5 : W8.cell? ⟨gt + 1, 5, none⟩ = some (.int .i64 h.f5) := (blk_cell Bh.out 5).trans rfl
 go_upto_region 12 with (go_at_call 27; have q00 := Kd.R_reads' Tx.out.1; have q01 := Kd.R_reads' Tx.out.2; refine (impl_FindHandle.calls k _ _ X1 _ _ X2 at_ r1 false 0 0 false 0 0 3 _ q00.2.2 q00.2.1 q01.2.2 q01.2.1 Hfb.out).mono ?_; clear q00 q01; rintro e W9 ⟨rfl, hb⟩; replace L := Aside0.mk (below_step L.out hb); replace Tt := Aside0.mk (Tt.out.below hb); replace Bt := Aside0.mk (blk_below Bt.out hb); replace Bh := Aside0.mk (blk_below Bh.out hb); replace Tx := Aside0.mk (Tx.out.below hb); replace Bx := Aside0.mk (blk_below Bx.out hb); replace Tz := Aside0.mk (Tz.out.below hb); replace Bz := Aside0.mk (blk_below Bz.out hb); replace Ba := Aside0.mk (blk_below Ba.out hb); clear hb; clear mBx_0 mBx_1 mBh_0 mBh_1 mBh_2 mBh_3 mBh_4 mBh_5)
 have hb : Below W9.heap.size W9 (W9.alloc (.cells #[.bool false, .int .i64 0, .int .i64 0, .bool false, .int .i64 0, .int .i64 0] 46 (0, 0))) := (below_alloc (Below.refl _ _) (.cells #[.bool false, .int .i64 0, .int .i64 0, .bool false, .int .i64 0, .int .i64 0] 46 (0, 0)))
 have b0 := blk_new W9 (.cells #[.bool false, .int .i64 0, .int .i64 0, .bool false, .int .i64 0, .int .i64 0] 46 (0, 0))
 replace L := Aside0.mk (below_step L.out hb)
 replace Tt := Aside0.mk (Tt.out.below hb)
 replace Bt := Aside0.mk (blk_below Bt.out hb)
 replace Bh := Aside0.mk (blk_below Bh.out hb)
 replace Tx := Aside0.mk (Tx.out.below hb)
 replace Bx := Aside0.mk (blk_below Bx.out hb)
 replace Tz := Aside0.mk (Tz.out.below hb)
 replace Bz := Aside0.mk (blk_below Bz.out hb)
 replace Ba := Aside0.mk (blk_below Ba.out hb)
 clear hb
 obtain ⟨gb, hg⟩ : ∃ gb, gb = W9.heap.size := ⟨_, rfl⟩
 rw [← hg] at b0 ⊢
 clear hg
 generalize (W9.alloc (.cells #[.bool false, .int .i64 0, .int .i64 0, .bool false, .int .i64 0, .int .i64 0] 46 (0, 0))) = W10 at b0 L Tt Bt Bh Tx Bx Tz Bz Ba ⊢
 have Bb := Aside0.mk b0
 clear b0
 have mBt_0 : W10.cell? ⟨gt, 0, none⟩ = some (.slice At0 S.length ct0) := (blk_cell Bt.out 0).trans rfl
 have mBt_1 : W10.cell? ⟨gt, 1, none⟩ = some (.slice At1 F.length ct1) := (blk_cell Bt.out 1).trans rfl
 go_upto_region 13 with (go_at_call 39; have q00 := Kd.R_reads' Tt.out.1; have q01 := Kd.R_reads' Tt.out.2; refine (impl_CountUsed.calls k _ _ S _ _ F (-1) n true _ q00.2.2 q00.2.1 q01.2.2 q01.2.1 Hca.out).mono ?_; clear q00 q01; rintro e W11 ⟨rfl, hb⟩; replace L := Aside0.mk (below_step L.out hb); replace Tt := Aside0.mk (Tt.out.below hb); replace Bt := Aside0.mk (blk_below Bt.out hb); replace Bh := Aside0.mk (blk_below Bh.out hb); replace Tx := Aside0.mk (Tx.out.below hb); replace Bx := Aside0.mk (blk_below Bx.out hb); replace Tz := Aside0.mk (Tz.out.below hb); replace Bz := Aside0.mk (blk_below Bz.out hb); replace Ba := Aside0.mk (blk_below Ba.out hb); replace Bb := Aside0.mk (blk_below Bb.out hb); clear hb; clear mBt_0 mBt_1; have mBx_0 : W11.cell? ⟨gx, 0, none⟩ = some (.slice Ax0 X1.length cx0) := (blk_cell Bx.out 0).trans rfl; have mBx_1 : W11.cell? ⟨gx, 1, none⟩ = some (.slice Ax1 X2.length cx1) := (blk_cell Bx.out 1).trans rfl)
 go_upto_region 14 with (go_at_call 39; have q00 := Kd.R_reads' Tx.out.1; have q01 := Kd.R_reads' Tx.out.2; refine (impl_CountUsed.calls k _ _ X1 _ _ X2 (-1) m true _ q00.2.2 q00.2.1 q01.2.2 q01.2.1 Hcb.out).mono ?_; clear q00 q01; rintro e W12 ⟨rfl, hb⟩; replace L := Aside0.mk (below_step L.out hb); replace Tt := Aside0.mk (Tt.out.below hb); replace Bt := Aside0.mk (blk_below Bt.out hb); replace Bh := Aside0.mk (blk_below Bh.out hb); replace Tx := Aside0.mk (Tx.out.below hb); replace Bx := Aside0.mk (blk_below Bx.out hb); replace Tz := Aside0.mk (Tz.out.below hb); replace Bz := Aside0.mk (blk_below Bz.out hb); replace Ba := Aside0.mk (blk_below Ba.out hb); replace Bb := Aside0.mk (blk_below Bb.out hb); clear hb; clear mBx_0 mBx_1; have mBa_0 : W12.cell? ⟨ga, 0, none⟩ = some (.bool h.f0) := (blk_cell Ba.out 0).trans rfl; have mBa_1 : W12.cell? ⟨ga, 1, none⟩ = some (.int .i64 h.f1) := (blk_cell Ba.out 1).trans rfl; have mBa_2 : W12.cell? ⟨ga, 2, none⟩ = some (.int .i64 h.f2) := (blk_cell Ba.out 2).trans rfl; have mBa_3 : W12.cell? ⟨ga, 3, none⟩ = some (.bool h.f3) := (blk_cell Ba.out 3).trans rfl; have mBa_4 : W12.cell? ⟨ga, 4, none⟩ = some (.int .i64 h.f4) := (blk_cell Ba.out 4).trans rfl; have mBa_5 : W12.cell? ⟨ga, 5, none⟩ = some (.int .i64 h.f5) := (blk_cell Ba.out 5).trans rfl; have mBh_0 : W12.cell? ⟨gt + 1, 0, none⟩ = some (.bool h.f0) := (blk_cell Bh.out 0).trans rfl; have mBh_1 : W12.cell? ⟨gt + 1, 1, none⟩ = some (.int .i64 h.f1) := (blk_cell Bh.out 1).trans rfl; have mBh_2 : W12.cell? ⟨gt + 1, 2, none⟩ = some (.int .i64 h.f2) := (blk_cell Bh.out 2).trans rfl; have mBh_3 : W12.cell? ⟨gt + 1, 3, none⟩ = some (.bool h.f3) := (blk_cell Bh.out 3).trans rfl; have mBh_4 : W12.cell? ⟨gt + 1, 4, none⟩ = some (.int .i64 h.f4) := (blk_cell Bh.out 4).trans rfl; have mBh_5 : W12.cell? ⟨gt + 1, 5, none⟩ = some (.int .i64 h.f5) := (blk_cell Bh.out 5).trans rfl; have mBx_0 : W12.cell? ⟨gx, 0, none⟩ = some (.slice Ax0 X1.length cx0) := (blk_cell Bx.out 0).trans rfl; have mBx_1 : W12.cell? ⟨gx, 1, none⟩ = some (.slice Ax1 X2.length cx1) := (blk_cell Bx.out 1).trans rfl)
 go_upto_region 16 with (go_at_call 40; have q00 := Kd.R_reads' Tx.out.1; have q01 := Kd.R_reads' Tx.out.2; refine (impl_GoodTable.calls k _ _ X1 _ _ X2 true _ q00.2.2 q00.2.1 q01.2.2 q01.2.1 Hga.out).mono ?_; clear q00 q01; rintro e W13 ⟨rfl, hb⟩; replace L := Aside0.mk (below_step L.out hb); replace Tt := Aside0.mk (Tt.out.below hb); replace Bt := Aside0.mk (blk_below Bt.out hb); replace Bh := Aside0.mk (blk_below Bh.out hb); replace Tx := Aside0.mk (Tx.out.below hb); replace Bx := Aside0.mk (blk_below Bx.out hb); replace Tz := Aside0.mk (Tz.out.below hb); replace Bz := Aside0.mk (blk_below Bz.out hb); replace Ba := Aside0.mk (blk_below Ba.out hb); replace Bb := Aside0.mk (blk_below Bb.out hb); clear hb; clear mBa_0 mBa_1 mBa_2 mBa_3 mBa_4 mBa_5 mBh_0 mBh_1 mBh_2 mBh_3 mBh_4 mBh_5 mBx_0 mBx_1; have mBh_0 : W13.cell? ⟨gt + 1, 0, none⟩ = some (.bool h.f0) := (blk_cell Bh.out 0).trans rfl; have mBh_1 : W13.cell? ⟨gt + 1, 1, none⟩ = some (.int .i64 h.f1) := (blk_cell Bh.out 1).trans rfl; have mBh_2 : W13.cell? ⟨gt + 1, 2, none⟩ = some (.int .i64 h.f2) := (blk_cell Bh.out 2).trans rfl; have mBh_3 : W13.cell? ⟨gt + 1, 3, none⟩ = some (.bool h.f3) := (blk_cell Bh.out 3).trans rfl; have mBh_4 : W13.cell? ⟨gt + 1, 4, none⟩ = some (.int .i64 h.f4) := (blk_cell Bh.out 4).trans rfl; have mBh_5 : W13.cell? ⟨gt + 1, 5, none⟩ = some (.int .i64 h.f5) := (blk_cell Bh.out 5).trans rfl; have mBx_0 : W13.cell? ⟨gx, 0, none⟩ = some (.slice Ax0 X1.length cx0) := (blk_cell Bx.out 0).trans rfl; have mBx_1 : W13.cell? ⟨gx, 1, none⟩ = some (.slice Ax1 X2.length cx1) := (blk_cell Bx.out 1).trans rfl)
 go_upto_region 17 with (go_at_call 41; have q00 := Kd.R_reads' Tx.out.1; have q01 := Kd.R_reads' Tx.out.2; refine (impl_DropHandle.calls k _ _ X1 _ _ X2 at_ h.f1 Y1 Y2 h.f0 h.f1 h.f2 h.f3 h.f4 h.f5 0 _ q00.2.2 q00.2.1 q01.2.2 q01.2.1 Hdr.out).mono ?_; clear q00 q01; rintro e W14 ⟨y0, y1, rfl, x0, x1, hb⟩; obtain ⟨Ay0, cy0, rfl⟩ := Kd.R_slice x0; obtain ⟨Ay1, cy1, rfl⟩ := Kd.R_slice x1; have Ty := Aside0.mk (Tb.new (below_size L.out) x0 x1); replace L := Aside0.mk (below_step L.out hb); replace Tt := Aside0.mk (Tt.out.below hb); replace Bt := Aside0.mk (blk_below Bt.out hb); replace Bh := Aside0.mk (blk_below Bh.out hb); replace Tx := Aside0.mk (Tx.out.below hb); replace Bx := Aside0.mk (blk_below Bx.out hb); replace Tz := Aside0.mk (Tz.out.below hb); replace Bz := Aside0.mk (blk_below Bz.out hb); replace Ba := Aside0.mk (blk_below Ba.out hb); replace Bb := Aside0.mk (blk_below Bb.out hb); clear hb x0 x1; clear mBh_0 mBh_1 mBh_2 mBh_3 mBh_4 mBh_5 mBx_0 mBx_1)
 have hb : Below W14.heap.size W14 ((W14.alloc (.cells #[.slice Ay0 Y1.length cy0, .slice Ay1 Y2.length cy1] 51 (0, 0))).alloc (.cells #[.bool h.f0, .int .i64 h.f1, .int .i64 h.f2, .bool h.f3, .int .i64 h.f4, .int .i64 h.f5] 46 (0, 0))) := (below_alloc (below_alloc (Below.refl _ _) (.cells #[.slice Ay0 Y1.length cy0, .slice Ay1 Y2.length cy1] 51 (0, 0))) (.cells #[.bool h.f0, .int .i64 h.f1, .int .i64 h.f2, .bool h.f3, .int .i64 h.f4, .int .i64 h.f5] 46 (0, 0)))
 have b0 := blk_alloc (blk_new W14 (.cells #[.slice Ay0 Y1.length cy0, .slice Ay1 Y2.length cy1] 51 (0, 0))) (.cells #[.bool h.f0, .int .i64 h.f1, .int .i64 h.f2, .bool h.f3, .int .i64 h.f4, .int .i64 h.f5] 46 (0, 0))
 have b1 := z_new2 W14 (.cells #[.slice Ay0 Y1.length cy0, .slice Ay1 Y2.length cy1] 51 (0, 0)) (.cells #[.bool h.f0, .int .i64 h.f1, .int .i64 h.f2, .bool h.f3, .int .i64 h.f4, .int .i64 h.f5] 46 (0, 0))
 replace L := Aside0.mk (below_step L.out hb)
 replace Tt := Aside0.mk (Tt.out.below hb)
 replace Bt := Aside0.mk (blk_below Bt.out hb)
 replace Bh := Aside0.mk (blk_below Bh.out hb)
 replace Tx := Aside0.mk (Tx.out.below hb)
 replace Bx := Aside0.mk (blk_below Bx.out hb)
 replace Tz := Aside0.mk (Tz.out.below hb)
 replace Bz := Aside0.mk (blk_below Bz.out hb)
 replace Ba := Aside0.mk (blk_below Ba.out hb)
 replace Bb := Aside0.mk (blk_below Bb.out hb)
 replace Ty := Aside0.mk (Ty.out.below hb)
 clear hb
 obtain ⟨gy, hg⟩ : ∃ gy, gy = W14.heap.size := ⟨_, rfl⟩
 rw [← hg] at b0 b1 ⊢
 clear hg
 generalize ((W14.alloc (.cells #[.slice Ay0 Y1.length cy0, .slice Ay1 Y2.length cy1] 51 (0, 0))).alloc (.cells #[.bool h.f0, .int .i64 h.f1, .int .i64 h.f2, .bool h.f3, .int .i64 h.f4, .int .i64 h.f5] 46 (0, 0))) = W15 at b0 b1 L Tt Bt Bh Tx Bx Tz Bz Ba Bb Ty ⊢
 have By := Aside0.mk b0
 clear b0
 have Bc := Aside0.mk b1
 clear b1
 have mBy_0 : W15.cell? ⟨gy, 0, none⟩ = some (.slice Ay0 Y1.length cy0) := (blk_cell By.out 0).trans rfl
 have mBy_1 : W15.cell? ⟨gy, 1, none⟩ = some (.slice Ay1 Y2.length cy1) := (blk_cell By.out 1).trans rfl
 have mBh_0 : W15.cell? ⟨gt + 1, 0, none⟩ = some (.bool h.f0) := (blk_cell Bh.out 0).trans rfl
 have mBh_1 : W15.cell? ⟨gt + 1, 1, none⟩ = some (.int .i64 h.f1) := (blk_cell Bh.out 1).trans rfl
 have mBh_2 : W15.cell? ⟨gt + 1, 2, none⟩ = some (.int .i64 h.f2) := (blk_cell Bh.out 2).trans rfl
 have mBh_3 : W15.cell? ⟨gt + 1, 3, none⟩ = some (.bool h.f3) := (blk_cell Bh.out 3).trans rfl
 have mBh_4 : W15.cell? ⟨gt + 1, 4, none⟩ = some (.int .i64 h.f4) := (blk_cell Bh.out 4).trans rfl
 have mBh_5 : W15.cell? ⟨gt + 1, 5, none⟩ = some (.int .i64 h.f5) := (blk_cell Bh.out 5).trans rfl
 go_upto_region 18 with (go_at_call 27; have q00 := Kd.R_reads' Ty.out.1; have q01 := Kd.R_reads' Ty.out.2; refine (impl_FindHandle.calls k _ _ Y1 _ _ Y2 at_ h.f1 false 0 0 false 0 0 2 _ q00.2.2 q00.2.1 q01.2.2 q01.2.1 Hfc.out).mono ?_; clear q00 q01; rintro e W16 ⟨rfl, hb⟩; replace L := Aside0.mk (below_step L.out hb); replace Tt := Aside0.mk (Tt.out.below hb); replace Bt := Aside0.mk (blk_below Bt.out hb); replace Bh := Aside0.mk (blk_below Bh.out hb); replace Tx := Aside0.mk (Tx.out.below hb); replace Bx := Aside0.mk (blk_below Bx.out hb); replace Tz := Aside0.mk (Tz.out.below hb); replace Bz := Aside0.mk (blk_below Bz.out hb); replace Ba := Aside0.mk (blk_below Ba.out hb); replace Bb := Aside0.mk (blk_below Bb.out hb); replace Ty := Aside0.mk (Ty.out.below hb); replace By := Aside0.mk (blk_below By.out hb); replace Bc := Aside0.mk (blk_below Bc.out hb); clear hb; clear mBy_0 mBy_1 mBh_0 mBh_1 mBh_2 mBh_3 mBh_4 mBh_5)
 have hb : Below W16.heap.size W16 (W16.alloc (.cells #[.bool false, .int .i64 0, .int .i64 0, .bool false, .int .i64 0, .int .i64 0] 46 (0, 0))) := (below_alloc (Below.refl _ _) (.cells #[.bool false, .int .i64 0, .int .i64 0, .bool false, .int .i64 0, .int .i64 0] 46 (0, 0)))
 have b0 := blk_new W16 (.cells #[.bool false, .int .i64 0, .int .i64 0, .bool false, .int .i64 0, .int .i64 0] 46 (0, 0))
 replace L := Aside0.mk (below_step L.out hb)
 replace Tt := Aside0.mk (Tt.out.below hb)
 replace Bt := Aside0.mk (blk_below Bt.out hb)
 replace Bh := Aside0.mk (blk_below Bh.out hb)
 replace Tx := Aside0.mk (Tx.out.below hb)
 replace Bx := Aside0.mk (blk_below Bx.out hb)
 replace Tz := Aside0.mk (Tz.out.below hb)
 replace Bz := Aside0.mk (blk_below Bz.out hb)
 replace Ba := Aside0.mk (blk_below Ba.out hb)
 replace Bb := Aside0.mk (blk_below Bb.out hb)
 replace Ty := Aside0.mk (Ty.out.below hb)
 replace By := Aside0.mk (blk_below By.out hb)
 replace Bc := Aside0.mk (blk_below Bc.out hb)
 clear hb
 obtain ⟨gd, hg⟩ : ∃ gd, gd = W16.heap.size := ⟨_, rfl⟩
 rw [← hg] at b0 ⊢
 clear hg
 generalize (W16.alloc (.cells #[.bool false, .int .i64 0, .int .i64 0, .bool false, .int .i64 0, .int .i64 0] 46 (0, 0))) = W17 at b0 L Tt Bt Bh Tx Bx Tz Bz Ba Bb Ty By Bc ⊢
 have Bd := Aside0.mk b0
 clear b0
 have mBy_0 : W17.cell? ⟨gy, 0, none⟩ = some (.slice Ay0 Y1.length cy0) := (blk_cell By.out 0).trans rfl
 have mBy_1 : W17.cell? ⟨gy, 1, none⟩ = some (.slice Ay1 Y2.length cy1) := (blk_cell By.out 1).trans rfl
 have mBh_0 : W17.cell? ⟨gt + 1, 0, none⟩ = some (.bool h.f0) := (blk_cell Bh.out 0).trans rfl
 have mBh_1 : W17.cell? ⟨gt + 1, 1, none⟩ = some (.int .i64 h.f1) := (blk_cell Bh.out 1).trans rfl
 have mBh_2 : W17.cell? ⟨gt + 1, 2, none⟩ = some (.int .i64 h.f2) := (blk_cell Bh.out 2).trans rfl
 have mBh_3 : W17.cell? ⟨gt + 1, 3, none⟩ = some (.bool h.f3) := (blk_cell Bh.out 3).trans rfl
 have mBh_4 : W17.cell? ⟨gt + 1, 4, none⟩ = some (.int .i64 h.f4) := (blk_cell Bh.out 4).trans rfl
 have mBh_5 : W17.cell? ⟨gt + 1, 5, none⟩ = some (.int .i64 h.f5) := (blk_cell Bh.out 5).trans rfl
 go_upto_region 19 with (go_at_call 36; have q00 := Kd.R_reads' Ty.out.1; have q01 := Kd.R_reads' Ty.out.2; refine (impl_NewHandle.calls k _ _ Y1 _ _ Y2 h.f0 h.f1 h.f2 h.f3 h.f4 h.f5 Z1 Z2 at_ 0 _ q00.2.2 q00.2.1 q01.2.2 q01.2.1 Hnb.out).mono ?_; clear q00 q01; rintro e W18 ⟨y0, y1, rfl, x0, x1, hb⟩; obtain ⟨Ae0, ce0, rfl⟩ := Kd.R_slice x0; obtain ⟨Ae1, ce1, rfl⟩ := Kd.R_slice x1; have Te := Aside0.mk (Tb.new (below_size L.out) x0 x1); replace L := Aside0.mk (below_step L.out hb); replace Tt := Aside0.mk (Tt.out.below hb); replace Bt := Aside0.mk (blk_below Bt.out hb); replace Bh := Aside0.mk (blk_below Bh.out hb); replace Tx := Aside0.mk (Tx.out.below hb); replace Bx := Aside0.mk (blk_below Bx.out hb); replace Tz := Aside0.mk (Tz.out.below hb); replace Bz := Aside0.mk (blk_below Bz.out hb); replace Ba := Aside0.mk (blk_below Ba.out hb); replace Bb := Aside0.mk (blk_below Bb.out hb); replace Ty := Aside0.mk (Ty.out.below hb); replace By := Aside0.mk (blk_below By.out hb); replace Bc := Aside0.mk (blk_below Bc.out hb); replace Bd := Aside0.mk (blk_below Bd.out hb); clear hb x0 x1; clear mBy_0 mBy_1 mBh_0 mBh_1 mBh_2 mBh_3 mBh_4 mBh_5)
 have hb : Below W18.heap.size W18 (W18.alloc (.cells #[.slice Ae0 Z1.length ce0, .slice Ae1 Z2.length ce1] 51 (0, 0))) := (below_alloc (Below.refl _ _) (.cells #[.slice Ae0 Z1.length ce0, .slice Ae1 Z2.length ce1] 51 (0, 0)))
 have b0 := blk_new W18 (.cells #[.slice Ae0 Z1.length ce0, .slice Ae1 Z2.length ce1] 51 (0, 0))
 replace L := Aside0.mk (below_step L.out hb)
 replace Tt := Aside0.mk (Tt.out.below hb)
 replace Bt := Aside0.mk (blk_below Bt.out hb)
 replace Bh := Aside0.mk (blk_below Bh.out hb)
 replace Tx := Aside0.mk (Tx.out.below hb)
 replace Bx := Aside0.mk (blk_below Bx.out hb)
 replace Tz := Aside0.mk (Tz.out.below hb)
 replace Bz := Aside0.mk (blk_below Bz.out hb)
 replace Ba := Aside0.mk (blk_below Ba.out hb)
 replace Bb := Aside0.mk (blk_below Bb.out hb)
 replace Ty := Aside0.mk (Ty.out.below hb)
 replace By := Aside0.mk (blk_below By.out hb)
 replace Bc := Aside0.mk (blk_below Bc.out hb)
 replace Bd := Aside0.mk (blk_below Bd.out hb)
 replace Te := Aside0.mk (Te.out.below hb)
 clear hb
 obtain ⟨ge, hg⟩ : ∃ ge, ge = W18.heap.size := ⟨_, rfl⟩
 rw [← hg] at b0 ⊢
 clear hg
 generalize (W18.alloc (.cells #[.slice Ae0 Z1.length ce0, .slice Ae1 Z2.length ce1] 51 (0, 0))) = W19 at b0 L Tt Bt Bh Tx Bx Tz Bz Ba Bb Ty By Bc Bd Te ⊢
 have Be := Aside0.mk b0
 clear b0
 have mBc_0 : W19.cell? ⟨gy + 1, 0, none⟩ = some (.bool h.f0) := (blk_cell Bc.out 0).trans rfl
 have mBc_1 : W19.cell? ⟨gy + 1, 1, none⟩ = some (.int .i64 h.f1) := (blk_cell Bc.out 1).trans rfl
 have mBc_2 : W19.cell? ⟨gy + 1, 2, none⟩ = some (.int .i64 h.f2) := (blk_cell Bc.out 2).trans rfl
 have mBc_3 : W19.cell? ⟨gy + 1, 3, none⟩ = some (.bool h.f3) := (blk_cell Bc.out 3).trans rfl
 have mBc_4 : W19.cell? ⟨gy + 1, 4, none⟩ = some (.int .i64 h.f4) := (blk_cell Bc.out 4).trans rfl
 have mBc_5 : W19.cell? ⟨gy + 1, 5, none⟩ = some (.int .i64 h.f5) := (blk_cell Bc.out 5).trans rfl
 have mBh_0 : W19.cell? ⟨gt + 1, 0, none⟩ = some (.bool h.f0) := (blk_cell Bh.out 0).trans rfl
 have mBh_1 : W19.cell? ⟨gt + 1, 1, none⟩ = some (.int .i64 h.f1) := (blk_cell Bh.out 1).trans rfl
 have mBh_2 : W19.cell? ⟨gt + 1, 2, none⟩ = some (.int .i64 h.f2) := (blk_cell Bh.out 2).trans rfl
 have mBh_3 : W19.cell? ⟨gt + 1, 3, none⟩ = some (.bool h.f3) := (blk_cell Bh.out 3).trans rfl
 have mBh_4 : W19.cell? ⟨gt + 1, 4, none⟩ = some (.int .i64 h.f4) := (blk_cell Bh.out 4).trans rfl
 have mBh_5 : W19.cell? ⟨gt + 1, 5, none⟩ = some (.int .i64 h.f5) := (blk_cell Bh.out 5).trans rfl
 have mBy_0 : W19.cell? ⟨gy, 0, none⟩ = some (.slice Ay0 Y1.length cy0) := (blk_cell By.out 0).trans rfl
 have mBy_1 : W19.cell? ⟨gy, 1, none⟩ = some (.slice Ay1 Y2.length cy1) := (blk_cell By.out 1).trans rfl
 go_wp2_with (go_at_call 40; have q00 := Kd.R_reads' Ty.out.1; have q01 := Kd.R_reads' Ty.out.2; refine (impl_GoodTable.calls k _ _ Y1 _ _ Y2 true _ q00.2.2 q00.2.1 q01.2.2 q01.2.1 Hgb.out).mono ?_; clear q00 q01; rintro e W20 ⟨rfl, hb⟩; replace L := Aside0.mk (below_step L.out hb); replace Tt := Aside0.mk (Tt.out.below hb); replace Bt := Aside0.mk (blk_below Bt.out hb); replace Bh := Aside0.mk (blk_below Bh.out hb); replace Tx := Aside0.mk (Tx.out.below hb); replace Bx := Aside0.mk (blk_below Bx.out hb); replace Tz := Aside0.mk (Tz.out.below hb); replace Bz := Aside0.mk (blk_below Bz.out hb); replace Ba := Aside0.mk (blk_below Ba.out hb); replace Bb := Aside0.mk (blk_below Bb.out hb); replace Ty := Aside0.mk (Ty.out.below hb); replace By := Aside0.mk (blk_below By.out hb); replace Bc := Aside0.mk (blk_below Bc.out hb); replace Bd := Aside0.mk (blk_below Bd.out hb); replace Te := Aside0.mk (Te.out.below hb); replace Be := Aside0.mk (blk_below Be.out hb); clear hb; clear mBc_0 mBc_1 mBc_2 mBc_3 mBc_4 mBc_5 mBh_0 mBh_1 mBh_2 mBh_3 mBh_4 mBh_5 mBy_0 mBy_1)
 go_ret
 exact ⟨rfl, L.out⟩
end Go.Proofs.Ytoomeeoijbkmnaa.PH
