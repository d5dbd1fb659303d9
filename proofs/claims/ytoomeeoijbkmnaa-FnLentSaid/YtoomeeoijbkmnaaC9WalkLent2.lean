import Derived.Test.YtoomeeoijbkmnaaC9Lwn
import Derived.Test.YtoomeeoijbkmnaaC9PHx11
import Derived.Test.YtoomeeoijbkmnaaC9PHx19
import Derived.Test.YtoomeeoijbkmnaaC9PHx20
import Derived.Lib.Hide
import Derived.Deep.QuietTactic
import Derived.BigQuiet
import Derived.WalkSpells
import Derived.WalkLawsBesides
import Derived.StillTailTactics
namespace Go.Proofs.Ytoomeeoijbkmnaa.PH
open Go.RowKit Go.Proofs.YtoomeeoijbkmnaaW.PrintWords Go.Proofs.YtoomeeoijbkmnaaW.PrintLast Go.Proofs.YtoomeeoijbkmnaaW.PrintMore
set_option linter.unusedVariables false
set_option linter.unusedSimpArgs false
attribute [local go_sem high] eqA46
set_option maxHeartbeats 8000000 in
set_option maxRecDepth 100000 in
theorem walk0_FnLent (w : World) (A0 : Option Addr) (c0 : Nat) (l0 : List Int) (hr0 : Kd.C (Kd.int .u8) w A0 l0.length l0) (hc0 : l0.length ≤ c0) (k : Nat) (hl : decide ((l0.length : Int) > 1048576) = true) :
  Calls Try.prog 10 #[.slice A0 l0.length c0] w fun e w' => e = .returned (.bool true) ∧ Below w.heap.size w w' := by
 have HR := Aside0.mk hr0
 have HC := Aside0.mk hc0
 clear hr0 hc0
 have hu46 := Try.underlying46
 have L := Aside0.mk (Below.refl w.heap.size w)
 go_enter Try.func10, Try.ntmps10
 go_wp2
 go_ret
 exact ⟨rfl, L.out⟩
set_option maxHeartbeats 8000000 in
set_option maxRecDepth 100000 in
theorem walk1_FnLent (w : World) (A0 : Option Addr) (c0 : Nat) (l0 : List Int) (hr0 : Kd.C (Kd.int .u8) w A0 l0.length l0) (hc0 : l0.length ≤ c0) (k : Nat) (S X1 : List S46) (F X2 : List Int) (at_ r c : Int) (hl : decide ((l0.length : Int) > 1048576) = false) (hd : spec_DrawLendHandle.f k l0 = some (S, F, at_, r)) (hi : impl_LendHandle.f k S F at_ r = some (X1, X2, false, 0, 0, false, 0, 0, c)) (hs : spec_LendHandle.f k S F at_ r = some (X1, X2, false, 0, 0, false, 0, 0, c)) (hx : (c != 0) = true) :
  Calls Try.prog 10 #[.slice A0 l0.length c0] w fun e w' => e = .returned (.bool true) ∧ Below w.heap.size w w' := by
 have HR := Aside0.mk hr0
 have HC := Aside0.mk hc0
 clear hr0 hc0
 have Hd := Aside0.mk hd
 clear hd
 have Hi := Aside0.mk hi
 clear hi
 have Hs := Aside0.mk hs
 clear hs
 have hu46 := Try.underlying46
 have L := Aside0.mk (Below.refl w.heap.size w)
 go_enter Try.func10, Try.ntmps10
 go_upto_region 4 with (go_at_call 42; refine (spec_DrawLendHandle.calls k A0 c0 l0 S F at_ r w HR.out HC.out Hd.out).mono ?_; rintro e W1 ⟨y0, y1, rfl, x0, x1, hb⟩; obtain ⟨At0, ct0, rfl⟩ := Kd.R_slice x0; obtain ⟨At1, ct1, rfl⟩ := Kd.R_slice x1; have Tt := Aside0.mk (Tb.new (below_size L.out) x0 x1); replace L := Aside0.mk (below_step L.out hb); clear hb x0 x1)
 have hb : Below W1.heap.size W1 (W1.alloc (.cells #[.slice At0 S.length ct0, .slice At1 F.length ct1] 51 (0, 0))) := (below_alloc (Below.refl _ _) (.cells #[.slice At0 S.length ct0, .slice At1 F.length ct1] 51 (0, 0)))
 have b0 := blk_new W1 (.cells #[.slice At0 S.length ct0, .slice At1 F.length ct1] 51 (0, 0))
 replace L := Aside0.mk (below_step L.out hb)
 replace Tt := Aside0.mk (Tt.out.below hb)
 clear hb
 obtain ⟨gt, hg⟩ : ∃ gt, gt = W1.heap.size := ⟨_, rfl⟩
 rw [← hg] at b0 ⊢
 clear hg
 generalize (W1.alloc (.cells #[.slice At0 S.length ct0, .slice At1 F.length ct1] 51 (0, 0))) = W2 at b0 L Tt ⊢
 have Bt := Aside0.mk b0
 clear b0
 have mBt_0 : W2.cell? ⟨gt, 0, none⟩ = some (.slice At0 S.length ct0) := (blk_cell Bt.out 0).trans rfl
 have mBt_1 : W2.cell? ⟨gt, 1, none⟩ = some (.slice At1 F.length ct1) := (blk_cell Bt.out 1).trans rfl
 go_upto_region 5 with (go_at_call 43; have q00 := Kd.R_reads' Tt.out.1; have q01 := Kd.R_reads' Tt.out.2; refine (impl_LendHandle.calls k _ _ S _ _ F at_ r X1 X2 false 0 0 false 0 0 c _ q00.2.2 q00.2.1 q01.2.2 q01.2.1 Hi.out).mono ?_; clear q00 q01; rintro e W3 ⟨y0, y1, rfl, x0, x1, hb⟩; obtain ⟨Ax0, cx0, rfl⟩ := Kd.R_slice x0; obtain ⟨Ax1, cx1, rfl⟩ := Kd.R_slice x1; have Tx := Aside0.mk (Tb.new (below_size L.out) x0 x1); replace L := Aside0.mk (below_step L.out hb); replace Tt := Aside0.mk (Tt.out.below hb); replace Bt := Aside0.mk (blk_below Bt.out hb); clear hb x0 x1; clear mBt_0 mBt_1)
 have hb : Below W3.heap.size W3 ((W3.alloc (.cells #[.slice Ax0 X1.length cx0, .slice Ax1 X2.length cx1] 51 (0, 0))).alloc (.cells #[.bool false, .int .i64 0, .int .i64 0, .bool false, .int .i64 0, .int .i64 0] 46 (0, 0))) := (below_alloc (below_alloc (Below.refl _ _) (.cells #[.slice Ax0 X1.length cx0, .slice Ax1 X2.length cx1] 51 (0, 0))) (.cells #[.bool false, .int .i64 0, .int .i64 0, .bool false, .int .i64 0, .int .i64 0] 46 (0, 0)))
 have b0 := blk_alloc (blk_new W3 (.cells #[.slice Ax0 X1.length cx0, .slice Ax1 X2.length cx1] 51 (0, 0))) (.cells #[.bool false, .int .i64 0, .int .i64 0, .bool false, .int .i64 0, .int .i64 0] 46 (0, 0))
 have b1 := z_new2 W3 (.cells #[.slice Ax0 X1.length cx0, .slice Ax1 X2.length cx1] 51 (0, 0)) (.cells #[.bool false, .int .i64 0, .int .i64 0, .bool false, .int .i64 0, .int .i64 0] 46 (0, 0))
 replace L := Aside0.mk (below_step L.out hb)
 replace Tt := Aside0.mk (Tt.out.below hb)
 replace Bt := Aside0.mk (blk_below Bt.out hb)
 replace Tx := Aside0.mk (Tx.out.below hb)
 clear hb
 obtain ⟨gx, hg⟩ : ∃ gx, gx = W3.heap.size := ⟨_, rfl⟩
 rw [← hg] at b0 b1 ⊢
 clear hg
 generalize ((W3.alloc (.cells #[.slice Ax0 X1.length cx0, .slice Ax1 X2.length cx1] 51 (0, 0))).alloc (.cells #[.bool false, .int .i64 0, .int .i64 0, .bool false, .int .i64 0, .int .i64 0] 46 (0, 0))) = W4 at b0 b1 L Tt Bt Tx ⊢
 have Bx := Aside0.mk b0
 clear b0
 have Bh := Aside0.mk b1
 clear b1
 have mBt_0 : W4.cell? ⟨gt, 0, none⟩ = some (.slice At0 S.length ct0) := (blk_cell Bt.out 0).trans rfl
 have mBt_1 : W4.cell? ⟨gt, 1, none⟩ = some (.slice At1 F.length ct1) := (blk_cell Bt.out 1).trans rfl
 go_upto_region 6 with (go_at_call 44; have q00 := Kd.R_reads' Tt.out.1; have q01 := Kd.R_reads' Tt.out.2; refine (spec_LendHandle.calls k _ _ S _ _ F at_ r X1 X2 false 0 0 false 0 0 c _ q00.2.2 q00.2.1 q01.2.2 q01.2.1 Hs.out).mono ?_; clear q00 q01; rintro e W5 ⟨y0, y1, rfl, x0, x1, hb⟩; obtain ⟨Az0, cz0, rfl⟩ := Kd.R_slice x0; obtain ⟨Az1, cz1, rfl⟩ := Kd.R_slice x1; have Tz := Aside0.mk (Tb.new (below_size L.out) x0 x1); replace L := Aside0.mk (below_step L.out hb); replace Tt := Aside0.mk (Tt.out.below hb); replace Bt := Aside0.mk (blk_below Bt.out hb); replace Tx := Aside0.mk (Tx.out.below hb); replace Bx := Aside0.mk (blk_below Bx.out hb); replace Bh := Aside0.mk (blk_below Bh.out hb); clear hb x0 x1; clear mBt_0 mBt_1)
 have hb : Below W5.heap.size W5 ((W5.alloc (.cells #[.slice Az0 X1.length cz0, .slice Az1 X2.length cz1] 51 (0, 0))).alloc (.cells #[.bool false, .int .i64 0, .int .i64 0, .bool false, .int .i64 0, .int .i64 0] 46 (0, 0))) := (below_alloc (below_alloc (Below.refl _ _) (.cells #[.slice Az0 X1.length cz0, .slice Az1 X2.length cz1] 51 (0, 0))) (.cells #[.bool false, .int .i64 0, .int .i64 0, .bool false, .int .i64 0, .int .i64 0] 46 (0, 0)))
 have b0 := blk_alloc (blk_new W5 (.cells #[.slice Az0 X1.length cz0, .slice Az1 X2.length cz1] 51 (0, 0))) (.cells #[.bool false, .int .i64 0, .int .i64 0, .bool false, .int .i64 0, .int .i64 0] 46 (0, 0))
 have b1 := z_new2 W5 (.cells #[.slice Az0 X1.length cz0, .slice Az1 X2.length cz1] 51 (0, 0)) (.cells #[.bool false, .int .i64 0, .int .i64 0, .bool false, .int .i64 0, .int .i64 0] 46 (0, 0))
 replace L := Aside0.mk (below_step L.out hb)
 replace Tt := Aside0.mk (Tt.out.below hb)
 replace Bt := Aside0.mk (blk_below Bt.out hb)
 replace Tx := Aside0.mk (Tx.out.below hb)
 replace Bx := Aside0.mk (blk_below Bx.out hb)
 replace Bh := Aside0.mk (blk_below Bh.out hb)
 replace Tz := Aside0.mk (Tz.out.below hb)
 clear hb
 obtain ⟨gz, hg⟩ : ∃ gz, gz = W5.heap.size := ⟨_, rfl⟩
 rw [← hg] at b0 b1 ⊢
 clear hg
 generalize ((W5.alloc (.cells #[.slice Az0 X1.length cz0, .slice Az1 X2.length cz1] 51 (0, 0))).alloc (.cells #[.bool false, .int .i64 0, .int .i64 0, .bool false, .int .i64 0, .int .i64 0] 46 (0, 0))) = W6 at b0 b1 L Tt Bt Tx Bx Bh Tz ⊢
 have Bz := Aside0.mk b0
 clear b0
 have Bg := Aside0.mk b1
 clear b1
 have mBh_0 : W6.cell? ⟨gx + 1, 0, none⟩ = some (.bool false) := (blk_cell Bh.out 0).trans rfl
 have mBh_1 : W6.cell? ⟨gx + 1, 1, none⟩ = some (.int .i64 0) := (blk_cell Bh.out 1).trans rfl
 have mBh_2 : W6.cell? ⟨gx + 1, 2, none⟩ = some (.int .i64 0) := (blk_cell Bh.out 2).trans rfl
 have mBh_3 : W6.cell? ⟨gx + 1, 3, none⟩ = some (.bool false) := (blk_cell Bh.out 3).trans rfl
 have mBh_4 : W6.cell? ⟨gx + 1, 4, none⟩ = some (.int .i64 0) := (blk_cell Bh.out 4).trans rfl
 have mBh_5 : W6.cell? ⟨gx + 1, 5, none⟩ = some (.int .i64 0) := (blk_cell Bh.out 5).trans rfl
 have mBg_0 : W6.cell? ⟨gz + 1, 0, none⟩ = some (.bool false) := (blk_cell Bg.out 0).trans rfl
 have mBg_1 : W6.cell? ⟨gz + 1, 1, none⟩ = some (.int .i64 0) := (blk_cell Bg.out 1).trans rfl
 have mBg_2 : W6.cell? ⟨gz + 1, 2, none⟩ = some (.int .i64 0) := (blk_cell Bg.out 2).trans rfl
 have mBg_3 : W6.cell? ⟨gz + 1, 3, none⟩ = some (.bool false) := (blk_cell Bg.out 3).trans rfl
 have mBg_4 : W6.cell? ⟨gz + 1, 4, none⟩ = some (.int .i64 0) := (blk_cell Bg.out 4).trans rfl
 have mBg_5 : W6.cell? ⟨gz + 1, 5, none⟩ = some (.int .i64 0) := (blk_cell Bg.out 5).trans rfl
 go_wp2
 go_ret
 exact ⟨rfl, L.out⟩
set_option maxHeartbeats 8000000 in
set_option maxRecDepth 100000 in
theorem walk2_FnLent (w : World) (A0 : Option Addr) (c0 : Nat) (l0 : List Int) (hr0 : Kd.C (Kd.int .u8) w A0 l0.length l0) (hc0 : l0.length ≤ c0) (k : Nat) (S X1 E1 : List S46) (F X2 E2 : List Int) (at_ r two c4 : Int) (x_0 o : Bool) (x_1 x_2 x_4 x_5 : Int) (e_0 e_3 : Bool) (e_1 e_2 e_4 e_5 : Int) (hl : decide ((l0.length : Int) > 1048576) = false) (hd : spec_DrawLendHandle.f k l0 = some (S, F, at_, r)) (hi : impl_LendHandle.f k S F at_ r = some (X1, X2, x_0, x_1, x_2, o, x_4, x_5, 0)) (hs : spec_LendHandle.f k S F at_ r = some (X1, X2, x_0, x_1, x_2, o, x_4, x_5, 0)) (ha : impl_DropHandle.f k X1 X2 at_ r = some (X1, X2, false, 0, 0, false, 0, 0, 4)) (hb : impl_MoveHandle.f k X1 X2 at_ r = some (X1, X2, false, 0, 0, false, 0, 0, two)) (ht : two = if o = true then 4 else 6) (hc : impl_ReturnHandle.f k X1 X2 at_ = some (S, F, 0)) (he : laws_sameTables.f k S F S F = some true) (hg : impl_GoodTable.f k X1 X2 = some true) (hm : impl_DropHandle.f k S F at_ r = some (E1, E2, e_0, e_1, e_2, e_3, e_4, e_5, c4)) (hq : (decide (x_4 > 0) = true ∧ c4 = 4) ∨ (decide (x_4 > 0) = false ∧ c4 = 0 ∧ (e_0 = x_0 ∧ e_1 = x_1 ∧ e_2 = x_2 ∧ e_3 = o ∧ e_4 = x_4 ∧ e_5 = x_5) ∧ impl_GoodTable.f k E1 E2 = some true)) :
  Calls Try.prog 10 #[.slice A0 l0.length c0] w fun e w' => e = .returned (.bool true) ∧ Below w.heap.size w w' := by
 have HR := Aside0.mk hr0
 have HC := Aside0.mk hc0
 clear hr0 hc0
 have Hd := Aside0.mk hd
 clear hd
 have Hi := Aside0.mk hi
 clear hi
 have Hs := Aside0.mk hs
 clear hs
 have Ha := Aside0.mk ha
 clear ha
 have Hb := Aside0.mk hb
 clear hb
 have Ht := Aside0.mk ht
 clear ht
 have Hc := Aside0.mk hc
 clear hc
 have He := Aside0.mk he
 clear he
 have Hg := Aside0.mk hg
 clear hg
 have Hm := Aside0.mk hm
 clear hm
 have Hq := Aside0.mk hq
 clear hq
 have hu46 := Try.underlying46
 have L := Aside0.mk (Below.refl w.heap.size w)
 go_enter Try.func10, Try.ntmps10
 go_upto_region 4 with (go_at_call 42; refine (spec_DrawLendHandle.calls k A0 c0 l0 S F at_ r w HR.out HC.out Hd.out).mono ?_; rintro e W1 ⟨y0, y1, rfl, x0, x1, hb⟩; obtain ⟨At0, ct0, rfl⟩ := Kd.R_slice x0; obtain ⟨At1, ct1, rfl⟩ := Kd.R_slice x1; have Tt := Aside0.mk (Tb.new (below_size L.out) x0 x1); replace L := Aside0.mk (below_step L.out hb); clear hb x0 x1)
 have hb : Below W1.heap.size W1 (W1.alloc (.cells #[.slice At0 S.length ct0, .slice At1 F.length ct1] 51 (0, 0))) := (below_alloc (Below.refl _ _) (.cells #[.slice At0 S.length ct0, .slice At1 F.length ct1] 51 (0, 0)))
 have b0 := blk_new W1 (.cells #[.slice At0 S.length ct0, .slice At1 F.length ct1] 51 (0, 0))
 replace L := Aside0.mk (below_step L.out hb)
 replace Tt := Aside0.mk (Tt.out.below hb)
 clear hb
 obtain ⟨gt, hg⟩ : ∃ gt, gt = W1.heap.size := ⟨_, rfl⟩
 rw [← hg] at b0 ⊢
 clear hg
 generalize (W1.alloc (.cells #[.slice At0 S.length ct0, .slice At1 F.length ct1] 51 (0, 0))) = W2 at b0 L Tt ⊢
 have Bt := Aside0.mk b0
 clear b0
 have mBt_0 : W2.cell? ⟨gt, 0, none⟩ = some (.slice At0 S.length ct0) := (blk_cell Bt.out 0).trans rfl
 have mBt_1 : W2.cell? ⟨gt, 1, none⟩ = some (.slice At1 F.length ct1) := (blk_cell Bt.out 1).trans rfl
 go_upto_region 5 with (go_at_call 43; have q00 := Kd.R_reads' Tt.out.1; have q01 := Kd.R_reads' Tt.out.2; refine (impl_LendHandle.calls k _ _ S _ _ F at_ r X1 X2 x_0 x_1 x_2 o x_4 x_5 0 _ q00.2.2 q00.2.1 q01.2.2 q01.2.1 Hi.out).mono ?_; clear q00 q01; rintro e W3 ⟨y0, y1, rfl, x0, x1, hb⟩; obtain ⟨Ax0, cx0, rfl⟩ := Kd.R_slice x0; obtain ⟨Ax1, cx1, rfl⟩ := Kd.R_slice x1; have Tx := Aside0.mk (Tb.new (below_size L.out) x0 x1); replace L := Aside0.mk (below_step L.out hb); replace Tt := Aside0.mk (Tt.out.below hb); replace Bt := Aside0.mk (blk_below Bt.out hb); clear hb x0 x1; clear mBt_0 mBt_1)
 have hb : Below W3.heap.size W3 ((W3.alloc (.cells #[.slice Ax0 X1.length cx0, .slice Ax1 X2.length cx1] 51 (0, 0))).alloc (.cells #[.bool x_0, .int .i64 x_1, .int .i64 x_2, .bool o, .int .i64 x_4, .int .i64 x_5] 46 (0, 0))) := (below_alloc (below_alloc (Below.refl _ _) (.cells #[.slice Ax0 X1.length cx0, .slice Ax1 X2.length cx1] 51 (0, 0))) (.cells #[.bool x_0, .int .i64 x_1, .int .i64 x_2, .bool o, .int .i64 x_4, .int .i64 x_5] 46 (0, 0)))
 have b0 := blk_alloc (blk_new W3 (.cells #[.slice Ax0 X1.length cx0, .slice Ax1 X2.length cx1] 51 (0, 0))) (.cells #[.bool x_0, .int .i64 x_1, .int .i64 x_2, .bool o, .int .i64 x_4, .int .i64 x_5] 46 (0, 0))
 have b1 := z_new2 W3 (.cells #[.slice Ax0 X1.length cx0, .slice Ax1 X2.length cx1] 51 (0, 0)) (.cells #[.bool x_0, .int .i64 x_1, .int .i64 x_2, .bool o, .int .i64 x_4, .int .i64 x_5] 46 (0, 0))
 replace L := Aside0.mk (below_step L.out hb)
 replace Tt := Aside0.mk (Tt.out.below hb)
 replace Bt := Aside0.mk (blk_below Bt.out hb)
 replace Tx := Aside0.mk (Tx.out.below hb)
 clear hb
 obtain ⟨gx, hg⟩ : ∃ gx, gx = W3.heap.size := ⟨_, rfl⟩
 rw [← hg] at b0 b1 ⊢
 clear hg
 generalize ((W3.alloc (.cells #[.slice Ax0 X1.length cx0, .slice Ax1 X2.length cx1] 51 (0, 0))).alloc (.cells #[.bool x_0, .int .i64 x_1, .int .i64 x_2, .bool o, .int .i64 x_4, .int .i64 x_5] 46 (0, 0))) = W4 at b0 b1 L Tt Bt Tx ⊢
 have Bx := Aside0.mk b0
 clear b0
 have Bh := Aside0.mk b1
 clear b1
 have mBt_0 : W4.cell? ⟨gt, 0, none⟩ = some (.slice At0 S.length ct0) := (blk_cell Bt.out 0).trans rfl
 have mBt_1 : W4.cell? ⟨gt, 1, none⟩ = some (.slice At1 F.length ct1) := (blk_cell Bt.out 1).trans rfl
 go_upto_region 6 with (go_at_call 44; have q00 := Kd.R_reads' Tt.out.1; have q01 := Kd.R_reads' Tt.out.2; refine (spec_LendHandle.calls k _ _ S _ _ F at_ r X1 X2 x_0 x_1 x_2 o x_4 x_5 0 _ q00.2.2 q00.2.1 q01.2.2 q01.2.1 Hs.out).mono ?_; clear q00 q01; rintro e W5 ⟨y0, y1, rfl, x0, x1, hb⟩; obtain ⟨Az0, cz0, rfl⟩ := Kd.R_slice x0; obtain ⟨Az1, cz1, rfl⟩ := Kd.R_slice x1; have Tz := Aside0.mk (Tb.new (below_size L.out) x0 x1); replace L := Aside0.mk (below_step L.out hb); replace Tt := Aside0.mk (Tt.out.below hb); replace Bt := Aside0.mk (blk_below Bt.out hb); replace Tx := Aside0.mk (Tx.out.below hb); replace Bx := Aside0.mk (blk_below Bx.out hb); replace Bh := Aside0.mk (blk_below Bh.out hb); clear hb x0 x1; clear mBt_0 mBt_1)
 have hb : Below W5.heap.size W5 ((W5.alloc (.cells #[.slice Az0 X1.length cz0, .slice Az1 X2.length cz1] 51 (0, 0))).alloc (.cells #[.bool x_0, .int .i64 x_1, .int .i64 x_2, .bool o, .int .i64 x_4, .int .i64 x_5] 46 (0, 0))) := (below_alloc (below_alloc (Below.refl _ _) (.cells #[.slice Az0 X1.length cz0, .slice Az1 X2.length cz1] 51 (0, 0))) (.cells #[.bool x_0, .int .i64 x_1, .int .i64 x_2, .bool o, .int .i64 x_4, .int .i64 x_5] 46 (0, 0)))
 have b0 := blk_alloc (blk_new W5 (.cells #[.slice Az0 X1.length cz0, .slice Az1 X2.length cz1] 51 (0, 0))) (.cells #[.bool x_0, .int .i64 x_1, .int .i64 x_2, .bool o, .int .i64 x_4, .int .i64 x_5] 46 (0, 0))
 have b1 := z_new2 W5 (.cells #[.slice Az0 X1.length cz0, .slice Az1 X2.length cz1] 51 (0, 0)) (.cells #[.bool x_0, .int .i64 x_1, .int .i64 x_2, .bool o, .int .i64 x_4, .int .i64 x_5] 46 (0, 0))
 replace L := Aside0.mk (below_step L.out hb)
 replace Tt := Aside0.mk (Tt.out.below hb)
 replace Bt := Aside0.mk (blk_below Bt.out hb)
 replace Tx := Aside0.mk (Tx.out.below hb)
 replace Bx := Aside0.mk (blk_below Bx.out hb)
 replace Bh := Aside0.mk (blk_below Bh.out hb)
 replace Tz := Aside0.mk (Tz.out.below hb)
 clear hb
 obtain ⟨gz, hg⟩ : ∃ gz, gz = W5.heap.size := ⟨_, rfl⟩
 rw [← hg] at b0 b1 ⊢
 clear hg
 generalize ((W5.alloc (.cells #[.slice Az0 X1.length cz0, .slice Az1 X2.length cz1] 51 (0, 0))).alloc (.cells #[.bool x_0, .int .i64 x_1, .int .i64 x_2, .bool o, .int .i64 x_4, .int .i64 x_5] 46 (0, 0))) = W6 at b0 b1 L Tt Bt Tx Bx Bh Tz ⊢
 have Bz := Aside0.mk b0
 clear b0
 have Bg := Aside0.mk b1
 clear b1
 have mBh_0 : W6.cell? ⟨gx + 1, 0, none⟩ = some (.bool x_0) := (blk_cell Bh.out 0).trans rfl
 have mBh_1 : W6.cell? ⟨gx + 1, 1, none⟩ = some (.int .i64 x_1) := (blk_cell Bh.out 1).trans rfl
 have mBh_2 : W6.cell? ⟨gx + 1, 2, none⟩ = some (.int .i64 x_2) := (blk_cell Bh.out 2).trans rfl
 have mBh_3 : W6.cell? ⟨gx + 1, 3, none⟩ = some (.bool o) := (blk_cell Bh.out 3).trans rfl
 have mBh_4 : W6.cell? ⟨gx + 1, 4, none⟩ = some (.int .i64 x_4) := (blk_cell Bh.out 4).trans rfl
 have mBh_5 : W6.cell? ⟨gx + 1, 5, none⟩ = some (.int .i64 x_5) := (blk_cell Bh.out 5).trans rfl
 have mBg_0 : W6.cell? ⟨gz + 1, 0, none⟩ = some (.bool x_0) := (blk_cell Bg.out 0).trans rfl
 have mBg_1 : W6.cell? ⟨gz + 1, 1, none⟩ = some (.int .i64 x_1) := (blk_cell Bg.out 1).trans rfl
 have mBg_2 : W6.cell? ⟨gz + 1, 2, none⟩ = some (.int .i64 x_2) := (blk_cell Bg.out 2).trans rfl
 have mBg_3 : W6.cell? ⟨gz + 1, 3, none⟩ = some (.bool o) := (blk_cell Bg.out 3).trans rfl
 have mBg_4 : W6.cell? ⟨gz + 1, 4, none⟩ = some (.int .i64 x_4) := (blk_cell Bg.out 4).trans rfl
 have mBg_5 : W6.cell? ⟨gz + 1, 5, none⟩ = some (.int .i64 x_5) := (blk_cell Bg.out 5).trans rfl
 go_upto_region 10 with (fail)
 clear mBh_0 mBh_1 mBh_2 mBh_3 mBh_4 mBh_5 mBg_0 mBg_1 mBg_2 mBg_3 mBg_4 mBg_5
 have mBx_0 : W6.cell? ⟨gx, 0, none⟩ = some (.slice Ax0 X1.length cx0) := (blk_cell Bx.out 0).trans rfl
 have mBx_1 : W6.cell? ⟨gx, 1, none⟩ = some (.slice Ax1 X2.length cx1) := (blk_cell Bx.out 1).trans rfl
 go_upto_region 11 with (go_at_call 41; have q00 := Kd.R_reads' Tx.out.1; have q01 := Kd.R_reads' Tx.out.2; refine (impl_DropHandle.calls k _ _ X1 _ _ X2 at_ r X1 X2 false 0 0 false 0 0 4 _ q00.2.2 q00.2.1 q01.2.2 q01.2.1 Ha.out).mono ?_; clear q00 q01; rintro e W7 ⟨y0, y1, rfl, x0, x1, hb⟩; obtain ⟨Aa0, ca0, rfl⟩ := Kd.R_slice x0; obtain ⟨Aa1, ca1, rfl⟩ := Kd.R_slice x1; have Ta := Aside0.mk (Tb.new (below_size L.out) x0 x1); replace L := Aside0.mk (below_step L.out hb); replace Tt := Aside0.mk (Tt.out.below hb); replace Bt := Aside0.mk (blk_below Bt.out hb); replace Tx := Aside0.mk (Tx.out.below hb); replace Bx := Aside0.mk (blk_below Bx.out hb); replace Bh := Aside0.mk (blk_below Bh.out hb); replace Tz := Aside0.mk (Tz.out.below hb); replace Bz := Aside0.mk (blk_below Bz.out hb); replace Bg := Aside0.mk (blk_below Bg.out hb); clear hb x0 x1; clear mBx_0 mBx_1)
 have hb : Below W7.heap.size W7 ((W7.alloc (.cells #[.slice Aa0 X1.length ca0, .slice Aa1 X2.length ca1] 51 (0, 0))).alloc (.cells #[.bool false, .int .i64 0, .int .i64 0, .bool false, .int .i64 0, .int .i64 0] 46 (0, 0))) := (below_alloc (below_alloc (Below.refl _ _) (.cells #[.slice Aa0 X1.length ca0, .slice Aa1 X2.length ca1] 51 (0, 0))) (.cells #[.bool false, .int .i64 0, .int .i64 0, .bool false, .int .i64 0, .int .i64 0] 46 (0, 0)))
 have b0 := blk_alloc (blk_new W7 (.cells #[.slice Aa0 X1.length ca0, .slice Aa1 X2.length ca1] 51 (0, 0))) (.cells #[.bool false, .int .i64 0, .int .i64 0, .bool false, .int .i64 0, .int .i64 0] 46 (0, 0))
 have b1 := z_new2 W7 (.cells #[.slice Aa0 X1.length ca0, .slice Aa1 X2.length ca1] 51 (0, 0)) (.cells #[.bool false, .int .i64 0, .int .i64 0, .bool false, .int .i64 0, .int .i64 0] 46 (0, 0))
 replace L := Aside0.mk (below_step L.out hb)
 replace Tt := Aside0.mk (Tt.out.below hb)
 replace Bt := Aside0.mk (blk_below Bt.out hb)
 replace Tx := Aside0.mk (Tx.out.below hb)
 replace Bx := Aside0.mk (blk_below Bx.out hb)
 replace Bh := Aside0.mk (blk_below Bh.out hb)
 replace Tz := Aside0.mk (Tz.out.below hb)
 replace Bz := Aside0.mk (blk_below Bz.out hb)
 replace Bg := Aside0.mk (blk_below Bg.out hb)
 replace Ta := Aside0.mk (Ta.out.below hb)
 clear hb
 obtain ⟨ga, hg⟩ : ∃ ga, ga = W7.heap.size := ⟨_, rfl⟩
 rw [← hg] at b0 b1 ⊢
 clear hg
 generalize ((W7.alloc (.cells #[.slice Aa0 X1.length ca0, .slice Aa1 X2.length ca1] 51 (0, 0))).alloc (.cells #[.bool false, .int .i64 0, .int .i64 0, .bool false, .int .i64 0, .int .i64 0] 46 (0, 0))) = W8 at b0 b1 L Tt Bt Tx Bx Bh Tz Bz Bg Ta ⊢
 have Ba := Aside0.mk b0
 clear b0
 have Bb := Aside0.mk b1
 clear b1
 have mBx_0 : W8.cell? ⟨gx, 0, none⟩ = some (.slice Ax0 X1.length cx0) := (blk_cell Bx.out 0).trans rfl
 have mBx_1 : W8.cell? ⟨gx, 1, none⟩ = some (.slice Ax1 X2.length cx1) := (blk_cell Bx.out 1).trans rfl
 go_upto_region 12 with (go_at_call 45; have q00 := Kd.R_reads' Tx.out.1; have q01 := Kd.R_reads' Tx.out.2; refine (impl_MoveHandle.calls k _ _ X1 _ _ X2 at_ r X1 X2 false 0 0 false 0 0 two _ q00.2.2 q00.2.1 q01.2.2 q01.2.1 Hb.out).mono ?_; clear q00 q01; rintro e W9 ⟨y0, y1, rfl, x0, x1, hb⟩; obtain ⟨Ac0, cc0, rfl⟩ := Kd.R_slice x0; obtain ⟨Ac1, cc1, rfl⟩ := Kd.R_slice x1; have Tc := Aside0.mk (Tb.new (below_size L.out) x0 x1); replace L := Aside0.mk (below_step L.out hb); replace Tt := Aside0.mk (Tt.out.below hb); replace Bt := Aside0.mk (blk_below Bt.out hb); replace Tx := Aside0.mk (Tx.out.below hb); replace Bx := Aside0.mk (blk_below Bx.out hb); replace Bh := Aside0.mk (blk_below Bh.out hb); replace Tz := Aside0.mk (Tz.out.below hb); replace Bz := Aside0.mk (blk_below Bz.out hb); replace Bg := Aside0.mk (blk_below Bg.out hb); replace Ta := Aside0.mk (Ta.out.below hb); replace Ba := Aside0.mk (blk_below Ba.out hb); replace Bb := Aside0.mk (blk_below Bb.out hb); clear hb x0 x1; clear mBx_0 mBx_1)
 have hb : Below W9.heap.size W9 ((W9.alloc (.cells #[.slice Ac0 X1.length cc0, .slice Ac1 X2.length cc1] 51 (0, 0))).alloc (.cells #[.bool false, .int .i64 0, .int .i64 0, .bool false, .int .i64 0, .int .i64 0] 46 (0, 0))) := (below_alloc (below_alloc (Below.refl _ _) (.cells #[.slice Ac0 X1.length cc0, .slice Ac1 X2.length cc1] 51 (0, 0))) (.cells #[.bool false, .int .i64 0, .int .i64 0, .bool false, .int .i64 0, .int .i64 0] 46 (0, 0)))
 have b0 := blk_alloc (blk_new W9 (.cells #[.slice Ac0 X1.length cc0, .slice Ac1 X2.length cc1] 51 (0, 0))) (.cells #[.bool false, .int .i64 0, .int .i64 0, .bool false, .int .i64 0, .int .i64 0] 46 (0, 0))
 have b1 := z_new2 W9 (.cells #[.slice Ac0 X1.length cc0, .slice Ac1 X2.length cc1] 51 (0, 0)) (.cells #[.bool false, .int .i64 0, .int .i64 0, .bool false, .int .i64 0, .int .i64 0] 46 (0, 0))
 replace L := Aside0.mk (below_step L.out hb)
 replace Tt := Aside0.mk (Tt.out.below hb)
 replace Bt := Aside0.mk (blk_below Bt.out hb)
 replace Tx := Aside0.mk (Tx.out.below hb)
 replace Bx := Aside0.mk (blk_below Bx.out hb)
 replace Bh := Aside0.mk (blk_below Bh.out hb)
 replace Tz := Aside0.mk (Tz.out.below hb)
 replace Bz := Aside0.mk (blk_below Bz.out hb)
 replace Bg := Aside0.mk (blk_below Bg.out hb)
 replace Ta := Aside0.mk (Ta.out.below hb)
 replace Ba := Aside0.mk (blk_below Ba.out hb)
 replace Bb := Aside0.mk (blk_below Bb.out hb)
 replace Tc := Aside0.mk (Tc.out.below hb)
 clear hb
 obtain ⟨gc, hg⟩ : ∃ gc, gc = W9.heap.size := ⟨_, rfl⟩
 rw [← hg] at b0 b1 ⊢
 clear hg
 generalize ((W9.alloc (.cells #[.slice Ac0 X1.length cc0, .slice Ac1 X2.length cc1] 51 (0, 0))).alloc (.cells #[.bool false, .int .i64 0, .int .i64 0, .bool false, .int .i64 0, .int .i64 0] 46 (0, 0))) = W10 at b0 b1 L Tt Bt Tx Bx Bh Tz Bz Bg Ta Ba Bb Tc ⊢
 have Bc := Aside0.mk b0
 clear b0
 have Bd := Aside0.mk b1
 clear b1
 have mBx_0 : W10.cell? ⟨gx, 0, none⟩ = some (.slice Ax0 X1.length cx0) := (blk_cell Bx.out 0).trans rfl
 have mBx_1 : W10.cell? ⟨gx, 1, none⟩ = some (.slice Ax1 X2.length cx1) := (blk_cell Bx.out 1).trans rfl
 go_upto_region 13 with (go_at_call 31; have q00 := Kd.R_reads' Tx.out.1; have q01 := Kd.R_reads' Tx.out.2; refine (impl_ReturnHandle.calls k _ _ X1 _ _ X2 at_ S F 0 _ q00.2.2 q00.2.1 q01.2.2 q01.2.1 Hc.out).mono ?_; clear q00 q01; rintro e W11 ⟨y0, y1, rfl, x0, x1, hb⟩; obtain ⟨Ay0, cy0, rfl⟩ := Kd.R_slice x0; obtain ⟨Ay1, cy1, rfl⟩ := Kd.R_slice x1; have Ty := Aside0.mk (Tb.new (below_size L.out) x0 x1); replace L := Aside0.mk (below_step L.out hb); replace Tt := Aside0.mk (Tt.out.below hb); replace Bt := Aside0.mk (blk_below Bt.out hb); replace Tx := Aside0.mk (Tx.out.below hb); replace Bx := Aside0.mk (blk_below Bx.out hb); replace Bh := Aside0.mk (blk_below Bh.out hb); replace Tz := Aside0.mk (Tz.out.below hb); replace Bz := Aside0.mk (blk_below Bz.out hb); replace Bg := Aside0.mk (blk_below Bg.out hb); replace Ta := Aside0.mk (Ta.out.below hb); replace Ba := Aside0.mk (blk_below Ba.out hb); replace Bb := Aside0.mk (blk_below Bb.out hb); replace Tc := Aside0.mk (Tc.out.below hb); replace Bc := Aside0.mk (blk_below Bc.out hb); replace Bd := Aside0.mk (blk_below Bd.out hb); clear hb x0 x1; clear mBx_0 mBx_1)
 have hb : Below W11.heap.size W11 (W11.alloc (.cells #[.slice Ay0 S.length cy0, .slice Ay1 F.length cy1] 51 (0, 0))) := (below_alloc (Below.refl _ _) (.cells #[.slice Ay0 S.length cy0, .slice Ay1 F.length cy1] 51 (0, 0)))
 have b0 := blk_new W11 (.cells #[.slice Ay0 S.length cy0, .slice Ay1 F.length cy1] 51 (0, 0))
 replace L := Aside0.mk (below_step L.out hb)
 replace Tt := Aside0.mk (Tt.out.below hb)
 replace Bt := Aside0.mk (blk_below Bt.out hb)
 replace Tx := Aside0.mk (Tx.out.below hb)
 replace Bx := Aside0.mk (blk_below Bx.out hb)
 replace Bh := Aside0.mk (blk_below Bh.out hb)
 replace Tz := Aside0.mk (Tz.out.below hb)
 replace Bz := Aside0.mk (blk_below Bz.out hb)
 replace Bg := Aside0.mk (blk_below Bg.out hb)
 replace Ta := Aside0.mk (Ta.out.below hb)
 replace Ba := Aside0.mk (blk_below Ba.out hb)
 replace Bb := Aside0.mk (blk_below Bb.out hb)
 replace Tc := Aside0.mk (Tc.out.below hb)
 replace Bc := Aside0.mk (blk_below Bc.out hb)
 replace Bd := Aside0.mk (blk_below Bd.out hb)
 replace Ty := Aside0.mk (Ty.out.below hb)
 clear hb
 obtain ⟨gy, hg⟩ : ∃ gy, gy = W11.heap.size := ⟨_, rfl⟩
 rw [← hg] at b0 ⊢
 clear hg
 generalize (W11.alloc (.cells #[.slice Ay0 S.length cy0, .slice Ay1 F.length cy1] 51 (0, 0))) = W12 at b0 L Tt Bt Tx Bx Bh Tz Bz Bg Ta Ba Bb Tc Bc Bd Ty ⊢
 have By := Aside0.mk b0
 clear b0
 have mBh_0 : W12.cell? ⟨gx + 1, 0, none⟩ = some (.bool x_0) := (blk_cell Bh.out 0).trans rfl
 have mBh_1 : W12.cell? ⟨gx + 1, 1, none⟩ = some (.int .i64 x_1) := (blk_cell Bh.out 1).trans rfl
 have mBh_2 : W12.cell? ⟨gx + 1, 2, none⟩ = some (.int .i64 x_2) := (blk_cell Bh.out 2).trans rfl
 have mBh_3 : W12.cell? ⟨gx + 1, 3, none⟩ = some (.bool o) := (blk_cell Bh.out 3).trans rfl
 have mBh_4 : W12.cell? ⟨gx + 1, 4, none⟩ = some (.int .i64 x_4) := (blk_cell Bh.out 4).trans rfl
 have mBh_5 : W12.cell? ⟨gx + 1, 5, none⟩ = some (.int .i64 x_5) := (blk_cell Bh.out 5).trans rfl
 have mBy_0 : W12.cell? ⟨gy, 0, none⟩ = some (.slice Ay0 S.length cy0) := (blk_cell By.out 0).trans rfl
 have mBy_1 : W12.cell? ⟨gy, 1, none⟩ = some (.slice Ay1 F.length cy1) := (blk_cell By.out 1).trans rfl
 have mBt_0 : W12.cell? ⟨gt, 0, none⟩ = some (.slice At0 S.length ct0) := (blk_cell Bt.out 0).trans rfl
 have mBt_1 : W12.cell? ⟨gt, 1, none⟩ = some (.slice At1 F.length ct1) := (blk_cell Bt.out 1).trans rfl
 have e2_ := Ht.out
 clear Ht
 cases o
 all_goals
  simp only [if_true, if_false, Bool.false_eq_true, reduceIte] at e2_
  subst e2_
  go_upto_region 15 with (first | (go_at_call 38; have q00 := Kd.R_reads' Ty.out.1; have q01 := Kd.R_reads' Ty.out.2; have q10 := Kd.R_reads' Tt.out.1; have q11 := Kd.R_reads' Tt.out.2; refine (laws_sameTables.calls k _ _ S _ _ F _ _ S _ _ F true _ q00.2.2 q00.2.1 q01.2.2 q01.2.1 q10.2.2 q10.2.1 q11.2.2 q11.2.1 He.out).mono ?_; clear q00 q01 q10 q11; rintro e W13 ⟨rfl, hb⟩; replace L := Aside0.mk (below_step L.out hb); replace Tt := Aside0.mk (Tt.out.below hb); replace Bt := Aside0.mk (blk_below Bt.out hb); replace Tx := Aside0.mk (Tx.out.below hb); replace Bx := Aside0.mk (blk_below Bx.out hb); replace Bh := Aside0.mk (blk_below Bh.out hb); replace Tz := Aside0.mk (Tz.out.below hb); replace Bz := Aside0.mk (blk_below Bz.out hb); replace Bg := Aside0.mk (blk_below Bg.out hb); replace Ta := Aside0.mk (Ta.out.below hb); replace Ba := Aside0.mk (blk_below Ba.out hb); replace Bb := Aside0.mk (blk_below Bb.out hb); replace Tc := Aside0.mk (Tc.out.below hb); replace Bc := Aside0.mk (blk_below Bc.out hb); replace Bd := Aside0.mk (blk_below Bd.out hb); replace Ty := Aside0.mk (Ty.out.below hb); replace By := Aside0.mk (blk_below By.out hb); clear hb; clear mBh_0 mBh_1 mBh_2 mBh_3 mBh_4 mBh_5 mBy_0 mBy_1 mBt_0 mBt_1; have mBx_0 : W13.cell? ⟨gx, 0, none⟩ = some (.slice Ax0 X1.length cx0) := (blk_cell Bx.out 0).trans rfl; have mBx_1 : W13.cell? ⟨gx, 1, none⟩ = some (.slice Ax1 X2.length cx1) := (blk_cell Bx.out 1).trans rfl) | (go_at_call 40; have q00 := Kd.R_reads' Tx.out.1; have q01 := Kd.R_reads' Tx.out.2; refine (impl_GoodTable.calls k _ _ X1 _ _ X2 true _ q00.2.2 q00.2.1 q01.2.2 q01.2.1 Hg.out).mono ?_; clear q00 q01; rintro e W14 ⟨rfl, hb⟩; replace L := Aside0.mk (below_step L.out hb); replace Tt := Aside0.mk (Tt.out.below hb); replace Bt := Aside0.mk (blk_below Bt.out hb); replace Tx := Aside0.mk (Tx.out.below hb); replace Bx := Aside0.mk (blk_below Bx.out hb); replace Bh := Aside0.mk (blk_below Bh.out hb); replace Tz := Aside0.mk (Tz.out.below hb); replace Bz := Aside0.mk (blk_below Bz.out hb); replace Bg := Aside0.mk (blk_below Bg.out hb); replace Ta := Aside0.mk (Ta.out.below hb); replace Ba := Aside0.mk (blk_below Ba.out hb); replace Bb := Aside0.mk (blk_below Bb.out hb); replace Tc := Aside0.mk (Tc.out.below hb); replace Bc := Aside0.mk (blk_below Bc.out hb); replace Bd := Aside0.mk (blk_below Bd.out hb); replace Ty := Aside0.mk (Ty.out.below hb); replace By := Aside0.mk (blk_below By.out hb); clear hb; clear mBx_0 mBx_1; have mBy_0 : W14.cell? ⟨gy, 0, none⟩ = some (.slice Ay0 S.length cy0) := (blk_cell By.out 0).trans rfl; have mBy_1 : W14.cell? ⟨gy, 1, none⟩ = some (.slice Ay1 F.length cy1) := (blk_cell By.out 1).trans rfl))
  go_upto_region 16 with (go_at_call 41; have q00 := Kd.R_reads' Ty.out.1; have q01 := Kd.R_reads' Ty.out.2; refine (impl_DropHandle.calls k _ _ S _ _ F at_ r E1 E2 e_0 e_1 e_2 e_3 e_4 e_5 c4 _ q00.2.2 q00.2.1 q01.2.2 q01.2.1 Hm.out).mono ?_; clear q00 q01; rintro e W15 ⟨y0, y1, rfl, x0, x1, hb⟩; obtain ⟨Am0, cm0, rfl⟩ := Kd.R_slice x0; obtain ⟨Am1, cm1, rfl⟩ := Kd.R_slice x1; have Tm := Aside0.mk (Tb.new (below_size L.out) x0 x1); replace L := Aside0.mk (below_step L.out hb); replace Tt := Aside0.mk (Tt.out.below hb); replace Bt := Aside0.mk (blk_below Bt.out hb); replace Tx := Aside0.mk (Tx.out.below hb); replace Bx := Aside0.mk (blk_below Bx.out hb); replace Bh := Aside0.mk (blk_below Bh.out hb); replace Tz := Aside0.mk (Tz.out.below hb); replace Bz := Aside0.mk (blk_below Bz.out hb); replace Bg := Aside0.mk (blk_below Bg.out hb); replace Ta := Aside0.mk (Ta.out.below hb); replace Ba := Aside0.mk (blk_below Ba.out hb); replace Bb := Aside0.mk (blk_below Bb.out hb); replace Tc := Aside0.mk (Tc.out.below hb); replace Bc := Aside0.mk (blk_below Bc.out hb); replace Bd := Aside0.mk (blk_below Bd.out hb); replace Ty := Aside0.mk (Ty.out.below hb); replace By := Aside0.mk (blk_below By.out hb); clear hb x0 x1; clear mBy_0 mBy_1)
  have hb : Below W15.heap.size W15 ((W15.alloc (.cells #[.slice Am0 E1.length cm0, .slice Am1 E2.length cm1] 51 (0, 0))).alloc (.cells #[.bool e_0, .int .i64 e_1, .int .i64 e_2, .bool e_3, .int .i64 e_4, .int .i64 e_5] 46 (0, 0))) := (below_alloc (below_alloc (Below.refl _ _) (.cells #[.slice Am0 E1.length cm0, .slice Am1 E2.length cm1] 51 (0, 0))) (.cells #[.bool e_0, .int .i64 e_1, .int .i64 e_2, .bool e_3, .int .i64 e_4, .int .i64 e_5] 46 (0, 0)))
  have b0 := blk_alloc (blk_new W15 (.cells #[.slice Am0 E1.length cm0, .slice Am1 E2.length cm1] 51 (0, 0))) (.cells #[.bool e_0, .int .i64 e_1, .int .i64 e_2, .bool e_3, .int .i64 e_4, .int .i64 e_5] 46 (0, 0))
  have b1 := z_new2 W15 (.cells #[.slice Am0 E1.length cm0, .slice Am1 E2.length cm1] 51 (0, 0)) (.cells #[.bool e_0, .int .i64 e_1, .int .i64 e_2, .bool e_3, .int .i64 e_4, .int .i64 e_5] 46 (0, 0))
  replace L := Aside0.mk (below_step L.out hb)
  replace Tt := Aside0.mk (Tt.out.below hb)
  replace Bt := Aside0.mk (blk_below Bt.out hb)
  replace Tx := Aside0.mk (Tx.out.below hb)
  replace Bx := Aside0.mk (blk_below Bx.out hb)
  replace Bh := Aside0.mk (blk_below Bh.out hb)
  replace Tz := Aside0.mk (Tz.out.below hb)
  replace Bz := Aside0.mk (blk_below Bz.out hb)
  replace Bg := Aside0.mk (blk_below Bg.out hb)
  replace Ta := Aside0.mk (Ta.out.below hb)
  replace Ba := Aside0.mk (blk_below Ba.out hb)
  replace Bb := Aside0.mk (blk_below Bb.out hb)
  replace Tc := Aside0.mk (Tc.out.below hb)
  replace Bc := Aside0.mk (blk_below Bc.out hb)
  replace Bd := Aside0.mk (blk_below Bd.out hb)
  replace Ty := Aside0.mk (Ty.out.below hb)
  replace By := Aside0.mk (blk_below By.out hb)
  replace Tm := Aside0.mk (Tm.out.below hb)
  clear hb
  obtain ⟨gm, hg⟩ : ∃ gm, gm = W15.heap.size := ⟨_, rfl⟩
  rw [← hg] at b0 b1 ⊢
  clear hg
  generalize ((W15.alloc (.cells #[.slice Am0 E1.length cm0, .slice Am1 E2.length cm1] 51 (0, 0))).alloc (.cells #[.bool e_0, .int .i64 e_1, .int .i64 e_2, .bool e_3, .int .i64 e_4, .int .i64 e_5] 46 (0, 0))) = W16 at b0 b1 L Tt Bt Tx Bx Bh Tz Bz Bg Ta Ba Bb Tc Bc Bd Ty By Tm ⊢
  have Bm := Aside0.mk b0
  clear b0
  have Bn := Aside0.mk b1
  clear b1
  rcases Hq.out with ⟨hx, rfl⟩ | ⟨hx, rfl, ⟨rfl, rfl, rfl, rfl, rfl, rfl⟩, hn⟩
  ·have mBh_4 : W16.cell? ⟨gx + 1, 4, none⟩ = some (.int .i64 x_4) := (blk_cell Bh.out 4).trans rfl
   go_wp2
   go_ret
   exact ⟨rfl, L.out⟩
  ·have Hn := Aside0.mk hn
   clear hn
   have mBh_0 : W16.cell? ⟨gx + 1, 0, none⟩ = some (.bool e_0) := (blk_cell Bh.out 0).trans rfl
   have mBn_0 : W16.cell? ⟨gm + 1, 0, none⟩ = some (.bool e_0) := (blk_cell Bn.out 0).trans rfl
   have mBh_1 : W16.cell? ⟨gx + 1, 1, none⟩ = some (.int .i64 e_1) := (blk_cell Bh.out 1).trans rfl
   have mBn_1 : W16.cell? ⟨gm + 1, 1, none⟩ = some (.int .i64 e_1) := (blk_cell Bn.out 1).trans rfl
   have mBh_2 : W16.cell? ⟨gx + 1, 2, none⟩ = some (.int .i64 e_2) := (blk_cell Bh.out 2).trans rfl
   have mBn_2 : W16.cell? ⟨gm + 1, 2, none⟩ = some (.int .i64 e_2) := (blk_cell Bn.out 2).trans rfl
   have mBh_3 := blk_cell Bh.out 3
   have mBn_3 := blk_cell Bn.out 3
   replace mBh_3 := mBh_3.trans rfl
   replace mBn_3 := mBn_3.trans rfl
   have mBh_4 : W16.cell? ⟨gx + 1, 4, none⟩ = some (.int .i64 e_4) := (blk_cell Bh.out 4).trans rfl
   have mBn_4 : W16.cell? ⟨gm + 1, 4, none⟩ = some (.int .i64 e_4) := (blk_cell Bn.out 4).trans rfl
   have mBh_5 : W16.cell? ⟨gx + 1, 5, none⟩ = some (.int .i64 e_5) := (blk_cell Bh.out 5).trans rfl
   have mBn_5 : W16.cell? ⟨gm + 1, 5, none⟩ = some (.int .i64 e_5) := (blk_cell Bn.out 5).trans rfl
   have mBm_0 : W16.cell? ⟨gm, 0, none⟩ = some (.slice Am0 E1.length cm0) := (blk_cell Bm.out 0).trans rfl
   have mBm_1 : W16.cell? ⟨gm, 1, none⟩ = some (.slice Am1 E2.length cm1) := (blk_cell Bm.out 1).trans rfl
   go_wp2_with (go_at_call 40; have q00 := Kd.R_reads' Tm.out.1; have q01 := Kd.R_reads' Tm.out.2; refine (impl_GoodTable.calls k _ _ E1 _ _ E2 true _ q00.2.2 q00.2.1 q01.2.2 q01.2.1 Hn.out).mono ?_; clear q00 q01; rintro e W17 ⟨rfl, hb⟩; replace L := Aside0.mk (below_step L.out hb); replace Tt := Aside0.mk (Tt.out.below hb); replace Bt := Aside0.mk (blk_below Bt.out hb); replace Tx := Aside0.mk (Tx.out.below hb); replace Bx := Aside0.mk (blk_below Bx.out hb); replace Bh := Aside0.mk (blk_below Bh.out hb); replace Tz := Aside0.mk (Tz.out.below hb); replace Bz := Aside0.mk (blk_below Bz.out hb); replace Bg := Aside0.mk (blk_below Bg.out hb); replace Ta := Aside0.mk (Ta.out.below hb); replace Ba := Aside0.mk (blk_below Ba.out hb); replace Bb := Aside0.mk (blk_below Bb.out hb); replace Tc := Aside0.mk (Tc.out.below hb); replace Bc := Aside0.mk (blk_below Bc.out hb); replace Bd := Aside0.mk (blk_below Bd.out hb); replace Ty := Aside0.mk (Ty.out.below hb); replace By := Aside0.mk (blk_below By.out hb); replace Tm := Aside0.mk (Tm.out.below hb); replace Bm := Aside0.mk (blk_below Bm.out hb); replace Bn := Aside0.mk (blk_below Bn.out hb); clear hb)
   go_ret
   exact ⟨rfl, L.out⟩
end Go.Proofs.Ytoomeeoijbkmnaa.PH
