/-
  Plain laws about what the printed functions compute.
-/
import Derived.Test.YtoomeeoijbkmnaaC9EvDraw2
import Derived.Test.YtoomeeoijbkmnaaC9PHx18
namespace Go.Proofs.Ytoomeeoijbkmnaa.PH
open Go.RowKit Go.Proofs.YtoomeeoijbkmnaaW.PrintWords Go.Proofs.YtoomeeoijbkmnaaW.PrintLast
set_option linter.unusedSimpArgs false
set_option maxHeartbeats 1000000 in
theorem table_l0_ok {code : List Int} (hb : Byt code) : ∀ (n : Nat) (a s : Int) (S : List S46) (F : List Int), n ≤ 50 → 0 ≤ a → a + 40 * n < 4611686018427300000 → GS S F →
    ∃ (S' : List S46) (F' : List Int) (a' s' : Int), Ev (fun k => spec_l1Cur_tableOf.l0 k (n : Int) code a s S F) (S', F', a', s') ∧ S'.length ≤ 41 ∧ F'.length ≤ 41 ∧ 0 ≤ a' ∧ a' ≤ a + 40 * n + 20
  | 0, a, s, S, F, hn, h0, h1, g => by
    obtain ⟨gl1, gl2⟩ := gs_len g
    obtain ⟨q1, a1, s1, e1, -, -, x1, y1⟩ := pick_ok hb a s 40 h0 (by omega)
    by_cases c : q1 = 0
    · obtain ⟨q2, a2, s2, e2, -, -, x2, y2⟩ := pick_ok hb a1 s1 5 (by omega) (by omega)
      refine ⟨S, F ++ [q2], a2, s2, Ev.step (g := fun _ => some (S, F ++ [q2], a2, s2)) (fun k => ?_) (Ev.const _), by omega, by simp; omega, by omega, by omega⟩
      simp only [spec_l1Cur_tableOf.l0, e1, Option.bind_some]
      rw [if_neg (by omega), if_pos c, e2, Option.bind_some, if_pos (by omega)]
    · by_cases d : q1 = 1
      · by_cases f : (S.length : Int) > 0
        · obtain ⟨q2, a2, s2, e2, -, x2, y2⟩ := among_ok hb a1 s1 [-1, 1000, 1001] (by decide) (by omega) (by omega)
          refine ⟨S.set (0 : Int).toNat (⟨(rd_T46 S 0).f0, (rd_T46 S 0).f1, (rd_T46 S 0).f2, (rd_T46 S 0).f3, q2, (rd_T46 S 0).f5⟩ : S46), F, a2, s2, Ev.step (g := fun _ => some _) (fun k => ?_) (Ev.const _), by simp; omega, by omega, by omega, by omega⟩
          simp only [spec_l1Cur_tableOf.l0, e1, Option.bind_some]
          rw [if_neg (by omega), if_neg c, if_pos d, if_pos f, e2, Option.bind_some, if_pos (by omega)]
        · refine ⟨S, F, a1, s1, Ev.step (g := fun _ => some (S, F, a1, s1)) (fun k => ?_) (Ev.const _), by omega, by omega, by omega, by omega⟩
          simp only [spec_l1Cur_tableOf.l0, e1, Option.bind_some]
          rw [if_neg (by omega), if_neg c, if_pos d, if_neg f]
      · refine ⟨S, F, a1, s1, Ev.step (g := fun _ => some (S, F, a1, s1)) (fun k => ?_) (Ev.const _), by omega, by omega, by omega, by omega⟩
        simp only [spec_l1Cur_tableOf.l0, e1, Option.bind_some]
        rw [if_neg (by omega), if_neg c, if_neg d]
  | n + 1, a, s, S, F, hn, h0, h1, g => by
    obtain ⟨gl1, gl2⟩ := gs_len g
    have hS : S.length ≤ 140737488351232 := by omega
    have hF : F.length ≤ 140737488351232 := by omega
    have hw : wrap64 (((n + 1 : Nat) : Int) - 1) = (n : Int) := by
      rw [wrap_in (by omega) (by omega)]
      omega
    obtain ⟨q1, a1, s1, e1, -, -, x1, y1⟩ := pick_ok hb a s 5 h0 (by omega)
    by_cases c : q1 = 0
    · by_cases f : (S.length : Int) > 0
      · obtain ⟨q2, a2, s2, e2, z0, z1, x2, y2⟩ := pick_ok hb a1 s1 (S.length : Int) (by omega) (by omega)
        have z2 := z1 (by omega)
        obtain ⟨x, hx, -, -, -, h2⟩ := full_DropHandle S hS F hF q2 (rd_T46 S q2).f1
        have gx : GS x.1 x.2.1 := by
          rcases hx with ⟨-, rfl⟩ | ⟨y, -⟩
          · exact dropR_GS false g _ _
          · exact absurd g y
        obtain ⟨S', F', a', s', hI, l1, l2, l3, l4⟩ := table_l0_ok hb n a2 s2 x.1 x.2.1 (by omega) (by omega) (by omega) gx
        refine ⟨S', F', a', s', Ev.step (g := fun k => (spec_DropHandle.f k S F q2 (rd_T46 S q2).f1).bind fun bt => spec_l1Cur_tableOf.l0 k (n : Int) code a2 s2 bt.1 bt.2.1) (fun k => ?_) (Ev.bind h2 hI), l1, l2, l3, by omega⟩
        simp only [spec_l1Cur_tableOf.l0, e1, Option.bind_some, hw]
        rw [if_pos (by omega), if_pos c, if_pos f, e2, Option.bind_some, if_pos z0, if_pos z2]
      · obtain ⟨S', F', a', s', hI, l1, l2, l3, l4⟩ := table_l0_ok hb n a1 s1 S F (by omega) (by omega) (by omega) g
        refine ⟨S', F', a', s', Ev.step (g := fun k => spec_l1Cur_tableOf.l0 k (n : Int) code a1 s1 S F) (fun k => ?_) hI, l1, l2, l3, by omega⟩
        simp only [spec_l1Cur_tableOf.l0, e1, Option.bind_some, hw]
        rw [if_pos (by omega), if_pos c, if_neg f]
    · by_cases d : q1 = 1
      · by_cases f : (S.length : Int) > 0
        · obtain ⟨q2, a2, s2, e2, z0, z1, x2, y2⟩ := pick_ok hb a1 s1 (S.length : Int) (by omega) (by omega)
          have z2 := z1 (by omega)
          obtain ⟨x, hx, -, -, -, h2⟩ := full_LendHandle S hS F hF q2 (rd_T46 S q2).f1
          have gx : GS x.1 x.2.1 := by
            rcases hx with ⟨-, rfl⟩ | ⟨y, -⟩
            · exact lendR_GS g _ _
            · exact absurd g y
          obtain ⟨S', F', a', s', hI, l1, l2, l3, l4⟩ := table_l0_ok hb n a2 s2 x.1 x.2.1 (by omega) (by omega) (by omega) gx
          refine ⟨S', F', a', s', Ev.step (g := fun k => (spec_LendHandle.f k S F q2 (rd_T46 S q2).f1).bind fun bt => spec_l1Cur_tableOf.l0 k (n : Int) code a2 s2 bt.1 bt.2.1) (fun k => ?_) (Ev.bind h2 hI), l1, l2, l3, by omega⟩
          simp only [spec_l1Cur_tableOf.l0, e1, Option.bind_some, hw]
          rw [if_pos (by omega), if_neg c, if_pos d, if_pos f, e2, Option.bind_some, if_pos z0, if_pos z2]
        · obtain ⟨S', F', a', s', hI, l1, l2, l3, l4⟩ := table_l0_ok hb n a1 s1 S F (by omega) (by omega) (by omega) g
          refine ⟨S', F', a', s', Ev.step (g := fun k => spec_l1Cur_tableOf.l0 k (n : Int) code a1 s1 S F) (fun k => ?_) hI, l1, l2, l3, by omega⟩
          simp only [spec_l1Cur_tableOf.l0, e1, Option.bind_some, hw]
          rw [if_pos (by omega), if_neg c, if_pos d, if_neg f]
      · obtain ⟨h, a2, s2, eh, x2, y2⟩ := handle_ok hb a1 s1 (by omega) (by omega)
        obtain ⟨x, hx, -, -, -, h2⟩ := full_NewHandle S hS F hF h
        have gx : GS x.1 x.2.1 := by
          rcases hx with ⟨-, rfl⟩ | ⟨y, -⟩
          · exact newR_GS g _
          · exact absurd g y
        obtain ⟨S', F', a', s', hI, l1, l2, l3, l4⟩ := table_l0_ok hb n a2 s2 x.1 x.2.1 (by omega) (by omega) (by omega) gx
        refine ⟨S', F', a', s', Ev.step (g := fun k => (spec_l1Cur_handle.f k code a1 s1).bind fun bt => (spec_NewHandle.f k S F bt.1 bt.2.1 bt.2.2.1 bt.2.2.2.1 bt.2.2.2.2.1 bt.2.2.2.2.2.1).bind fun bu => spec_l1Cur_tableOf.l0 k (n : Int) code bt.2.2.2.2.2.2.1 bt.2.2.2.2.2.2.2 bu.1 bu.2.1) (fun k => ?_) (Ev.bind eh (Ev.bind h2 hI)), l1, l2, l3, by omega⟩
        simp only [spec_l1Cur_tableOf.l0, e1, Option.bind_some, hw]
        rw [if_pos (by omega), if_neg c, if_neg d]
theorem table_ok {code : List Int} (hb : Byt code) : ∃ (S : List S46) (F : List Int) (a s : Int), Ev (fun k => spec_l1Cur_tableOf.f k code 0 0) (S, F, a, s) ∧ S.length ≤ 41 ∧ F.length ≤ 41 ∧ 0 ≤ a ∧ a ≤ 10000 := by
  obtain ⟨q1, a1, s1, e1, z0, z1, x1, y1⟩ := pick_ok hb 0 0 10 (by omega) (by omega)
  obtain ⟨o, a2, s2, e2, x2, y2⟩ := one_ok hb a1 s1 20 (by omega) (by omega)
  have z2 := z1 (by omega)
  have key : ∀ n : Nat, n ≤ 50 → ∃ (S : List S46) (F : List Int) (a s : Int), Ev (fun k => spec_l1Cur_tableOf.j0 k (n : Int) code a2 s2) (S, F, a, s) ∧ S.length ≤ 41 ∧ F.length ≤ 41 ∧ 0 ≤ a ∧ a ≤ 10000 := by
    intro n hn
    obtain ⟨S', F', a', s', hI, l1, l2, l3, l4⟩ := table_l0_ok hb n a2 s2 [] [] hn (by omega) (by omega) GS_nil
    refine ⟨S', F', a', s', Ev.step (g := fun k => spec_l1Cur_tableOf.l0 k (n : Int) code a2 s2 [] []) (fun k => ?_) hI, l1, l2, l3, by omega⟩
    simp only [spec_l1Cur_tableOf.j0]
  unfold spec_l1Cur_tableOf.f
  simp only [e1, e2, Option.bind_some]
  cases o
  · obtain ⟨m, rfl⟩ : ∃ m : Nat, q1 = m := ⟨q1.toNat, by omega⟩
    obtain ⟨S, F, a, s, h, l⟩ := key m (by omega)
    exact ⟨S, F, a, s, Ev.neg (by decide) h, l⟩
  · obtain ⟨S, F, a, s, h, l⟩ := key 50 (by omega)
    exact ⟨S, F, a, s, Ev.pos rfl h, l⟩
end Go.Proofs.Ytoomeeoijbkmnaa.PH
