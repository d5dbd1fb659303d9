/-
  Plain laws about what the printed functions compute.
-/
import Derived.Test.YtoomeeoijbkmnaaC9EvHan
import Derived.Test.YtoomeeoijbkmnaaC9PHx17
namespace Go.Proofs.Ytoomeeoijbkmnaa.PH
open Go.RowKit Go.Proofs.YtoomeeoijbkmnaaW.PrintWords Go.Proofs.YtoomeeoijbkmnaaW.PrintLast
set_option linter.unusedSimpArgs false
theorem u64_mask (y : Int) : 0 ≤ Go.bits .and .u64 (IntKind.u64.wrap y / 1099511627776) 255 ∧ Go.bits .and .u64 (IntKind.u64.wrap y / 1099511627776) 255 ≤ 255 := by
  have e : IntKind.u64.wrap y = y % 18446744073709551616 := by simp [IntKind.wrap, IntKind.bits, IntKind.signed]
  rw [e]
  have h0 : 0 ≤ y % 18446744073709551616 / 1099511627776 := by omega
  have h1 : y % 18446744073709551616 / 1099511627776 < 16777216 := by omega
  generalize y % 18446744073709551616 / 1099511627776 = x at h0 h1
  have hm : Go.bits .and .u64 x 255 = x % 256 := bits_mask .u64 24 (by decide) (fun n a b => by
    have e : IntKind.u64.wrap n = n % 18446744073709551616 := by simp [IntKind.wrap, IntKind.bits, IntKind.signed]
    rw [e]
    omega) 8 (by decide) x h0 h1
  omega
def Byt (code : List Int) : Prop := ∀ x ∈ code, 0 ≤ x ∧ x ≤ 255
theorem byt_rd {code : List Int} (hb : Byt code) (i : Int) : 0 ≤ rd code i ∧ rd code i ≤ 255 := by
  unfold rd
  rw [List.getD_eq_getElem?_getD]
  by_cases h : i.toNat < code.length
  · rw [List.getElem?_eq_getElem h, Option.getD_some]
    exact hb _ (List.getElem_mem _)
  · rw [List.getElem?_eq_none (by omega), Option.getD_none]
    omega
theorem next_ok {code : List Int} (hb : Byt code) (a s : Int) (h0 : 0 ≤ a) (h1 : a < 4611686018427387904) :
    ∃ r s', spec_l1Cur_next.f code a s = some (r, a + 1, s') ∧ 0 ≤ r ∧ r ≤ 255 := by
  unfold spec_l1Cur_next.f
  have hw : wrap64 (a + 1) = a + 1 := wrap_in (by omega) (by omega)
  have hr := byt_rd hb a
  rw [hw]
  have hm := fun y => u64_mask y
  have w2 : ∀ z : Int, 0 ≤ z ∧ z ≤ 255 → wrap64 z = z := fun z hz => wrap_in (by omega) (by omega)
  repeat' split
  all_goals first
    | exact ⟨_, _, rfl, by rw [w2 _ hr]; exact hr.1, by rw [w2 _ hr]; exact hr.2⟩
    | exact ⟨_, _, rfl, by rw [w2 _ (hm _)]; exact (hm _).1, by rw [w2 _ (hm _)]; exact (hm _).2⟩
    | exact ⟨_, _, rfl, by decide, by decide⟩
    | omega
theorem pick_ok {code : List Int} (hb : Byt code) (a s n : Int) (h0 : 0 ≤ a) (h1 : a < 4611686018427387900) :
    ∃ r a' s', spec_l1Cur_pick.f code a s n = some (r, a', s') ∧ 0 ≤ r ∧ (1 ≤ n → r < n) ∧ a ≤ a' ∧ a' ≤ a + 2 := by
  unfold spec_l1Cur_pick.f
  by_cases c : n ≤ 1
  · rw [if_pos c]
    exact ⟨_, _, _, rfl, by omega, by omega, by omega, by omega⟩
  · rw [if_neg c]
    obtain ⟨r, s1, e, r0, r1⟩ := next_ok hb a s h0 (by omega)
    rw [e, Option.bind_some]
    dsimp only
    by_cases d : n > 200
    · rw [if_pos d]
      obtain ⟨q, s2, e2, q0, q1⟩ := next_ok hb (a + 1) s1 (by omega) (by omega)
      rw [e2, Option.bind_some, if_neg (by omega)]
      dsimp only
      have w1 : wrap64 (r * 256) = r * 256 := wrap_in (by omega) (by omega)
      have w2 : wrap64 (r * 256 + q) = r * 256 + q := wrap_in (by omega) (by omega)
      rw [w1, w2]
      exact ⟨_, _, _, rfl, Int.tmod_nonneg _ (by omega), fun _ => Int.tmod_lt_of_pos _ (by omega), by omega, by omega⟩
    · rw [if_neg d, if_neg (by omega)]
      exact ⟨_, _, _, rfl, Int.tmod_nonneg _ r0, fun _ => Int.tmod_lt_of_pos _ (by omega), by omega, by omega⟩
theorem one_ok {code : List Int} (hb : Byt code) (a s n : Int) (h0 : 0 ≤ a) (h1 : a < 4611686018427387900) :
    ∃ r a' s', spec_l1Cur_one.f code a s n = some (r, a', s') ∧ a ≤ a' ∧ a' ≤ a + 2 := by
  unfold spec_l1Cur_one.f
  obtain ⟨r, a', s', e, _, _, x, y⟩ := pick_ok hb a s n h0 h1
  rw [e]
  exact ⟨_, _, _, rfl, x, y⟩
theorem among_ok {code : List Int} (hb : Byt code) (a s : Int) (l : List Int) (hl : 0 < l.length) (h0 : 0 ≤ a) (h1 : a < 4611686018427387900) :
    ∃ r a' s', spec_l1Cur_among.f code a s l = some (r, a', s') ∧ r ∈ l ∧ a ≤ a' ∧ a' ≤ a + 2 := by
  unfold spec_l1Cur_among.f
  obtain ⟨r, a', s', e, q0, q1, x, y⟩ := pick_ok hb a s (l.length : Int) h0 h1
  rw [e, Option.bind_some]
  dsimp only
  have q2 := q1 (by omega)
  rw [if_pos q0, if_pos q2]
  refine ⟨_, _, _, rfl, ?_, x, y⟩
  unfold rd
  rw [List.getD_eq_getElem?_getD, List.getElem?_eq_getElem (by omega), Option.getD_some]
  exact List.getElem_mem _
end Go.Proofs.Ytoomeeoijbkmnaa.PH
