/-
  Plain laws behind FnRoots: roots of halves and singles.
-/
import Derived.Test.YtdoflfifnkpacaaFrNum7
namespace Go.Proofs.Ytdoflfifnkpacaa.FR
open Go.RowKit Go.Proofs.YtdoflfifnkpacaaW.PrintWords Go.Proofs.YtdoflfifnkpacaaW.PrintLast Go.Proofs.YtdoflfifnkpacaaW.PrintMore
set_option linter.unusedSimpArgs false
set_option linter.unusedVariables false
theorem parts_ex10 {a : Int} (h0 : 0 ≤ a) : (∃ ng na : Bool, parts 1024 32 32768 (-24) a = (ng, na, !na, 0, 0)) ∨ (∃ (ng : Bool) (m e : Int), parts 1024 32 32768 (-24) a = (ng, false, false, m, e) ∧ 0 ≤ m ∧ m < 2048 ∧ -24 ≤ e ∧ e ≤ 5) := by
  unfold parts
  by_cases c : a / 1024 % 32 = 32 - 1
  · rw [if_pos c]
    refine Or.inl ⟨(a / 32768 % 2 == 1), (a % 1024 != 0), ?_⟩
    have e : (a % 1024 == 0) = !(a % 1024 != 0) := by
      show _ = !(!(a % 1024 == 0))
      rw [Bool.not_not]
    rw [e]
  · rw [if_neg c]
    by_cases d : a / 1024 % 32 = 0
    · rw [if_pos d]
      exact Or.inr ⟨_, _, _, rfl, by omega, by omega, by omega, by omega⟩
    · rw [if_neg d]
      exact Or.inr ⟨_, _, _, rfl, by omega, by omega, by omega, by omega⟩
theorem sqrt_both16 {a : Int} (h0 : 0 ≤ a) (h1 : a < 4294967296) : ∃ r : Int, Ev (fun k => impl_FSqrt.f k 16 a) r ∧ Ev (fun k => spec_FSqrt.f k 16 a) r ∧
    (∀ m e : Int, parts 1024 32 32768 (-24) a = (false, false, false, m, e) → 0 < m → ∃ (e1 R M : Int) (s : Nat), r = (29 + e1 + 15) * 1024 + rq 524288 262144 R (R * R != M) - 1024 ∧ e - s = 2 * e1 ∧ M = m * 2 ^ s ∧ 536870912 ≤ R ∧ R < 1073741824 ∧ R * R ≤ M ∧ M < (R + 1) * (R + 1) ∧ 48 ≤ s ∧ s ≤ 59) := by
  have io := implOpen10 h0 h1
  have so := specOpen10 h0 h1
  have fo : impl_formatOf.f 16 = some (10, 15, true) := by decide +kernel
  have lk : spec_l4Kind.f 16 = some (5, 10, true) := by decide +kernel
  have nn : impl_format_noNumber.f 10 15 = some 32256 := by decide +kernel
  have sn : spec_l4K_nan.f 5 10 = some 32256 := by decide +kernel
  have ii : impl_format_infinite.f 10 15 false = some 31744 := by decide +kernel
  have si : spec_l4K_inf.f 5 10 false = some 31744 := by decide +kernel
  have st : impl_format_signed.f 10 15 true 0 = some 32768 := by decide +kernel
  have sf : impl_format_signed.f 10 15 false 0 = some 0 := by decide +kernel
  have tt : spec_l4K_sign.f 5 10 true = some 32768 := by decide +kernel
  have tf : spec_l4K_sign.f 5 10 false = some 0 := by decide +kernel
  have key : ∃ r : Int, Ev (fun k => if (parts 1024 32 32768 (-24) a).2.1 = true then some 32256 else (if (parts 1024 32 32768 (-24) a).2.2.1 = true then impl_FSqrt.j0 k false 10 15 (parts 1024 32 32768 (-24) a).1 (parts 1024 32 32768 (-24) a).2.1 (parts 1024 32 32768 (-24) a).2.2.1 (parts 1024 32 32768 (-24) a).2.2.2.1 (parts 1024 32 32768 (-24) a).2.2.2.2 else impl_FSqrt.j0 k ((parts 1024 32 32768 (-24) a).2.2.2.1 == 0) 10 15 (parts 1024 32 32768 (-24) a).1 (parts 1024 32 32768 (-24) a).2.1 (parts 1024 32 32768 (-24) a).2.2.1 (parts 1024 32 32768 (-24) a).2.2.2.1 (parts 1024 32 32768 (-24) a).2.2.2.2)) r ∧
      Ev (fun k => spec_l4K_root.f k 5 10 (parts 1024 32 32768 (-24) a).1 (parts 1024 32 32768 (-24) a).2.2.1 (parts 1024 32 32768 (-24) a).2.1 (parts 1024 32 32768 (-24) a).2.2.2.1 (parts 1024 32 32768 (-24) a).2.2.2.2) r ∧
      (∀ m e : Int, parts 1024 32 32768 (-24) a = (false, false, false, m, e) → 0 < m → ∃ (e1 R M : Int) (s : Nat), r = (29 + e1 + 15) * 1024 + rq 524288 262144 R (R * R != M) - 1024 ∧ e - s = 2 * e1 ∧ M = m * 2 ^ s ∧ 536870912 ≤ R ∧ R < 1073741824 ∧ R * R ≤ M ∧ M < (R + 1) * (R + 1) ∧ 48 ≤ s ∧ s ≤ 59) := by
    rcases parts_ex10 h0 with ⟨ng, na, e⟩ | ⟨ng, m, ee, e, m0, m1, e0, e1⟩
    · rw [e]
      cases na
      · cases ng
        · refine ⟨31744, Ev.neg Bool.false_ne_true (Ev.pos rfl (Ev.step (g := fun _ => some 31744) (fun k => ?_) (Ev.const _))), ?_, fun m e x => by simp at x⟩
          · simp only [impl_FSqrt.j0, ii, Option.bind_some]
            rfl
          · refine Ev.eq (g := fun k => spec_l4K_root.j0 k false 5 10 false true false 0 0) (fun k => rfl) (Ev.step (g := fun _ => some 31744) (fun k => ?_) (Ev.const _))
            simp only [spec_l4K_root.j0, si, Option.bind_some]
            rfl
        · refine ⟨32256, Ev.neg Bool.false_ne_true (Ev.pos rfl (Ev.step (g := fun _ => some 32256) (fun k => ?_) (Ev.const _))), ?_, fun m e x => by simp at x⟩
          · simp only [impl_FSqrt.j0, nn, Option.bind_some]
            rfl
          · refine Ev.eq (g := fun k => spec_l4K_root.j0 k true 5 10 true true false 0 0) (fun k => rfl) (Ev.step (g := fun _ => some 32256) (fun k => ?_) (Ev.const _))
            simp only [spec_l4K_root.j0, sn, Option.bind_some]
            rfl
      · refine ⟨32256, Ev.pos rfl (Ev.const _), ?_, fun m e x => by simp at x⟩
        refine Ev.eq (g := fun k => spec_l4K_root.j0 k true 5 10 ng false true 0 0) (fun k => rfl) (Ev.step (g := fun _ => some 32256) (fun k => ?_) (Ev.const _))
        simp only [spec_l4K_root.j0, sn, Option.bind_some]
        rfl
    · rw [e]
      by_cases mz : m = 0
      · subst mz
        cases ng
        · refine ⟨0, Ev.neg Bool.false_ne_true (Ev.neg Bool.false_ne_true (Ev.step (g := fun _ => some 0) (fun k => ?_) (Ev.const _))), ?_, fun m e x h => by simp at x; omega⟩
          · simp only [impl_FSqrt.j0, sf, Option.bind_some]
            rfl
          · refine Ev.eq (g := fun k => spec_l4K_root.j0 k false 5 10 false false false 0 ee) (fun k => rfl) (Ev.step (g := fun _ => some 0) (fun k => ?_) (Ev.const _))
            simp only [spec_l4K_root.j0, tf, Option.bind_some]
            rfl
        · refine ⟨32768, Ev.neg Bool.false_ne_true (Ev.neg Bool.false_ne_true (Ev.step (g := fun _ => some 32768) (fun k => ?_) (Ev.const _))), ?_, fun m e x => by simp at x⟩
          · simp only [impl_FSqrt.j0, st, Option.bind_some]
            rfl
          · refine Ev.eq (g := fun k => spec_l4K_root.j0 k false 5 10 true false false 0 ee) (fun k => rfl) (Ev.step (g := fun _ => some 32768) (fun k => ?_) (Ev.const _))
            simp only [spec_l4K_root.j0, tt, Option.bind_some]
            rfl
      · have hz : (m == 0) = false := beq_eq_false_iff_ne.mpr mz
        have hn : (m != 0) = true := bne_iff_ne.mpr mz
        cases ng
        · obtain ⟨r, e1', R, M, s, g1, g2, g3⟩ := sqrt_core10 (m := m) (e := ee) (by omega) m1 e0 e1
          refine ⟨r, Ev.neg Bool.false_ne_true (Ev.neg Bool.false_ne_true ?_), Ev.eq (g := fun k => spec_l4K_root.j0 k false 5 10 false false false m ee) (fun k => rfl) g2, fun m' e' x _ => ?_⟩
          · show Ev (fun k => impl_FSqrt.j0 k (m == 0) 10 15 false false false m ee) r
            rw [hz]
            exact g1
          · simp only [Prod.mk.injEq, true_and] at x
            obtain ⟨rfl, rfl⟩ := x
            exact ⟨e1', R, M, s, g3⟩
        · refine ⟨32256, Ev.neg Bool.false_ne_true (Ev.neg Bool.false_ne_true ?_), ?_, fun m e x => by simp at x⟩
          · show Ev (fun k => impl_FSqrt.j0 k (m == 0) 10 15 true false false m ee) 32256
            rw [hz]
            refine Ev.step (g := fun _ => some 32256) (fun k => ?_) (Ev.const _)
            simp only [impl_FSqrt.j0, nn, Option.bind_some]
            rfl
          · refine Ev.eq (g := fun k => spec_l4K_root.j0 k (m != 0) 5 10 true false false m ee) (fun k => rfl) ?_
            rw [hn]
            refine Ev.step (g := fun _ => some 32256) (fun k => ?_) (Ev.const _)
            simp only [spec_l4K_root.j0, sn, Option.bind_some]
            rfl
  obtain ⟨r, g1, g2, g3⟩ := key
  refine ⟨r, ?_, ?_, g3⟩
  · refine Ev.eq (fun k => ?_) g1
    unfold impl_FSqrt.f
    simp only [fo, io, nn, Option.bind_some]
    rfl
  · refine Ev.eq (g := fun k => (spec_l4K_root.f k 5 10 (parts 1024 32 32768 (-24) a).1 (parts 1024 32 32768 (-24) a).2.2.1 (parts 1024 32 32768 (-24) a).2.1 (parts 1024 32 32768 (-24) a).2.2.2.1 (parts 1024 32 32768 (-24) a).2.2.2.2).bind fun t => some t) (fun k => ?_) (Ev.bind g2 (Ev.const _))
    unfold spec_FSqrt.f
    simp only [lk, so, Option.bind_some]
    rfl
theorem parts_ex23 {a : Int} (h0 : 0 ≤ a) : (∃ ng na : Bool, parts 8388608 256 2147483648 (-149) a = (ng, na, !na, 0, 0)) ∨ (∃ (ng : Bool) (m e : Int), parts 8388608 256 2147483648 (-149) a = (ng, false, false, m, e) ∧ 0 ≤ m ∧ m < 16777216 ∧ -149 ≤ e ∧ e ≤ 104) := by
  unfold parts
  by_cases c : a / 8388608 % 256 = 256 - 1
  · rw [if_pos c]
    refine Or.inl ⟨(a / 2147483648 % 2 == 1), (a % 8388608 != 0), ?_⟩
    have e : (a % 8388608 == 0) = !(a % 8388608 != 0) := by
      show _ = !(!(a % 8388608 == 0))
      rw [Bool.not_not]
    rw [e]
  · rw [if_neg c]
    by_cases d : a / 8388608 % 256 = 0
    · rw [if_pos d]
      exact Or.inr ⟨_, _, _, rfl, by omega, by omega, by omega, by omega⟩
    · rw [if_neg d]
      exact Or.inr ⟨_, _, _, rfl, by omega, by omega, by omega, by omega⟩
theorem sqrt_both32 {a : Int} (h0 : 0 ≤ a) (h1 : a < 4294967296) : ∃ r : Int, Ev (fun k => impl_FSqrt.f k 32 a) r ∧ Ev (fun k => spec_FSqrt.f k 32 a) r ∧
    (∀ m e : Int, parts 8388608 256 2147483648 (-149) a = (false, false, false, m, e) → 0 < m → ∃ (e1 R M : Int) (s : Nat), r = (29 + e1 + 127) * 8388608 + rq 64 32 R (R * R != M) - 8388608 ∧ e - s = 2 * e1 ∧ M = m * 2 ^ s ∧ 536870912 ≤ R ∧ R < 1073741824 ∧ R * R ≤ M ∧ M < (R + 1) * (R + 1) ∧ 35 ≤ s ∧ s ≤ 59) := by
  have io := implOpen23 h0 h1
  have so := specOpen23 h0 h1
  have fo : impl_formatOf.f 32 = some (23, 127, true) := by decide +kernel
  have lk : spec_l4Kind.f 32 = some (8, 23, true) := by decide +kernel
  have nn : impl_format_noNumber.f 23 127 = some 2143289344 := by decide +kernel
  have sn : spec_l4K_nan.f 8 23 = some 2143289344 := by decide +kernel
  have ii : impl_format_infinite.f 23 127 false = some 2139095040 := by decide +kernel
  have si : spec_l4K_inf.f 8 23 false = some 2139095040 := by decide +kernel
  have st : impl_format_signed.f 23 127 true 0 = some 2147483648 := by decide +kernel
  have sf : impl_format_signed.f 23 127 false 0 = some 0 := by decide +kernel
  have tt : spec_l4K_sign.f 8 23 true = some 2147483648 := by decide +kernel
  have tf : spec_l4K_sign.f 8 23 false = some 0 := by decide +kernel
  have key : ∃ r : Int, Ev (fun k => if (parts 8388608 256 2147483648 (-149) a).2.1 = true then some 2143289344 else (if (parts 8388608 256 2147483648 (-149) a).2.2.1 = true then impl_FSqrt.j0 k false 23 127 (parts 8388608 256 2147483648 (-149) a).1 (parts 8388608 256 2147483648 (-149) a).2.1 (parts 8388608 256 2147483648 (-149) a).2.2.1 (parts 8388608 256 2147483648 (-149) a).2.2.2.1 (parts 8388608 256 2147483648 (-149) a).2.2.2.2 else impl_FSqrt.j0 k ((parts 8388608 256 2147483648 (-149) a).2.2.2.1 == 0) 23 127 (parts 8388608 256 2147483648 (-149) a).1 (parts 8388608 256 2147483648 (-149) a).2.1 (parts 8388608 256 2147483648 (-149) a).2.2.1 (parts 8388608 256 2147483648 (-149) a).2.2.2.1 (parts 8388608 256 2147483648 (-149) a).2.2.2.2)) r ∧
      Ev (fun k => spec_l4K_root.f k 8 23 (parts 8388608 256 2147483648 (-149) a).1 (parts 8388608 256 2147483648 (-149) a).2.2.1 (parts 8388608 256 2147483648 (-149) a).2.1 (parts 8388608 256 2147483648 (-149) a).2.2.2.1 (parts 8388608 256 2147483648 (-149) a).2.2.2.2) r ∧
      (∀ m e : Int, parts 8388608 256 2147483648 (-149) a = (false, false, false, m, e) → 0 < m → ∃ (e1 R M : Int) (s : Nat), r = (29 + e1 + 127) * 8388608 + rq 64 32 R (R * R != M) - 8388608 ∧ e - s = 2 * e1 ∧ M = m * 2 ^ s ∧ 536870912 ≤ R ∧ R < 1073741824 ∧ R * R ≤ M ∧ M < (R + 1) * (R + 1) ∧ 35 ≤ s ∧ s ≤ 59) := by
    rcases parts_ex23 h0 with ⟨ng, na, e⟩ | ⟨ng, m, ee, e, m0, m1, e0, e1⟩
    · rw [e]
      cases na
      · cases ng
        · refine ⟨2139095040, Ev.neg Bool.false_ne_true (Ev.pos rfl (Ev.step (g := fun _ => some 2139095040) (fun k => ?_) (Ev.const _))), ?_, fun m e x => by simp at x⟩
          · simp only [impl_FSqrt.j0, ii, Option.bind_some]
            rfl
          · refine Ev.eq (g := fun k => spec_l4K_root.j0 k false 8 23 false true false 0 0) (fun k => rfl) (Ev.step (g := fun _ => some 2139095040) (fun k => ?_) (Ev.const _))
            simp only [spec_l4K_root.j0, si, Option.bind_some]
            rfl
        · refine ⟨2143289344, Ev.neg Bool.false_ne_true (Ev.pos rfl (Ev.step (g := fun _ => some 2143289344) (fun k => ?_) (Ev.const _))), ?_, fun m e x => by simp at x⟩
          · simp only [impl_FSqrt.j0, nn, Option.bind_some]
            rfl
          · refine Ev.eq (g := fun k => spec_l4K_root.j0 k true 8 23 true true false 0 0) (fun k => rfl) (Ev.step (g := fun _ => some 2143289344) (fun k => ?_) (Ev.const _))
            simp only [spec_l4K_root.j0, sn, Option.bind_some]
            rfl
      · refine ⟨2143289344, Ev.pos rfl (Ev.const _), ?_, fun m e x => by simp at x⟩
        refine Ev.eq (g := fun k => spec_l4K_root.j0 k true 8 23 ng false true 0 0) (fun k => rfl) (Ev.step (g := fun _ => some 2143289344) (fun k => ?_) (Ev.const _))
        simp only [spec_l4K_root.j0, sn, Option.bind_some]
        rfl
    · rw [e]
      by_cases mz : m = 0
      · subst mz
        cases ng
        · refine ⟨0, Ev.neg Bool.false_ne_true (Ev.neg Bool.false_ne_true (Ev.step (g := fun _ => some 0) (fun k => ?_) (Ev.const _))), ?_, fun m e x h => by simp at x; omega⟩
          · simp only [impl_FSqrt.j0, sf, Option.bind_some]
            rfl
          · refine Ev.eq (g := fun k => spec_l4K_root.j0 k false 8 23 false false false 0 ee) (fun k => rfl) (Ev.step (g := fun _ => some 0) (fun k => ?_) (Ev.const _))
            simp only [spec_l4K_root.j0, tf, Option.bind_some]
            rfl
        · refine ⟨2147483648, Ev.neg Bool.false_ne_true (Ev.neg Bool.false_ne_true (Ev.step (g := fun _ => some 2147483648) (fun k => ?_) (Ev.const _))), ?_, fun m e x => by simp at x⟩
          · simp only [impl_FSqrt.j0, st, Option.bind_some]
            rfl
          · refine Ev.eq (g := fun k => spec_l4K_root.j0 k false 8 23 true false false 0 ee) (fun k => rfl) (Ev.step (g := fun _ => some 2147483648) (fun k => ?_) (Ev.const _))
            simp only [spec_l4K_root.j0, tt, Option.bind_some]
            rfl
      · have hz : (m == 0) = false := beq_eq_false_iff_ne.mpr mz
        have hn : (m != 0) = true := bne_iff_ne.mpr mz
        cases ng
        · obtain ⟨r, e1', R, M, s, g1, g2, g3⟩ := sqrt_core23 (m := m) (e := ee) (by omega) m1 e0 e1
          refine ⟨r, Ev.neg Bool.false_ne_true (Ev.neg Bool.false_ne_true ?_), Ev.eq (g := fun k => spec_l4K_root.j0 k false 8 23 false false false m ee) (fun k => rfl) g2, fun m' e' x _ => ?_⟩
          · show Ev (fun k => impl_FSqrt.j0 k (m == 0) 23 127 false false false m ee) r
            rw [hz]
            exact g1
          · simp only [Prod.mk.injEq, true_and] at x
            obtain ⟨rfl, rfl⟩ := x
            exact ⟨e1', R, M, s, g3⟩
        · refine ⟨2143289344, Ev.neg Bool.false_ne_true (Ev.neg Bool.false_ne_true ?_), ?_, fun m e x => by simp at x⟩
          · show Ev (fun k => impl_FSqrt.j0 k (m == 0) 23 127 true false false m ee) 2143289344
            rw [hz]
            refine Ev.step (g := fun _ => some 2143289344) (fun k => ?_) (Ev.const _)
            simp only [impl_FSqrt.j0, nn, Option.bind_some]
            rfl
          · refine Ev.eq (g := fun k => spec_l4K_root.j0 k (m != 0) 8 23 true false false m ee) (fun k => rfl) ?_
            rw [hn]
            refine Ev.step (g := fun _ => some 2143289344) (fun k => ?_) (Ev.const _)
            simp only [spec_l4K_root.j0, sn, Option.bind_some]
            rfl
  obtain ⟨r, g1, g2, g3⟩ := key
  refine ⟨r, ?_, ?_, g3⟩
  · refine Ev.eq (fun k => ?_) g1
    unfold impl_FSqrt.f
    simp only [fo, io, nn, Option.bind_some]
    rfl
  · refine Ev.eq (g := fun k => (spec_l4K_root.f k 8 23 (parts 8388608 256 2147483648 (-149) a).1 (parts 8388608 256 2147483648 (-149) a).2.2.1 (parts 8388608 256 2147483648 (-149) a).2.1 (parts 8388608 256 2147483648 (-149) a).2.2.2.1 (parts 8388608 256 2147483648 (-149) a).2.2.2.2).bind fun t => some t) (fun k => ?_) (Ev.bind g2 (Ev.const _))
    unfold spec_FSqrt.f
    simp only [lk, so, Option.bind_some]
    rfl
end Go.Proofs.Ytdoflfifnkpacaa.FR
