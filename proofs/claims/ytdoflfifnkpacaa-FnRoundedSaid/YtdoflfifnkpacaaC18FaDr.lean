/-
  Plain laws behind FnRounded: sums, products and quotients of halves and singles.
-/
import Derived.Test.YtdoflfifnkpacaaC18FaO
namespace Go.Proofs.Ytdoflfifnkpacaa.FA
open Go.RowKit Go.Proofs.YtdoflfifnkpacaaW.PrintWords Go.Proofs.YtdoflfifnkpacaaW.PrintLast Go.Proofs.YtdoflfifnkpacaaW.PrintMore
set_option linter.unusedSimpArgs false
set_option linter.unusedVariables false
theorem u64_mask (y : Int) : 0 ≤ Go.bits .and .u64 (IntKind.u64.wrap y / 1099511627776) 255 ∧ Go.bits .and .u64 (IntKind.u64.wrap y / 1099511627776) 255 ≤ 255 := by
  have e : IntKind.u64.wrap y = y % 18446744073709551616 := by simp [IntKind.wrap, IntKind.bits, IntKind.signed]
  rw [e]
  have h0 : 0 ≤ y % 18446744073709551616 / 1099511627776 := by omega
  have h1 : y % 18446744073709551616 / 1099511627776 < 16777216 := by omega
  generalize y % 18446744073709551616 / 1099511627776 = x at h0 h1
  have hm : Go.bits .and .u64 x 255 = x % 256 := bits_mask .u64 24 (by decide) (fun n a b => by
    have e : IntKind.u64.wrap n = n % 18446744073709551616 := by simp [IntKind.wrap, IntKind.bits, IntKind.signed]
    rw [e]
    omega) 8 (by decide) x h0 h1
  omega
def Byt (code : List Int) : Prop := ∀ x ∈ code, 0 ≤ x ∧ x ≤ 255
theorem byt_rd {code : List Int} (hb : Byt code) (i : Int) : 0 ≤ rd code i ∧ rd code i ≤ 255 := by
  unfold rd
  rw [List.getD_eq_getElem?_getD]
  by_cases h : i.toNat < code.length
  · rw [List.getElem?_eq_getElem h, Option.getD_some]
    exact hb _ (List.getElem_mem _)
  · rw [List.getElem?_eq_none (by omega), Option.getD_none]
    omega
theorem next_ok {code : List Int} (hb : Byt code) (a s : Int) (h0 : 0 ≤ a) (h1 : a < 4611686018427387904) :
    ∃ r s', spec_l1Cur_next.f code a s = some (r, a + 1, s') ∧ 0 ≤ r ∧ r ≤ 255 := by
  unfold spec_l1Cur_next.f
  have hw : wrap64 (a + 1) = a + 1 := wrap_in (by omega) (by omega)
  have hr := byt_rd hb a
  rw [hw]
  have hm := fun y => u64_mask y
  have w2 : ∀ z : Int, 0 ≤ z ∧ z ≤ 255 → wrap64 z = z := fun z hz => wrap_in (by omega) (by omega)
  repeat' split
  all_goals first
    | exact ⟨_, _, rfl, by rw [w2 _ hr]; exact hr.1, by rw [w2 _ hr]; exact hr.2⟩
    | exact ⟨_, _, rfl, by rw [w2 _ (hm _)]; exact (hm _).1, by rw [w2 _ (hm _)]; exact (hm _).2⟩
    | exact ⟨_, _, rfl, by decide, by decide⟩
    | omega
theorem pick_ok {code : List Int} (hb : Byt code) (a s n : Int) (h0 : 0 ≤ a) (h1 : a < 4611686018427387900) :
    ∃ r a' s', spec_l1Cur_pick.f code a s n = some (r, a', s') ∧ 0 ≤ r ∧ (1 ≤ n → r < n) ∧ a ≤ a' ∧ a' ≤ a + 2 := by
  unfold spec_l1Cur_pick.f
  by_cases c : n ≤ 1
  · rw [if_pos c]
    exact ⟨_, _, _, rfl, by omega, by omega, by omega, by omega⟩
  · rw [if_neg c]
    obtain ⟨r, s1, e, r0, r1⟩ := next_ok hb a s h0 (by omega)
    rw [e, Option.bind_some]
    dsimp only
    by_cases d : n > 200
    · rw [if_pos d]
      obtain ⟨q, s2, e2, q0, q1⟩ := next_ok hb (a + 1) s1 (by omega) (by omega)
      rw [e2, Option.bind_some, if_neg (by omega)]
      dsimp only
      have w1 : wrap64 (r * 256) = r * 256 := wrap_in (by omega) (by omega)
      have w2 : wrap64 (r * 256 + q) = r * 256 + q := wrap_in (by omega) (by omega)
      rw [w1, w2]
      exact ⟨_, _, _, rfl, Int.tmod_nonneg _ (by omega), fun _ => Int.tmod_lt_of_pos _ (by omega), by omega, by omega⟩
    · rw [if_neg d, if_neg (by omega)]
      exact ⟨_, _, _, rfl, Int.tmod_nonneg _ r0, fun _ => Int.tmod_lt_of_pos _ (by omega), by omega, by omega⟩
theorem one_ok {code : List Int} (hb : Byt code) (a s n : Int) (h0 : 0 ≤ a) (h1 : a < 4611686018427387900) :
    ∃ r a' s', spec_l1Cur_one.f code a s n = some (r, a', s') ∧ a ≤ a' ∧ a' ≤ a + 2 := by
  unfold spec_l1Cur_one.f
  obtain ⟨r, a', s', e, _, _, x, y⟩ := pick_ok hb a s n h0 h1
  rw [e]
  exact ⟨_, _, _, rfl, x, y⟩
theorem among_ok {code : List Int} (hb : Byt code) (a s : Int) (l : List Int) (hl : 0 < l.length) (h0 : 0 ≤ a) (h1 : a < 4611686018427387900) :
    ∃ r a' s', spec_l1Cur_among.f code a s l = some (r, a', s') ∧ r ∈ l ∧ a ≤ a' ∧ a' ≤ a + 2 := by
  unfold spec_l1Cur_among.f
  obtain ⟨r, a', s', e, q0, q1, x, y⟩ := pick_ok hb a s (l.length : Int) h0 h1
  rw [e, Option.bind_some]
  dsimp only
  have q2 := q1 (by omega)
  rw [if_pos q0, if_pos q2]
  refine ⟨_, _, _, rfl, ?_, x, y⟩
  unfold rd
  rw [List.getD_eq_getElem?_getD, List.getElem?_eq_getElem (by omega), Option.getD_some]
  exact List.getElem_mem _
theorem wide_ok {code : List Int} (hb : Byt code) : ∀ (n : Nat) (x i a s : Int), 0 ≤ i → i + n = 8 → 0 ≤ a → a + n < 4611686018427387904 → ∃ r a' s', Ev (fun k => spec_l1Cur_wide.l0 k x i code a s) (r, a', s') ∧ a ≤ a' ∧ a' ≤ a + n
  | 0, x, i, a, s, i0, h, h0, h1 => by
    refine ⟨x, a, s, Ev.step (g := fun _ => some (x, a, s)) (fun k => ?_) (Ev.const _), by omega, by omega⟩
    simp only [spec_l1Cur_wide.l0]
    rw [if_neg (by omega)]
  | n + 1, x, i, a, s, i0, h, h0, h1 => by
    obtain ⟨r, s1, e, r0, r1⟩ := next_ok hb a s h0 (by omega)
    have w1 : wrap64 (i + 1) = i + 1 := wrap_in (by omega) (by omega)
    obtain ⟨r', a', s', hE, x1, x2⟩ := wide_ok hb n (Go.bits .or .i64 (wrap64 (x * 256)) r) (i + 1) (a + 1) s1 (by omega) (by omega) (by omega) (by omega)
    refine ⟨r', a', s', Ev.step (fun k => ?_) hE, by omega, by omega⟩
    simp only [spec_l1Cur_wide.l0]
    rw [if_pos (by omega), e, Option.bind_some, w1]
theorem kind_ok {code : List Int} (hb : Byt code) : ∃ q a s, spec_l1Cur_kind.f code 0 0 = some (q, a, s) ∧ (q = 16 ∨ q = 32 ∨ q = 64) ∧ 0 ≤ a ∧ a ≤ 4 := by
  unfold spec_l1Cur_kind.f
  obtain ⟨b, a1, s1, e1, x1, y1⟩ := one_ok hb 0 0 40 (by omega) (by omega)
  rw [e1, Option.bind_some]
  dsimp only
  cases b with
  | true => exact ⟨64, a1, s1, by rw [if_pos rfl], by simp, by omega, by omega⟩
  | false =>
    obtain ⟨r, a2, s2, e2, r0, r1, x2, y2⟩ := pick_ok hb a1 s1 2 (by omega) (by omega)
    rw [if_neg (by decide), e2, Option.bind_some]
    dsimp only
    have r2 := r1 (by omega)
    refine ⟨_, _, _, rfl, ?_, by omega, by omega⟩
    have : r = 0 ∨ r = 1 := by omega
    rcases this with rfl | rfl
    · exact Or.inl (by decide +kernel)
    · exact Or.inr (Or.inl (by decide +kernel))
def ofIntOk (x p n : Int) : Bool := match spec_l4K_ofInt.f 90 x p n with
  | some r => decide (0 ≤ r) && decide (r < 4294967296)
  | none => false
theorem ofInt16 : ∀ i : Fin 300, ofIntOk 5 10 ((i.val : Int) - 100) = true := by decide +kernel
theorem ofInt32 : ∀ i : Fin 300, ofIntOk 8 23 ((i.val : Int) - 100) = true := by decide +kernel
theorem ofInt_of {x p n : Int} (h : ofIntOk x p n = true) : ∃ r, Ev (fun k => spec_l4K_ofInt.f k x p n) r ∧ 0 ≤ r ∧ r < 4294967296 := by
  unfold ofIntOk at h
  cases e : spec_l4K_ofInt.f 90 x p n with
  | none => rw [e] at h; cases h
  | some r =>
    rw [e] at h
    simp only [Bool.and_eq_true, decide_eq_true_eq] at h
    have m : ∀ d : Nat, spec_l4K_ofInt.f (90 + d) x p n = some r := by
      intro d
      induction d with
      | zero => exact e
      | succ d ih => exact spec_l4K_ofInt.mono _ _ _ (90 + d) _ ih
    exact ⟨r, ⟨90, fun k hk => by obtain ⟨d, rfl⟩ : ∃ d, k = 90 + d := ⟨k - 90, by omega⟩; exact m d⟩, h⟩
def InU (r : Int) : Prop := 0 ≤ r ∧ r < 4294967296
theorem float_j {code : List Int} (hb : Byt code) (q x c a s : Int) (t : Bool) (hq : q = 16 ∨ q = 32 ∨ q = 64) (hx : InU x) (h0 : 0 ≤ a) (h1 : a ≤ 1000) :
    ∃ r a' s', Ev (fun k => spec_l1Cur_float.j0 k q x c t code a s) (r, a', s') ∧ InU r ∧ 0 ≤ a' ∧ a' ≤ a + 8 := by
  cases t with
  | true =>
    have go : ∀ y z : Int, spec_l4Kind.f q = some (y, z, true) → (∀ i : Fin 300, ofIntOk y z ((i.val : Int) - 100) = true) → ∃ r a' s', Ev (fun k => spec_l1Cur_float.j0 k q x c true code a s) (r, a', s') ∧ InU r ∧ 0 ≤ a' ∧ a' ≤ a + 8 := by
      intro y z hk ho
      obtain ⟨n, a1, s1, e, n0, n1, x1, y1⟩ := pick_ok hb a s 300 h0 (by omega)
      have n2 := n1 (by omega)
      have w1 : wrap64 (n - 100) = n - 100 := by unfold wrap64; omega
      have hh := ho ⟨n.toNat, by omega⟩
      have e2 : ((n.toNat : Nat) : Int) = n := by omega
      obtain ⟨r, hr, r0, r1⟩ := ofInt_of (x := y) (p := z) (n := n - 100) (by rw [← hh]; show _ = ofIntOk y z ((n.toNat : Int) - 100); rw [e2])
      refine ⟨r, a1, s1, Ev.step (g := fun k => (spec_l4K_ofInt.f k y z (n - 100)).bind fun t => some (t, a1, s1)) (fun k => ?_) (Ev.bind hr (Ev.const _)), ⟨r0, r1⟩, by omega, by omega⟩
      simp only [spec_l1Cur_float.j0, hk, e, Option.bind_some, w1, if_true]
    rcases hq with rfl | rfl | rfl
    · exact go 5 10 (by decide +kernel) ofInt16
    · exact go 8 23 (by decide +kernel) ofInt32
    · have hk : spec_l4Kind.f 64 = some (0, 0, false) := by decide +kernel
      refine ⟨x, a, s, Ev.step (g := fun _ => some (x, a, s)) (fun k => ?_) (Ev.const _), hx, h0, by omega⟩
      simp only [spec_l1Cur_float.j0, hk, Option.bind_some, if_true]
      rfl
  | false =>
    by_cases c3 : c = 3
    · obtain ⟨r, a1, s1, hE, x1, y1⟩ := wide_ok hb 8 0 0 a s (by omega) (by omega) h0 (by omega)
      have hE' : Ev (fun k => spec_l1Cur_wide.f k code a s) (r, a1, s1) := hE
      by_cases c4 : q = 32
      · refine ⟨_, a1, s1, Ev.step (g := fun k => (spec_l1Cur_wide.f k code a s).bind fun bt => some ((1056964608 + (Go.bits .and .u32 (bt.1 % 4294967296) 33554431)) % 4294967296, bt.2.1, bt.2.2)) (fun k => ?_) (Ev.bind hE' (Ev.const _)), ⟨by omega, by omega⟩, by omega, by omega⟩
        simp only [spec_l1Cur_float.j0]
        rw [if_neg (by decide), if_pos c3, if_pos c4]
      · refine ⟨_, a1, s1, Ev.step (g := fun k => (spec_l1Cur_wide.f k code a s).bind fun bt => some ((14336 + (Go.bits .and .u32 (bt.1 % 4294967296) 4095)) % 4294967296, bt.2.1, bt.2.2)) (fun k => ?_) (Ev.bind hE' (Ev.const _)), ⟨by omega, by omega⟩, by omega, by omega⟩
        simp only [spec_l1Cur_float.j0]
        rw [if_neg (by decide), if_pos c3, if_neg c4]
    · refine ⟨x, a, s, Ev.step (g := fun _ => some (x, a, s)) (fun k => ?_) (Ev.const _), hx, h0, by omega⟩
      simp only [spec_l1Cur_float.j0]
      rw [if_neg (by decide), if_neg c3]
theorem float_ok {code : List Int} (hb : Byt code) (q a s : Int) (hq : q = 16 ∨ q = 32 ∨ q = 64) (h0 : 0 ≤ a) (h1 : a ≤ 200) :
    ∃ r a' s', Ev (fun k => spec_l1Cur_float.f k code a s q) (r, a', s') ∧ InU r ∧ 0 ≤ a' ∧ a' ≤ a + 40 := by
  obtain ⟨x, a1, s1, hE, x1, y1⟩ := wide_ok hb 8 0 0 a s (by omega) (by omega) h0 (by omega)
  have hE' : Ev (fun k => spec_l1Cur_wide.f k code a s) (x, a1, s1) := hE
  obtain ⟨c, a2, s2, e2, c0, c1, x2, y2⟩ := pick_ok hb a1 s1 8 (by omega) (by omega)
  have xm : InU (x % 4294967296) := ⟨by omega, by omega⟩
  by_cases d0 : c = 0
  · obtain ⟨r3, a3, s3, e3, m3, x3, y3⟩ := among_ok hb a2 s2 ([0, 1, 15360, 31743, 31744, 32256, 32768, 1024, 1023, 64512] : List Int) (by decide) (by omega) (by omega)
    by_cases d1 : q = 32
    · obtain ⟨r4, a4, s4, e4, m4, x4, y4⟩ := among_ok hb a3 s3 ([0, 1, 1065353216, 2139095039, 2139095040, 2143289344, 2147483648, 8388608, 8388607, 4286578688] : List Int) (by decide) (by omega) (by omega)
      refine ⟨r4 % 4294967296, a4, s4, Ev.bind hE' (Ev.eq (g := fun _ => some (r4 % 4294967296, a4, s4)) (fun k => ?_) (Ev.const _)), ⟨by omega, by omega⟩, by omega, by omega⟩
      dsimp only
      rw [e2, Option.bind_some, if_pos d0]
      dsimp only
      rw [e3, Option.bind_some, if_pos d1]
      dsimp only
      rw [e4, Option.bind_some]
    · refine ⟨r3 % 4294967296, a3, s3, Ev.bind hE' (Ev.eq (g := fun _ => some (r3 % 4294967296, a3, s3)) (fun k => ?_) (Ev.const _)), ⟨by omega, by omega⟩, by omega, by omega⟩
      dsimp only
      rw [e2, Option.bind_some, if_pos d0]
      dsimp only
      rw [e3, Option.bind_some, if_neg d1]
  · by_cases d1 : c = 1
    · obtain ⟨r, a', s', hF, u, v, w⟩ := float_j hb q (x % 4294967296) c a2 s2 (c == 1) hq xm (by omega) (by omega)
      refine ⟨r, a', s', Ev.bind hE' (Ev.eq (fun k => ?_) hF), u, v, by omega⟩
      dsimp only
      rw [e2, Option.bind_some, if_neg d0, if_pos d1]
    · obtain ⟨r, a', s', hF, u, v, w⟩ := float_j hb q (x % 4294967296) c a2 s2 (c == 2) hq xm (by omega) (by omega)
      refine ⟨r, a', s', Ev.bind hE' (Ev.eq (fun k => ?_) hF), u, v, by omega⟩
      dsimp only
      rw [e2, Option.bind_some, if_neg d0, if_neg d1]
theorem draw_ok {code : List Int} (hb : Byt code) : ∃ q x y, Ev (fun k => spec_DrawFAdd.f k code) (q, x, y) ∧ (q = 16 ∨ q = 32 ∨ q = 64) ∧ InU x ∧ InU y := by
  obtain ⟨q, a, s, e1, hq, a0, a1⟩ := kind_ok hb
  obtain ⟨x, b, s1, hF, hx, u, v⟩ := float_ok hb q a s hq a0 (by omega)
  obtain ⟨y, c, s2, hG, hy, u2, v2⟩ := float_ok hb q b s1 hq u (by omega)
  obtain ⟨o, d, s3, e4, _, _, _, _⟩ := pick_ok hb c s2 8 (by omega) (by omega)
  have m0 : InU (Go.bits .xor .u32 x 1) := by
    have h := xorbit 0 (by decide) hx.1 hx.2
    obtain ⟨p, r⟩ := hx
    have e : (2 : Int) ^ 0 = 1 := by decide
    rw [e] at h
    rw [h]
    unfold InU
    split <;> omega
  have m15 : InU (Go.bits .xor .u32 x 32768) := by
    have h := xorbit 15 (by decide) hx.1 hx.2
    obtain ⟨p, r⟩ := hx
    have e : (2 : Int) ^ 15 = 32768 := by decide
    rw [e] at h
    rw [h]
    unfold InU
    split <;> omega
  have m31 : InU (Go.bits .xor .u32 x 2147483648) := by
    have h := xorbit 31 (by decide) hx.1 hx.2
    obtain ⟨p, r⟩ := hx
    have e : (2 : Int) ^ 31 = 2147483648 := by decide
    rw [e] at h
    rw [h]
    unfold InU
    split <;> omega
  have mz : InU (Go.bits .xor .u32 x 0) := by
    obtain ⟨p, r⟩ := hx
    obtain ⟨n, rfl⟩ := Int.eq_ofNat_of_zero_le p
    have h32 : n % 2 ^ 32 = n := Nat.mod_eq_of_lt (by have : (2 : Nat) ^ 32 = 4294967296 := by decide
                                                      omega)
    have : Go.bits .xor .u32 (n : Int) 0 = n := by
      have e0 : (0 : Int) = ((0 : Nat) : Int) := rfl
      rw [e0]
      simp only [Go.bits, BitVec.ofInt_natCast, BitVec.toNat_xor, BitVec.toNat_ofNat, show IntKind.u32.bits = 32 from rfl, h32, Nat.zero_mod, Nat.xor_zero]
      exact u32_id p r
    rw [this]
    exact ⟨p, r⟩
  have key : ∃ z, spec_DrawFAdd.pickB q x y o = some (q, x, z) ∧ InU z := by
    unfold spec_DrawFAdd.pickB
    by_cases c0 : o = 0
    · rw [if_pos c0]
      exact ⟨_, rfl, m0⟩
    · rw [if_neg c0]
      by_cases c1 : o = 1
      · rw [if_pos c1]
        rcases hq with rfl | rfl | rfl
        · exact ⟨_, rfl, m15⟩
        · exact ⟨_, rfl, m31⟩
        · exact ⟨_, rfl, mz⟩
      · rw [if_neg c1]
        exact ⟨_, rfl, hy⟩
  obtain ⟨z, hz, hz2⟩ := key
  refine ⟨q, x, z, Ev.eq (g := fun k => (spec_l1Cur_float.f k code a s q).bind fun a => (spec_l1Cur_float.f k code a.2.1 a.2.2 q).bind fun b => (spec_l1Cur_pick.f code b.2.1 b.2.2 8).bind fun o => spec_DrawFAdd.pickB q a.1 b.1 o.1) (fun k => ?_) (Ev.bind hF (Ev.bind hG (Ev.of ?_))), hq, hx, hz2⟩
  · unfold spec_DrawFAdd.f
    rw [e1, Option.bind_some]
  · dsimp only
    rw [e4, Option.bind_some]
    exact hz
end Go.Proofs.Ytdoflfifnkpacaa.FA
