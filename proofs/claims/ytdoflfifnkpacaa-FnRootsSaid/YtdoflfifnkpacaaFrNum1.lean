/-
  Plain laws behind FnRoots: roots of halves and singles.
-/
import Derived.Test.YtdoflfifnkpacaaFRx0
namespace Go.Proofs.Ytdoflfifnkpacaa.FR
open Go.RowKit Go.Proofs.YtdoflfifnkpacaaW.PrintWords Go.Proofs.YtdoflfifnkpacaaW.PrintLast Go.Proofs.YtdoflfifnkpacaaW.PrintMore
set_option linter.unusedSimpArgs false
set_option linter.unusedVariables false
/-- From some fuel on the answer is `r`. -/
def Ev {α : Type} (g : Nat → Option α) (r : α) : Prop := ∃ K, ∀ k, K ≤ k → g k = some r
theorem Ev.const {α : Type} (r : α) : Ev (fun _ => some r) r := ⟨0, fun _ _ => rfl⟩
theorem Ev.of {α : Type} {o : Option α} {r : α} (h : o = some r) : Ev (fun _ => o) r := ⟨0, fun _ _ => h⟩
theorem Ev.bind {α β : Type} {g : Nat → Option α} {h : Nat → α → Option β} {a : α} {r : β} (h1 : Ev g a) (h2 : Ev (fun k => h k a) r) : Ev (fun k => (g k).bind (h k)) r := by
  obtain ⟨K1, h1⟩ := h1
  obtain ⟨K2, h2⟩ := h2
  refine ⟨max K1 K2, fun k hk => ?_⟩
  show (g k).bind (h k) = _
  rw [h1 k (by omega)]
  exact h2 k (by omega)
theorem Ev.pos {α : Type} {c : Prop} [Decidable c] {g h : Nat → Option α} {r : α} (hc : c) (h1 : Ev g r) : Ev (fun k => if c then g k else h k) r := by
  obtain ⟨K, h1⟩ := h1
  exact ⟨K, fun k hk => by show (if c then g k else h k) = _; rw [if_pos hc]; exact h1 k hk⟩
theorem Ev.neg {α : Type} {c : Prop} [Decidable c] {g h : Nat → Option α} {r : α} (hc : ¬ c) (h1 : Ev h r) : Ev (fun k => if c then g k else h k) r := by
  obtain ⟨K, h1⟩ := h1
  exact ⟨K, fun k hk => by show (if c then g k else h k) = _; rw [if_neg hc]; exact h1 k hk⟩
theorem Ev.step {α : Type} {g g' : Nat → Option α} {r : α} (h : ∀ k, g' (k + 1) = g k) (h1 : Ev g r) : Ev g' r := by
  obtain ⟨K, h1⟩ := h1
  refine ⟨K + 1, fun k hk => ?_⟩
  obtain ⟨k, rfl⟩ : ∃ m, k = m + 1 := ⟨k - 1, by omega⟩
  rw [h]
  exact h1 k (by omega)
theorem Ev.eq {α : Type} {g g' : Nat → Option α} {r : α} (h : ∀ k, g' k = g k) (h1 : Ev g r) : Ev g' r := by
  obtain ⟨K, h1⟩ := h1
  exact ⟨K, fun k hk => by rw [h]; exact h1 k hk⟩
/-- From some fuel on the answer is the truth of `P`. -/
def EvB (g : Nat → Option Bool) (P : Prop) : Prop := ∃ b, (b = true ↔ P) ∧ Ev g b
theorem EvB.iff {g : Nat → Option Bool} {P Q : Prop} (h : EvB g P) (e : P ↔ Q) : EvB g Q := by
  obtain ⟨b, hb, hg⟩ := h
  exact ⟨b, hb.trans e, hg⟩
theorem EvB.step {g g' : Nat → Option Bool} {P : Prop} (h : ∀ k, g' (k + 1) = g k) (h1 : EvB g P) : EvB g' P := by
  obtain ⟨b, hb, hg⟩ := h1
  exact ⟨b, hb, hg.step h⟩
theorem EvB.eq {g g' : Nat → Option Bool} {P : Prop} (h : ∀ k, g' k = g k) (h1 : EvB g P) : EvB g' P := by
  obtain ⟨b, hb, hg⟩ := h1
  exact ⟨b, hb, hg.eq h⟩
theorem EvB.no {P : Prop} (h : ¬ P) : EvB (fun _ => some false) P := ⟨false, by simp [h], Ev.const _⟩
theorem EvB.yes {P : Prop} (h : P) : EvB (fun _ => some true) P := ⟨true, by simp [h], Ev.const _⟩
theorem EvB.both {g h : Nat → Option Bool} {P : Prop} (h1 : EvB g P) (h2 : EvB h P) : ∃ b, (b = true ↔ P) ∧ Ev g b ∧ Ev h b := by
  obtain ⟨b, hb, hg⟩ := h1
  obtain ⟨c, hc, hh⟩ := h2
  refine ⟨b, hb, hg, ?_⟩
  have : b = c := by
    cases b <;> cases c <;> simp_all
  exact this ▸ hh
theorem wrap_in {x : Int} (h0 : 0 ≤ x) (h : x ≤ 9223372036854775807) : wrap64 x = x := by
  unfold wrap64
  omega
theorem sub_len {α : Type} [DecidableEq α] : ∀ (A B : List α), A.Nodup → (∀ x ∈ A, x ∈ B) → A.length ≤ B.length
  | [], _, _, _ => Nat.zero_le _
  | a :: A, B, hn, hs => by
    have hA := sub_len A (B.erase a) (List.nodup_cons.mp hn).2 (fun x hx => by
      have hne : x ≠ a := fun e => (List.nodup_cons.mp hn).1 (e ▸ hx)
      exact (List.mem_erase_of_ne hne).mpr (hs x (List.mem_cons_of_mem _ hx)))
    have ha : a ∈ B := hs a (List.mem_cons_self ..)
    rw [List.length_erase_of_mem ha] at hA
    have := List.length_pos_of_mem ha
    simp only [List.length_cons]
    omega
theorem u64_id {n : Int} (h0 : 0 ≤ n) (h1 : n < 18446744073709551616) : IntKind.u64.wrap n = n := by
  have e : IntKind.u64.wrap n = n % 18446744073709551616 := by simp [IntKind.wrap, IntKind.bits, IntKind.signed]
  rw [e]
  omega
theorem u32_id {n : Int} (h0 : 0 ≤ n) (h1 : n < 4294967296) : IntKind.u32.wrap n = n := by
  have e : IntKind.u32.wrap n = n % 4294967296 := by simp [IntKind.wrap, IntKind.bits, IntKind.signed]
  rw [e]
  omega
theorem w64_id {n : Int} (h0 : -9223372036854775808 ≤ n) (h1 : n ≤ 9223372036854775807) : wrap64 n = n := by
  unfold wrap64
  omega
theorem and64 (n : Nat) (hn : n ≤ 64) {a : Int} (h0 : 0 ≤ a) (h1 : a < 18446744073709551616) : Go.bits .and .u64 a (2 ^ n - 1) = a % 2 ^ n :=
  bits_mask .u64 64 (by decide) (fun _ a b => u64_id a (by simpa using b)) n hn a h0 (by simpa using h1)
theorem and32 (n : Nat) (hn : n ≤ 32) {a : Int} (h0 : 0 ≤ a) (h1 : a < 4294967296) : Go.bits .and .u32 a (2 ^ n - 1) = a % 2 ^ n :=
  bits_mask .u32 32 (by decide) (fun _ a b => u32_id a (by simpa using b)) n hn a h0 (by simpa using h1)
theorem or32 (i : Nat) (hi : i ≤ 32) {x y : Int} (hx0 : 0 ≤ x) (hx : x % 2 ^ i = 0) (hx1 : x < 4294967296) (hy0 : 0 ≤ y) (hy : y < 2 ^ i) (hy1 : y < 4294967296) : Go.bits .or .u32 x y = x + y :=
  bits_join .u32 32 (by decide) (fun _ a b => u32_id a (by simpa using b)) i x y hx0 hx (by simpa using hx1) hy0 hy (by simpa using hy1)
theorem or64 (i : Nat) {x y : Int} (hx0 : 0 ≤ x) (hx : x % 2 ^ i = 0) (hx1 : x < 18446744073709551616) (hy0 : 0 ≤ y) (hy : y < 2 ^ i) (hy1 : y < 18446744073709551616) : Go.bits .or .u64 x y = x + y :=
  bits_join .u64 64 (by decide) (fun _ a b => u64_id a (by simpa using b)) i x y hx0 hx (by simpa using hx1) hy0 hy (by simpa using hy1)
theorem shl64 {x : Int} (n : Nat) (hn : n ≤ 64) (h0 : 0 ≤ x) (h1 : x * 2 ^ n < 18446744073709551616) : shl .u64 x (n : Int) = x * 2 ^ n := by
  unfold shl
  have e : min ((n : Int)).toNat IntKind.u64.bits = n := by
    rw [Int.toNat_natCast]
    exact Nat.min_eq_left (by simpa [IntKind.bits] using hn)
  rw [e]
  exact u64_id (Int.mul_nonneg h0 (Int.le_of_lt (Int.pow_pos (by decide)))) h1
theorem shr64 (x : Int) (n : Nat) (hn : n ≤ 64) : shr .u64 x (n : Int) = x / 2 ^ n := by
  unfold shr
  have e : min ((n : Int)).toNat IntKind.u64.bits = n := by
    rw [Int.toNat_natCast]
    exact Nat.min_eq_left (by simpa [IntKind.bits] using hn)
  rw [e]
theorem p2_pos (n : Nat) : (0 : Int) < 2 ^ n := Int.pow_pos (by decide)
theorem p2_succ (n : Nat) : (2 : Int) ^ (n + 1) = 2 * 2 ^ n := by rw [Int.pow_succ]; omega
/-- The last bit's place, of a number above nought. -/
def IsLen (m : Int) (L : Nat) : Prop := 1 ≤ L ∧ 2 ^ (L - 1) ≤ m ∧ m < 2 ^ L
end Go.Proofs.Ytdoflfifnkpacaa.FR
