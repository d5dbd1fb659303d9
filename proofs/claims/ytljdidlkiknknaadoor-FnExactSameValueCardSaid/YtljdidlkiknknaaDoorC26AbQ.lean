/-
  What a call does, told without addresses: a state, steps, and that the code follows them.
-/
import Derived.Test.YtljdidlkiknknaaDoorC26AbP
namespace Go.Proofs.YtljdidlkiknknaaDoor.AB
open Go Go.RowKit Go.Proofs.YtljdidlkiknknaaDoorW.PrintWords Go.Proofs.YtljdidlkiknknaaDoorW.PrintMore
set_option linter.unusedSimpArgs false
set_option linter.unusedVariables false
theorem sEmptyL0 (N : Nat) (t : Sh) (v : Dt) (self : Sh → Dt → Option Bool) (n : Nat) (hn : 0 < n) : l12Fits.L0 N t v self n [] 0 0 = some true := by
  obtain ⟨n, rfl⟩ : ∃ n', n = n' + 1 := ⟨n - 1, by omega⟩
  rw [l12Fits.L0]
  rfl
/-- A kind without parts, whose numbers lie between bounds. -/
theorem simple (N : Nat) (hN : 0 < N) (t : Sh) (d : Dt) (lo hi : Int) (hb : l12Bounds.sem N t = some (lo, hi)) (h12 : (t.kind == 12) = false) (h10 : (t.kind == 10) = false) (h11 : (t.kind == 11) = false) (h13 : (t.kind == 13) = false) (h14 : (t.kind == 14) = false) (hc : chosen.sem N t = some false) (hk : l12Kids.sem N t d = some [])
    (hn : numberOk.sem N t d.n = some (decide (lo ≤ d.n) && decide (d.n ≤ hi))) : ∃ b, fits.sem (N + 1) t d = some b ∧ l12Fits.sem (N + 1) t d = some b := by
  have h12' : (t.kind != 12) = true := by rw [bne, h12]; rfl
  rw [fits.sem, l12Fits.sem]
  simp only [h12, h12', h10, h11, h13, h14, hc, hk, hn, hb, sIn, Option.bind_some, cond_false, cond_true, List.length_map, List.length_nil]
  cases (d.text.toList == (⟨#[]⟩ : ByteArray).toList) with
  | false =>
    refine ⟨false, rfl, ?_⟩
    cases (decide (lo ≤ d.n) && decide (d.n ≤ hi)) <;> rfl
  | true =>
    by_cases hz : d.kids.length = 0
    · have e1 : ((d.kids.length : Int) == 0) = true := by simpa using hz
      have e2 : (((0 : Nat) : Int) != (d.kids.length : Int)) = false := by rw [hz]; rfl
      rw [e1, e2]
      have hs := sEmptyL0 N t d (l12Fits.sem N) N hN
      cases (decide (lo ≤ d.n) && decide (d.n ≤ hi)) with
      | false => exact ⟨false, rfl, rfl⟩
      | true => exact ⟨true, rfl, hs⟩
    · have e1 : ((d.kids.length : Int) == 0) = false := by simpa using hz
      have e2 : (((0 : Nat) : Int) != (d.kids.length : Int)) = true := by
        rw [bne, Bool.not_eq_true']
        simp
        omega
      rw [e1, e2]
      refine ⟨false, rfl, ?_⟩
      cases (decide (lo ≤ d.n) && decide (d.n ≤ hi)) <;> rfl
theorem bne_len {a b : Nat} (h : a = b) : ((a : Int) != (b : Int)) = false := by subst h; simp [bne]
theorem bne_len' {a b : Nat} (h : a ≠ b) : ((a : Int) != (b : Int)) = true := by
  rw [bne, Bool.not_eq_true', beq_eq_false_iff_ne]
  omega
theorem beq_len {a b : Nat} (h : a = b) : ((a : Int) == (b : Int)) = true := by subst h; simp
theorem beq_len' {a b : Nat} (h : a ≠ b) : ((a : Int) == (b : Int)) = false := by
  rw [beq_eq_false_iff_ne]
  omega
theorem p2 {k : Nat} (hk : k ≤ 32) : 1 ≤ (2 : Int) ^ k ∧ (2 : Int) ^ k ≤ 4294967296 := by
  have h1 := Nat.pow_le_pow_right (n := 2) (by decide) hk
  have h2 := Nat.one_le_two_pow (n := k)
  have e : (2 : Int) ^ k = ((2 ^ k : Nat) : Int) := by simp
  rw [e]
  generalize 2 ^ k = m at *
  omega
theorem fits_eq (hT : TextEq) (hC : CanonEq) {t : Sh} (ht : WT t) : ∀ {d : Dt}, VT d → ∃ K, ∀ N, K ≤ N → ∃ b, fits.sem N t d = some b ∧ l12Fits.sem N t d = some b := by
  induction ht with
  | @mk kind n kids hk hp hn h ih =>
    intro d hd
    cases hd with
    | @mk dn text dk hdn hdl hdk =>
    obtain ⟨KT, hKT⟩ := hT text
    -- what is known of the parts
    obtain ⟨K, hK⟩ : ∃ K, ∀ N, K ≤ N → ∀ a ∈ kids, ∀ b ∈ dk, ∃ r, fits.sem N a b = some r ∧ l12Fits.sem N a b = some r :=
      common (fun a N => ∀ b ∈ dk, ∃ r, fits.sem N a b = some r ∧ l12Fits.sem N a b = some r) kids fun a ha => common (fun b N => ∃ r, fits.sem N a b = some r ∧ l12Fits.sem N a b = some r) dk fun b hb => ih a ha (hdk b hb)
    refine ⟨max K KT + 2000, fun N' hN' => ?_⟩
    obtain ⟨N, rfl⟩ : ∃ N, N' = N + 1 := ⟨N' - 1, by omega⟩
    have hNK := hK N (by omega)
    obtain ⟨bt, yt, ht1, ht2, ht3⟩ := hKT N (by omega)
    have hf : ∀ a ∈ kids, ∀ b ∈ dk, fits.sem N a b = some ((fits.sem N a b).getD false) ∧ l12Fits.sem N a b = some ((fits.sem N a b).getD false) := fun a ha b hb => by
      obtain ⟨r, h1, h2⟩ := hNK a ha b hb
      rw [h1, h2]
      exact ⟨rfl, rfl⟩
    generalize hfd : (fun a b => (fits.sem N a b).getD false) = f at *
    have hf : ∀ a ∈ kids, ∀ b ∈ dk, fits.sem N a b = some (f a b) ∧ l12Fits.sem N a b = some (f a b) := fun a ha b hb => by
      have := hf a ha b hb
      rw [← hfd]
      exact this
    clear hfd
    have hkl : kids.length ≤ 1000 := by
      have h1 := hp.2
      have h2 : (shp kind).2.1 ≤ 8 := by
        unfold shp l11Shape.sem
        cases (kind == 13) <;> cases (kind == 17) <;> cases (kind == 14) <;> cases (kind == 15) <;> cases (kind == 18) <;> cases (kind == 16) <;> cases (kind == 19) <;> cases (kind == 20) <;> cases (kind == 21) <;> simp
      omega
    have N0 : 0 < N := by omega
    by_cases k12 : kind = 12
    · subst k12
      rw [fits.sem, l12Fits.sem]
      simp only [l12Bounds.sem, l12Kids.sem, sIn, show ((12 : Int) == 12) = true from rfl, show ((12 : Int) != 12) = false from rfl, show ((12 : Int) == 1) = false from rfl, show ((12 : Int) == 17) = false from rfl, show ((12 : Int) == 18) = false from rfl, show ((12 : Int) == 2) = false from rfl, show ((12 : Int) == 3) = false from rfl, show ((12 : Int) == 4) = false from rfl, show ((12 : Int) == 5) = false from rfl, show ((12 : Int) == 6) = false from rfl, show ((12 : Int) == 10) = false from rfl, show ((12 : Int) == 7) = false from rfl, show ((12 : Int) == 8) = false from rfl, show ((12 : Int) == 9) = false from rfl, show ((12 : Int) == 11) = false from rfl, show ((12 : Int) == 15) = false from rfl, show ((12 : Int) == 16) = false from rfl, show ((12 : Int) == 19) = false from rfl, show ((12 : Int) == 20) = false from rfl, show ((12 : Int) == 21) = false from rfl, show ((12 : Int) == 13) = false from rfl, show ((12 : Int) == 14) = false from rfl, cond_true, cond_false, Option.bind_some, ht1, ht2, List.length_map, List.length_nil]
      have hs := sEmptyL0 N ⟨12, n, kids⟩ ⟨dn, text, dk⟩ (l12Fits.sem N) N N0
      by_cases hz : dn = 0
      · subst hz
        simp only [show ((0 : Int) == 0) = true from rfl, show (decide ((0 : Int) ≤ 0) && decide ((0 : Int) ≤ 0)) = true from rfl, cond_true, Bool.not_true, cond_false]
        by_cases hdz : dk.length = 0
        · rw [show ((dk.length : Int) == 0) = true from beq_len hdz, show (((0 : Nat) : Int) != (dk.length : Int)) = false from bne_len hdz.symm]
          refine ⟨bt, rfl, ?_⟩
          rw [ht3]
          cases yt.2 with
          | false => rfl
          | true =>
            by_cases h2 : text.size ≤ 200
            · simp only [Bool.not_true, cond_false, show decide ((text.size : Int) > 200) = false by simp; omega, show decide ((text.size : Int) ≤ 200) = true by simp; omega]
              exact hs
            · simp only [Bool.not_true, cond_false, show decide ((text.size : Int) > 200) = true by simp; omega, show decide ((text.size : Int) ≤ 200) = false by simp; omega]
              rfl
        · rw [show ((dk.length : Int) == 0) = false from beq_len' hdz, show (((0 : Nat) : Int) != (dk.length : Int)) = true from bne_len' (Ne.symm hdz)]
          refine ⟨false, rfl, ?_⟩
          cases yt.2 <;> cases decide ((text.size : Int) > 200) <;> rfl
      · have e1 : (dn == 0) = false := by simpa using hz
        have e2 : (decide ((0 : Int) ≤ dn) && decide (dn ≤ 0)) = false := by simp; omega
        rw [e1, e2]
        exact ⟨false, rfl, rfl⟩
    have c12 : (kind == 12) = false := by simpa using k12
    have c12' : (kind != 12) = true := by simpa using k12
    by_cases k13 : kind = 13
    · subst k13
      have hkn : kids.length = 1 := by
        have h1 := hp.1
        have h2 := hp.2
        simp [shp, l11Shape.sem] at h1 h2
        omega
      obtain ⟨t0, rfl⟩ := List.length_eq_one_iff.mp hkn
      rw [fits.sem, l12Fits.sem]
      have hk0 := sKidsL0 N ⟨13, n, [t0]⟩ ⟨dn, text, dk⟩ t0 rfl hdl dk.length N 0 (by simp) (by omega)
      rw [List.replicate_zero, show ((0 : Nat) : Int) = 0 from rfl] at hk0
      simp only [l12Bounds.sem, l12Kids.sem, chosen.sem, sIn, show ((13 : Int) == 12) = false from rfl, show ((13 : Int) != 12) = true from rfl, show ((13 : Int) == 1) = false from rfl, show ((13 : Int) == 17) = false from rfl, show ((13 : Int) == 18) = false from rfl, show ((13 : Int) == 2) = false from rfl, show ((13 : Int) == 3) = false from rfl, show ((13 : Int) == 4) = false from rfl, show ((13 : Int) == 5) = false from rfl, show ((13 : Int) == 6) = false from rfl, show ((13 : Int) == 10) = false from rfl, show ((13 : Int) == 7) = false from rfl, show ((13 : Int) == 8) = false from rfl, show ((13 : Int) == 9) = false from rfl, show ((13 : Int) == 11) = false from rfl, show ((13 : Int) == 15) = false from rfl, show ((13 : Int) == 16) = false from rfl, show ((13 : Int) == 19) = false from rfl, show ((13 : Int) == 20) = false from rfl, show ((13 : Int) == 21) = false from rfl, show ((13 : Int) == 13) = true from rfl, show ((13 : Int) == 14) = false from rfl, cond_true, cond_false, Option.bind_some, List.length_map, hk0]
      cases (text.toList == (⟨#[]⟩ : ByteArray).toList) with
      | false =>
        refine ⟨false, rfl, ?_⟩
        cases (decide ((0 : Int) ≤ dn) && decide (dn ≤ 0)) <;> rfl
      | true =>
        by_cases hz : dn = 0
        · subst hz
          simp only [show ((0 : Int) == 0) = true from rfl, show (decide ((0 : Int) ≤ 0) && decide ((0 : Int) ≤ 0)) = true from rfl, cond_true, Bool.not_true, cond_false, List.length_replicate]
          rw [show ((dk.length : Int) != (dk.length : Int)) = false from bne_len rfl]
          obtain ⟨x, hx1, hx2⟩ := iAnyL0 N (fits.sem N) f dk ⟨13, n, [t0]⟩ t0 rfl hdl (fun b hb => (hf t0 (by simp) b hb).1) dk.length N 0 (by simp) (by omega)
          rw [show ((0 : Nat) : Int) = 0 from rfl] at hx1
          have hss := sFitsL0 N ⟨13, n, [t0]⟩ ⟨0, text, dk⟩ (l12Fits.sem N) f (List.replicate dk.length t0) (by simp) (by simpa using hdl) (fun j a b ha hb => by
            have ha' := List.eq_of_mem_replicate (List.mem_of_getElem? ha)
            subst ha'
            exact (hf _ (by simp) b (List.mem_of_getElem? hb)).2) dk.length N 0 (by simp) (by omega)
          rw [List.length_replicate, List.drop_zero, List.drop_zero, show ((0 : Nat) : Int) = 0 from rfl] at hss
          refine ⟨dk.all (f t0), ?_, ?_⟩
          · rw [fitsAny.sem, fitsIndex.sem, hx1]
            simp only [Option.bind_some]
            rw [hx2, List.drop_zero]
          · simp only [cond_false]
            rw [hss, allF_rep]
        · have e1 : (dn == 0) = false := by simpa using hz
          have e2 : (decide ((0 : Int) ≤ dn) && decide (dn ≤ 0)) = false := by simp; omega
          rw [e1, e2]
          exact ⟨false, rfl, rfl⟩
    have c13 : (kind == 13) = false := by simpa using k13
    by_cases k14 : kind = 14
    · subst k14
      rw [fits.sem, l12Fits.sem]
      simp only [l12Bounds.sem, l12Kids.sem, chosen.sem, sIn, show ((14 : Int) == 12) = false from rfl, show ((14 : Int) != 12) = true from rfl, show ((14 : Int) == 1) = false from rfl, show ((14 : Int) == 17) = false from rfl, show ((14 : Int) == 18) = false from rfl, show ((14 : Int) == 2) = false from rfl, show ((14 : Int) == 3) = false from rfl, show ((14 : Int) == 4) = false from rfl, show ((14 : Int) == 5) = false from rfl, show ((14 : Int) == 6) = false from rfl, show ((14 : Int) == 10) = false from rfl, show ((14 : Int) == 7) = false from rfl, show ((14 : Int) == 8) = false from rfl, show ((14 : Int) == 9) = false from rfl, show ((14 : Int) == 11) = false from rfl, show ((14 : Int) == 15) = false from rfl, show ((14 : Int) == 16) = false from rfl, show ((14 : Int) == 19) = false from rfl, show ((14 : Int) == 20) = false from rfl, show ((14 : Int) == 21) = false from rfl, show ((14 : Int) == 13) = false from rfl, show ((14 : Int) == 14) = true from rfl, cond_true, cond_false, Option.bind_some, List.length_map]
      cases (text.toList == (⟨#[]⟩ : ByteArray).toList) with
      | false =>
        refine ⟨false, rfl, ?_⟩
        cases (decide ((0 : Int) ≤ dn) && decide (dn ≤ 0)) <;> rfl
      | true =>
        by_cases hz : dn = 0
        · subst hz
          simp only [show ((0 : Int) != 0) = false from rfl, show (decide ((0 : Int) ≤ 0) && decide ((0 : Int) ≤ 0)) = true from rfl, cond_true, Bool.not_true, cond_false]
          by_cases hll : kids.length = dk.length
          · rw [show ((dk.length : Int) != (kids.length : Int)) = false from bne_len hll.symm, show ((kids.length : Int) != (dk.length : Int)) = false from bne_len hll]
            have h1 := iFitsL0 N ⟨14, n, kids⟩ ⟨0, text, dk⟩ (fits.sem N) f hll hkl (fun j a b ha hb => (hf a (List.mem_of_getElem? ha) b (List.mem_of_getElem? hb)).1) kids.length N 0 (by simp) (by omega)
            have h2 := sFitsL0 N ⟨14, n, kids⟩ ⟨0, text, dk⟩ (l12Fits.sem N) f kids hll hkl (fun j a b ha hb => (hf a (List.mem_of_getElem? ha) b (List.mem_of_getElem? hb)).2) kids.length N 0 (by simp) (by omega)
            rw [List.drop_zero, List.drop_zero, show ((0 : Nat) : Int) = 0 from rfl] at h1 h2
            exact ⟨allF f kids dk, h1, h2⟩
          · rw [show ((dk.length : Int) != (kids.length : Int)) = true from bne_len' (Ne.symm hll), show ((kids.length : Int) != (dk.length : Int)) = true from bne_len' hll]
            exact ⟨false, rfl, rfl⟩
        · have e1 : (dn != 0) = true := by simpa using hz
          have e2 : (decide ((0 : Int) ≤ dn) && decide (dn ≤ 0)) = false := by simp; omega
          rw [e1, e2]
          exact ⟨false, rfl, rfl⟩
    have c14 : (kind == 14) = false := by simpa using k14
    have hcut : ∀ (l : List Sh) (i : Nat), i < l.length → cutC l i (i + 1 - i) = [l.getD i default] := fun l i hi => by
      unfold cutC
      rw [show i + 1 - i = 1 by omega, List.drop_eq_getElem_cons hi, List.take_succ_cons, List.take_zero]
      simp [hi]
    -- one part is chosen
    have chosenOne : ∀ (a : Sh), a ∈ kids → ∃ b, (bif (((dk.length : Nat) : Int) == 1) then (bif inR (0 : Int) dk.length then ((fits.sem N) a (dk.getD (0 : Int).toNat default)).bind fun y3 => some y3 else none) else some false) = some b ∧ (bif ((([a] : List Sh).length : Int) != (dk.length : Int)) then some false else l12Fits.L0 N ⟨kind, n, kids⟩ ⟨dn, text, dk⟩ (l12Fits.sem N) N [a] (([a] : List Sh).length : Int) 0) = some b := by
      intro a ha
      by_cases h1 : dk.length = 1
      · obtain ⟨d0, rfl⟩ := List.length_eq_one_iff.mp h1
        have h2 := sFitsL0 N ⟨kind, n, kids⟩ ⟨dn, text, [d0]⟩ (l12Fits.sem N) f [a] rfl (by simp) (fun j x y hx hy => by
          cases j with
          | zero => simp at hx hy; subst hx; subst hy; exact (hf _ ha _ (by simp)).2
          | succ j => simp at hx) 1 N 0 (by simp) (by omega)
        rw [List.drop_zero, List.drop_zero, show ((0 : Nat) : Int) = 0 from rfl] at h2
        refine ⟨f a d0, ?_, ?_⟩
        · rw [show ((([d0] : List Dt).length : Int) == 1) = true from rfl]
          simp only [cond_true, inR_t (show (0 : Int) ≤ 0 by omega) (show (0 : Int) < ([d0] : List Dt).length by simp), show (0 : Int).toNat = 0 from rfl]
          have : ([d0] : List Dt).getD 0 default = d0 := rfl
          rw [this, (hf a ha d0 (by simp)).1]
          rfl
        · rw [show ((([a] : List Sh).length : Int) != (([d0] : List Dt).length : Int)) = false from rfl]
          simp only [cond_false]
          rw [h2]
          simp [allF]
      · have e1 : (((dk.length : Nat) : Int) == 1) = false := beq_len' (b := 1) h1
        have e2 : ((([a] : List Sh).length : Int) != (dk.length : Int)) = true := bne_len' (by simpa using Ne.symm h1)
        rw [e1, e2]
        exact ⟨false, rfl, rfl⟩
    by_cases k17 : kind = 17
    · subst k17
      have hkn : kids.length = 1 := by
        have h1 := hp.1
        have h2 := hp.2
        simp [shp, l11Shape.sem] at h1 h2
        omega
      obtain ⟨t0, rfl⟩ := List.length_eq_one_iff.mp hkn
      rw [fits.sem, l12Fits.sem]
      simp only [l12Bounds.sem, chosen.sem, sIn, show ((17 : Int) == 12) = false from rfl, show ((17 : Int) != 12) = true from rfl, show ((17 : Int) == 1) = false from rfl, show ((17 : Int) == 17) = true from rfl, show ((17 : Int) == 15) = false from rfl, show ((17 : Int) == 10) = false from rfl, show ((17 : Int) == 11) = false from rfl, cond_true, cond_false, Option.bind_some, List.length_map]
      cases (text.toList == (⟨#[]⟩ : ByteArray).toList) with
      | false =>
        refine ⟨false, rfl, ?_⟩
        cases (decide ((0 : Int) ≤ dn) && decide (dn ≤ 1)) <;> rfl
      | true =>
        simp only [part.sem, l12Kids.sem, show ((17 : Int) == 17) = true from rfl, show ((17 : Int) == 13) = false from rfl, show ((17 : Int) == 14) = false from rfl, show ((17 : Int) == 15) = false from rfl, show ((17 : Int) == 18) = false from rfl, cond_true, cond_false, Bool.not_true]
        by_cases hz : dn = 0
        · subst hz
          simp only [show ((0 : Int) == 0) = true from rfl, cond_true, Option.bind_some, optM, show (decide ((0 : Int) ≤ 0) && decide ((0 : Int) ≤ 1)) = true from rfl, Bool.not_true, cond_false, show inC (0 : Int) (0 : Int) ([t0] : List Sh).length = true from rfl]
          have hs := sEmptyL0 N ⟨17, n, [t0]⟩ ⟨0, text, dk⟩ (l12Fits.sem N) N N0
          have hc0 : cutC [t0] (0 : Int).toNat ((0 : Int).toNat - (0 : Int).toNat) = ([] : List Sh) := rfl
          rw [hc0]
          by_cases hdz : dk.length = 0
          · rw [show ((dk.length : Int) == 0) = true from beq_len hdz]
            refine ⟨true, rfl, ?_⟩
            rw [show ((([] : List Sh).length : Int) != (dk.length : Int)) = false from bne_len hdz.symm]
            exact hs
          · rw [show ((dk.length : Int) == 0) = false from beq_len' hdz]
            refine ⟨false, rfl, ?_⟩
            rw [show ((([] : List Sh).length : Int) != (dk.length : Int)) = true from bne_len' (Ne.symm hdz)]
            rfl
        · have e1 : (dn == 0) = false := by simpa using hz
          simp only [e1, cond_false, inR_t (show (0 : Int) ≤ 0 by omega) (show (0 : Int) < ([t0] : List Sh).length by simp), cond_true, Option.bind_some, optM, show (0 : Int).toNat = 0 from rfl]
          by_cases h1 : dn = 1
          · subst h1
            simp only [show ((1 : Int) == 1) = true from rfl, cond_true, show (decide ((0 : Int) ≤ 1) && decide ((1 : Int) ≤ 1)) = true from rfl, Bool.not_true, cond_false, show inC (0 : Int) (1 : Int) ([t0] : List Sh).length = true from rfl]
            have := chosenOne t0 (by simp)
            have hc1 : cutC [t0] 0 ((1 : Int).toNat - 0) = [t0] := rfl
            rw [hc1]
            exact this
          · have e2 : (dn == 1) = false := by simpa using h1
            have e3 : (decide ((0 : Int) ≤ dn) && decide (dn ≤ 1)) = false := by simp; omega
            rw [e2, e3]
            exact ⟨false, rfl, rfl⟩
    have c17 : (kind == 17) = false := by simpa using k17
    by_cases kv : kind = 15 ∨ kind = 18
    · have c10 : (kind == 10) = false := by rcases kv with rfl | rfl <;> rfl
      have c11 : (kind == 11) = false := by rcases kv with rfl | rfl <;> rfl
      have hch : chosen.sem N ⟨kind, n, kids⟩ = some true := by rcases kv with rfl | rfl <;> rfl
      have hk1 : 1 ≤ kids.length := by
        have h1 := hp.1
        rcases kv with rfl | rfl <;> simp [shp, l11Shape.sem] at h1 <;> omega
      have hbd : l12Bounds.sem N ⟨kind, n, kids⟩ = some (0, (kids.length : Int) - 1) := by
        rcases kv with rfl | rfl
        · simp only [l12Bounds.sem, List.length_map]
          rw [w64 (by omega) (by omega)]
          rfl
        · have h1 := hp.1
          have h2 := hp.2
          simp [shp, l11Shape.sem] at h1 h2
          rw [show kids.length = 2 by omega]
          rfl
      have hkd : 0 ≤ dn → dn < kids.length → l12Kids.sem N ⟨kind, n, kids⟩ ⟨dn, text, dk⟩ = some [kids.getD dn.toNat default] := fun h0 h1 => by
        have hq : (bif inC (dn : Int) (IntKind.i64.wrap (dn + 1) : Int) kids.length then some (cutC kids (dn : Int).toNat ((IntKind.i64.wrap (dn + 1) : Int).toNat - (dn : Int).toNat)) else none) = some [kids.getD dn.toNat default] := by
          rw [w64 (by omega) (by omega)]
          have : inC dn (dn + 1) kids.length = true := inC_iff.mpr ⟨h0, by omega, by omega⟩
          rw [this, show (dn + 1).toNat = dn.toNat + 1 by omega, hcut kids dn.toNat (by omega)]
          rfl
        rcases kv with rfl | rfl
        · exact hq
        · exact hq
      rw [fits.sem, l12Fits.sem]
      simp only [c12, c12', c10, c11, hch, hbd, sIn, cond_true, cond_false, Option.bind_some, List.length_map]
      cases (text.toList == (⟨#[]⟩ : ByteArray).toList) with
      | false =>
        refine ⟨false, rfl, ?_⟩
        cases (decide ((0 : Int) ≤ dn) && decide (dn ≤ (kids.length : Int) - 1)) <;> rfl
      | true =>
        simp only [part.sem, c17, cond_false, Bool.not_true, List.length_map]
        by_cases h0 : dn < 0
        · have e1 : (decide ((0 : Int) ≤ dn) && decide (dn ≤ (kids.length : Int) - 1)) = false := by simp; omega
          simp only [show decide (dn < 0) = true by simpa using h0, cond_true, Option.bind_some, optM, cond_false]
          rw [e1]
          exact ⟨false, rfl, rfl⟩
        · by_cases h1 : dn ≥ kids.length
          · have e1 : (decide ((0 : Int) ≤ dn) && decide (dn ≤ (kids.length : Int) - 1)) = false := by simp; omega
            simp only [show decide (dn < 0) = false by simpa using h0, show decide (dn ≥ (kids.length : Int)) = true by simpa using h1, cond_true, Option.bind_some, optM, cond_false]
            rw [e1]
            exact ⟨false, rfl, rfl⟩
          · have e1 : (decide ((0 : Int) ≤ dn) && decide (dn ≤ (kids.length : Int) - 1)) = true := by simp; omega
            simp only [show decide (dn < 0) = false by simpa using h0, show decide (dn ≥ (kids.length : Int)) = false by simpa using h1, cond_true, Option.bind_some, optM, cond_false, inR_t (show (0 : Int) ≤ dn by omega) (show dn < kids.length by omega), e1, Bool.not_true, hkd (by omega) (by omega)]
            have hm : kids.getD dn.toNat default ∈ kids := by
              have hlt : dn.toNat < kids.length := by omega
              rw [List.getD_eq_getElem?_getD, List.getElem?_eq_getElem hlt]
              exact List.getElem_mem hlt
            exact chosenOne _ hm
    have k15 : kind ≠ 15 := fun h => kv (.inl h)
    have k18 : kind ≠ 18 := fun h => kv (.inr h)
    have c15 : (kind == 15) = false := by simpa using k15
    have c18 : (kind == 18) = false := by simpa using k18
    have hch : chosen.sem N ⟨kind, n, kids⟩ = some false := by
      rw [chosen.sem]
      simp only [c15, c17, c18, cond_false]
    have hkd : l12Kids.sem N ⟨kind, n, kids⟩ ⟨dn, text, dk⟩ = some [] := by
      rw [l12Kids.sem]
      simp only [c13, c14, c15, c17, c18, cond_false]
    by_cases k10 : kind = 10
    · subst k10
      rw [fits.sem, l12Fits.sem]
      simp only [c12, c12', c13, c14, hch, hkd, sIn, l12Bounds.sem, numberOk.sem, show ((10 : Int) == 1) = false from rfl, show ((10 : Int) == 17) = false from rfl, show ((10 : Int) == 18) = false from rfl, show ((10 : Int) == 2) = false from rfl, show ((10 : Int) == 3) = false from rfl, show ((10 : Int) == 4) = false from rfl, show ((10 : Int) == 5) = false from rfl, show ((10 : Int) == 6) = false from rfl, show ((10 : Int) == 10) = true from rfl, show ((10 : Int) == 7) = false from rfl, show ((10 : Int) == 8) = false from rfl, show ((10 : Int) == 9) = false from rfl, cond_true, cond_false, Option.bind_some, List.length_map, List.length_nil]
      by_cases hr : 0 ≤ dn ∧ dn < 4294967296
      · obtain ⟨b, c, h1, h2, h3⟩ := hC N dn hr.1 hr.2
        have e1 : (decide ((0 : Int) ≤ dn) && decide (dn ≤ 4294967295)) = true := by simp; omega
        rw [e1]
        simp only [h1, h2, Option.bind_some, h3, show decide (dn ≥ 0) = true by simp; omega, show decide (dn < 4294967296) = true by simp; omega, cond_true, Bool.not_true, cond_false]
        cases (text.toList == (⟨#[]⟩ : ByteArray).toList) with
        | false => exact ⟨false, rfl, rfl⟩
        | true =>
          have hs := sEmptyL0 N ⟨10, n, kids⟩ ⟨dn, text, dk⟩ (l12Fits.sem N) N N0
          by_cases hdz : dk.length = 0
          · rw [show ((dk.length : Int) == 0) = true from beq_len hdz, show (((0 : Nat) : Int) != (dk.length : Int)) = false from bne_len hdz.symm]
            cases b with
            | false => exact ⟨false, rfl, rfl⟩
            | true => exact ⟨true, rfl, hs⟩
          · rw [show ((dk.length : Int) == 0) = false from beq_len' hdz, show (((0 : Nat) : Int) != (dk.length : Int)) = true from bne_len' (Ne.symm hdz)]
            refine ⟨false, rfl, ?_⟩
            cases b <;> rfl
      · have e1 : (decide ((0 : Int) ≤ dn) && decide (dn ≤ 4294967295)) = false := by simp; omega
        rw [e1]
        refine ⟨false, ?_, rfl⟩
        cases (text.toList == (⟨#[]⟩ : ByteArray).toList) with
        | false => rfl
        | true =>
          simp only [Bool.not_true, cond_false]
          cases ((dk.length : Int) == 0) with
          | false => rfl
          | true =>
            by_cases h0 : 0 ≤ dn
            · simp only [show decide (dn ≥ 0) = true by simpa using h0, show decide (dn < 4294967296) = false by simp; omega, cond_true, cond_false, Option.bind_some]
            · simp only [show decide (dn ≥ 0) = false by simp; omega, cond_false, cond_true, Option.bind_some]
    have c10 : (kind == 10) = false := by simpa using k10
    by_cases k11 : kind = 11
    · subst k11
      rw [fits.sem, l12Fits.sem]
      simp only [c12, c12', c13, c14, hch, hkd, sIn, l12Bounds.sem, numberOk.sem, goodPoint.sem, show ((11 : Int) == 1) = false from rfl, show ((11 : Int) == 17) = false from rfl, show ((11 : Int) == 18) = false from rfl, show ((11 : Int) == 2) = false from rfl, show ((11 : Int) == 3) = false from rfl, show ((11 : Int) == 4) = false from rfl, show ((11 : Int) == 5) = false from rfl, show ((11 : Int) == 6) = false from rfl, show ((11 : Int) == 10) = false from rfl, show ((11 : Int) == 7) = false from rfl, show ((11 : Int) == 8) = false from rfl, show ((11 : Int) == 9) = false from rfl, show ((11 : Int) == 11) = true from rfl, cond_true, cond_false, Option.bind_some, List.length_map, List.length_nil]
      have hs := sEmptyL0 N ⟨11, n, kids⟩ ⟨dn, text, dk⟩ (l12Fits.sem N) N N0
      obtain ⟨z1, z2, hz, e1, e2⟩ : ∃ z1 z2 : Bool, ((z1 = true ∧ z2 = false) ∨ (z1 = false ∧ z2 = true)) ∧ ((dk.length : Int) == 0) = z1 ∧ (((0 : Nat) : Int) != (dk.length : Int)) = z2 := by
        by_cases hdz : dk.length = 0
        · exact ⟨true, false, .inl ⟨rfl, rfl⟩, beq_len hdz, bne_len hdz.symm⟩
        · exact ⟨false, true, .inr ⟨rfl, rfl⟩, beq_len' hdz, bne_len' (Ne.symm hdz)⟩
      rw [e1, e2]
      by_cases h0 : 0 ≤ dn <;> by_cases h1 : dn ≤ 1114111 <;> by_cases h2 : dn < 55296 <;> by_cases h3 : dn > 57343 <;> rcases hz with ⟨rfl, rfl⟩ | ⟨rfl, rfl⟩ <;> cases (text.toList == (⟨#[]⟩ : ByteArray).toList) <;>
        first
        | (exfalso; omega)
        | (have e1 : (55296 ≤ dn) ↔ ¬ (dn < 55296) := by omega
           have e2 : (dn ≤ 57343) ↔ ¬ (dn > 57343) := by omega
           have hs' := hs
           simp [h0, h1, h2, h3, e1, e2, hs']
           try omega)
    have c11 : (kind == 11) = false := by simpa using k11
    -- the other kinds
    have simp_ : ∀ lo hi, l12Bounds.sem N ⟨kind, n, kids⟩ = some (lo, hi) → numberOk.sem N ⟨kind, n, kids⟩ dn = some (decide (lo ≤ dn) && decide (dn ≤ hi)) → ∃ b, fits.sem (N + 1) ⟨kind, n, kids⟩ ⟨dn, text, dk⟩ = some b ∧ l12Fits.sem (N + 1) ⟨kind, n, kids⟩ ⟨dn, text, dk⟩ = some b :=
      fun lo hi h1 h2 => simple N N0 ⟨kind, n, kids⟩ ⟨dn, text, dk⟩ lo hi h1 c12 c10 c11 c13 c14 hch hkd h2
    have kinds : kind = 1 ∨ kind = 2 ∨ kind = 3 ∨ kind = 4 ∨ kind = 5 ∨ kind = 6 ∨ kind = 7 ∨ kind = 8 ∨ kind = 9 ∨ kind = 16 ∨ kind = 19 ∨ kind = 20 ∨ kind = 21 := by omega
    rcases kinds with rfl | rfl | rfl | rfl | rfl | rfl | rfl | rfl | rfl | rfl | rfl | rfl | rfl
    · exact simp_ 0 1 rfl (by
        simp only [numberOk.sem, show ((1 : Int) == 1) = true from rfl, cond_true]
        by_cases h : dn = 0
        · subst h; rfl
        · rw [show (dn == 0) = false by simpa using h]
          simp only [cond_false, Option.some.injEq]
          by_cases h1 : dn = 1
          · subst h1; rfl
          · rw [show (dn == 1) = false by simpa using h1]
            symm
            simp
            omega)
    · exact simp_ 0 255 rfl (by simp only [numberOk.sem]; by_cases h : 0 ≤ dn <;> simp [h])
    · exact simp_ (-128) 127 rfl (by simp only [numberOk.sem]; by_cases h : -128 ≤ dn <;> simp [h])
    · exact simp_ 0 65535 rfl (by simp only [numberOk.sem]; by_cases h : 0 ≤ dn <;> simp [h])
    · exact simp_ (-32768) 32767 rfl (by simp only [numberOk.sem]; by_cases h : -32768 ≤ dn <;> simp [h])
    · exact simp_ 0 4294967295 rfl (by simp only [numberOk.sem]; by_cases h : 0 ≤ dn <;> simp [h] <;> omega)
    · exact simp_ (-2147483648) 2147483647 rfl (by simp only [numberOk.sem]; by_cases h : -2147483648 ≤ dn <;> simp [h] <;> omega)
    · exact simp_ (-9223372036854775808) 9223372036854775807 rfl (by simp only [numberOk.sem]; simp; omega)
    · exact simp_ (-9223372036854775808) 9223372036854775807 rfl (by simp only [numberOk.sem]; simp; omega)
    · have hn1 : 1 ≤ n ∧ n ≤ 32 := by simpa [shp, l11Shape.sem] using hn
      have hsh : shlV .i64 1 n = 2 ^ n.toNat := by
        unfold shlV
        rw [show min n.toNat IntKind.i64.bits = n.toNat by simp only [IntKind.bits]; omega, Int.one_mul]
        have hpos := p2 (k := n.toNat) (by omega)
        exact w64 (by omega) (by omega)
      have hun : IntKind.u64.wrap n = n := by
        rw [IntKind.wrap_u64]
        omega
      have hpos := p2 (k := n.toNat) (by omega)
      refine simp_ 0 (2 ^ n.toNat - 1) ?_ ?_
      · simp only [l12Bounds.sem, hun, hsh]
        show some ((0 : Int), IntKind.i64.wrap (2 ^ n.toNat - 1)) = _
        rw [w64 (by omega) (by omega)]
      · simp only [numberOk.sem, hsh, show decide ((0 : Int) ≤ (n : Int)) = true by simp; omega]
        by_cases h : 0 ≤ dn
        · simp [h]
          omega
        · simp [h]
    · have hn1 : 1 ≤ n ∧ n ≤ 300 := by simpa [shp, l11Shape.sem] using hn
      refine simp_ 0 (n - 1) ?_ ?_
      · simp only [l12Bounds.sem]
        show some ((0 : Int), IntKind.i64.wrap (n - 1)) = _
        rw [w64 (by omega) (by omega)]
      · simp only [numberOk.sem]
        by_cases h : 0 ≤ dn
        · simp [h]
          omega
        · simp [h]
    · exact simp_ 0 100000 rfl (by simp only [numberOk.sem]; by_cases h : 0 ≤ dn <;> simp [h])
    · exact simp_ 0 100000 rfl (by simp only [numberOk.sem]; by_cases h : 0 ≤ dn <;> simp [h])
end Go.Proofs.YtljdidlkiknknaaDoor.AB
namespace Go.Proofs.YtljdidlkiknknaaDoor.AB
open Go Go.RowKit Go.Proofs.YtljdidlkiknknaaDoorW.PrintWords Go.Proofs.YtljdidlkiknknaaDoorW.PrintMore
set_option linter.unusedSimpArgs false
set_option linter.unusedVariables false
theorem u32in {n : Int} (h0 : 0 ≤ n) (h1 : n < 4294967296) : IntKind.u32.wrap n = n := by
  simp only [IntKind.wrap, IntKind.bits, IntKind.signed]
  simp
  omega
theorem u32rng (n : Int) : 0 ≤ IntKind.u32.wrap n ∧ IntKind.u32.wrap n < 4294967296 := by
  simp only [IntKind.wrap, IntKind.bits, IntKind.signed]
  simp
  omega
theorem u64in {n : Int} (h0 : 0 ≤ n) (h1 : n < 18446744073709551616) : IntKind.u64.wrap n = n := by
  rw [IntKind.wrap_u64]
  omega
theorem and_all {n : Int} (h0 : 0 ≤ n) (h1 : n < 4294967296) : IntKind.u32.wrap (((BitVec.ofInt 32 n &&& BitVec.ofInt 32 4294967295).toNat : Int)) = n := by
  rw [show BitVec.ofInt 32 4294967295 = BitVec.allOnes 32 by decide, BitVec.and_allOnes]
  rw [BitVec.toNat_ofInt, u32in (by omega) (by omega)]
  omega
def expF (n : Int) : Int := IntKind.u32.wrap (((BitVec.ofInt 32 (shrV .u32 n 23) &&& BitVec.ofInt 32 255).toNat : Int))
def fracF (n : Int) : Int := IntKind.u32.wrap (((BitVec.ofInt 32 n &&& BitVec.ofInt 32 8388607).toNat : Int))
theorem iOpen (N : Nat) (n : Int) : ∃ x, fmopen.sem N ⟨23, 127⟩ n = some x ∧ x.nan = ((expF n == 255) && (fracF n != 0)) := by
  have ht : fmtop.sem N ⟨23, 127⟩ = some 255 := by kernel_rfl
  have hs : fmsign.sem N ⟨23, 127⟩ = some 2147483648 := by
    rw [fmsign.sem, ht]
    decide +kernel
  have hm : IntKind.u32.wrap ((shlV .u32 1 23) - 1) = 8388607 := by decide +kernel
  rw [fmopen.sem]
  simp only [ht, hs, hm, show decide ((0 : Int) ≤ 23) = true from rfl, cond_true, Option.bind_some]
  rw [show IntKind.u32.wrap (((BitVec.ofInt 32 (shrV .u32 n 23) &&& BitVec.ofInt 32 255).toNat : Int)) = expF n from rfl, show IntKind.u32.wrap (((BitVec.ofInt 32 n &&& BitVec.ofInt 32 8388607).toNat : Int)) = fracF n from rfl]
  have hf := u32rng (((BitVec.ofInt 32 n &&& BitVec.ofInt 32 8388607).toNat : Int))
  have hfu : IntKind.u64.wrap (fracF n) = fracF n := u64in hf.1 (by unfold fracF; omega)
  rw [hfu]
  cases h : expF n == 255 with
  | true => exact ⟨_, rfl, rfl⟩
  | false =>
    simp only [cond_false]
    cases expF n == 0 <;> exact ⟨_, rfl, rfl⟩
theorem sOpen (N : Nat) (n : Int) (h0 : 0 ≤ n) (h1 : n < 4294967296) : ∃ x, k4open.sem N ⟨8, 23⟩ n = some x ∧ x.nan = ((expF n == 255) && (fracF n != 0)) := by
  have hk : k4mask.sem N ⟨8, 23⟩ = some 4294967295 := by kernel_rfl
  have hl : ∃ z, k4least.sem N ⟨8, 23⟩ = some z := ⟨_, rfl⟩
  obtain ⟨z, hl⟩ := hl
  have hm : IntKind.u32.wrap ((shlV .u32 1 23) - 1) = 8388607 := by decide +kernel
  have hm2 : IntKind.u32.wrap ((shlV .u32 1 8) - 1) = 255 := by decide +kernel
  rw [k4open.sem]
  simp only [hk, hl, hm, hm2, and_all h0 h1, show decide ((0 : Int) ≤ 23) = true from rfl, show decide ((0 : Int) ≤ 8) = true from rfl, cond_true, Option.bind_some]
  rw [show IntKind.u32.wrap (((BitVec.ofInt 32 (shrV .u32 n 23) &&& BitVec.ofInt 32 255).toNat : Int)) = expF n from rfl, show IntKind.u32.wrap (((BitVec.ofInt 32 n &&& BitVec.ofInt 32 8388607).toNat : Int)) = fracF n from rfl]
  cases h : expF n == 255 with
  | true => exact ⟨_, rfl, rfl⟩
  | false =>
    simp only [cond_false]
    cases expF n == 0 <;> exact ⟨_, rfl, rfl⟩
theorem canon_eq : CanonEq := by
  intro N n h0 h1
  rw [u32in h0 h1]
  obtain ⟨x, hx1, hx2⟩ := iOpen N n
  obtain ⟨y, hy1, hy2⟩ := sOpen N n h0 h1
  have hfo : formatOf.sem N 32 = some (⟨23, 127⟩, true) := rfl
  have hk4 : l4Kind.sem N 32 = some (⟨8, 23⟩, true) := rfl
  have hno : fmno.sem N ⟨23, 127⟩ = some 2143289344 := by kernel_rfl
  have hkn : k4nan.sem N ⟨8, 23⟩ = some 2143289344 := by kernel_rfl
  have hfm : fmmask.sem N ⟨23, 127⟩ = some 4294967295 := by kernel_rfl
  have hor : ∃ z, fmorder.sem N ⟨23, 127⟩ n = some z := by
    have hs : fmsign.sem N ⟨23, 127⟩ = some 2147483648 := by kernel_rfl
    rw [fmorder.sem, hs]
    simp only [Option.bind_some]
    cases (IntKind.u32.wrap (((BitVec.ofInt 32 n &&& BitVec.ofInt 32 2147483648).toNat : Int)) != 0) <;> exact ⟨_, rfl⟩
  obtain ⟨z, hz⟩ := hor
  rw [canonical.sem, l12Canon.sem, FMin.sem, u32in h0 h1]
  simp only [hfo, hk4, hx1, hy1, hno, hkn, hfm, hz, Option.bind_some, Bool.not_true, cond_false, hx2, hy2, show decide (z < z) = false by simp, and_all h0 h1]
  cases (expF n == 255 && fracF n != 0) with
  | true =>
    refine ⟨n == 2143289344, 2143289344, rfl, rfl, ?_⟩
    rw [Bool.eq_iff_iff]
    simp
    exact eq_comm
  | false => exact ⟨true, n, rfl, rfl, by simp⟩
end Go.Proofs.YtljdidlkiknknaaDoor.AB
namespace Go.Proofs.YtljdidlkiknknaaDoor.AB
open Go Go.RowKit Go.Proofs.YtljdidlkiknknaaDoorW.PrintWords Go.Proofs.YtljdidlkiknknaaDoorW.PrintMore
set_option linter.unusedSimpArgs false
set_option linter.unusedVariables false
theorem loop_toList (bs : ByteArray) : ∀ (n i : Nat) (r : List UInt8), bs.size - i = n → ByteArray.toList.loop bs i r = r.reverse ++ bs.data.toList.drop i
  | 0, i, r, h => by
    rw [ByteArray.toList.loop, if_neg (by omega), List.drop_eq_nil_of_le (by have e : bs.size = bs.data.toList.length := rfl; omega), List.append_nil]
  | n + 1, i, r, h => by
    have hi : i < bs.size := by omega
    rw [ByteArray.toList.loop, if_pos hi, loop_toList bs n (i + 1) _ (by omega)]
    have hd : i < bs.data.toList.length := hi
    rw [List.drop_eq_getElem_cons hd, List.reverse_cons, List.append_assoc]
    have : bs.get! i = bs.data.toList[i] := by
      unfold ByteArray.get!
      simp at hd
      simp [hd]
    rw [this]
    rfl
theorem toList_data (s : ByteArray) : s.toList = s.data.toList := by
  unfold ByteArray.toList
  rw [loop_toList s s.size 0 [] (by omega)]
  rfl
theorem byteAt_rng (s : ByteArray) (i : Int) : 0 ≤ byteAt s i ∧ byteAt s i < 256 := by
  unfold byteAt
  split
  · rename_i b _
    have := b.toNat_lt
    omega
  · omega
theorem byteAt_get (s : ByteArray) (i : Nat) (hi : i < s.size) : byteAt s (i : Int) = (s[i].toNat : Int) := by
  unfold byteAt
  rw [Int.toNat_natCast, getElem?_pos s i hi]
theorem bytesI_data (l : List Int) : (bytesI l).data.toList = l.map fun n => UInt8.ofNat n.toNat := by
  have key : ∀ (l : List Int) (r : ByteArray), (l.foldl (fun r n => r.push (UInt8.ofNat n.toNat)) r).data.toList = r.data.toList ++ l.map fun n => UInt8.ofNat n.toNat := by
    intro l
    induction l with
    | nil => intro r; simp
    | cons x l ih =>
      intro r
      rw [List.foldl_cons, ih]
      simp [ByteArray.push]
  unfold bytesI
  rw [key]
  rfl
theorem eqB {l : List Int} {s : ByteArray} {n : Nat} (hl : ∀ x ∈ l, 0 ≤ x ∧ x < 256) (hn : n ≤ s.size) : ((bytesI l).toList == (s.extract 0 n).toList) = decide (l = (List.range n).map fun i : Nat => byteAt s i) := by
  rw [toList_data, toList_data, bytesI_data, ByteArray.data_extract]
  rw [Bool.eq_iff_iff, beq_iff_eq, decide_eq_true_eq]
  have he : (s.data.extract 0 n).toList = (List.range n).map fun i : Nat => UInt8.ofNat (byteAt s i).toNat := by
    apply List.ext_getElem?
    intro i
    by_cases hi : i < n
    · have his : i < s.size := by omega
      rw [List.getElem?_map, List.getElem?_range hi, Option.map_some, byteAt_get s i his]
      have hid : i < s.data.size := his
      simp [hi, hid]
      rw [getElem?_pos s.data i hid]
      rfl
    · rw [List.getElem?_eq_none (by simp; omega), List.getElem?_eq_none (by simp; omega)]
  rw [he]
  constructor
  · intro h
    have h2 := congrArg (List.map fun b : UInt8 => (b.toNat : Int)) h
    simp only [List.map_map] at h2
    have e1 : l.map ((fun b : UInt8 => (b.toNat : Int)) ∘ fun n => UInt8.ofNat n.toNat) = l := by
      conv => rhs; rw [← List.map_id l]
      refine List.map_congr_left fun x hx => ?_
      have := hl x hx
      simp
      omega
    rw [e1] at h2
    rw [h2]
    refine List.map_congr_left fun i _ => ?_
    have := byteAt_rng s i
    simp
    omega
  · intro h
    rw [h, List.map_map]
    rfl
theorem byte_ind {P : Int → Prop} (h : ∀ x : Fin 256, P (x.val : Int)) {x : Int} (h0 : 0 ≤ x) (h1 : x < 256) : P x := by
  have := h ⟨x.toNat, by omega⟩
  rwa [show ((x.toNat : Nat) : Int) = x by omega] at this
theorem and63 {x : Int} (h0 : 0 ≤ x) (h1 : x < 256) : IntKind.u8.wrap (((BitVec.ofInt 8 x &&& BitVec.ofInt 8 63).toNat : Int)) = x % 64 := by
  revert x
  exact fun h0 h1 => byte_ind (P := fun x => IntKind.u8.wrap (((BitVec.ofInt 8 x &&& BitVec.ofInt 8 63).toNat : Int)) = x % 64) (by decide +kernel) h0 h1
theorem and31 {x : Int} (h0 : 0 ≤ x) (h1 : x < 256) : IntKind.u8.wrap (((BitVec.ofInt 8 x &&& BitVec.ofInt 8 31).toNat : Int)) = x % 32 :=
  byte_ind (P := fun x => IntKind.u8.wrap (((BitVec.ofInt 8 x &&& BitVec.ofInt 8 31).toNat : Int)) = x % 32) (by decide +kernel) h0 h1
theorem and15 {x : Int} (h0 : 0 ≤ x) (h1 : x < 256) : IntKind.u8.wrap (((BitVec.ofInt 8 x &&& BitVec.ofInt 8 15).toNat : Int)) = x % 16 :=
  byte_ind (P := fun x => IntKind.u8.wrap (((BitVec.ofInt 8 x &&& BitVec.ofInt 8 15).toNat : Int)) = x % 16) (by decide +kernel) h0 h1
theorem and7 {x : Int} (h0 : 0 ≤ x) (h1 : x < 256) : IntKind.u8.wrap (((BitVec.ofInt 8 x &&& BitVec.ofInt 8 7).toNat : Int)) = x % 8 :=
  byte_ind (P := fun x => IntKind.u8.wrap (((BitVec.ofInt 8 x &&& BitVec.ofInt 8 7).toNat : Int)) = x % 8) (by decide +kernel) h0 h1
theorem and7q {x : Int} (h0 : 0 ≤ x) (h1 : x < 256) : IntKind.i64.wrap (((BitVec.ofInt 64 x &&& BitVec.ofInt 64 7).toNat : Int)) = x % 8 :=
  byte_ind (P := fun x => IntKind.i64.wrap (((BitVec.ofInt 64 x &&& BitVec.ofInt 64 7).toNat : Int)) = x % 8) (by decide +kernel) h0 h1
theorem and15q {x : Int} (h0 : 0 ≤ x) (h1 : x < 256) : IntKind.i64.wrap (((BitVec.ofInt 64 x &&& BitVec.ofInt 64 15).toNat : Int)) = x % 16 :=
  byte_ind (P := fun x => IntKind.i64.wrap (((BitVec.ofInt 64 x &&& BitVec.ofInt 64 15).toNat : Int)) = x % 16) (by decide +kernel) h0 h1
theorem and31q {x : Int} (h0 : 0 ≤ x) (h1 : x < 256) : IntKind.i64.wrap (((BitVec.ofInt 64 x &&& BitVec.ofInt 64 31).toNat : Int)) = x % 32 :=
  byte_ind (P := fun x => IntKind.i64.wrap (((BitVec.ofInt 64 x &&& BitVec.ofInt 64 31).toNat : Int)) = x % 32) (by decide +kernel) h0 h1
theorem bv_small {w : Nat} {x : Int} (h0 : 0 ≤ x) (h1 : x < 2 ^ w) : (BitVec.ofInt w x).toNat = x.toNat := by
  rw [BitVec.toNat_ofInt]
  congr 1
  exact Int.emod_eq_of_lt h0 (by exact_mod_cast h1)
/-- Bits that lie beside each other. -/
theorem or_add {w : Nat} {x y : Int} (k : Nat) (hx0 : 0 ≤ x) (hy0 : 0 ≤ y) (hy : y < 2 ^ k) (hxy : x * 2 ^ k + y < 2 ^ w) : ((BitVec.ofInt w (x * 2 ^ k) ||| BitVec.ofInt w y).toNat : Int) = x * 2 ^ k + y := by
  have hp : (0 : Int) < 2 ^ k := Int.pow_pos (by omega)
  have hxk : 0 ≤ x * 2 ^ k := Int.mul_nonneg hx0 (Int.le_of_lt hp)
  rw [BitVec.toNat_or, bv_small hxk (by omega), bv_small hy0 (by omega)]
  obtain ⟨a, rfl⟩ := Int.eq_ofNat_of_zero_le hx0
  obtain ⟨b, rfl⟩ := Int.eq_ofNat_of_zero_le hy0
  have hb : b < 2 ^ k := by exact_mod_cast hy
  have e : ((a : Int) * 2 ^ k).toNat = a <<< k := by
    rw [Nat.shiftLeft_eq]
    have : ((a : Int) * 2 ^ k) = ((a * 2 ^ k : Nat) : Int) := by simp
    rw [this, Int.toNat_natCast]
  rw [e, Int.toNat_natCast, ← Nat.shiftLeft_add_eq_or_of_lt hb, Nat.shiftLeft_eq]
  simp
end Go.Proofs.YtljdidlkiknknaaDoor.AB
namespace Go.Proofs.YtljdidlkiknknaaDoor.AB
open Go Go.RowKit Go.Proofs.YtljdidlkiknknaaDoorW.PrintWords Go.Proofs.YtljdidlkiknknaaDoorW.PrintMore
set_option linter.unusedSimpArgs false
set_option linter.unusedVariables false
theorem and_mod {w : Nat} {x : Int} (k : Nat) (hk : k < w) (h0 : 0 ≤ x) (h1 : x < 2 ^ w) : ((BitVec.ofInt w x &&& BitVec.ofInt w (2 ^ k - 1)).toNat : Int) = x % 2 ^ k := by
  have hp : (0 : Int) < 2 ^ k := Int.pow_pos (by omega)
  have hpw : ((2 : Int) ^ k) < 2 ^ w := by exact_mod_cast Nat.pow_lt_pow_right (by omega) hk
  rw [BitVec.toNat_and, bv_small h0 h1, bv_small (by omega) (by omega)]
  obtain ⟨a, rfl⟩ := Int.eq_ofNat_of_zero_le h0
  have e : ((2 : Int) ^ k - 1).toNat = 2 ^ k - 1 := by
    have : ((2 : Int) ^ k) = ((2 ^ k : Nat) : Int) := by simp
    rw [this]
    omega
  rw [e, Int.toNat_natCast, Nat.and_two_pow_sub_one_eq_mod]
  simp
theorem andq {x : Int} (h0 : 0 ≤ x) (h1 : x < 9223372036854775808) : IntKind.i64.wrap (((BitVec.ofInt 64 x &&& BitVec.ofInt 64 63).toNat : Int)) = x % 64 := by
  have := and_mod (w := 64) 6 (by omega) h0 (by omega)
  simp only [show ((2 : Int) ^ 6) = 64 from rfl, show (64 : Int) - 1 = 63 from rfl] at this
  rw [this, w64 (by omega) (by omega)]
theorem orq {x y z : Int} (k : Nat) (e : z = x * 2 ^ k) (hx0 : 0 ≤ x) (hy0 : 0 ≤ y) (hy : y < 2 ^ k) (hxy : z + y < 9223372036854775808) : IntKind.i64.wrap (((BitVec.ofInt 64 z ||| BitVec.ofInt 64 y).toNat : Int)) = z + y := by
  subst e
  have h := or_add (w := 64) k hx0 hy0 hy (by omega)
  have hp : (0 : Int) ≤ x * 2 ^ k := Int.mul_nonneg hx0 (Int.le_of_lt (Int.pow_pos (by omega)))
  rw [h, w64 (by omega) hxy]
theorem or3 {x y z : Int} (k : Nat) (e : z = x * 2 ^ k) (hx0 : 0 ≤ x) (hy0 : 0 ≤ y) (hy : y < 2 ^ k) (hxy : z + y < 2147483648) : IntKind.i32.wrap (((BitVec.ofInt 32 z ||| BitVec.ofInt 32 y).toNat : Int)) = z + y := by
  subst e
  have h := or_add (w := 32) k hx0 hy0 hy (by omega)
  have hp : (0 : Int) ≤ x * 2 ^ k := Int.mul_nonneg hx0 (Int.le_of_lt (Int.pow_pos (by omega)))
  rw [h, IntWalk.i32_in _ (by omega)]
theorem shr6 (x : Int) : shrV .i64 x 6 = x / 64 := by
  show x.fdiv 64 = x / 64
  exact Int.fdiv_eq_ediv_of_nonneg _ (by omega)
theorem shr12 (x : Int) : shrV .i64 x 12 = x / 4096 := by
  show x.fdiv 4096 = x / 4096
  exact Int.fdiv_eq_ediv_of_nonneg _ (by omega)
theorem shr18 (x : Int) : shrV .i64 x 18 = x / 262144 := by
  show x.fdiv 262144 = x / 262144
  exact Int.fdiv_eq_ediv_of_nonneg _ (by omega)
theorem shl6 {x : Int} (h0 : 0 ≤ x) (h1 : x < 1048576) : shlV .i64 x 6 = x * 64 := by
  show IntKind.i64.wrap (x * 64) = x * 64
  exact w64 (by omega) (by omega)
theorem utf8_val (N : Nat) {p : Int} (h0 : 0 ≤ p) (h1 : p < 2097152) : l2Utf8.sem N p = some (if p < 128 then [p] else if p < 2048 then [192 + p / 64, 128 + p % 64] else if p < 65536 then [224 + p / 4096, 128 + p / 64 % 64, 128 + p % 64] else [240 + p / 262144, 128 + p / 4096 % 64, 128 + p / 64 % 64, 128 + p % 64]) := by
  rw [l2Utf8.sem]
  have q (x : Int) (a : 0 ≤ x) (b : x < 64) : IntKind.u8.wrap (IntKind.i64.wrap (((BitVec.ofInt 64 128 ||| BitVec.ofInt 64 x).toNat : Int))) = 128 + x := by
    rw [orq (x := 2) (z := 128) 6 rfl (by omega) a b (by omega), IntWalk.u8_in _ (by omega)]
  by_cases a : p < 128
  · simp only [a, decide_true, cond_true, if_true]
    rw [IntWalk.u8_in _ (by omega)]
  by_cases b : p < 2048
  · simp only [a, b, decide_true, decide_false, cond_true, cond_false, if_true, if_false]
    rw [shr6, andq h0 (by omega), q _ (by omega) (by omega), orq (x := 6) (z := 192) 5 rfl (by omega) (by omega) (by omega) (by omega), IntWalk.u8_in _ (by omega)]
  by_cases c : p < 65536
  · simp only [a, b, c, decide_true, decide_false, cond_true, cond_false, if_true, if_false]
    rw [shr6, shr12, andq h0 (by omega), andq (by omega) (by omega), q _ (by omega) (by omega), q _ (by omega) (by omega), orq (x := 14) (z := 224) 4 rfl (by omega) (by omega) (by omega) (by omega), IntWalk.u8_in _ (by omega)]
  · simp only [a, b, c, decide_true, decide_false, cond_true, cond_false, if_true, if_false]
    rw [shr6, shr12, shr18, andq h0 (by omega), andq (by omega) (by omega), andq (by omega) (by omega), q _ (by omega) (by omega), q _ (by omega) (by omega), q _ (by omega) (by omega), orq (x := 30) (z := 240) 3 rfl (by omega) (by omega) (by omega) (by omega), IntWalk.u8_in _ (by omega)]
theorem one_step (N : Nat) (s : ByteArray) (n : Nat) (k p i : Int) (hi0 : 0 ≤ i) (hik : i < k) (hk : k ≤ s.size) (hk4 : k ≤ 4) (hp0 : 0 ≤ p) (hp : p < 1048576) : l2One.L0 N s (n + 1) k p i = l2One.L0 N s n k (p * 64 + byteAt s i % 64) (i + 1) := by
  have hb := byteAt_rng s i
  rw [l2One.L0]
  simp only [show decide (i < k) = true by simp; omega, cond_true, inR_t hi0 (show i < (s.size : Int) by omega)]
  rw [and63 hb.1 hb.2, w64 (n := byteAt s i % 64) (by omega) (by omega), shl6 hp0 hp, orq (x := p) (z := p * 64) 6 rfl hp0 (by omega) (by omega) (by omega), w64 (by omega) (by omega)]
def eqRes (l : List Int) (s : ByteArray) (k : Nat) : Bool := decide (l = (List.range k).map fun i : Nat => byteAt s i)
theorem one_end (N : Nat) (s : ByteArray) (n : Nat) (k : Nat) (p : Int) (hk : k ≤ s.size) (hp0 : 0 ≤ p) (hp : p < 2097152) : ∃ l, l2Utf8.sem N p = some l ∧ l2One.L0 N s (n + 1) k p k = some (if eqRes l s k then (p, (k : Int)) else (0, 0)) := by
  refine ⟨_, utf8_val N hp0 hp, ?_⟩
  rw [l2One.L0, utf8_val N hp0 hp]
  simp only [Int.lt_irrefl, decide_false, cond_false, Option.bind_some, inC_iff.mpr ⟨Int.le_refl 0, show (0 : Int) ≤ (k : Int) by omega, show (k : Int) ≤ (s.size : Int) by omega⟩, cond_true]
  have he : ∀ l : List Int, l.map eB = l.map fun x => [IV.v (.int .u8 x)] := fun l => rfl
  rw [he, bytesC_map, Int.toNat_natCast, show (0 : Int).toNat = 0 from rfl, eqB (by
    intro x hx
    repeat' split at hx
    all_goals
      simp only [List.mem_cons, List.not_mem_nil, or_false] at hx
      omega) hk]
  have aux : ∀ z : Bool, (bif !z then some ((0 : Int), (0 : Int)) else some (p, (k : Int))) = some (if z then (p, (k : Int)) else (0, 0)) := by
    intro z
    cases z <;> rfl
  exact aux (eqRes _ s k)
def cont (x : Int) : Prop := 128 ≤ x ∧ x < 192
instance (x : Int) : Decidable (cont x) := by unfold cont; infer_instance
def tk (n : Nat) (a b c d : Int) : Int × Int :=
  if a < 128 then (a, 1)
  else if 194 ≤ a ∧ a < 224 ∧ 2 ≤ n ∧ cont b then (a % 32 * 64 + b % 64, 2)
  else if 224 ≤ a ∧ a < 240 ∧ 3 ≤ n ∧ cont b ∧ cont c ∧ (a = 224 → 160 ≤ b) then ((a % 16 * 64 + b % 64) * 64 + c % 64, 3)
  else if 240 ≤ a ∧ a < 248 ∧ 4 ≤ n ∧ cont b ∧ cont c ∧ cont d ∧ (a = 240 → 144 ≤ b) then (((a % 8 * 64 + b % 64) * 64 + c % 64) * 64 + d % 64, 4)
  else (0, 0)
theorem iteC {α : Type} {p q : Prop} [Decidable p] [Decidable q] {x y : α} (h : p ↔ q) : (if p then x else y) = if q then x else y := by
  by_cases hp : p
  · rw [if_pos hp, if_pos (h.mp hp)]
  · rw [if_neg hp, if_neg (fun hq => hp (h.mpr hq))]
theorem tk4 {n : Nat} {a b c d : Int} (h : 240 ≤ a) : tk n a b c d = if 240 ≤ a ∧ a < 248 ∧ 4 ≤ n ∧ cont b ∧ cont c ∧ cont d ∧ (a = 240 → 144 ≤ b) then (((a % 8 * 64 + b % 64) * 64 + c % 64) * 64 + d % 64, 4) else (0, 0) := by
  rw [tk, if_neg (by omega), if_neg (by omega), if_neg (by omega)]
theorem tk3 {n : Nat} {a b c d : Int} (h : 224 ≤ a) (h' : a < 240) : tk n a b c d = if 224 ≤ a ∧ a < 240 ∧ 3 ≤ n ∧ cont b ∧ cont c ∧ (a = 224 → 160 ≤ b) then ((a % 16 * 64 + b % 64) * 64 + c % 64, 3) else (0, 0) := by
  rw [tk, if_neg (by omega), if_neg (by omega)]
  congr 1
  exact if_neg (by omega)
theorem tk2 {n : Nat} {a b c d : Int} (h : 128 ≤ a) (h' : a < 224) : tk n a b c d = if 194 ≤ a ∧ a < 224 ∧ 2 ≤ n ∧ cont b then (a % 32 * 64 + b % 64, 2) else (0, 0) := by
  rw [tk, if_neg (by omega)]
  congr 1
  rw [if_neg (by omega), if_neg (by omega)]
theorem one_val (N : Nat) (hN : 5 ≤ N) (s : ByteArray) (hs : 0 < s.size) : l2One.sem N s = some (tk s.size (byteAt s 0) (byteAt s 1) (byteAt s 2) (byteAt s 3)) := by
  obtain ⟨N, rfl⟩ : ∃ M, N = M + 5 := ⟨N - 5, by omega⟩
  have ha := byteAt_rng s 0
  have hb := byteAt_rng s 1
  have hc := byteAt_rng s 2
  have hd := byteAt_rng s 3
  rw [l2One.sem]
  simp only [inR_t (show (0 : Int) ≤ 0 by omega) (show (0 : Int) < (s.size : Int) by omega), cond_true]
  rw [w64 (n := byteAt s 0) (by omega) (by omega), and7q ha.1 ha.2, and15q ha.1 ha.2, and31q ha.1 ha.2]
  by_cases c4 : byteAt s 0 ≥ 240
  · by_cases z4 : (s.size : Int) < 4
    · simp only [c4, z4, decide_true, decide_false, cond_true, cond_false]
      rw [tk4 (by omega), if_neg (by omega)]
    · simp only [c4, z4, decide_true, decide_false, cond_true, cond_false]
      rw [one_step _ s _ 4 _ _ (by omega) (by omega) (by omega) (by omega) (by omega) (by omega)]
      rw [one_step _ s _ 4 _ _ (by omega) (by omega) (by omega) (by omega) (by omega) (by omega)]
      rw [one_step _ s _ 4 _ _ (by omega) (by omega) (by omega) (by omega) (by omega) (by omega)]
      obtain ⟨l, e, h⟩ := one_end (N + 5) s (N + 1) 4 (((byteAt s 0 % 8 * 64 + byteAt s 1 % 64) * 64 + byteAt s 2 % 64) * 64 + byteAt s 3 % 64) (by omega) (by omega) (by omega)
      refine h.trans ?_
      rw [utf8_val _ (by omega) (by omega)] at e
      obtain rfl := Option.some.inj e
      rw [tk4 (by omega)]
      congr 1
      have hr : (List.range 4).map (fun i : Nat => byteAt s i) = [byteAt s 0, byteAt s 1, byteAt s 2, byteAt s 3] := rfl
      rw [eqRes, hr]
      simp only [decide_eq_true_eq]
      refine iteC ?_
      unfold cont
      generalize byteAt s 0 = a at *
      generalize byteAt s 1 = b at *
      generalize byteAt s 2 = c at *
      generalize byteAt s 3 = d at *
      repeat' split
      all_goals
        simp only [List.cons.injEq, reduceCtorEq, and_true, and_false, false_iff]
        omega
  by_cases c3 : byteAt s 0 ≥ 224
  · by_cases z3 : (s.size : Int) < 3
    · simp only [c4, c3, z3, decide_true, decide_false, cond_true, cond_false]
      rw [tk3 (by omega) (by omega), if_neg (by omega)]
    · simp only [c4, c3, z3, decide_true, decide_false, cond_true, cond_false]
      rw [one_step _ s _ 3 _ _ (by omega) (by omega) (by omega) (by omega) (by omega) (by omega)]
      rw [one_step _ s _ 3 _ _ (by omega) (by omega) (by omega) (by omega) (by omega) (by omega)]
      obtain ⟨l, e, h⟩ := one_end (N + 5) s (N + 2) 3 ((byteAt s 0 % 16 * 64 + byteAt s 1 % 64) * 64 + byteAt s 2 % 64) (by omega) (by omega) (by omega)
      refine h.trans ?_
      rw [utf8_val _ (by omega) (by omega)] at e
      obtain rfl := Option.some.inj e
      rw [tk3 (by omega) (by omega)]
      congr 1
      have hr : (List.range 3).map (fun i : Nat => byteAt s i) = [byteAt s 0, byteAt s 1, byteAt s 2] := rfl
      rw [eqRes, hr]
      simp only [decide_eq_true_eq]
      refine iteC ?_
      unfold cont
      generalize byteAt s 0 = a at *
      generalize byteAt s 1 = b at *
      generalize byteAt s 2 = c at *
      repeat' split
      all_goals
        simp only [List.cons.injEq, reduceCtorEq, and_true, and_false, false_iff]
        omega
  by_cases c2 : byteAt s 0 ≥ 192
  · by_cases z2 : (s.size : Int) < 2
    · simp only [c4, c3, c2, z2, decide_true, decide_false, cond_true, cond_false]
      rw [tk2 (by omega) (by omega), if_neg (by omega)]
    · simp only [c4, c3, c2, z2, decide_true, decide_false, cond_true, cond_false]
      rw [one_step _ s _ 2 _ _ (by omega) (by omega) (by omega) (by omega) (by omega) (by omega)]
      obtain ⟨l, e, h⟩ := one_end (N + 5) s (N + 3) 2 (byteAt s 0 % 32 * 64 + byteAt s 1 % 64) (by omega) (by omega) (by omega)
      refine h.trans ?_
      rw [utf8_val _ (by omega) (by omega)] at e
      obtain rfl := Option.some.inj e
      rw [tk2 (by omega) (by omega)]
      congr 1
      have hr : (List.range 2).map (fun i : Nat => byteAt s i) = [byteAt s 0, byteAt s 1] := rfl
      rw [eqRes, hr]
      simp only [decide_eq_true_eq]
      refine iteC ?_
      unfold cont
      generalize byteAt s 0 = a at *
      generalize byteAt s 1 = b at *
      repeat' split
      all_goals
        simp only [List.cons.injEq, reduceCtorEq, and_true, and_false, false_iff]
        omega
  by_cases z1 : (s.size : Int) < 1
  · simp only [c4, c3, c2, z1, decide_true, decide_false, cond_true, cond_false]
    omega
  · simp only [c4, c3, c2, z1, decide_true, decide_false, cond_true, cond_false]
    obtain ⟨l, e, h⟩ := one_end (N + 5) s (N + 4) 1 (byteAt s 0) (by omega) (by omega) (by omega)
    refine h.trans ?_
    rw [utf8_val _ (by omega) (by omega)] at e
    obtain rfl := Option.some.inj e
    have hr : (List.range 1).map (fun i : Nat => byteAt s i) = [byteAt s 0] := rfl
    rw [eqRes, hr]
    by_cases hlt : byteAt s 0 < 128
    · rw [tk, if_pos hlt]
      simp [hlt]
    · rw [tk2 (by omega) (by omega), if_neg (by omega : ¬ (194 ≤ byteAt s 0 ∧ byteAt s 0 < 224 ∧ 2 ≤ s.size ∧ cont (byteAt s 1))), if_neg]
      simp only [hlt, if_false, decide_eq_true_eq]
      generalize byteAt s 0 = a at *
      repeat' split
      all_goals
        simp only [List.cons.injEq, reduceCtorEq, and_true, and_false, not_false_eq_true]
end Go.Proofs.YtljdidlkiknknaaDoor.AB
namespace Go.Proofs.YtljdidlkiknknaaDoor.AB
open Go Go.RowKit Go.Proofs.YtljdidlkiknknaaDoorW.PrintWords Go.Proofs.YtljdidlkiknknaaDoorW.PrintMore
set_option linter.unusedSimpArgs false
set_option linter.unusedVariables false
theorem shl32_6 {x : Int} (h0 : 0 ≤ x) (h1 : x < 1048576) : shlV .i32 x 6 = x * 64 := by
  show IntKind.i32.wrap (x * 64) = x * 64
  exact IntWalk.i32_in _ (by omega)
theorem shl32_12 {x : Int} (h0 : 0 ≤ x) (h1 : x < 1024) : shlV .i32 x 12 = x * 4096 := by
  show IntKind.i32.wrap (x * 4096) = x * 4096
  exact IntWalk.i32_in _ (by omega)
theorem shl32_18 {x : Int} (h0 : 0 ≤ x) (h1 : x < 1024) : shlV .i32 x 18 = x * 262144 := by
  show IntKind.i32.wrap (x * 262144) = x * 262144
  exact IntWalk.i32_in _ (by omega)
def slow (sz : Int) (lo hi : Int) (n : Nat) (a b c d : Int) : Int × Int :=
  if (n : Int) < sz then (65533, 1) else if b < lo then (65533, 1) else if hi < b then (65533, 1)
  else if sz ≤ 2 then (a % 32 * 64 + b % 64, 2)
  else if c < 128 then (65533, 1) else if 191 < c then (65533, 1)
  else if sz ≤ 3 then ((a % 16 * 64 + b % 64) * 64 + c % 64, 3)
  else if d < 128 then (65533, 1) else if 191 < d then (65533, 1)
  else (((a % 8 * 64 + b % 64) * 64 + c % 64) * 64 + d % 64, 4)
theorem slow_gen (N : Nat) (s : ByteArray) (hs : 0 < s.size) {v sz lo hi : Int} (hv : tab6.getD (byteAt s 0).toNat default = v) (hlt : v < 240) (hsz : IntKind.i64.wrap (IntKind.u8.wrap (((BitVec.ofInt 8 v &&& BitVec.ofInt 8 7).toNat : Int))) = sz) (ht : inR (shrV .u8 v 4) tab7.length = true) (h7 : tab7.getD (shrV .u8 v 4).toNat default = (lo, hi)) (h2 : 2 ≤ sz) (h4 : sz ≤ 4) :
    decSlow.sem N s = some (slow sz lo hi s.size (byteAt s 0) (byteAt s 1) (byteAt s 2) (byteAt s 3)) := by
  have ha := byteAt_rng s 0
  have hb := byteAt_rng s 1
  have hc := byteAt_rng s 2
  have hd := byteAt_rng s 3
  have i32 {x : Int} (h0 : 0 ≤ x) (h1 : x < 256) : IntKind.i32.wrap x = x := IntWalk.i32_in _ (by omega)
  rw [decSlow.sem, slow]
  simp only [hv, hsz, ht, h7, inR_t (show (0 : Int) ≤ 0 by omega) (show (0 : Int) < (s.size : Int) by omega), inR_t ha.1 (show byteAt s 0 < (tab6.length : Int) by rw [← tab6_len]; omega), cond_true, show decide ((s.size : Int) < 1) = false by simp; omega, cond_false, show decide (v ≥ 240) = false by simp; omega]
  by_cases z : (s.size : Int) < sz
  · simp only [z, decide_true, cond_true, if_true]
  simp only [z, decide_false, cond_false, if_false, inR_t (show (0 : Int) ≤ 1 by omega) (show (1 : Int) < (s.size : Int) by omega), cond_true]
  by_cases z1 : byteAt s 1 < lo
  · simp only [z1, decide_true, cond_true, if_true]
  by_cases z2 : hi < byteAt s 1
  · simp only [z1, z2, decide_true, cond_true, decide_false, cond_false, if_true, if_false]
  by_cases z3 : sz ≤ 2
  · simp only [z1, z2, z3, decide_true, cond_true, decide_false, cond_false, if_true, if_false]
    rw [and31 ha.1 ha.2, and63 hb.1 hb.2, i32 (x := byteAt s 0 % 32) (by omega) (by omega), i32 (x := byteAt s 1 % 64) (by omega) (by omega), shl32_6 (by omega) (by omega), or3 (x := byteAt s 0 % 32) (z := byteAt s 0 % 32 * 64) 6 rfl (by omega) (by omega) (by omega) (by omega)]
  simp only [z1, z2, z3, decide_true, cond_true, decide_false, cond_false, if_true, if_false, inR_t (show (0 : Int) ≤ 2 by omega) (show (2 : Int) < (s.size : Int) by omega)]
  by_cases z4 : byteAt s 2 < 128
  · simp only [z4, decide_true, cond_true, if_true]
  by_cases z5 : 191 < byteAt s 2
  · simp only [z4, z5, decide_true, cond_true, decide_false, cond_false, if_true, if_false]
  by_cases z6 : sz ≤ 3
  · simp only [z4, z5, z6, decide_true, cond_true, decide_false, cond_false, if_true, if_false]
    rw [and15 ha.1 ha.2, and63 hb.1 hb.2, and63 hc.1 hc.2, i32 (x := byteAt s 0 % 16) (by omega) (by omega), i32 (x := byteAt s 1 % 64) (by omega) (by omega), i32 (x := byteAt s 2 % 64) (by omega) (by omega), shl32_12 (by omega) (by omega), shl32_6 (by omega) (by omega), or3 (x := byteAt s 0 % 16) (z := byteAt s 0 % 16 * 4096) 12 rfl (by omega) (by omega) (by omega) (by omega), or3 (x := byteAt s 0 % 16 * 64 + byteAt s 1 % 64) (z := byteAt s 0 % 16 * 4096 + byteAt s 1 % 64 * 64) 6 (by show _ = _ * (64 : Int); omega) (by omega) (by omega) (by omega) (by omega)]
    congr 2
    omega
  simp only [z4, z5, z6, decide_true, cond_true, decide_false, cond_false, if_true, if_false, inR_t (show (0 : Int) ≤ 3 by omega) (show (3 : Int) < (s.size : Int) by omega)]
  by_cases z7 : byteAt s 3 < 128
  · simp only [z7, decide_true, cond_true, if_true]
  by_cases z8 : 191 < byteAt s 3
  · simp only [z7, z8, decide_true, cond_true, decide_false, cond_false, if_true, if_false]
  simp only [z7, z8, decide_true, cond_true, decide_false, cond_false, if_true, if_false]
  rw [and7 ha.1 ha.2, and63 hb.1 hb.2, and63 hc.1 hc.2, and63 hd.1 hd.2, i32 (x := byteAt s 0 % 8) (by omega) (by omega), i32 (x := byteAt s 1 % 64) (by omega) (by omega), i32 (x := byteAt s 2 % 64) (by omega) (by omega), i32 (x := byteAt s 3 % 64) (by omega) (by omega), shl32_18 (by omega) (by omega), shl32_12 (by omega) (by omega), shl32_6 (by omega) (by omega), or3 (x := byteAt s 0 % 8) (z := byteAt s 0 % 8 * 262144) 18 rfl (by omega) (by omega) (by omega) (by omega), or3 (x := byteAt s 0 % 8 * 64 + byteAt s 1 % 64) (z := byteAt s 0 % 8 * 262144 + byteAt s 1 % 64 * 4096) 12 (by show _ = _ * (4096 : Int); omega) (by omega) (by omega) (by omega) (by omega),
    or3 (x := (byteAt s 0 % 8 * 64 + byteAt s 1 % 64) * 64 + byteAt s 2 % 64) (z := byteAt s 0 % 8 * 262144 + byteAt s 1 % 64 * 4096 + byteAt s 2 % 64 * 64) 6 (by show _ = _ * (64 : Int); omega) (by omega) (by omega) (by omega) (by omega)]
  congr 2
  omega
theorem tab_cls {a : Int} (h0 : 0 ≤ a) (h1 : a < 256) : 128 ≤ a → (240 ≤ tab6.getD a.toNat default ∧ (a < 194 ∨ 245 ≤ a)) ∨ (tab6.getD a.toNat default = 2 ∧ 194 ≤ a ∧ a < 224) ∨ (tab6.getD a.toNat default = 19 ∧ a = 224) ∨ (tab6.getD a.toNat default = 3 ∧ 225 ≤ a ∧ a < 240 ∧ a ≠ 237) ∨ (tab6.getD a.toNat default = 35 ∧ a = 237) ∨ (tab6.getD a.toNat default = 52 ∧ a = 240) ∨ (tab6.getD a.toNat default = 4 ∧ 241 ≤ a ∧ a ≤ 243) ∨ (tab6.getD a.toNat default = 68 ∧ a = 244) :=
  byte_ind (P := fun a => 128 ≤ a → (240 ≤ tab6.getD a.toNat default ∧ (a < 194 ∨ 245 ≤ a)) ∨ (tab6.getD a.toNat default = 2 ∧ 194 ≤ a ∧ a < 224) ∨ (tab6.getD a.toNat default = 19 ∧ a = 224) ∨ (tab6.getD a.toNat default = 3 ∧ 225 ≤ a ∧ a < 240 ∧ a ≠ 237) ∨ (tab6.getD a.toNat default = 35 ∧ a = 237) ∨ (tab6.getD a.toNat default = 52 ∧ a = 240) ∨ (tab6.getD a.toNat default = 4 ∧ 241 ≤ a ∧ a ≤ 243) ∨ (tab6.getD a.toNat default = 68 ∧ a = 244)) (by decide +kernel) h0 h1
theorem mask_bad {a : Int} (h0 : 0 ≤ a) (h1 : a < 256) : 128 ≤ a → 240 ≤ tab6.getD a.toNat default → IntKind.i32.wrap (((BitVec.ofInt 32 (IntKind.i32.wrap (((BitVec.ofInt 32 (IntKind.i32.wrap a) &&& ~~~(BitVec.ofInt 32 (shrV .i32 (shlV .i32 (IntKind.i32.wrap ((tab6.getD a.toNat default))) 31) 31))).toNat : Int))) ||| BitVec.ofInt 32 (IntKind.i32.wrap (((BitVec.ofInt 32 65533 &&& BitVec.ofInt 32 (shrV .i32 (shlV .i32 (IntKind.i32.wrap ((tab6.getD a.toNat default))) 31) 31)).toNat : Int)))).toNat : Int)) = 65533 :=
  byte_ind (P := fun a => 128 ≤ a → 240 ≤ tab6.getD a.toNat default → IntKind.i32.wrap (((BitVec.ofInt 32 (IntKind.i32.wrap (((BitVec.ofInt 32 (IntKind.i32.wrap a) &&& ~~~(BitVec.ofInt 32 (shrV .i32 (shlV .i32 (IntKind.i32.wrap ((tab6.getD a.toNat default))) 31) 31))).toNat : Int))) ||| BitVec.ofInt 32 (IntKind.i32.wrap (((BitVec.ofInt 32 65533 &&& BitVec.ofInt 32 (shrV .i32 (shlV .i32 (IntKind.i32.wrap ((tab6.getD a.toNat default))) 31) 31)).toNat : Int)))).toNat : Int)) = 65533) (by decide +kernel) h0 h1
def badP (p : Int) : Prop := (55296 ≤ p ∧ p ≤ 57343) ∨ 1114111 < p
instance (p : Int) : Decidable (badP p) := by unfold badP; infer_instance
def ti (n : Nat) (a b c d : Int) : Int × Int := if badP (tk n a b c d).1 then (0, 0) else tk n a b c d
def fin (r : Int × Int) : Int × Int := if r.1 = 65533 ∧ r.2 ≤ 1 then (0, 0) else r
theorem comb {n : Nat} {a b c d : Int} {r : Int × Int} (h : (r = (65533, 1) ∧ (tk n a b c d = (0, 0) ∨ badP (tk n a b c d).1)) ∨ (∃ p k, r = (p, k) ∧ tk n a b c d = (p, k) ∧ ¬ badP p ∧ 2 ≤ k ∧ 0 ≤ p)) : fin r = ti n a b c d ∧ 0 ≤ r.1 ∧ r.1 < 1114112 := by
  rcases h with ⟨rfl, h⟩ | ⟨p, k, rfl, e, h1, h2, h3⟩
  · refine ⟨?_, by decide, by decide⟩
    unfold ti
    rcases h with h | h
    · rw [h]
      decide
    · rw [if_pos h]
      decide
  · refine ⟨?_, h3, ?_⟩
    · rw [ti, e, if_neg h1, fin, if_neg]
      show ¬ (p = 65533 ∧ k ≤ 1)
      omega
    · unfold badP at h1
      show p < 1114112
      omega
theorem cls2 {n : Nat} {a b c d : Int} (ha : 0 ≤ a ∧ a < 256) (hb : 0 ≤ b ∧ b < 256) (hc : 0 ≤ c ∧ c < 256) (hd : 0 ≤ d ∧ d < 256) (h : 194 ≤ a ∧ a < 224) : fin (slow 2 128 191 n a b c d) = ti n a b c d ∧ 0 ≤ (slow 2 128 191 n a b c d).1 ∧ (slow 2 128 191 n a b c d).1 < 1114112 := by
  apply comb
  by_cases v : 2 ≤ n ∧ 128 ≤ b ∧ b ≤ 191
  · refine Or.inr ⟨a % 32 * 64 + b % 64, 2, ?_, ?_, ?_, by decide, by omega⟩
    · unfold slow
      repeat' split
      all_goals first | rfl | (exfalso; omega)
    · rw [tk2 (by omega) (by omega), if_pos]
      unfold cont
      omega
    · unfold badP
      omega
  · refine Or.inl ⟨?_, ?_⟩
    · unfold slow
      repeat' split
      all_goals first | rfl | (exfalso; omega)
    · rw [tk2 (by omega) (by omega)]
      refine Or.inl (if_neg ?_)
      unfold cont
      omega
theorem cls3a {n : Nat} {a b c d : Int} (ha : 0 ≤ a ∧ a < 256) (hb : 0 ≤ b ∧ b < 256) (hc : 0 ≤ c ∧ c < 256) (hd : 0 ≤ d ∧ d < 256) (h : a = 224) : fin (slow 3 160 191 n a b c d) = ti n a b c d ∧ 0 ≤ (slow 3 160 191 n a b c d).1 ∧ (slow 3 160 191 n a b c d).1 < 1114112 := by
  apply comb
  by_cases v : 3 ≤ n ∧ 160 ≤ b ∧ b ≤ 191 ∧ 128 ≤ c ∧ c ≤ 191
  · refine Or.inr ⟨(a % 16 * 64 + b % 64) * 64 + c % 64, 3, ?_, ?_, ?_, by decide, by omega⟩
    · unfold slow
      repeat' split
      all_goals first | rfl | (exfalso; omega)
    · rw [tk3 (by omega) (by omega), if_pos]
      unfold cont
      omega
    · unfold badP
      omega
  · refine Or.inl ⟨?_, ?_⟩
    · unfold slow
      repeat' split
      all_goals first | rfl | (exfalso; omega)
    · rw [tk3 (by omega) (by omega)]
      refine Or.inl (if_neg ?_)
      unfold cont
      omega
theorem cls3b {n : Nat} {a b c d : Int} (ha : 0 ≤ a ∧ a < 256) (hb : 0 ≤ b ∧ b < 256) (hc : 0 ≤ c ∧ c < 256) (hd : 0 ≤ d ∧ d < 256) (h : 225 ≤ a ∧ a < 240 ∧ a ≠ 237) : fin (slow 3 128 191 n a b c d) = ti n a b c d ∧ 0 ≤ (slow 3 128 191 n a b c d).1 ∧ (slow 3 128 191 n a b c d).1 < 1114112 := by
  apply comb
  by_cases v : 3 ≤ n ∧ 128 ≤ b ∧ b ≤ 191 ∧ 128 ≤ c ∧ c ≤ 191
  · refine Or.inr ⟨(a % 16 * 64 + b % 64) * 64 + c % 64, 3, ?_, ?_, ?_, by decide, by omega⟩
    · unfold slow
      repeat' split
      all_goals first | rfl | (exfalso; omega)
    · rw [tk3 (by omega) (by omega), if_pos]
      unfold cont
      omega
    · unfold badP
      omega
  · refine Or.inl ⟨?_, ?_⟩
    · unfold slow
      repeat' split
      all_goals first | rfl | (exfalso; omega)
    · rw [tk3 (by omega) (by omega)]
      refine Or.inl (if_neg ?_)
      unfold cont
      omega
theorem cls3c {n : Nat} {a b c d : Int} (ha : 0 ≤ a ∧ a < 256) (hb : 0 ≤ b ∧ b < 256) (hc : 0 ≤ c ∧ c < 256) (hd : 0 ≤ d ∧ d < 256) (h : a = 237) : fin (slow 3 128 159 n a b c d) = ti n a b c d ∧ 0 ≤ (slow 3 128 159 n a b c d).1 ∧ (slow 3 128 159 n a b c d).1 < 1114112 := by
  apply comb
  by_cases v : 3 ≤ n ∧ 128 ≤ b ∧ b ≤ 159 ∧ 128 ≤ c ∧ c ≤ 191
  · refine Or.inr ⟨(a % 16 * 64 + b % 64) * 64 + c % 64, 3, ?_, ?_, ?_, by decide, by omega⟩
    · unfold slow
      repeat' split
      all_goals first | rfl | (exfalso; omega)
    · rw [tk3 (by omega) (by omega), if_pos]
      unfold cont
      omega
    · unfold badP
      omega
  · refine Or.inl ⟨?_, ?_⟩
    · unfold slow
      repeat' split
      all_goals first | rfl | (exfalso; omega)
    · rw [tk3 (by omega) (by omega)]
      split
      · rename_i hv
        unfold cont at hv
        refine Or.inr ?_
        unfold badP
        simp only
        omega
      · exact Or.inl rfl
theorem cls4a {n : Nat} {a b c d : Int} (ha : 0 ≤ a ∧ a < 256) (hb : 0 ≤ b ∧ b < 256) (hc : 0 ≤ c ∧ c < 256) (hd : 0 ≤ d ∧ d < 256) (h : a = 240) : fin (slow 4 144 191 n a b c d) = ti n a b c d ∧ 0 ≤ (slow 4 144 191 n a b c d).1 ∧ (slow 4 144 191 n a b c d).1 < 1114112 := by
  apply comb
  by_cases v : 4 ≤ n ∧ 144 ≤ b ∧ b ≤ 191 ∧ 128 ≤ c ∧ c ≤ 191 ∧ 128 ≤ d ∧ d ≤ 191
  · refine Or.inr ⟨((a % 8 * 64 + b % 64) * 64 + c % 64) * 64 + d % 64, 4, ?_, ?_, ?_, by decide, by omega⟩
    · unfold slow
      repeat' split
      all_goals first | rfl | (exfalso; omega)
    · rw [tk4 (by omega), if_pos]
      unfold cont
      omega
    · unfold badP
      omega
  · refine Or.inl ⟨?_, ?_⟩
    · unfold slow
      repeat' split
      all_goals first | rfl | (exfalso; omega)
    · rw [tk4 (by omega)]
      refine Or.inl (if_neg ?_)
      unfold cont
      omega
theorem cls4b {n : Nat} {a b c d : Int} (ha : 0 ≤ a ∧ a < 256) (hb : 0 ≤ b ∧ b < 256) (hc : 0 ≤ c ∧ c < 256) (hd : 0 ≤ d ∧ d < 256) (h : 241 ≤ a ∧ a ≤ 243) : fin (slow 4 128 191 n a b c d) = ti n a b c d ∧ 0 ≤ (slow 4 128 191 n a b c d).1 ∧ (slow 4 128 191 n a b c d).1 < 1114112 := by
  apply comb
  by_cases v : 4 ≤ n ∧ 128 ≤ b ∧ b ≤ 191 ∧ 128 ≤ c ∧ c ≤ 191 ∧ 128 ≤ d ∧ d ≤ 191
  · refine Or.inr ⟨((a % 8 * 64 + b % 64) * 64 + c % 64) * 64 + d % 64, 4, ?_, ?_, ?_, by decide, by omega⟩
    · unfold slow
      repeat' split
      all_goals first | rfl | (exfalso; omega)
    · rw [tk4 (by omega), if_pos]
      unfold cont
      omega
    · unfold badP
      omega
  · refine Or.inl ⟨?_, ?_⟩
    · unfold slow
      repeat' split
      all_goals first | rfl | (exfalso; omega)
    · rw [tk4 (by omega)]
      refine Or.inl (if_neg ?_)
      unfold cont
      omega
theorem cls4c {n : Nat} {a b c d : Int} (ha : 0 ≤ a ∧ a < 256) (hb : 0 ≤ b ∧ b < 256) (hc : 0 ≤ c ∧ c < 256) (hd : 0 ≤ d ∧ d < 256) (h : a = 244) : fin (slow 4 128 143 n a b c d) = ti n a b c d ∧ 0 ≤ (slow 4 128 143 n a b c d).1 ∧ (slow 4 128 143 n a b c d).1 < 1114112 := by
  apply comb
  by_cases v : 4 ≤ n ∧ 128 ≤ b ∧ b ≤ 143 ∧ 128 ≤ c ∧ c ≤ 191 ∧ 128 ≤ d ∧ d ≤ 191
  · refine Or.inr ⟨((a % 8 * 64 + b % 64) * 64 + c % 64) * 64 + d % 64, 4, ?_, ?_, ?_, by decide, by omega⟩
    · unfold slow
      repeat' split
      all_goals first | rfl | (exfalso; omega)
    · rw [tk4 (by omega), if_pos]
      unfold cont
      omega
    · unfold badP
      omega
  · refine Or.inl ⟨?_, ?_⟩
    · unfold slow
      repeat' split
      all_goals first | rfl | (exfalso; omega)
    · rw [tk4 (by omega)]
      split
      · rename_i hv
        unfold cont at hv
        refine Or.inr ?_
        unfold badP
        simp only
        omega
      · exact Or.inl rfl
theorem rune_val (N : Nat) (s : ByteArray) (hs : 0 < s.size) (ha : 128 ≤ byteAt s 0) : ∃ r, decSlow.sem N s = some r ∧ fin r = ti s.size (byteAt s 0) (byteAt s 1) (byteAt s 2) (byteAt s 3) ∧ 0 ≤ r.1 ∧ r.1 < 1114112 := by
  have ha' := byteAt_rng s 0
  have hb := byteAt_rng s 1
  have hc := byteAt_rng s 2
  have hd := byteAt_rng s 3
  have fini {sz lo hi : Int} (h : decSlow.sem N s = some (slow sz lo hi s.size (byteAt s 0) (byteAt s 1) (byteAt s 2) (byteAt s 3))) (h2 : fin (slow sz lo hi s.size (byteAt s 0) (byteAt s 1) (byteAt s 2) (byteAt s 3)) = ti s.size (byteAt s 0) (byteAt s 1) (byteAt s 2) (byteAt s 3) ∧ 0 ≤ (slow sz lo hi s.size (byteAt s 0) (byteAt s 1) (byteAt s 2) (byteAt s 3)).1 ∧ (slow sz lo hi s.size (byteAt s 0) (byteAt s 1) (byteAt s 2) (byteAt s 3)).1 < 1114112) : ∃ r, decSlow.sem N s = some r ∧ fin r = ti s.size (byteAt s 0) (byteAt s 1) (byteAt s 2) (byteAt s 3) ∧ 0 ≤ r.1 ∧ r.1 < 1114112 := ⟨_, h, h2⟩
  rcases tab_cls ha'.1 ha'.2 ha with ⟨e, h⟩ | ⟨e, h⟩ | ⟨e, h⟩ | ⟨e, h⟩ | ⟨e, h⟩ | ⟨e, h⟩ | ⟨e, h⟩ | ⟨e, h⟩
  · refine ⟨(65533, 1), ?_, ?_, by decide, by decide⟩
    · rw [decSlow.sem]
      simp only [inR_t (show (0 : Int) ≤ 0 by omega) (show (0 : Int) < (s.size : Int) by omega), inR_t ha'.1 (show byteAt s 0 < (tab6.length : Int) by rw [← tab6_len]; omega), cond_true, show decide ((s.size : Int) < 1) = false by simp; omega, cond_false, show decide ((tab6.getD (byteAt s 0).toNat default) ≥ 240) = true by simpa using e]
      rw [mask_bad ha'.1 ha'.2 ha e]
    · refine (comb (Or.inl ⟨rfl, ?_⟩)).1
      by_cases h2 : byteAt s 0 < 224
      · rw [tk2 (by omega) (by omega)]
        exact Or.inl (if_neg (by omega))
      · rw [tk4 (by omega)]
        split
        · refine Or.inr ?_
          unfold badP
          simp only
          omega
        · exact Or.inl rfl
  · exact fini (slow_gen N s hs e (by decide) (sz := 2) (lo := 128) (hi := 191) (by decide +kernel) (by decide +kernel) (by decide +kernel) (by decide) (by decide)) (cls2 ha' hb hc hd h)
  · exact fini (slow_gen N s hs e (by decide) (sz := 3) (lo := 160) (hi := 191) (by decide +kernel) (by decide +kernel) (by decide +kernel) (by decide) (by decide)) (cls3a ha' hb hc hd h)
  · exact fini (slow_gen N s hs e (by decide) (sz := 3) (lo := 128) (hi := 191) (by decide +kernel) (by decide +kernel) (by decide +kernel) (by decide) (by decide)) (cls3b ha' hb hc hd h)
  · exact fini (slow_gen N s hs e (by decide) (sz := 3) (lo := 128) (hi := 159) (by decide +kernel) (by decide +kernel) (by decide +kernel) (by decide) (by decide)) (cls3c ha' hb hc hd h)
  · exact fini (slow_gen N s hs e (by decide) (sz := 4) (lo := 144) (hi := 191) (by decide +kernel) (by decide +kernel) (by decide +kernel) (by decide) (by decide)) (cls4a ha' hb hc hd h)
  · exact fini (slow_gen N s hs e (by decide) (sz := 4) (lo := 128) (hi := 191) (by decide +kernel) (by decide +kernel) (by decide +kernel) (by decide) (by decide)) (cls4b ha' hb hc hd h)
  · exact fini (slow_gen N s hs e (by decide) (sz := 4) (lo := 128) (hi := 143) (by decide +kernel) (by decide +kernel) (by decide +kernel) (by decide) (by decide)) (cls4c ha' hb hc hd h)
end Go.Proofs.YtljdidlkiknknaaDoor.AB
namespace Go.Proofs.YtljdidlkiknknaaDoor.AB
open Go Go.RowKit Go.Proofs.YtljdidlkiknknaaDoorW.PrintWords Go.Proofs.YtljdidlkiknknaaDoorW.PrintMore
set_option linter.unusedSimpArgs false
set_option linter.unusedVariables false
theorem take_val (N : Nat) (s : ByteArray) (hs : 0 < s.size) : takePoint.sem N s 1 = some (ti s.size (byteAt s 0) (byteAt s 1) (byteAt s 2) (byteAt s 3)) := by
  have ha := byteAt_rng s 0
  have hne : (!(s.toList == (⟨#[]⟩ : ByteArray).toList)) = true := by
    rw [toList_data, toList_data]
    have hl : 0 < s.data.toList.length := hs
    cases h : s.data.toList with
    | nil => simp [h] at hl
    | cons x l => rfl
  rw [takePoint.sem, decRune.sem]
  simp only [hne, show ((1 : Int) == 1) = true from rfl, cond_true, inR_t (show (0 : Int) ≤ 0 by omega) (show (0 : Int) < (s.size : Int) by omega)]
  by_cases c : byteAt s 0 < 128
  · simp only [c, decide_true, cond_true, Option.bind_some]
    rw [IntWalk.i32_in _ (by omega), show (byteAt s 0 == 65533) = false by simp; omega, w64 (by omega) (by omega), ti, tk, if_pos c, if_neg]
    · rfl
    · unfold badP
      simp only
      omega
  · simp only [c, decide_false, cond_false]
    obtain ⟨r, e, hf, h0, h1⟩ := rune_val N s hs (by omega)
    rw [e, ← hf, fin]
    simp only [Option.bind_some]
    rw [w64 (by omega) (by omega)]
    by_cases z : r.1 = 65533
    · by_cases z2 : r.2 ≤ 1
      · simp [z, z2]
      · rw [if_neg (by omega)]
        simp only [show (r.1 == 65533) = true by simpa using z, z2, decide_false, cond_true, cond_false]
    · rw [if_neg (by omega)]
      simp only [show (r.1 == 65533) = false by simpa using z, cond_false]
theorem tk_rng {n : Nat} {a b c d : Int} (hn : 0 < n) (ha : 0 ≤ a ∧ a < 256) : 0 ≤ (tk n a b c d).1 ∧ 0 ≤ (tk n a b c d).2 ∧ (tk n a b c d).2 ≤ n := by
  unfold tk
  repeat' split
  all_goals
    simp only
    omega
def goodP (p : Int) : Bool := (decide (0 ≤ p) && decide (p ≤ 1114111)) && !(decide (55296 ≤ p) && decide (p ≤ 57343))
theorem points_L0 (N : Nat) (l : List Int) (hl : l.length ≤ 400) : ∀ (m n j : Nat), j + m = l.length → m < n → l2Points.L0 N l n (j : Int) = some ((l.drop j).all goodP && decide ((l.length : Int) ≤ 300))
  | 0, n, j, h, hn => by
    obtain ⟨n, rfl⟩ : ∃ n', n = n' + 1 := ⟨n - 1, by omega⟩
    rw [l2Points.L0]
    simp only [List.length_map, show decide ((j : Int) < (l.length : Int)) = false by simp; omega, cond_false]
    rw [List.drop_eq_nil_of_le (by omega)]
    rfl
  | m + 1, n, j, h, hn => by
    obtain ⟨n, rfl⟩ : ∃ n', n = n' + 1 := ⟨n - 1, by omega⟩
    have hj : j < l.length := by omega
    rw [l2Points.L0]
    have hg : l.getD j default = l[j] := by simp [hj]
    simp only [List.length_map, show decide ((j : Int) < (l.length : Int)) = true by simp; omega, cond_true, inR_t (show (0 : Int) ≤ j by omega) (show (j : Int) < l.length by omega), Int.toNat_natCast, hg, sIn, Option.bind_some]
    rw [w64 (by omega) (by omega), List.drop_eq_getElem_cons hj, List.all_cons]
    have ih := points_L0 N l hl m n (j + 1) (by omega) (by omega)
    rw [show ((j : Int) + 1) = ((j + 1 : Nat) : Int) from rfl, ih]
    rw [show goodP l[j] = ((decide (0 ≤ l[j]) && decide (l[j] ≤ 1114111)) && !(decide (55296 ≤ l[j]) && decide (l[j] ≤ 57343))) from rfl]
    cases (decide (0 ≤ l[j]) && decide (l[j] ≤ 1114111)) <;> cases (decide (55296 ≤ l[j]) && decide (l[j] ≤ 57343)) <;> rfl
theorem points_val (N : Nat) (hN : 500 ≤ N) (l : List Int) (hl : l.length ≤ 400) : l2Points.sem N l = some (l.all goodP && decide ((l.length : Int) ≤ 300)) := by
  rw [l2Points.sem]
  have := points_L0 N l hl l.length N 0 (by omega) (by omega)
  rwa [List.drop_zero] at this
theorem ne_val (s : ByteArray) : (!(s.toList == (⟨#[]⟩ : ByteArray).toList)) = decide (0 < s.size) := by
  rw [toList_data, toList_data]
  have hl : s.data.toList.length = s.size := rfl
  rw [← hl]
  cases h : s.data.toList with
  | nil => rfl
  | cons x l => simp
theorem dec_end (N : Nat) (hN : 500 ≤ N) (s0 : ByteArray) (n : Nat) (s : ByteArray) (out : List Int) (hs : s.size = 0) (ho : out.length ≤ 300) :
    ∃ y, l2Decode.L0 N s0 1 (n + 1) s out = some y ∧ (out.all goodP = false → y.2 = false) ∧ (out.all goodP = true → ∃ x, decodePoints.L0 N s0 1 (n + 1) s out = some x ∧ x.2 = y.2) := by
  rw [l2Decode.L0, decodePoints.L0, ne_val, points_val N hN out (by omega)]
  simp only [hs, show decide (((0 : Nat) : Int) > 0) = false from rfl, show decide (0 < 0) = false from rfl, cond_false, Option.bind_some, show decide ((out.length : Int) ≤ 300) = true by simp; omega, Bool.and_true]
  exact ⟨_, rfl, fun h => h, fun h => ⟨_, rfl, h.symm⟩⟩
theorem dec_rel (N : Nat) (hN : 500 ≤ N) (s0 : ByteArray) : ∀ (k n : Nat) (s : ByteArray) (out : List Int), s.size ≤ k → k < n → out.length ≤ 300 →
    ∃ y, l2Decode.L0 N s0 1 n s out = some y ∧ (out.all goodP = false → y.2 = false) ∧ (out.all goodP = true → ∃ x, decodePoints.L0 N s0 1 n s out = some x ∧ x.2 = y.2) := by
  intro k
  induction k with
  | zero =>
    intro n s out hs hn ho
    obtain ⟨n, rfl⟩ : ∃ n', n = n' + 1 := ⟨n - 1, by omega⟩
    exact dec_end N hN s0 n s out (by omega) ho
  | succ k ih =>
    intro n s out hs hn ho
    obtain ⟨n, rfl⟩ : ∃ n', n = n' + 1 := ⟨n - 1, by omega⟩
    by_cases h0 : s.size = 0
    · exact dec_end N hN s0 n s out h0 ho
    have hp : 0 < s.size := by omega
    have hr := tk_rng (b := byteAt s 1) (c := byteAt s 2) (d := byteAt s 3) hp (byteAt_rng s 0)
    rw [l2Decode.L0, decodePoints.L0, ne_val, one_val N (by omega) s hp, take_val N s hp, ti]
    generalize tk s.size (byteAt s 0) (byteAt s 1) (byteAt s 2) (byteAt s 3) = r at hr ⊢
    simp only [hp, show decide ((s.size : Int) > 0) = true by simp; omega, decide_true, cond_true, inR_t (show (0 : Int) ≤ 0 by omega) (show (0 : Int) < (s.size : Int) by omega), show ((1 : Int) == 1) = true from rfl, Option.bind_some, List.length_append, List.length_map, List.length_cons, List.length_nil, okAp_t (show (out.length + (0 + 1)) * 8 ≤ 140737488355328 by omega)]
    by_cases hz : r.2 = 0
    · simp only [show (r.2 == 0) = true by simpa using hz, cond_true]
      refine ⟨_, rfl, fun _ => rfl, fun _ => ?_⟩
      by_cases hb : badP r.1
      · simp only [if_pos hb]
        exact ⟨_, rfl, rfl⟩
      · simp only [if_neg hb, show (r.2 == 0) = true by simpa using hz, cond_true]
        exact ⟨_, rfl, rfl⟩
    · simp only [show (r.2 == 0) = false by simpa using hz, cond_false]
      by_cases hl : out.length = 300
      · simp only [hl, show decide (((300 + (0 + 1) : Nat) : Int) > 300) = true from rfl, cond_true]
        refine ⟨_, rfl, fun _ => rfl, fun _ => ?_⟩
        by_cases hb : badP r.1
        · simp only [if_pos hb]
          exact ⟨_, rfl, rfl⟩
        · simp only [if_neg hb, show (r.2 == 0) = false by simpa using hz, cond_false]
          exact ⟨_, rfl, rfl⟩
      · have hi : inC r.2 (s.size : Int) s.size = true := inC_iff.mpr ⟨by omega, by omega, by omega⟩
        simp only [show decide (((out.length + (0 + 1) : Nat) : Int) > 300) = false by simp; omega, cond_false, hi, cond_true]
        obtain ⟨y, e, h1, h2⟩ := ih n (s.extract r.2.toNat ((s.size : Int)).toNat) (out ++ [r.1]) (by rw [ByteArray.size_extract]; omega) (by omega) (by simp; omega)
        have ha : (out ++ [r.1]).all goodP = (out.all goodP && goodP r.1) := by simp
        rw [ha] at h1 h2
        refine ⟨y, e, fun h => h1 (by rw [h]; rfl), fun h => ?_⟩
        by_cases hb : badP r.1
        · simp only [if_pos hb]
          refine ⟨_, rfl, (h1 ?_).symm⟩
          rw [h]
          unfold badP at hb
          unfold goodP
          simp
          omega
        · simp only [if_neg hb, show (r.2 == 0) = false by simpa using hz, cond_false, show ((out.length : Int) == 300) = false by simp; omega, hi, cond_true]
          apply h2
          rw [h]
          unfold badP at hb
          unfold goodP
          simp
          omega
theorem text_eq : TextEq := by
  intro s
  refine ⟨s.size + 500, fun N hN => ?_⟩
  obtain ⟨y, e, _, h2⟩ := dec_rel N (by omega) s s.size N s [] (by omega) (by omega) (by simp)
  obtain ⟨x, e2, hx⟩ := h2 rfl
  have e' : l2Decode.sem N s 1 = some y := e
  have e2' : decodePoints.sem N s 1 = some x := e2
  rw [textOk.sem, countPoints.sem, e2']
  simp only [Option.bind_some]
  refine ⟨_, y, ?_, e', rfl⟩
  rw [hx]
  cases y.2 <;> rfl
end Go.Proofs.YtljdidlkiknknaaDoor.AB
namespace Go.Proofs.YtljdidlkiknknaaDoor.AB
open Go Go.RowKit Go.Proofs.YtljdidlkiknknaaDoorW.PrintWords Go.Proofs.YtljdidlkiknknaaDoorW.PrintMore
set_option linter.unusedSimpArgs false
set_option linter.unusedVariables false
theorem wt_tree {l : List TN} (h : GoodT l) : ∀ (m k : Nat), k < l.length → l.length - k ≤ m → WT (treeT l k)
  | 0, k, h1, h2 => by omega
  | m + 1, k, h1, h2 => by
    rw [treeT_eq l k h1]
    have hg := h.2 k h1
    refine WT.mk (by simpa using hg.kd) (by simpa using hg.pt) (by simpa using hg.nn) fun x hx => ?_
    obtain ⟨j, hj, rfl⟩ := List.mem_map.mp hx
    have := partsT_mem hj h1
    exact wt_tree h m j.toNat (by omega) (by omega)
theorem vt_tree {l : List VN} (hl : l.length ≤ 100) (hn : ∀ x ∈ l, -9223372036854775808 ≤ x.n ∧ x.n < 9223372036854775808) : ∀ (m k : Nat), k < l.length → l.length - k ≤ m → VT (treeV l k)
  | 0, k, h1, h2 => by omega
  | m + 1, k, h1, h2 => by
    rw [treeV_eq l k h1]
    refine VT.mk ?_ ?_ fun x hx => ?_
    · have : l.getD k default = l[k] := by simp [h1]
      rw [this]
      exact hn _ (List.getElem_mem h1)
    · have := pf_len (upV l) k (l.length - (k + 1)) (k + 1)
      rw [List.length_map]
      unfold partsV
      omega
    · obtain ⟨j, hj, rfl⟩ := List.mem_map.mp hx
      have := partsV_mem hj h1
      exact vt_tree hl hn m j.toNat (by omega) (by omega)
theorem szVN_L0 (N : Nat) (l : List VN) (k : Int) (hl : l.length < 4611686018427387904) : ∀ (m n j : Nat) (a : Int), j + m = l.length → m < n → ∃ r, szVN.L0 N l k n a (j : Int) = some r
  | 0, n, j, a, h, hn => by
    obtain ⟨n, rfl⟩ : ∃ n', n = n' + 1 := ⟨n - 1, by omega⟩
    rw [szVN.L0]
    simp only [List.length_map, show decide ((j : Int) < (l.length : Int)) = false by simp; omega, cond_false]
    exact ⟨_, rfl⟩
  | m + 1, n, j, a, h, hn => by
    obtain ⟨n, rfl⟩ : ∃ n', n = n' + 1 := ⟨n - 1, by omega⟩
    rw [szVN.L0]
    simp only [List.length_map, show decide ((j : Int) < (l.length : Int)) = true by simp; omega, cond_true, inR_t (show (0 : Int) ≤ j by omega) (show (j : Int) < l.length by omega)]
    rw [w64 (by omega) (by omega), show ((j : Int) + 1) = ((j + 1 : Nat) : Int) from rfl]
    obtain ⟨z, hz⟩ : ∃ z, szVN1.sem N (l.getD (j : Int).toNat default) a = some z := by
      rw [szVN1.sem]
      cases decide (IntKind.i64.wrap (a - ((l.getD (j : Int).toNat default).text.size : Int)) < 0)
      · exact ⟨_, rfl⟩
      · exact ⟨_, rfl⟩
    rw [hz]
    simp only [Option.bind_some]
    cases decide (z < 0) with
    | true => exact ⟨_, rfl⟩
    | false => exact szVN_L0 N l k hl m n (j + 1) z (by omega) (by omega)
theorem szVN_val (N : Nat) (l : List VN) (k : Int) (hl : l.length < 4611686018427387904) (hN : l.length < N) (h0 : 0 ≤ k) (h1 : k ≤ 1048576) : ∃ r, szVN.sem N l k = some r ∧ (decide (r < 0) = false → l.length ≤ 1048576) := by
  rw [szVN.sem]
  simp only [List.length_map]
  rw [w64 (by omega) (by omega)]
  by_cases c : k - (l.length : Int) < 0
  · simp only [c, decide_true, cond_true]
    exact ⟨_, rfl, fun h => by cases h⟩
  · simp only [c, decide_false, cond_false]
    obtain ⟨r, h⟩ := szVN_L0 N l k hl l.length N 0 (k - (l.length : Int)) (by omega) (by omega)
    exact ⟨r, h, fun _ => by omega⟩
theorem toTN_L0 (N : Nat) (l : List TN) (hl : l.length ≤ 1048576) : ∀ (m n j : Nat), j + m = l.length → m < n → toTN.L0 N l n (j : Int) (l.take j ++ List.replicate m (TN.mk 0 0 0)) = some l
  | 0, n, j, h, hn => by
    obtain ⟨n, rfl⟩ : ∃ n', n = n' + 1 := ⟨n - 1, by omega⟩
    rw [toTN.L0]
    simp only [List.length_map, show decide ((j : Int) < (l.length : Int)) = false by simp; omega, cond_false]
    rw [List.take_of_length_le (by omega)]
    simp
  | m + 1, n, j, h, hn => by
    obtain ⟨n, rfl⟩ : ∃ n', n = n' + 1 := ⟨n - 1, by omega⟩
    rw [toTN.L0]
    simp only [List.length_map, show decide ((j : Int) < (l.length : Int)) = true by simp; omega, cond_true, inR_t (show (0 : Int) ≤ j by omega) (show (j : Int) < l.length by omega), toTN1.sem, Option.bind_some, Int.toNat_natCast]
    rw [inR_t (show (0 : Int) ≤ j by omega) (by simp; omega), w64 (by omega) (by omega), show ((j : Int) + 1) = ((j + 1 : Nat) : Int) from rfl, cond_true, fill_set l _ j m (l.getD j default) h (by simp [show j < l.length by omega])]
    exact toTN_L0 N l hl m n (j + 1) (by omega) (by omega)
theorem toTN_val (N : Nat) (l : List TN) (hl : l.length ≤ 1048576) (hN : l.length < N) : toTN.sem N l = some l := by
  rw [toTN.sem]
  simp only [List.length_map, okMk_t (show (0 : Int) ≤ (l.length : Int) by omega) (show (24 : Int) * (l.length : Int) ≤ 281474976710656 by omega), cond_true, Int.toNat_natCast]
  exact toTN_L0 N l hl l.length N 0 (by omega) hN
theorem toVN_L0 (N : Nat) (l : List VN) (hl : l.length ≤ 1048576) : ∀ (m n j : Nat), j + m = l.length → m < n → toVN.L0 N l n (j : Int) (l.take j ++ List.replicate m (VN.mk 0 ByteArray.empty 0)) = some l
  | 0, n, j, h, hn => by
    obtain ⟨n, rfl⟩ : ∃ n', n = n' + 1 := ⟨n - 1, by omega⟩
    rw [toVN.L0]
    simp only [List.length_map, show decide ((j : Int) < (l.length : Int)) = false by simp; omega, cond_false]
    rw [List.take_of_length_le (by omega)]
    simp
  | m + 1, n, j, h, hn => by
    obtain ⟨n, rfl⟩ : ∃ n', n = n' + 1 := ⟨n - 1, by omega⟩
    rw [toVN.L0]
    simp only [List.length_map, show decide ((j : Int) < (l.length : Int)) = true by simp; omega, cond_true, inR_t (show (0 : Int) ≤ j by omega) (show (j : Int) < l.length by omega), toVN1.sem, Option.bind_some, Int.toNat_natCast]
    rw [inR_t (show (0 : Int) ≤ j by omega) (by simp; omega), w64 (by omega) (by omega), show ((j : Int) + 1) = ((j + 1 : Nat) : Int) from rfl, cond_true, fill_set l _ j m (l.getD j default) h (by simp [show j < l.length by omega])]
    exact toVN_L0 N l hl m n (j + 1) (by omega) (by omega)
theorem toVN_val (N : Nat) (l : List VN) (hl : l.length ≤ 1048576) (hN : l.length < N) : toVN.sem N l = some l := by
  rw [toVN.sem]
  simp only [List.length_map, okMk_t (show (0 : Int) ≤ (l.length : Int) by omega) (show (32 : Int) * (l.length : Int) ≤ 281474976710656 by omega), cond_true, Int.toNat_natCast]
  exact toVN_L0 N l hl l.length N 0 (by omega) hN
theorem eqTN1_self (N : Nat) (x : TN) : eqTN1.sem N x x = some true := by
  rw [eqTN1.sem]
  simp only [bne_self_eq_false, cond_false]
theorem eqVN1_self (N : Nat) (x : VN) : eqVN1.sem N x x = some true := by
  rw [eqVN1.sem]
  simp only [bne_self_eq_false, beq_self_eq_true, Bool.not_true, cond_false]
theorem eqTN_L0 (N : Nat) (l : List TN) (hl : l.length ≤ 1048576) : ∀ (m n j : Nat), j + m = l.length → m < n → eqTN.L0 N l l n (j : Int) = some true
  | 0, n, j, h, hn => by
    obtain ⟨n, rfl⟩ : ∃ n', n = n' + 1 := ⟨n - 1, by omega⟩
    rw [eqTN.L0]
    simp only [List.length_map, show decide ((j : Int) < (l.length : Int)) = false by simp; omega, cond_false]
  | m + 1, n, j, h, hn => by
    obtain ⟨n, rfl⟩ : ∃ n', n = n' + 1 := ⟨n - 1, by omega⟩
    rw [eqTN.L0]
    simp only [List.length_map, show decide ((j : Int) < (l.length : Int)) = true by simp; omega, cond_true, inR_t (show (0 : Int) ≤ j by omega) (show (j : Int) < l.length by omega), eqTN1_self, Option.bind_some, Bool.not_true, cond_false]
    rw [w64 (by omega) (by omega), show ((j : Int) + 1) = ((j + 1 : Nat) : Int) from rfl]
    exact eqTN_L0 N l hl m n (j + 1) (by omega) (by omega)
theorem eqTN_val (N : Nat) (l : List TN) (hl : l.length ≤ 1048576) (hN : l.length < N) : eqTN.sem N l l = some true := by
  rw [eqTN.sem]
  simp only [bne_self_eq_false, cond_false]
  exact eqTN_L0 N l hl l.length N 0 (by omega) hN
theorem eqVN_L0 (N : Nat) (l : List VN) (hl : l.length ≤ 1048576) : ∀ (m n j : Nat), j + m = l.length → m < n → eqVN.L0 N l l n (j : Int) = some true
  | 0, n, j, h, hn => by
    obtain ⟨n, rfl⟩ : ∃ n', n = n' + 1 := ⟨n - 1, by omega⟩
    rw [eqVN.L0]
    simp only [List.length_map, show decide ((j : Int) < (l.length : Int)) = false by simp; omega, cond_false]
  | m + 1, n, j, h, hn => by
    obtain ⟨n, rfl⟩ : ∃ n', n = n' + 1 := ⟨n - 1, by omega⟩
    rw [eqVN.L0]
    simp only [List.length_map, show decide ((j : Int) < (l.length : Int)) = true by simp; omega, cond_true, inR_t (show (0 : Int) ≤ j by omega) (show (j : Int) < l.length by omega), eqVN1_self, Option.bind_some, Bool.not_true, cond_false]
    rw [w64 (by omega) (by omega), show ((j : Int) + 1) = ((j + 1 : Nat) : Int) from rfl]
    exact eqVN_L0 N l hl m n (j + 1) (by omega) (by omega)
theorem eqVN_val (N : Nat) (l : List VN) (hl : l.length ≤ 1048576) (hN : l.length < N) : eqVN.sem N l l = some true := by
  rw [eqVN.sem]
  simp only [bne_self_eq_false, cond_false]
  exact eqVN_L0 N l hl l.length N 0 (by omega) hN
theorem both (t : List TN) (v : List VN) (hv : v.length ≤ 1000000000) (hn : ∀ x ∈ v, -9223372036854775808 ≤ x.n ∧ x.n < 9223372036854775808) : ∃ K, ∀ N, K ≤ N → ∃ b, sFits.sem N t v = some b ∧ iFits.sem N t v = some b := by
  obtain ⟨K1, h1⟩ := shapeOf_val t
  obtain ⟨K2, h2⟩ := datumOf_val v
  by_cases gt : GoodT t
  · by_cases gv : GoodV v
    · obtain ⟨K3, h3⟩ := fits_eq text_eq canon_eq (wt_tree gt t.length 0 gt.1.1 (by omega)) (vt_tree gv.1.2 hn v.length 0 gv.1.1 (by omega))
      refine ⟨K1 + K2 + K3 + 2000, fun N hN => ?_⟩
      obtain ⟨b, e1, e2⟩ := sGood N t (by omega)
      obtain ⟨c, f1, f2⟩ := vGood N v hv (by have := gv.1.2; omega)
      obtain ⟨d, g1, g2⟩ := h3 N (by omega)
      have hb := e2.mpr gt
      have hc := f2.mpr gv
      subst hb hc
      refine ⟨d, ?_, ?_⟩
      · rw [sFits.sem, e1]
        simp only [Option.bind_some, cond_true, f1]
        have ht := tree_val t gt.1.2 t.length 0 N gt.1.1 (by omega) (by have := gt.1.2; omega)
        have hvv := dtree_val v gv.1.2 v.length 0 N gv.1.1 (by omega) (by have := gv.1.2; omega)
        rw [show ((0 : Nat) : Int) = 0 from rfl] at ht hvv
        simp only [ht, hvv, Option.bind_some, g2]
      · rw [iFits.sem, typed.sem, (h1 N (by omega)).1 gt, (h2 N (by omega)).1 gv]
        simp only [Option.bind_some, Bool.not_true, cond_false, optM, g1]
        cases d <;> rfl
    · refine ⟨K1 + K2 + v.length + 2000, fun N hN => ?_⟩
      obtain ⟨b, e1, e2⟩ := sGood N t (by omega)
      obtain ⟨c, f1, f2⟩ := vGood N v hv (by omega)
      have hb := e2.mpr gt
      have hc : c = false := by
        cases c with
        | false => rfl
        | true => exact absurd (f2.mp rfl) gv
      subst hb hc
      refine ⟨false, ?_, ?_⟩
      · rw [sFits.sem, e1]
        simp only [Option.bind_some, cond_true, f1, cond_false]
      · rw [iFits.sem, typed.sem, (h1 N (by omega)).1 gt, (h2 N (by omega)).2 gv]
        rfl
  · refine ⟨K1 + K2 + 2000, fun N hN => ?_⟩
    obtain ⟨b, e1, e2⟩ := sGood N t (by omega)
    have hb : b = false := by
      cases b with
      | false => rfl
      | true => exact absurd (e2.mp rfl) gt
    subst hb
    refine ⟨false, ?_, ?_⟩
    · rw [sFits.sem, e1]
      rfl
    · rw [iFits.sem, typed.sem, (h1 N (by omega)).2 gt]
      rfl
theorem lawFits_true (t : List TN) (v : List VN) (ht : t.length < 4611686018427387904) (hv : v.length < 4611686018427387904) (hn : ∀ x ∈ v, -9223372036854775808 ≤ x.n ∧ x.n < 9223372036854775808) : ∃ N, lawFits.sem N t v = some true := by
  by_cases hs : t.length ≤ 1048576
  · by_cases hs2 : v.length ≤ 1048576
    · obtain ⟨K, hK⟩ := both t v (by omega) hn
      refine ⟨K + t.length + v.length + 100, ?_⟩
      generalize hNe : K + t.length + v.length + 100 = N
      obtain ⟨b, e1, e2⟩ := hK N (by omega)
      obtain ⟨r, hr, -⟩ := szVN_val N v (1048576 - (t.length : Int)) hv (by omega) (by omega) (by omega)
      rw [lawFits.sem, szTN.sem]
      simp only [List.length_map]
      rw [w64 (by omega) (by omega)]
      simp only [show decide ((1048576 : Int) - (t.length : Int) < 0) = false by simp; omega, cond_false, Option.bind_some, hr, toTN_val N t hs (by omega), toVN_val N v hs2 (by omega), e1, e2, eqTN_val N t hs (by omega), eqVN_val N v hs2 (by omega), beq_self_eq_true, Bool.not_true]
      cases decide (r < 0) <;> rfl
    · refine ⟨v.length + 1, ?_⟩
      obtain ⟨r, hr, h2⟩ := szVN_val (v.length + 1) v (1048576 - (t.length : Int)) hv (by omega) (by omega) (by omega)
      rw [lawFits.sem, szTN.sem]
      simp only [List.length_map]
      rw [w64 (by omega) (by omega)]
      simp only [show decide ((1048576 : Int) - (t.length : Int) < 0) = false by simp; omega, cond_false, Option.bind_some, hr]
      cases hd : decide (r < 0) with
      | true => rfl
      | false => exact absurd (h2 hd) hs2
  · refine ⟨0, ?_⟩
    rw [lawFits.sem, szTN.sem]
    simp only [List.length_map]
    rw [w64 (by omega) (by omega)]
    simp only [show decide ((1048576 : Int) - (t.length : Int) < 0) = true by simp; omega, cond_true, Option.bind_some]
    rfl
end Go.Proofs.YtljdidlkiknknaaDoor.AB
