/-
  What a call does, told without addresses: a state, steps, and that the code follows them.
-/
import Derived.Test.YtljdidlkiknknaaDoorC26AbC
import Derived.Test.YtljdidlkiknknaaDoorProg
namespace Go.Proofs.YtljdidlkiknknaaDoor.AB
open Go Go.RowKit Go.Proofs.YtljdidlkiknknaaDoorW.PrintWords Go.Proofs.YtljdidlkiknknaaDoorW.PrintMore
set_option linter.unusedSimpArgs false
set_option linter.unusedVariables false
structure TN where
  kind : Int
  n : Int
  up : Int
structure VN where
  n : Int
  text : ByteArray
  up : Int
structure Sh where
  kind : Int
  n : Int
  kids : List Sh
structure Dt where
  n : Int
  text : ByteArray
  kids : List Dt
structure K4 where
  x : Int
  p : Int
structure F4 where
  neg : Bool
  inf : Bool
  nan : Bool
  m : Int
  e : Int
structure Fm where
  p : Int
  bias : Int
structure Fl where
  neg : Bool
  nan : Bool
  inf : Bool
  m : Int
  e : Int
instance : Inhabited TN := ⟨⟨0, 0, 0⟩⟩
instance : Inhabited VN := ⟨⟨0, ByteArray.empty, 0⟩⟩
instance : Inhabited Sh := ⟨⟨0, 0, []⟩⟩
instance : Inhabited Dt := ⟨⟨0, ByteArray.empty, []⟩⟩
def eI (x : Int) : List IV := [nI x]
def eB (x : Int) : List IV := [.v (.int .u8 x)]
def eAR (p : Int × Int) : List IV := [.v (.int .u8 p.1), .v (.int .u8 p.2)]
def eTN (t : TN) : List IV := [nI t.kind, nI t.n, nI t.up]
def eVN (t : VN) : List IV := [nI t.n, sI t.text, nI t.up]
mutual
def eS : Sh → List IV
  | ⟨k, n, ks⟩ => [nI k, nI n, .sl 3 (eSs ks)]
def eSs : List Sh → List (List IV)
  | [] => []
  | t :: l => eS t :: eSs l
end
mutual
def eP : Sh → List IV
  | ⟨k, n, ks⟩ => [.pt [nI k, nI n, .sl 1 (ePs ks)]]
def ePs : List Sh → List (List IV)
  | [] => []
  | t :: l => eP t :: ePs l
end
mutual
def eD : Dt → List IV
  | ⟨n, s, ks⟩ => [nI n, sI s, .sl 3 (eDs ks)]
def eDs : List Dt → List (List IV)
  | [] => []
  | t :: l => eD t :: eDs l
end
mutual
def eQ : Dt → List IV
  | ⟨n, s, ks⟩ => [.pt [nI n, sI s, .sl 1 (eQs ks)]]
def eQs : List Dt → List (List IV)
  | [] => []
  | t :: l => eQ t :: eQs l
end
theorem eSs_map : ∀ l, eSs l = l.map eS
  | [] => rfl
  | t :: l => by rw [eSs, eSs_map l]; rfl
theorem ePs_map : ∀ l, ePs l = l.map eP
  | [] => rfl
  | t :: l => by rw [ePs, ePs_map l]; rfl
theorem eDs_map : ∀ l, eDs l = l.map eD
  | [] => rfl
  | t :: l => by rw [eDs, eDs_map l]; rfl
theorem eQs_map : ∀ l, eQs l = l.map eQ
  | [] => rfl
  | t :: l => by rw [eQs, eQs_map l]; rfl
theorem eS_eq (t : Sh) : eS t = [nI t.kind, nI t.n, .sl 3 (t.kids.map eS)] := by cases t; rw [eS, eSs_map]
theorem eP_eq (t : Sh) : eP t = [.pt [nI t.kind, nI t.n, .sl 1 (t.kids.map eP)]] := by cases t; rw [eP, ePs_map]
theorem eD_eq (t : Dt) : eD t = [nI t.n, sI t.text, .sl 3 (t.kids.map eD)] := by cases t; rw [eD, eDs_map]
theorem eQ_eq (t : Dt) : eQ t = [.pt [nI t.n, sI t.text, .sl 1 (t.kids.map eQ)]] := by cases t; rw [eQ, eQs_map]
section
variable {raw : List (List IV)} {i : Int}
theorem eS_el {l : List Sh} (h : raw = l.map eS) (c : inR i l.length = true) : raw[i.toNat]? = some [nI (l.getD i.toNat default).kind, nI (l.getD i.toNat default).n, .sl 3 ((l.getD i.toNat default).kids.map eS)] := by rw [← eS_eq]; exact el_of eS h c
theorem eP_el {l : List Sh} (h : raw = l.map eP) (c : inR i l.length = true) : raw[i.toNat]? = some [.pt [nI (l.getD i.toNat default).kind, nI (l.getD i.toNat default).n, .sl 1 ((l.getD i.toNat default).kids.map eP)]] := by rw [← eP_eq]; exact el_of eP h c
theorem eD_el {l : List Dt} (h : raw = l.map eD) (c : inR i l.length = true) : raw[i.toNat]? = some [nI (l.getD i.toNat default).n, sI (l.getD i.toNat default).text, .sl 3 ((l.getD i.toNat default).kids.map eD)] := by rw [← eD_eq]; exact el_of eD h c
theorem eQ_el {l : List Dt} (h : raw = l.map eQ) (c : inR i l.length = true) : raw[i.toNat]? = some [.pt [nI (l.getD i.toNat default).n, sI (l.getD i.toNat default).text, .sl 1 ((l.getD i.toNat default).kids.map eQ)]] := by rw [← eQ_eq]; exact el_of eQ h c
end
def oSh : Option Sh → IV
  | none => .v (.pointer none)
  | some t => .pt [nI t.kind, nI t.n, .sl 1 (t.kids.map eP)]
def oDt : Option Dt → IV
  | none => .v (.pointer none)
  | some t => .pt [nI t.n, sI t.text, .sl 1 (t.kids.map eQ)]
theorem tab6_raw : tab6c.map IV.v = (tab6.map eB).flatten := by kernel_rfl
theorem tab7_raw : tab7c.map IV.v = (tab7.map eAR).flatten := by kernel_rfl
theorem tab6_len : 256 = tab6.length := by kernel_rfl
theorem tab7_len : 16 = tab7.length := by kernel_rfl
structure ND where
  kind : Int
  n : Int
  kids : List Int
structure VD where
  n : Int
  text : ByteArray
  kids : List Int
instance : Inhabited ND := ⟨⟨0, 0, []⟩⟩
instance : Inhabited VD := ⟨⟨0, ByteArray.empty, []⟩⟩
def eKp (g : Nat) (k : Int) : List IV := [.op (.pointer (some ⟨g, k.toNat * 3 + 0, none⟩))]
def eND (g : Nat) (c : ND) : List IV := [nI c.kind, nI c.n, .sl 1 (c.kids.map (eKp g))]
def eVD (g : Nat) (c : VD) : List IV := [nI c.n, sI c.text, .sl 1 (c.kids.map (eKp g))]
def eSB (t : Sh) : List IV := [nI t.kind, nI t.n, .sl 1 (t.kids.map eP)]
def eDB (t : Dt) : List IV := [nI t.n, sI t.text, .sl 1 (t.kids.map eQ)]
/-- Each kid stands behind its parent. -/
def upK (n : Nat) : Nat → List (List Int) → Bool
  | _, [] => true
  | i, ks :: l => ks.all (fun k => decide (i < k.toNat) && decide (k.toNat < n)) && upK n (i + 1) l
theorem upK_get {n : Nat} : ∀ {l : List (List Int)} {i : Nat}, upK n i l = true → ∀ {j : Nat} {ks : List Int}, l[j]? = some ks → ∀ k ∈ ks, i + j < k.toNat ∧ k.toNat < n
  | [], i, _, j, ks, h => by simp at h
  | x :: l, i, hu, j, ks, h => by
    simp only [upK, Bool.and_eq_true, List.all_eq_true, decide_eq_true_eq] at hu
    cases j with
    | zero => simp at h; subst h; exact fun k hk => hu.1 k hk
    | succ j =>
      intro k hk
      have := upK_get hu.2 (by simpa using h) k hk
      omega
def treesB : Nat → List ND → List Sh
  | _, [] => []
  | i, c :: l => ⟨c.kind, c.n, c.kids.map fun k => (treesB (i + 1) l).getD (k.toNat - (i + 1)) default⟩ :: treesB (i + 1) l
def dtreesB : Nat → List VD → List Dt
  | _, [] => []
  | i, c :: l => ⟨c.n, c.text, c.kids.map fun k => (dtreesB (i + 1) l).getD (k.toNat - (i + 1)) default⟩ :: dtreesB (i + 1) l
theorem treesB_len : ∀ (i : Nat) (l : List ND), (treesB i l).length = l.length
  | _, [] => rfl
  | i, _ :: l => by rw [treesB, List.length_cons, treesB_len (i + 1) l, List.length_cons]
theorem dtreesB_len : ∀ (i : Nat) (l : List VD), (dtreesB i l).length = l.length
  | _, [] => rfl
  | i, _ :: l => by rw [dtreesB, List.length_cons, dtreesB_len (i + 1) l, List.length_cons]
theorem treesB_get : ∀ {l : List ND} {i j : Nat} {c : ND}, l[j]? = some c → (∀ k ∈ c.kids, i + j < k.toNat) → (treesB i l)[j]? = some ⟨c.kind, c.n, c.kids.map fun k => (treesB i l).getD (k.toNat - i) default⟩
  | [], i, j, c, h, _ => by simp at h
  | x :: l, i, 0, c, h, hk => by
    simp at h
    subst h
    rw [treesB, List.getElem?_cons_zero]
    congr 2
    refine List.map_congr_left fun k h1 => ?_
    have := hk k h1
    rw [show k.toNat - i = (k.toNat - (i + 1)) + 1 by omega, List.getD_cons_succ]
  | x :: l, i, j + 1, c, h, hk => by
    rw [treesB, List.getElem?_cons_succ, treesB_get (l := l) (i := i + 1) (j := j) (c := c) (by simpa using h) (fun k h1 => by have := hk k h1; omega)]
    congr 2
    refine List.map_congr_left fun k h1 => ?_
    have := hk k h1
    rw [show k.toNat - i = (k.toNat - (i + 1)) + 1 by omega, List.getD_cons_succ]
theorem dtreesB_get : ∀ {l : List VD} {i j : Nat} {c : VD}, l[j]? = some c → (∀ k ∈ c.kids, i + j < k.toNat) → (dtreesB i l)[j]? = some ⟨c.n, c.text, c.kids.map fun k => (dtreesB i l).getD (k.toNat - i) default⟩
  | [], i, j, c, h, _ => by simp at h
  | x :: l, i, 0, c, h, hk => by
    simp at h
    subst h
    rw [dtreesB, List.getElem?_cons_zero]
    congr 2
    refine List.map_congr_left fun k h1 => ?_
    have := hk k h1
    rw [show k.toNat - i = (k.toNat - (i + 1)) + 1 by omega, List.getD_cons_succ]
  | x :: l, i, j + 1, c, h, hk => by
    rw [dtreesB, List.getElem?_cons_succ, dtreesB_get (l := l) (i := i + 1) (j := j) (c := c) (by simpa using h) (fun k h1 => by have := hk k h1; omega)]
    congr 2
    refine List.map_congr_left fun k h1 => ?_
    have := hk k h1
    rw [show k.toNat - i = (k.toNat - (i + 1)) + 1 by omega, List.getD_cons_succ]
def okND (C : List ND) : Bool := upK C.length 0 (C.map ND.kids)
def okVD (C : List VD) : Bool := upK C.length 0 (C.map VD.kids)
theorem map_range_getD {α β : Type} [Inhabited α] (f : α → β) (l : List α) : (List.range l.length).map (fun i => f (l.getD i default)) = l.map f := by
  apply List.ext_getElem?
  intro i
  rw [List.getElem?_map, List.getElem?_map]
  by_cases hi : i < l.length
  · rw [List.getElem?_range hi, List.getElem?_eq_getElem hi]
    simp [hi]
  · rw [List.getElem?_eq_none (by simpa using hi), List.getElem?_eq_none (by simpa using hi)]
    rfl
theorem exitSh {g e : Nat} {C : List ND} (h : okND C = true) (m : Mp) (w : World) (Z : Nat → Prop) (v : Value) (hr : ObRep m w Z (.rowG g e 3 (C.map (eND g)) none) v) : RepI w (fun b => Z b ∨ b = g) (.sl 3 ((treesB 0 C).map eSB)) v := by
  have hkid : ∀ i, i < C.length → ∀ k ∈ (C.getD i default).kids, i < k.toNat ∧ k.toNat < C.length := by
    intro i hi k hk
    have := upK_get h (j := i) (ks := (C.getD i default).kids) (by simp [hi]) k (by simpa [hi] using hk)
    omega
  have hget : ∀ i, i < C.length → (treesB 0 C).getD i default = ⟨(C.getD i default).kind, (C.getD i default).n, (C.getD i default).kids.map fun k => (treesB 0 C).getD k.toNat default⟩ := by
    intro i hi
    have := treesB_get (l := C) (i := 0) (j := i) (c := C.getD i default) (by simp [hi]) (fun k hk => by have := hkid i hi k hk; omega)
    rw [List.getD_eq_getElem?_getD, this]
    rfl
  have := exitRaw (n := C.length) (sz := 3) (fun i => [nI (C.getD i default).kind, nI (C.getD i default).n]) (fun i => (C.getD i default).kids) (fun i => eSB ((treesB 0 C).getD i default)) (fun i hi => by
      rw [hget i hi]
      simp only [eSB, List.map_map, Function.comp_def, List.cons_append, List.nil_append]
      congr 4
      exact List.map_congr_left fun k _ => eP_eq _) (fun _ _ => rfl) hkid (by simp) (fun i hi => by simp [hi, eND, eKp, Function.comp_def]) hr
  rwa [← treesB_len 0 C, map_range_getD] at this
theorem exitDt {g e : Nat} {C : List VD} (h : okVD C = true) (m : Mp) (w : World) (Z : Nat → Prop) (v : Value) (hr : ObRep m w Z (.rowG g e 3 (C.map (eVD g)) none) v) : RepI w (fun b => Z b ∨ b = g) (.sl 3 ((dtreesB 0 C).map eDB)) v := by
  have hkid : ∀ i, i < C.length → ∀ k ∈ (C.getD i default).kids, i < k.toNat ∧ k.toNat < C.length := by
    intro i hi k hk
    have := upK_get h (j := i) (ks := (C.getD i default).kids) (by simp [hi]) k (by simpa [hi] using hk)
    omega
  have hget : ∀ i, i < C.length → (dtreesB 0 C).getD i default = ⟨(C.getD i default).n, (C.getD i default).text, (C.getD i default).kids.map fun k => (dtreesB 0 C).getD k.toNat default⟩ := by
    intro i hi
    have := dtreesB_get (l := C) (i := 0) (j := i) (c := C.getD i default) (by simp [hi]) (fun k hk => by have := hkid i hi k hk; omega)
    rw [List.getD_eq_getElem?_getD, this]
    rfl
  have := exitRaw (n := C.length) (sz := 3) (fun i => [nI (C.getD i default).n, sI (C.getD i default).text]) (fun i => (C.getD i default).kids) (fun i => eDB ((dtreesB 0 C).getD i default)) (fun i hi => by
      rw [hget i hi]
      simp only [eDB, List.map_map, Function.comp_def, List.cons_append, List.nil_append]
      congr 4
      exact List.map_congr_left fun k _ => eQ_eq _) (fun _ _ => rfl) hkid (by simp) (fun i hi => by simp [hi, eVD, eKp, Function.comp_def]) hr
  rwa [← dtreesB_len 0 C, map_range_getD] at this
theorem inR_nat {i : Int} {n : Nat} (h : inR i n = true) : i.toNat < n := by have := inR_iff.mp h; omega
theorem inR_nat' {i : Int} {n m : Nat} (e : m = n) (h : inR i n = true) : i.toNat < m := by rw [e]; exact inR_nat h
theorem set_at {α : Type} {l : List α} {i n : Nat} (y : α) (e : l.length = n) (h : i < n) : (l.set i y)[i]? = some y := List.getElem?_set_self (by omega)
theorem map_set_at {α : Type} {e : α → List IV} {l : List α} {i : Nat} {n : Nat} (x : α) (hn : l.length = n) (h : i < n) : ((l.set i x).map e)[i]? = some (e x) := by simp [hn, h]
def eLI (ks : List Int) : List IV := [.sl 1 (ks.map eI)]
end Go.Proofs.YtljdidlkiknknaaDoor.AB
