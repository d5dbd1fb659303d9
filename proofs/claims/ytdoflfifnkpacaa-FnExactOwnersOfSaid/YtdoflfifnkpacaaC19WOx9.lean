-- Printed by a program of this session (after the kit's print.sh, with contracts of its own beside): Lean checks it.
import Derived.Test.YtdoflfifnkpacaaC19WOx0
import Derived.Test.YtdoflfifnkpacaaC19WOx8
namespace Go.Proofs.Ytdoflfifnkpacaa.WO
open Go.RowKit Go.Proofs.YtdoflfifnkpacaaW.PrintWords Go.Proofs.YtdoflfifnkpacaaW.PrintLast Go.Proofs.YtdoflfifnkpacaaW.PrintMore
attribute [local go_sem] max2_int min2_int max_two min_two max_three min_three max_four min_four   -- for this text's walks alone
set_option linter.unusedVariables false
set_option linter.unusedSimpArgs false

/-- A state of type 45 at block g of W; what its slices lead to came in by w0. -/
def IsS45 (w0 W : World) (g : Nat) (f0 : List (S67)) (f1 : List (S78)) (f2 : List (S155)) (f3 : List Int) : Prop := ∃ A0 c0, ∃ A1 c1, ∃ A2 c2, ∃ A3 c3, W.heap[g]? = some (.cells #[.slice A0 f0.length c0, .slice A1 f1.length c1, .slice A2 f2.length c2, .slice A3 f3.length c3] 45 (0, 0)) ∧ w0.heap.size ≤ g ∧ Kd.C k67 w0 A0 f0.length f0 ∧ Kd.C k78 w0 A1 f1.length f1 ∧ Kd.C k155 w0 A2 f2.length f2 ∧ Kd.C (Kd.int .i64) w0 A3 f3.length f3
theorem IsS45.grown {w0 W : World} {g : Nat} {f0 : List (S67)} {f1 : List (S78)} {f2 : List (S155)} {f3 : List Int} {W1 : World} {row : Option Nat} (h : IsS45 w0 W g f0 f1 f2 f3) (hw : W.grownBy W1 row) (hne : some g ≠ row) : IsS45 w0 W1 g f0 f1 f2 f3 := by
 obtain ⟨A0, c0, A1, c1, A2, c2, A3, c3, hb, hg, hr0, hr1, hr2, hr3⟩ := h
 exact ⟨A0, c0, A1, c1, A2, c2, A3, c3, blk_grown hb hw hne, hg, hr0, hr1, hr2, hr3⟩
theorem IsS45.below {w0 W : World} {g : Nat} {f0 : List (S67)} {f1 : List (S78)} {f2 : List (S155)} {f3 : List Int} {W1 : World} (h : IsS45 w0 W g f0 f1 f2 f3) (hw : Below W.heap.size W W1) : IsS45 w0 W1 g f0 f1 f2 f3 := h.grown (grown_of_below hw none) (by simp)
theorem IsS45.drewN {w0 W : World} {g : Nat} {f0 : List (S67)} {f1 : List (S78)} {f2 : List (S155)} {f3 : List Int} (h : IsS45 w0 W g f0 f1 f2 f3) (m : Nat) : IsS45 w0 (W.drewN m) g f0 f1 f2 f3 := h
theorem IsS45.drew {w0 W : World} {g : Nat} {f0 : List (S67)} {f1 : List (S78)} {f2 : List (S155)} {f3 : List Int} (h : IsS45 w0 W g f0 f1 f2 f3) : IsS45 w0 W.drew g f0 f1 f2 f3 := h
theorem IsS45.lt {w0 W : World} {g : Nat} {f0 : List (S67)} {f1 : List (S78)} {f2 : List (S155)} {f3 : List Int} (h : IsS45 w0 W g f0 f1 f2 f3) : g < W.heap.size := by
 obtain ⟨A0, c0, A1, c1, A2, c2, A3, c3, hb, hg, hr0, hr1, hr2, hr3⟩ := h
 exact blk_lt hb
theorem IsS45.far {w0 W : World} {g : Nat} {f0 : List (S67)} {f1 : List (S78)} {f2 : List (S155)} {f3 : List Int} {p : Addr} (h : IsS45 w0 W g f0 f1 f2 f3) (hne : g ≠ p.block) (u : Value) : IsS45 w0 (W.setCell p u) g f0 f1 f2 f3 := by
 obtain ⟨A0, c0, A1, c1, A2, c2, A3, c3, hb, hg, hr0, hr1, hr2, hr3⟩ := h
 exact ⟨A0, c0, A1, c1, A2, c2, A3, c3, blk_far hb hne u, hg, hr0, hr1, hr2, hr3⟩
theorem cellS45_0 {W : World} {g : Nat} {A0 : Option Addr} {c0 : Nat} {A1 : Option Addr} {c1 : Nat} {A2 : Option Addr} {c2 : Nat} {A3 : Option Addr} {c3 : Nat} {f0 : List (S67)} {f1 : List (S78)} {f2 : List (S155)} {f3 : List Int} (h : W.heap[g]? = some (.cells #[.slice A0 f0.length c0, .slice A1 f1.length c1, .slice A2 f2.length c2, .slice A3 f3.length c3] 45 (0, 0))) : W.cell? ⟨g, 0, none⟩ = some (.slice A0 f0.length c0) := (blk_cell h 0).trans rfl
theorem cellS45_1 {W : World} {g : Nat} {A0 : Option Addr} {c0 : Nat} {A1 : Option Addr} {c1 : Nat} {A2 : Option Addr} {c2 : Nat} {A3 : Option Addr} {c3 : Nat} {f0 : List (S67)} {f1 : List (S78)} {f2 : List (S155)} {f3 : List Int} (h : W.heap[g]? = some (.cells #[.slice A0 f0.length c0, .slice A1 f1.length c1, .slice A2 f2.length c2, .slice A3 f3.length c3] 45 (0, 0))) : W.cell? ⟨g, 1, none⟩ = some (.slice A1 f1.length c1) := (blk_cell h 1).trans rfl
theorem cellS45_2 {W : World} {g : Nat} {A0 : Option Addr} {c0 : Nat} {A1 : Option Addr} {c1 : Nat} {A2 : Option Addr} {c2 : Nat} {A3 : Option Addr} {c3 : Nat} {f0 : List (S67)} {f1 : List (S78)} {f2 : List (S155)} {f3 : List Int} (h : W.heap[g]? = some (.cells #[.slice A0 f0.length c0, .slice A1 f1.length c1, .slice A2 f2.length c2, .slice A3 f3.length c3] 45 (0, 0))) : W.cell? ⟨g, 2, none⟩ = some (.slice A2 f2.length c2) := (blk_cell h 2).trans rfl
theorem cellS45_3 {W : World} {g : Nat} {A0 : Option Addr} {c0 : Nat} {A1 : Option Addr} {c1 : Nat} {A2 : Option Addr} {c2 : Nat} {A3 : Option Addr} {c3 : Nat} {f0 : List (S67)} {f1 : List (S78)} {f2 : List (S155)} {f3 : List Int} (h : W.heap[g]? = some (.cells #[.slice A0 f0.length c0, .slice A1 f1.length c1, .slice A2 f2.length c2, .slice A3 f3.length c3] 45 (0, 0))) : W.cell? ⟨g, 3, none⟩ = some (.slice A3 f3.length c3) := (blk_cell h 3).trans rfl

def endB (n : Int) : List Int → List Bool → Option (List Bool)
 | [], m => some m
 | k :: l, m => if k < 0 then none else (if k ≥ n then none else (if gb m k = true then none else endB n l (m.set k.toNat true)))
def thB : List S67 → Int → List Bool → Bool
 | [], _, _ => true
 | x :: l, i, m => if x.f0 < 0 then false else (if x.f0 > 9 then false else (if (x.f1 == gb m i) = true then false else thB l (i + 1) m))
def thE (ts : List S67) (l : List Int) (m : List Bool) : Bool := match endB (ts.length : Int) l m with | none => false | some m' => thB ts 0 m'
def impl_World_thingsOk.f (s0_0 : List S67) (_s0_1 : List S78) (_s0_2 : List S155) (s0_3 : List Int) : Option Bool :=
 if (s0_0.length : Int) > 40 then some false else (if (s0_3.length : Int) > (s0_0.length : Int) then some false else some (thE s0_0 s0_3 (List.replicate 40 false)))
theorem dropI_at {α : Type} (l : List α) (x : Int) (d : α) (h0 : 0 ≤ x) (h1 : x < l.length) : l.drop x.toNat = l.getD x.toNat d :: l.drop (x + 1).toNat := by
 have e : (x + 1).toNat = x.toNat + 1 := by omega
 have hl : x.toNat < l.length := by omega
 rw [e, List.drop_eq_getElem_cons hl, List.getD_eq_getElem?_getD, List.getElem?_eq_getElem hl, Option.getD_some]
theorem dropI_end {α : Type} (l : List α) (x : Int) (h1 : ¬ x < l.length) (h0 : 0 ≤ x) : l.drop x.toNat = [] := List.drop_eq_nil_of_le (by omega)
set_option maxHeartbeats 1000000 in
set_option maxRecDepth 100000 in
theorem impl_World_thingsOk.key (g : Nat) (s0_0 : List S67) (s0_1 : List S78) (s0_2 : List S155) (s0_3 : List Int) (r : Bool) (w0 w : World) (hI : IsS45 w0 w g s0_0 s0_1 s0_2 s0_3) (hB : Below w0.heap.size w0 w) (hh : impl_World_thingsOk.f s0_0 s0_1 s0_2 s0_3 = some r) :
  Calls Try.prog 81 #[.pointer (some ⟨g, 0, none⟩)] w fun e w' => e = .returned (.bool r) ∧ Below w.heap.size w w' := by
 obtain ⟨A0, c0, A1, c1, A2, c2, A3, c3, hb, hge, r0, r1, r2, r3⟩ := hI
 have glt : Aside0 (g < w.heap.size) := ⟨blk_lt hb⟩
 have g0 : w.cell? ⟨g, 0, none⟩ = some (.slice A0 s0_0.length c0) := blk_cell hb 0
 have g3 : w.cell? ⟨g, 3, none⟩ = some (.slice A3 s0_3.length c3) := blk_cell hb 3
 have G0 := Aside0.mk g0
 have H0 := Aside0.mk (Kd.C_below r0 hB)
 have H3 := Aside0.mk (Kd.C_below r3 hB)
 clear hb hge r0 r1 r2 r3 hB
 unfold impl_World_thingsOk.f at hh
 by_cases h : (s0_0.length : Int) > 40
 ·rw [if_pos h] at hh
  obtain rfl := Option.some.inj hh
  have h' : decide (40 < s0_0.length) = true := by simp; omega
  have hI : decide ((40 : Int) < (s0_0.length : Int)) = true := decide_eq_true (by omega)
  go_enter Try.func81, Try.ntmps81
  go_wp2_with fail
  go_quiet (fail)
  go_wp2
  go_ret
  exact ⟨rfl, by repeat (first | exact Below.refl _ _ | apply eN | apply eD | apply eA)⟩
 rw [if_neg h] at hh
 have h' : decide (40 < s0_0.length) = false := by simp; omega
 have hI : decide ((40 : Int) < (s0_0.length : Int)) = false := decide_eq_false (by omega)
 by_cases h2 : (s0_3.length : Int) > (s0_0.length : Int)
 ·rw [if_pos h2] at hh
  obtain rfl := Option.some.inj hh
  have h2' : decide (s0_0.length < s0_3.length) = true := by simp; omega
  go_enter Try.func81, Try.ntmps81
  go_wp2_with fail
  go_quiet (fail)
  go_wp2
  go_ret
  exact ⟨rfl, by repeat (first | exact Below.refl _ _ | apply eN | apply eD | apply eA)⟩
 rw [if_neg h2] at hh
 have h2' : decide (s0_0.length < s0_3.length) = false := by simp; omega
 replace hh := Option.some.inj hh
 have HH := Aside0.mk hh
 clear hh
 go_enter Try.func81, Try.ntmps81
 go_wp2_with fail
 go_quiet (fail)
 go_wp2_with ((with_reducible refine gate_dst (N := 3) rfl ?_); refine box_event ?hg (N := 3) ?hd (cs := ((List.replicate 40 false).map Value.bool).toArray) (t := 163) ?hr ?_; (case hd => rfl); (case hg => rfl); (case hr => first | (go_simp; done) | (go_simp; rfl)); intro ga hga w1 hbox hb; have HB1 := Aside0.mk (below_step (w := w) (by first | exact pw_below_drewN (Below.refl _ _) _ | exact Below.refl _ _) hb); have HA := Aside0.mk (show barr w1 ga 163 (List.replicate 40 false) from hbox); have HG := Aside0.mk (show w.heap.size ≤ ga from by rw [hga]; exact Nat.le_refl _); replace g0 := (HB1.out.cell glt.out).trans g0; replace g3 := (HB1.out.cell glt.out).trans g3; clear hbox hb hga)
 go_loopw [32] (fun v32 wr => ∃ (x : Int) (m : List Bool), v32 = .int .i64 x ∧ Aside0 (0 ≤ x) ∧ Aside0 (x ≤ s0_3.length) ∧ Aside0 (thE s0_0 (s0_3.drop x.toNat) m = r) ∧ Aside0 (m.length = 40) ∧ Aside0 (barr wr ga 163 m) ∧ Aside0 (Below w.heap.size w wr)) (fun v32 _ => s0_3.length - (intOf v32).toNat)
 case atStart => exact ⟨0, List.replicate 40 false, rfl, ⟨Int.le_refl _⟩, ⟨by omega⟩, ⟨by simpa using HH.out⟩, ⟨by simp⟩, HA, HB1⟩
 case round =>
  clear HH HA HB1 g0 g3
  obtain ⟨x, m, rfl, X0, X1, HX, M, B, HB⟩ := hrel
  have hx1 := HX.out
  clear HX
  by_cases hlt : x < (s0_3.length : Int)
  ·have p0 : 0 ≤ x := X0.out
   have hd : s0_3.drop x.toNat = rd s0_3 x :: s0_3.drop (x + 1).toNat := dropI_at s0_3 x 0 p0 hlt
   rw [hd] at hx1
   clear hd
   unfold thE at hx1
   simp only [endB] at hx1
   have hr := Kd.C_below H3.out HB.out
   obtain ⟨ad, e, hx⟩ := Kd.at_int hr x p0 hlt
   cases e
   clear hr
   have g0 := (HB.out.cell (p := ⟨g, 0, none⟩) glt.out).trans G0.out
   generalize hk : rd s0_3 x = k at *
   clear hk
   have nlt : (decide (x < (s0_3.length : Int))) = true := decide_eq_true hlt
   by_cases k0 : k < 0
   ·rw [if_pos k0] at hx1
    obtain rfl := hx1
    have d0 : decide (k < 0) = true := decide_eq_true k0
    go_wp2
    go_ret
    exact ⟨rfl, HB.out⟩
   ·rw [if_neg k0] at hx1
    have d0 : decide (k < 0) = false := decide_eq_false k0
    by_cases k1 : k ≥ (s0_0.length : Int)
    ·rw [if_pos k1] at hx1
     obtain rfl := hx1
     have d1 : decide (k ≥ (s0_0.length : Int)) = true := decide_eq_true k1
     go_wp2
     go_ret
     exact ⟨rfl, HB.out⟩
    ·rw [if_neg k1] at hx1
     have d1 : decide (k ≥ (s0_0.length : Int)) = false := decide_eq_false k1
     have q0 : 0 ≤ k := by omega
     have q1 : k < 40 := by omega
     have hb := barr_at B.out k q0 (by rw [M.out]; omega)
     by_cases hm : gb m k = true
     ·rw [if_pos hm] at hx1
      obtain rfl := hx1
      rw [hm] at hb
      go_wp2
      go_ret
      exact ⟨rfl, HB.out⟩
     ·rw [if_neg hm] at hx1
      have HX := Aside0.mk hx1
      clear hx1
      have hm : gb m k = false := by simpa using hm
      rw [hm] at hb
      have hf := barr_free B.out k.toNat
      have w64 : IntKind.i64.wrap (x + 1) = x + 1 := IntWalk.i64_in _ (by omega)
      go_wp2
      go_roundw
      case rel => exact ⟨x + 1, m.set k.toNat true, rfl, ⟨by omega⟩, ⟨by omega⟩, ⟨HX.out⟩, ⟨by rw [List.length_set]; exact M.out⟩, ⟨barr_set B.out _ _⟩, ⟨HB.out.setCell HG.out _⟩⟩
      case measure => simp [intOf]; omega
  ·have he : s0_3.drop x.toNat = [] := dropI_end s0_3 x hlt X0.out
   rw [he] at hx1
   unfold thE at hx1
   simp only [endB] at hx1
   have HX := Aside0.mk hx1
   clear hx1 he
   have nlt : (decide (x < (s0_3.length : Int))) = false := decide_eq_false hlt
   have g0 := (HB.out.cell (p := ⟨g, 0, none⟩) glt.out).trans G0.out
   go_wp2_with fail
   go_loopw [60] (fun v60 wr => ∃ (y : Int), v60 = .int .i64 y ∧ Aside0 (0 ≤ y) ∧ Aside0 (y ≤ s0_0.length) ∧ Aside0 (thB (s0_0.drop y.toNat) y m = r) ∧ Aside0 (barr wr ga 163 m) ∧ Aside0 (Below w.heap.size w wr)) (fun v60 _ => s0_0.length - (intOf v60).toNat)
   case atStart => exact ⟨0, rfl, ⟨Int.le_refl _⟩, ⟨by omega⟩, ⟨by simpa using HX.out⟩, B, HB⟩
   case round =>
    clear HX B HB g0
    obtain ⟨y, rfl, Y0, Y1, HX, B, HB⟩ := hrel
    have hx1 := HX.out
    clear HX
    by_cases hlt2 : y < (s0_0.length : Int)
    ·have p0 : 0 ≤ y := Y0.out
     have hd : s0_0.drop y.toNat = rd_T67 s0_0 y :: s0_0.drop (y + 1).toNat := dropI_at s0_0 y z67 p0 hlt2
     rw [hd] at hx1
     clear hd
     simp only [thB] at hx1
     have hr := Kd.C_below H0.out HB.out
     obtain ⟨ad, e, h0, h1⟩ := at_T67 hr y p0 hlt2
     cases e
     clear hr
     generalize hT : rd_T67 s0_0 y = T at *
     have HT := Aside0.mk hT
     clear hT
     have y40 : y < 40 := by omega
     have hb := barr_at B.out y p0 (by rw [M.out]; omega)
     have glb := Aside0.mk (blk_lt B.out)
     have nlt2 : (decide (y < (s0_0.length : Int))) = true := decide_eq_true hlt2
     have w64 : IntKind.i64.wrap (y + 1) = y + 1 := IntWalk.i64_in _ (by omega)
     go_wp2_with ((with_reducible refine gate_dst (N := 7) rfl ?_); refine box_event ?hg (N := 7) ?hd (cs := #[.int .i64 0, .bool false]) (t := 67) ?hr ?_; (case hd => rfl); (case hg => rfl); (case hr => first | (go_simp; done) | (go_simp; rfl)); intro gx hgx w2 hbox hbb; have HB2 := Aside0.mk (below_step HB.out hbb); have HA2 := Aside0.mk (barr_below B.out hbb); have HX2 := Aside0.mk hbox; have hne := Aside0.mk (show ga ≠ gx from by rw [hgx]; exact Nat.ne_of_lt glb.out); have hgx2 := Aside0.mk (show w.heap.size ≤ gx from by rw [hgx]; exact below_size HB.out); replace hb := barr_at HA2.out y p0 (by rw [M.out]; omega); obtain ⟨zc0_, zc1_, zf0_, zf1_⟩ := (⟨(blk_cell HX2.out 0).trans rfl, (blk_cell HX2.out 1).trans rfl, blk_frozen HX2.out 0, blk_frozen HX2.out 1⟩ : w2.cell? ⟨gx, 0, none⟩ = some (.int .i64 0) ∧ w2.cell? ⟨gx, 1, none⟩ = some (.bool false) ∧ w2.frozen? ⟨gx, 0, none⟩ = false ∧ w2.frozen? ⟨gx, 1, none⟩ = false); clear hbox hbb hgx h0 h1)
     have n0_ : Aside0 (((w2.setCell ⟨gx, 0, none⟩ (.int .i64 T.f0)).setCell ⟨gx, 1, none⟩ (.bool T.f1)).heap[gx]? = some (.cells #[.int .i64 T.f0, .bool T.f1] 67 (0, 0))) := ⟨blk_put (cs := #[.int .i64 T.f0, .bool false]) (blk_put HX2.out 0 _ rfl) 1 _ rfl⟩
     have n1_ : Aside0 (barr ((w2.setCell ⟨gx, 0, none⟩ (.int .i64 T.f0)).setCell ⟨gx, 1, none⟩ (.bool T.f1)) ga 163 m) := ⟨blk_far (blk_far HA2.out hne.out _) hne.out _⟩
     have n2_ : Aside0 (Below w.heap.size w ((w2.setCell ⟨gx, 0, none⟩ (.int .i64 T.f0)).setCell ⟨gx, 1, none⟩ (.bool T.f1))) := ⟨(HB2.out.setCell hgx2.out _).setCell hgx2.out _⟩
     clear zc0_ zc1_ zf0_ zf1_ hb HA2 HX2 HB2 B HB
     generalize (w2.setCell ⟨gx, 0, none⟩ (.int .i64 T.f0)).setCell ⟨gx, 1, none⟩ (.bool T.f1) = W at n0_ n1_ n2_ ⊢
     have hb := barr_at n1_.out y p0 (by rw [M.out]; omega)
     have c0_ : W.cell? ⟨gx, 0, none⟩ = some (.int .i64 T.f0) := (blk_cell n0_.out 0).trans rfl
     have c1_ : W.cell? ⟨gx, 1, none⟩ = some (.bool T.f1) := (blk_cell n0_.out 1).trans rfl
     by_cases k0 : T.f0 < 0
     ·rw [if_pos k0] at hx1
      obtain rfl := hx1
      have d0 : decide (T.f0 < 0) = true := decide_eq_true k0
      go_quiet (fail)
      go_wp2
      go_ret
      exact ⟨rfl, by first | exact pw_below_drewN n2_.out _ | exact n2_.out⟩
     ·rw [if_neg k0] at hx1
      have d0 : decide (T.f0 < 0) = false := decide_eq_false k0
      by_cases k1 : T.f0 > 9
      ·rw [if_pos k1] at hx1
       obtain rfl := hx1
       have d1 : decide (9 < T.f0) = true := decide_eq_true k1
       go_quiet (fail)
       go_wp2
       go_ret
       exact ⟨rfl, by first | exact pw_below_drewN n2_.out _ | exact n2_.out⟩
      ·rw [if_neg k1] at hx1
       have d1 : decide (9 < T.f0) = false := decide_eq_false k1
       generalize gb m y = v at hb hx1
       by_cases he : (T.f1 == v) = true
       ·rw [if_pos he] at hx1
        obtain rfl := hx1
        go_quiet (fail)
        go_wp2
        go_ret
        exact ⟨rfl, by first | exact pw_below_drewN n2_.out _ | exact n2_.out⟩
       ·rw [if_neg he] at hx1
        have HX := Aside0.mk hx1
        clear hx1
        have he : (T.f1 == v) = false := by simpa using he
        go_quiet (fail)
        go_wp2
        go_roundw
        case rel => exact ⟨y + 1, rfl, ⟨by omega⟩, ⟨by omega⟩, HX, ⟨barr_below n1_.out (pw_below_drewN (Below.refl _ _) _)⟩, ⟨by first | exact pw_below_drewN n2_.out _ | exact n2_.out⟩⟩
        case measure => simp [intOf]; omega
    ·have he : s0_0.drop y.toNat = [] := dropI_end s0_0 y hlt2 Y0.out
     rw [he] at hx1
     simp only [thB] at hx1
     obtain rfl := hx1
     have nlt2 : (decide (y < (s0_0.length : Int))) = false := decide_eq_false hlt2
     go_wp2
     go_ret
     exact ⟨rfl, HB.out⟩
theorem impl_World_thingsOk.calls (g : Nat) (s0_0 : List S67) (s0_1 : List S78) (s0_2 : List S155) (s0_3 : List Int) (r : Bool) (w0 w : World) (hI : IsS45 w0 w g s0_0 s0_1 s0_2 s0_3) (hB : Below w0.heap.size w0 w) (hh : impl_World_thingsOk.f s0_0 s0_1 s0_2 s0_3 = some r) :
  Calls Try.prog 81 #[.pointer (some ⟨g, 0, none⟩)] w fun e w' => e = .returned (.bool r) ∧ IsS45 w0 w' g s0_0 s0_1 s0_2 s0_3 ∧ Below w0.heap.size w0 w' ∧ KeepBut w w' g none :=
 (impl_World_thingsOk.key g s0_0 s0_1 s0_2 s0_3 r w0 w hI hB hh).mono fun e w' ⟨he, hb⟩ => ⟨he, hI.below hb, below_step hB hb, KeepBut.of_below hb g none⟩

def ownA : List S67 → Int → List Bool → Bool
 | [], _, _ => true
 | x :: l, i, m => if (x.f1 != gb m i) = true then false else ownA l (i + 1) m
def ownH (ts : List S67) (K : List Bool → Option Bool) : List S75 → List Bool → Option Bool
 | [], m => K m
 | h :: l, m => if h.f0 = true then (if h.f3 = true then (if h.f2 < 0 then none else (if h.f2 ≥ (ts.length : Int) then some false else (if (rd_T67 ts h.f2).f1 = true then (if ((rd_T67 ts h.f2).f0 != h.f1) = true then some false else (if gb m h.f2 = true then some false else ownH ts K l (m.set h.f2.toNat true))) else some false))) else ownH ts K l m) else ownH ts K l m
def ownT (ts : List S67) : List S78 → List Bool → Option Bool
 | [], m => some (ownA ts 0 m)
 | t :: l, m => ownH ts (ownT ts l) t.f0 m
def impl_World_ownersOk.f (s0_0 : List S67) (s0_1 : List S78) (_s0_2 : List S155) (_s0_3 : List Int) : Option Bool :=
 if (s0_0.length : Int) > 40 then none else ownT s0_0 s0_1 (List.replicate 40 false)
set_option maxHeartbeats 2000000 in
set_option maxRecDepth 100000 in
theorem impl_World_ownersOk.key (g : Nat) (s0_0 : List S67) (s0_1 : List S78) (s0_2 : List S155) (s0_3 : List Int) (r : Bool) (w0 w : World) (hI : IsS45 w0 w g s0_0 s0_1 s0_2 s0_3) (hB : Below w0.heap.size w0 w) (hh : impl_World_ownersOk.f s0_0 s0_1 s0_2 s0_3 = some r) :
  Calls Try.prog 82 #[.pointer (some ⟨g, 0, none⟩)] w fun e w' => e = .returned (.bool r) ∧ Below w.heap.size w w' := by
 obtain ⟨A0, c0, A1, c1, A2, c2, A3, c3, hb, hge, r0, r1, r2, r3⟩ := hI
 have glt : Aside0 (g < w.heap.size) := ⟨blk_lt hb⟩
 have G0 : Aside0 (w.cell? ⟨g, 0, none⟩ = some (.slice A0 s0_0.length c0)) := ⟨blk_cell hb 0⟩
 have G1 : Aside0 (w.cell? ⟨g, 1, none⟩ = some (.slice A1 s0_1.length c1)) := ⟨blk_cell hb 1⟩
 have H0 := Aside0.mk (Kd.C_below r0 hB)
 have H1 := Aside0.mk (Kd.C_below r1 hB)
 clear hb hge r0 r1 r2 r3 hB
 unfold impl_World_ownersOk.f at hh
 by_cases h : (s0_0.length : Int) > 40
 ·rw [if_pos h] at hh
  exact absurd hh (by simp)
 rw [if_neg h] at hh
 have HH := Aside0.mk hh
 clear hh
 have hlen := Aside0.mk (show (s0_0.length : Int) ≤ 40 by omega)
 clear h
 have HB0 := Aside0.mk (Below.refl w.heap.size w)
 go_enter Try.func82, Try.ntmps82
 go_wp2_with ((with_reducible refine gate_dst (N := 3) rfl ?_); refine box_event ?hg (N := 3) ?hd (cs := ((List.replicate 40 false).map Value.bool).toArray) (t := 163) ?hr ?_; (case hd => rfl); (case hg => rfl); (case hr => first | (go_simp; done) | (go_simp; rfl)); intro ga hg_ w1 hbox hb_; have HBw1 := Aside0.mk (below_step HB0.out hb_); have BKga := Aside0.mk hbox; have GEga := Aside0.mk (show w.heap.size ≤ ga from by rw [hg_]; exact below_size HB0.out); have HA := Aside0.mk (show barr w1 ga 163 (List.replicate 40 false) from hbox); have g1 := (HBw1.out.cell (p := ⟨g, 1, none⟩) glt.out).trans G1.out; clear hbox hb_ hg_)
 clear BKga g1
 have HG := GEga
 clear GEga
 have HB1 := HBw1
 clear HBw1
 go_loopw [15] (fun v15 wr => ∃ (p : Int) (m : List Bool), v15 = .int .i64 p ∧ Aside0 (0 ≤ p) ∧ Aside0 (p ≤ s0_1.length) ∧ Aside0 (ownT s0_0 (s0_1.drop p.toNat) m = some r) ∧ Aside0 (m.length = 40) ∧ Aside0 (barr wr ga 163 m) ∧ Aside0 (Below w.heap.size w wr)) (fun v15 _ => s0_1.length - (intOf v15).toNat)
 case atStart => exact ⟨0, List.replicate 40 false, rfl, ⟨Int.le_refl _⟩, ⟨by omega⟩, ⟨by simpa using HH.out⟩, ⟨by simp⟩, HA, HB1⟩
 case round =>
  clear HH HA HB1
  obtain ⟨p, m, rfl, P0, P1, HX, M, B, HB⟩ := hrel
  have hx1 := HX.out
  clear HX
  by_cases hlt : p < (s0_1.length : Int)
  ·have p0 : 0 ≤ p := P0.out
   have hd : s0_1.drop p.toNat = rd_T78 s0_1 p :: s0_1.drop (p + 1).toNat := dropI_at s0_1 p z78 p0 hlt
   rw [hd] at hx1
   clear hd
   simp only [ownT] at hx1
   have HX := Aside0.mk hx1
   clear hx1
   obtain ⟨ad, At, ct, Bt, dt, e, h0, h1, _, ht, _, _⟩ := at_T78 H1.out p p0 hlt
   cases e
   have HT := Aside0.mk ht
   clear ht
   replace h0 := (HB.out.cell (World.block_lt_of_cell? w _ h0)).trans h0
   replace h1 := (HB.out.cell (World.block_lt_of_cell? w _ h1)).trans h1
   generalize rd_T78 s0_1 p = t at *
   have nlt : (decide (p < (s0_1.length : Int))) = true := decide_eq_true hlt
   have PB : IntKind.i64.wrap (p + 1) = p + 1 := IntWalk.i64_in _ (by have := P1.out; have := Kd.C_max H1.out; omega)
   go_wp2_with ((with_reducible refine gate_dst (N := 5) rfl ?_); refine box_event ?hg (N := 5) ?hd (cs := #[.slice none 0 0, .slice none 0 0]) (t := 78) ?hr ?_; (case hd => rfl); (case hg => rfl); (case hr => first | (go_simp; done) | (go_simp; rfl)); intro gt hg_ w2 hbox hb_; have HBw2 := Aside0.mk (below_step HB.out hb_); have BKgt := Aside0.mk hbox; have GEgt := Aside0.mk (show w.heap.size ≤ gt from by rw [hg_]; exact below_size HB.out); have HA2 := Aside0.mk (barr_below B.out hb_); have NE2 := Aside0.mk (show ga ≠ gt from by rw [hg_]; exact Nat.ne_of_lt (blk_lt B.out)); obtain ⟨zc0_, zc1_, zf0_, zf1_⟩ := (⟨(blk_cell BKgt.out 0).trans rfl, (blk_cell BKgt.out 1).trans rfl, blk_frozen BKgt.out 0, blk_frozen BKgt.out 1⟩ : w2.cell? ⟨gt, 0, none⟩ = some (.slice none 0 0) ∧ w2.cell? ⟨gt, 1, none⟩ = some (.slice none 0 0) ∧ w2.frozen? ⟨gt, 0, none⟩ = false ∧ w2.frozen? ⟨gt, 1, none⟩ = false); clear hbox hb_ hg_)
   have n0_ : Aside0 (((w2.setCell ⟨gt, 0, none⟩ (.slice At t.f0.length ct)).setCell ⟨gt, 1, none⟩ (.slice Bt t.f1.length dt)).heap[gt]? = some (.cells #[.slice At t.f0.length ct, .slice Bt t.f1.length dt] 78 (0, 0))) := ⟨(blk_put (cs := #[.slice At t.f0.length ct, .slice none 0 0]) (blk_put (cs := #[.slice none 0 0, .slice none 0 0]) BKgt.out 0 _ rfl) 1 _ rfl)⟩
   have n1_ : Aside0 (barr ((w2.setCell ⟨gt, 0, none⟩ (.slice At t.f0.length ct)).setCell ⟨gt, 1, none⟩ (.slice Bt t.f1.length dt)) ga 163 m) := ⟨blk_far (blk_far HA2.out NE2.out _) NE2.out _⟩
   have n2_ : Aside0 (Below w.heap.size w ((w2.setCell ⟨gt, 0, none⟩ (.slice At t.f0.length ct)).setCell ⟨gt, 1, none⟩ (.slice Bt t.f1.length dt))) := ⟨(HBw2.out.setCell GEgt.out _).setCell GEgt.out _⟩
   clear zc0_ zc1_ zf0_ zf1_ HA2 BKgt HBw2 B HB h0 h1
   generalize ((w2.setCell ⟨gt, 0, none⟩ (.slice At t.f0.length ct)).setCell ⟨gt, 1, none⟩ (.slice Bt t.f1.length dt)) = W at n0_ n1_ n2_ ⊢
   have c0_ : W.cell? ⟨gt, 0, none⟩ = some (.slice At t.f0.length ct) := (blk_cell n0_.out 0).trans rfl
   go_wp2_with fail
   clear c0_ n0_
   go_loopw [22] (fun v22 wr => ∃ (q : Int) (m' : List Bool), v22 = .int .i64 q ∧ Aside0 (0 ≤ q) ∧ Aside0 (q ≤ t.f0.length) ∧ Aside0 (ownH s0_0 (ownT s0_0 (s0_1.drop (p + 1).toNat)) (t.f0.drop q.toNat) m' = some r) ∧ Aside0 (m'.length = 40) ∧ Aside0 (barr wr ga 163 m') ∧ Aside0 (Below w.heap.size w wr)) (fun v22 _ => t.f0.length - (intOf v22).toNat)
   case atStart => exact ⟨0, m, rfl, ⟨Int.le_refl _⟩, ⟨by omega⟩, ⟨by simpa using HX.out⟩, M, n1_, n2_⟩
   case round =>
    clear HX n1_ n2_ M
    obtain ⟨q, m', rfl, Q0, Q1, HX, M, B, HB⟩ := hrel
    have hx1 := HX.out
    clear HX
    by_cases hlt2 : q < (t.f0.length : Int)
    ·have q0 : 0 ≤ q := Q0.out
     have hd : t.f0.drop q.toNat = rd_T75 t.f0 q :: t.f0.drop (q + 1).toNat := dropI_at t.f0 q z75 q0 hlt2
     rw [hd] at hx1
     clear hd
     simp only [ownH] at hx1
     have HX := Aside0.mk hx1
     clear hx1
     have hr := Kd.C_below HT.out HB.out
     obtain ⟨ad2, e, h0, h1, h2, h3, h4, h5⟩ := at_T75 hr q q0 hlt2
     cases e
     clear hr
     generalize rd_T75 t.f0 q = T at *
     have nlt2 : (decide (q < (t.f0.length : Int))) = true := decide_eq_true hlt2
     have QB : IntKind.i64.wrap (q + 1) = q + 1 := IntWalk.i64_in _ (by have := Q1.out; have := Kd.C_max HT.out; omega)
     obtain ⟨tu, t1, t2, tO, t4, t5⟩ := T
     have hx2 := HX.out
     clear HX
     dsimp only at h0 h1 h2 h3 h4 h5 hx2
     cases tu with
     | false =>
      simp only [Bool.false_eq_true, if_false, if_true] at hx2
      have HX2 := Aside0.mk hx2
      clear hx2
      go_wp2_with ((with_reducible refine gate_dst (N := 7) rfl ?_); refine box_event ?hg (N := 7) ?hd (cs := #[.bool false, .int .i64 0, .int .i64 0, .bool false, .int .i64 0, .int .i64 0]) (t := 75) ?hr ?_; (case hd => rfl); (case hg => rfl); (case hr => first | (go_simp; done) | (go_simp; rfl)); intro gh hg_ w3 hbox hb_; have HBw3 := Aside0.mk (below_step HB.out hb_); have BKgh := Aside0.mk hbox; have GEgh := Aside0.mk (show w.heap.size ≤ gh from by rw [hg_]; exact below_size HB.out); have HA3 := Aside0.mk (barr_below B.out hb_); have NE3 := Aside0.mk (show ga ≠ gh from by rw [hg_]; exact Nat.ne_of_lt (blk_lt B.out)); obtain ⟨zc0_, zc1_, zc2_, zc3_, zc4_, zc5_, zf0_, zf1_, zf2_, zf3_, zf4_, zf5_⟩ := (⟨(blk_cell BKgh.out 0).trans rfl, (blk_cell BKgh.out 1).trans rfl, (blk_cell BKgh.out 2).trans rfl, (blk_cell BKgh.out 3).trans rfl, (blk_cell BKgh.out 4).trans rfl, (blk_cell BKgh.out 5).trans rfl, blk_frozen BKgh.out 0, blk_frozen BKgh.out 1, blk_frozen BKgh.out 2, blk_frozen BKgh.out 3, blk_frozen BKgh.out 4, blk_frozen BKgh.out 5⟩ : w3.cell? ⟨gh, 0, none⟩ = some (.bool false) ∧ w3.cell? ⟨gh, 1, none⟩ = some (.int .i64 0) ∧ w3.cell? ⟨gh, 2, none⟩ = some (.int .i64 0) ∧ w3.cell? ⟨gh, 3, none⟩ = some (.bool false) ∧ w3.cell? ⟨gh, 4, none⟩ = some (.int .i64 0) ∧ w3.cell? ⟨gh, 5, none⟩ = some (.int .i64 0) ∧ w3.frozen? ⟨gh, 0, none⟩ = false ∧ w3.frozen? ⟨gh, 1, none⟩ = false ∧ w3.frozen? ⟨gh, 2, none⟩ = false ∧ w3.frozen? ⟨gh, 3, none⟩ = false ∧ w3.frozen? ⟨gh, 4, none⟩ = false ∧ w3.frozen? ⟨gh, 5, none⟩ = false); clear hbox hb_ hg_)
      go_roundw
      case rel => exact ⟨q + 1, m', rfl, ⟨by omega⟩, ⟨by omega⟩, HX2, M, ⟨blk_far (blk_far (blk_far (blk_far (blk_far (blk_far HA3.out NE3.out _) NE3.out _) NE3.out _) NE3.out _) NE3.out _) NE3.out _⟩, ⟨(((((HBw3.out.setCell GEgh.out _).setCell GEgh.out _).setCell GEgh.out _).setCell GEgh.out _).setCell GEgh.out _).setCell GEgh.out _⟩⟩
      case measure => simp [intOf]; omega
     | true =>
      cases tO with
      | false =>
       simp only [Bool.false_eq_true, if_false, if_true] at hx2
       have HX2 := Aside0.mk hx2
       clear hx2
       go_wp2_with ((with_reducible refine gate_dst (N := 7) rfl ?_); refine box_event ?hg (N := 7) ?hd (cs := #[.bool false, .int .i64 0, .int .i64 0, .bool false, .int .i64 0, .int .i64 0]) (t := 75) ?hr ?_; (case hd => rfl); (case hg => rfl); (case hr => first | (go_simp; done) | (go_simp; rfl)); intro gh hg_ w3 hbox hb_; have HBw3 := Aside0.mk (below_step HB.out hb_); have BKgh := Aside0.mk hbox; have GEgh := Aside0.mk (show w.heap.size ≤ gh from by rw [hg_]; exact below_size HB.out); have HA3 := Aside0.mk (barr_below B.out hb_); have NE3 := Aside0.mk (show ga ≠ gh from by rw [hg_]; exact Nat.ne_of_lt (blk_lt B.out)); obtain ⟨zc0_, zc1_, zc2_, zc3_, zc4_, zc5_, zf0_, zf1_, zf2_, zf3_, zf4_, zf5_⟩ := (⟨(blk_cell BKgh.out 0).trans rfl, (blk_cell BKgh.out 1).trans rfl, (blk_cell BKgh.out 2).trans rfl, (blk_cell BKgh.out 3).trans rfl, (blk_cell BKgh.out 4).trans rfl, (blk_cell BKgh.out 5).trans rfl, blk_frozen BKgh.out 0, blk_frozen BKgh.out 1, blk_frozen BKgh.out 2, blk_frozen BKgh.out 3, blk_frozen BKgh.out 4, blk_frozen BKgh.out 5⟩ : w3.cell? ⟨gh, 0, none⟩ = some (.bool false) ∧ w3.cell? ⟨gh, 1, none⟩ = some (.int .i64 0) ∧ w3.cell? ⟨gh, 2, none⟩ = some (.int .i64 0) ∧ w3.cell? ⟨gh, 3, none⟩ = some (.bool false) ∧ w3.cell? ⟨gh, 4, none⟩ = some (.int .i64 0) ∧ w3.cell? ⟨gh, 5, none⟩ = some (.int .i64 0) ∧ w3.frozen? ⟨gh, 0, none⟩ = false ∧ w3.frozen? ⟨gh, 1, none⟩ = false ∧ w3.frozen? ⟨gh, 2, none⟩ = false ∧ w3.frozen? ⟨gh, 3, none⟩ = false ∧ w3.frozen? ⟨gh, 4, none⟩ = false ∧ w3.frozen? ⟨gh, 5, none⟩ = false); clear hbox hb_ hg_)
       go_roundw
       case rel => exact ⟨q + 1, m', rfl, ⟨by omega⟩, ⟨by omega⟩, HX2, M, ⟨blk_far (blk_far (blk_far (blk_far (blk_far (blk_far HA3.out NE3.out _) NE3.out _) NE3.out _) NE3.out _) NE3.out _) NE3.out _⟩, ⟨(((((HBw3.out.setCell GEgh.out _).setCell GEgh.out _).setCell GEgh.out _).setCell GEgh.out _).setCell GEgh.out _).setCell GEgh.out _⟩⟩
       case measure => simp [intOf]; omega
      | true =>
       simp only [Bool.false_eq_true, if_false, if_true] at hx2
       have HX2 := Aside0.mk hx2
       clear hx2
       go_wp2_with ((with_reducible refine gate_dst (N := 7) rfl ?_); refine box_event ?hg (N := 7) ?hd (cs := #[.bool false, .int .i64 0, .int .i64 0, .bool false, .int .i64 0, .int .i64 0]) (t := 75) ?hr ?_; (case hd => rfl); (case hg => rfl); (case hr => first | (go_simp; done) | (go_simp; rfl)); intro gh hg_ w3 hbox hb_; have HBw3 := Aside0.mk (below_step HB.out hb_); have BKgh := Aside0.mk hbox; have GEgh := Aside0.mk (show w.heap.size ≤ gh from by rw [hg_]; exact below_size HB.out); have HA3 := Aside0.mk (barr_below B.out hb_); have NE3 := Aside0.mk (show ga ≠ gh from by rw [hg_]; exact Nat.ne_of_lt (blk_lt B.out)); obtain ⟨zc0_, zc1_, zc2_, zc3_, zc4_, zc5_, zf0_, zf1_, zf2_, zf3_, zf4_, zf5_⟩ := (⟨(blk_cell BKgh.out 0).trans rfl, (blk_cell BKgh.out 1).trans rfl, (blk_cell BKgh.out 2).trans rfl, (blk_cell BKgh.out 3).trans rfl, (blk_cell BKgh.out 4).trans rfl, (blk_cell BKgh.out 5).trans rfl, blk_frozen BKgh.out 0, blk_frozen BKgh.out 1, blk_frozen BKgh.out 2, blk_frozen BKgh.out 3, blk_frozen BKgh.out 4, blk_frozen BKgh.out 5⟩ : w3.cell? ⟨gh, 0, none⟩ = some (.bool false) ∧ w3.cell? ⟨gh, 1, none⟩ = some (.int .i64 0) ∧ w3.cell? ⟨gh, 2, none⟩ = some (.int .i64 0) ∧ w3.cell? ⟨gh, 3, none⟩ = some (.bool false) ∧ w3.cell? ⟨gh, 4, none⟩ = some (.int .i64 0) ∧ w3.cell? ⟨gh, 5, none⟩ = some (.int .i64 0) ∧ w3.frozen? ⟨gh, 0, none⟩ = false ∧ w3.frozen? ⟨gh, 1, none⟩ = false ∧ w3.frozen? ⟨gh, 2, none⟩ = false ∧ w3.frozen? ⟨gh, 3, none⟩ = false ∧ w3.frozen? ⟨gh, 4, none⟩ = false ∧ w3.frozen? ⟨gh, 5, none⟩ = false); clear hbox hb_ hg_)
       have n0_ : Aside0 (((((((w3.setCell ⟨gh, 0, none⟩ (.bool true)).setCell ⟨gh, 1, none⟩ (.int .i64 t1)).setCell ⟨gh, 2, none⟩ (.int .i64 t2)).setCell ⟨gh, 3, none⟩ (.bool true)).setCell ⟨gh, 4, none⟩ (.int .i64 t4)).setCell ⟨gh, 5, none⟩ (.int .i64 t5)).heap[gh]? = some (.cells #[.bool true, .int .i64 t1, .int .i64 t2, .bool true, .int .i64 t4, .int .i64 t5] 75 (0, 0))) := ⟨(blk_put (cs := #[.bool true, .int .i64 t1, .int .i64 t2, .bool true, .int .i64 t4, .int .i64 0]) (blk_put (cs := #[.bool true, .int .i64 t1, .int .i64 t2, .bool true, .int .i64 0, .int .i64 0]) (blk_put (cs := #[.bool true, .int .i64 t1, .int .i64 t2, .bool false, .int .i64 0, .int .i64 0]) (blk_put (cs := #[.bool true, .int .i64 t1, .int .i64 0, .bool false, .int .i64 0, .int .i64 0]) (blk_put (cs := #[.bool true, .int .i64 0, .int .i64 0, .bool false, .int .i64 0, .int .i64 0]) (blk_put (cs := #[.bool false, .int .i64 0, .int .i64 0, .bool false, .int .i64 0, .int .i64 0]) BKgh.out 0 _ rfl) 1 _ rfl) 2 _ rfl) 3 _ rfl) 4 _ rfl) 5 _ rfl)⟩
       have n1_ : Aside0 (barr ((((((w3.setCell ⟨gh, 0, none⟩ (.bool true)).setCell ⟨gh, 1, none⟩ (.int .i64 t1)).setCell ⟨gh, 2, none⟩ (.int .i64 t2)).setCell ⟨gh, 3, none⟩ (.bool true)).setCell ⟨gh, 4, none⟩ (.int .i64 t4)).setCell ⟨gh, 5, none⟩ (.int .i64 t5)) ga 163 m') := ⟨blk_far (blk_far (blk_far (blk_far (blk_far (blk_far HA3.out NE3.out _) NE3.out _) NE3.out _) NE3.out _) NE3.out _) NE3.out _⟩
       have n2_ : Aside0 (Below w.heap.size w ((((((w3.setCell ⟨gh, 0, none⟩ (.bool true)).setCell ⟨gh, 1, none⟩ (.int .i64 t1)).setCell ⟨gh, 2, none⟩ (.int .i64 t2)).setCell ⟨gh, 3, none⟩ (.bool true)).setCell ⟨gh, 4, none⟩ (.int .i64 t4)).setCell ⟨gh, 5, none⟩ (.int .i64 t5))) := ⟨(((((HBw3.out.setCell GEgh.out _).setCell GEgh.out _).setCell GEgh.out _).setCell GEgh.out _).setCell GEgh.out _).setCell GEgh.out _⟩
       clear zc0_ zc1_ zc2_ zc3_ zc4_ zc5_ zf0_ zf1_ zf2_ zf3_ zf4_ zf5_ HA3 BKgh HBw3 B HB h0 h1 h2 h3 h4 h5
       generalize ((((((w3.setCell ⟨gh, 0, none⟩ (.bool true)).setCell ⟨gh, 1, none⟩ (.int .i64 t1)).setCell ⟨gh, 2, none⟩ (.int .i64 t2)).setCell ⟨gh, 3, none⟩ (.bool true)).setCell ⟨gh, 4, none⟩ (.int .i64 t4)).setCell ⟨gh, 5, none⟩ (.int .i64 t5)) = W2 at n0_ n1_ n2_ ⊢
       have hx2 := HX2.out
       clear HX2
       have hlen' := hlen.out
       have g0 := (n2_.out.cell (p := ⟨g, 0, none⟩) glt.out).trans G0.out
       have c1_ : W2.cell? ⟨gh, 1, none⟩ = some (.int .i64 t1) := (blk_cell n0_.out 1).trans rfl
       have c2_ : W2.cell? ⟨gh, 2, none⟩ = some (.int .i64 t2) := (blk_cell n0_.out 2).trans rfl
       by_cases k0 : t2 < 0
       ·rw [if_pos k0] at hx2
        exact absurd hx2 (by simp)
       ·rw [if_neg k0] at hx2
        by_cases k1 : t2 ≥ (s0_0.length : Int)
        ·rw [if_pos k1] at hx2
         obtain rfl := Option.some.inj hx2
         have d1 : decide ((s0_0.length : Int) ≤ t2) = true := decide_eq_true k1
         go_quiet (fail)
         go_wp2
         go_ret
         exact ⟨rfl, by first | exact pw_below_drewN n2_.out _ | exact n2_.out⟩
        ·rw [if_neg k1] at hx2
         have d1 : decide ((s0_0.length : Int) ≤ t2) = false := decide_eq_false k1
         have r0 : 0 ≤ t2 := by omega
         have r1 : t2 < (s0_0.length : Int) := by omega
         have hr := Kd.C_below H0.out n2_.out
         obtain ⟨ad3, e, x0, x1⟩ := at_T67 hr t2 r0 r1
         cases e
         clear hr
         generalize rd_T67 s0_0 t2 = X at *
         obtain ⟨xr, xa⟩ := X
         dsimp only at x0 x1 hx2
         have hb := barr_at n1_.out t2 r0 (by rw [M.out]; omega)
         have hf := barr_free n1_.out t2.toNat
         cases xa with
         | false =>
          simp only [Bool.false_eq_true, if_false] at hx2
          obtain rfl := Option.some.inj hx2
          go_quiet (fail)
          go_wp2
          go_ret
          exact ⟨rfl, by first | exact pw_below_drewN n2_.out _ | exact n2_.out⟩
         | true =>
          simp only [if_true] at hx2
          by_cases k2 : (xr != t1) = true
          ·rw [if_pos k2] at hx2
           obtain rfl := Option.some.inj hx2
           go_quiet (fail)
           go_wp2
           go_ret
           exact ⟨rfl, by first | exact pw_below_drewN n2_.out _ | exact n2_.out⟩
          ·rw [if_neg k2] at hx2
           have k2 : (xr != t1) = false := by simpa using k2
           by_cases hm : gb m' t2 = true
           ·rw [if_pos hm] at hx2
            obtain rfl := Option.some.inj hx2
            rw [hm] at hb
            go_quiet (fail)
            go_wp2
            go_ret
            exact ⟨rfl, by first | exact pw_below_drewN n2_.out _ | exact n2_.out⟩
           ·rw [if_neg hm] at hx2
            have HX2 := Aside0.mk hx2
            clear hx2
            have hm : gb m' t2 = false := by simpa using hm
            rw [hm] at hb
            go_quiet (fail)
            go_wp2
            go_roundw
            case rel => exact ⟨q + 1, m'.set t2.toNat true, rfl, ⟨by omega⟩, ⟨by omega⟩, HX2, ⟨by rw [List.length_set]; exact M.out⟩, ⟨barr_set (barr_below n1_.out (pw_below_drewN (Below.refl _ _) _)) _ _⟩, ⟨(pw_below_drewN n2_.out _).setCell HG.out _⟩⟩
            case measure => simp [intOf]; omega
    ·have he : t.f0.drop q.toNat = [] := dropI_end t.f0 q hlt2 Q0.out
     rw [he] at hx1
     simp only [ownH] at hx1
     have HX := Aside0.mk hx1
     clear hx1 he
     have nlt2 : (decide (q < (t.f0.length : Int))) = false := decide_eq_false hlt2
     go_wp2
     go_roundw
     case rel => exact ⟨p + 1, m', rfl, ⟨by omega⟩, ⟨by omega⟩, HX, M, B, HB⟩
     case measure => simp [intOf]; omega
  ·have he : s0_1.drop p.toNat = [] := dropI_end s0_1 p hlt P0.out
   rw [he] at hx1
   simp only [ownT] at hx1
   replace hx1 := Option.some.inj hx1
   have HX := Aside0.mk hx1
   clear hx1 he
   have nlt : (decide (p < (s0_1.length : Int))) = false := decide_eq_false hlt
   have g0 := (HB.out.cell (p := ⟨g, 0, none⟩) glt.out).trans G0.out
   go_wp2_with fail
   clear g0
   go_loopw [84] (fun v84 wr => ∃ (y : Int), v84 = .int .i64 y ∧ Aside0 (0 ≤ y) ∧ Aside0 (y ≤ s0_0.length) ∧ Aside0 (ownA (s0_0.drop y.toNat) y m = r) ∧ Aside0 (barr wr ga 163 m) ∧ Aside0 (Below w.heap.size w wr)) (fun v84 _ => s0_0.length - (intOf v84).toNat)
   case atStart => exact ⟨0, rfl, ⟨Int.le_refl _⟩, ⟨by omega⟩, ⟨by simpa using HX.out⟩, B, HB⟩
   case round =>
    clear HX B HB
    obtain ⟨y, rfl, Y0, Y1, HX, B, HB⟩ := hrel
    have hx1 := HX.out
    clear HX
    have hlen' := hlen.out
    by_cases hlt2 : y < (s0_0.length : Int)
    ·have p0 : 0 ≤ y := Y0.out
     have hd : s0_0.drop y.toNat = rd_T67 s0_0 y :: s0_0.drop (y + 1).toNat := dropI_at s0_0 y z67 p0 hlt2
     rw [hd] at hx1
     clear hd
     simp only [ownA] at hx1
     have hr := Kd.C_below H0.out HB.out
     obtain ⟨ad, e, h0, h1⟩ := at_T67 hr y p0 hlt2
     cases e
     clear hr
     generalize rd_T67 s0_0 y = T at *
     have nlt2 : (decide (y < (s0_0.length : Int))) = true := decide_eq_true hlt2
     have w64 : IntKind.i64.wrap (y + 1) = y + 1 := IntWalk.i64_in _ (by omega)
     have y40 : y < 40 := by omega
     go_wp2_with ((with_reducible refine gate_dst (N := 9) rfl ?_); refine box_event ?hg (N := 9) ?hd (cs := #[.int .i64 0, .bool false]) (t := 67) ?hr ?_; (case hd => rfl); (case hg => rfl); (case hr => first | (go_simp; done) | (go_simp; rfl)); intro gx hg_ w2 hbox hb_; have HBw2 := Aside0.mk (below_step HB.out hb_); have BKgx := Aside0.mk hbox; have GEgx := Aside0.mk (show w.heap.size ≤ gx from by rw [hg_]; exact below_size HB.out); have HA2 := Aside0.mk (barr_below B.out hb_); have NE2 := Aside0.mk (show ga ≠ gx from by rw [hg_]; exact Nat.ne_of_lt (blk_lt B.out)); obtain ⟨zc0_, zc1_, zf0_, zf1_⟩ := (⟨(blk_cell BKgx.out 0).trans rfl, (blk_cell BKgx.out 1).trans rfl, blk_frozen BKgx.out 0, blk_frozen BKgx.out 1⟩ : w2.cell? ⟨gx, 0, none⟩ = some (.int .i64 0) ∧ w2.cell? ⟨gx, 1, none⟩ = some (.bool false) ∧ w2.frozen? ⟨gx, 0, none⟩ = false ∧ w2.frozen? ⟨gx, 1, none⟩ = false); clear hbox hb_ hg_)
     have n0_ : Aside0 (((w2.setCell ⟨gx, 0, none⟩ (.int .i64 T.f0)).setCell ⟨gx, 1, none⟩ (.bool T.f1)).heap[gx]? = some (.cells #[.int .i64 T.f0, .bool T.f1] 67 (0, 0))) := ⟨(blk_put (cs := #[.int .i64 T.f0, .bool false]) (blk_put (cs := #[.int .i64 0, .bool false]) BKgx.out 0 _ rfl) 1 _ rfl)⟩
     have n1_ : Aside0 (barr ((w2.setCell ⟨gx, 0, none⟩ (.int .i64 T.f0)).setCell ⟨gx, 1, none⟩ (.bool T.f1)) ga 163 m) := ⟨blk_far (blk_far HA2.out NE2.out _) NE2.out _⟩
     have n2_ : Aside0 (Below w.heap.size w ((w2.setCell ⟨gx, 0, none⟩ (.int .i64 T.f0)).setCell ⟨gx, 1, none⟩ (.bool T.f1))) := ⟨(HBw2.out.setCell GEgx.out _).setCell GEgx.out _⟩
     clear zc0_ zc1_ zf0_ zf1_ HA2 BKgx HBw2 B HB h0 h1
     generalize ((w2.setCell ⟨gx, 0, none⟩ (.int .i64 T.f0)).setCell ⟨gx, 1, none⟩ (.bool T.f1)) = W at n0_ n1_ n2_ ⊢
     have hb := barr_at n1_.out y p0 (by rw [M.out]; omega)
     have c1_ : W.cell? ⟨gx, 1, none⟩ = some (.bool T.f1) := (blk_cell n0_.out 1).trans rfl
     generalize gb m y = v at hb hx1
     by_cases he : (T.f1 != v) = true
     ·rw [if_pos he] at hx1
      obtain rfl := hx1
      have he : (!(T.f1 == v)) = true := he
      go_quiet (fail)
      go_wp2
      go_ret
      exact ⟨rfl, by first | exact pw_below_drewN n2_.out _ | exact n2_.out⟩
     ·rw [if_neg he] at hx1
      have HX := Aside0.mk hx1
      clear hx1
      have he : (!(T.f1 == v)) = false := by simpa using he
      go_quiet (fail)
      go_wp2
      go_roundw
      case rel => exact ⟨y + 1, rfl, ⟨by omega⟩, ⟨by omega⟩, HX, ⟨barr_below n1_.out (pw_below_drewN (Below.refl _ _) _)⟩, ⟨by first | exact pw_below_drewN n2_.out _ | exact n2_.out⟩⟩
      case measure => simp [intOf]; omega
    ·have he : s0_0.drop y.toNat = [] := dropI_end s0_0 y hlt2 Y0.out
     rw [he] at hx1
     simp only [ownA] at hx1
     obtain rfl := hx1
     have nlt2 : (decide (y < (s0_0.length : Int))) = false := decide_eq_false hlt2
     go_wp2
     go_ret
     exact ⟨rfl, HB.out⟩
theorem impl_World_ownersOk.calls (g : Nat) (s0_0 : List S67) (s0_1 : List S78) (s0_2 : List S155) (s0_3 : List Int) (r : Bool) (w0 w : World) (hI : IsS45 w0 w g s0_0 s0_1 s0_2 s0_3) (hB : Below w0.heap.size w0 w) (hh : impl_World_ownersOk.f s0_0 s0_1 s0_2 s0_3 = some r) :
  Calls Try.prog 82 #[.pointer (some ⟨g, 0, none⟩)] w fun e w' => e = .returned (.bool r) ∧ IsS45 w0 w' g s0_0 s0_1 s0_2 s0_3 ∧ Below w0.heap.size w0 w' ∧ KeepBut w w' g none :=
 (impl_World_ownersOk.key g s0_0 s0_1 s0_2 s0_3 r w0 w hI hB hh).mono fun e w' ⟨he, hb⟩ => ⟨he, hI.below hb, below_step hB hb, KeepBut.of_below hb g none⟩

def impl_World_slot.f (s0_0 : List (S67)) (s0_1 : List (S78)) (s0_2 : List (S155)) (s0_3 : List Int) (a1 : Int) (a2 : Int) : Option (Bool × Int × Int × Bool × Int × Int × Bool) := if a1 < 0 then (some (false, 0, 0, false, 0, 0, false)) else (if a1 ≥ (s0_1.length : Int) then (some (false, 0, 0, false, 0, 0, false)) else (if a2 < 0 then (some (false, 0, 0, false, 0, 0, false)) else (if 0 ≤ a1 then (if a1 < (s0_1.length : Int) then (if a2 ≥ (((rd_T78 s0_1 a1).f0).length : Int) then (some (false, 0, 0, false, 0, 0, false)) else (if 0 ≤ a2 then (if a2 < (((rd_T78 s0_1 a1).f0).length : Int) then (some ((rd_T75 ((rd_T78 s0_1 a1).f0) a2).f0, (rd_T75 ((rd_T78 s0_1 a1).f0) a2).f1, (rd_T75 ((rd_T78 s0_1 a1).f0) a2).f2, (rd_T75 ((rd_T78 s0_1 a1).f0) a2).f3, (rd_T75 ((rd_T78 s0_1 a1).f0) a2).f4, (rd_T75 ((rd_T78 s0_1 a1).f0) a2).f5, (rd_T75 ((rd_T78 s0_1 a1).f0) a2).f0)) else (none)) else (none))) else (none)) else (none))))
set_option maxHeartbeats 8000000 in
set_option maxRecDepth 100000 in
theorem impl_World_slot.calls (g : Nat) (s0_0 : List (S67)) (s0_1 : List (S78)) (s0_2 : List (S155)) (s0_3 : List Int) (a1 : Int) (a2 : Int) (r1 : Bool) (r2 : Int) (r3 : Int) (r4 : Bool) (r5 : Int) (r6 : Int) (r7 : Bool) (w0 w : World) (hI : IsS45 w0 w g s0_0 s0_1 s0_2 s0_3) (hB : Below w0.heap.size w0 w) (h : impl_World_slot.f s0_0 s0_1 s0_2 s0_3 a1 a2 = some (r1, r2, r3, r4, r5, r6, r7)) :
  Calls Try.prog 130 #[.pointer (some ⟨g, 0, none⟩), .int .i64 a1, .int .i64 a2] w fun e w' => e = .returned (.tuple #[.agg #[.bool r1, .int .i64 r2, .int .i64 r3, .bool r4, .int .i64 r5, .int .i64 r6], .bool r7]) ∧ IsS45 w0 w' g s0_0 s0_1 s0_2 s0_3 ∧ Below w0.heap.size w0 w' ∧ KeepBut w w' g none := by
 have hu75 := Try.underlying75
 have HI0 := Aside0.mk hI
 have HK := Aside0.mk (KeepBut.refl w g none)
 have HL := Aside0.mk hB.size
 clear hI
 have HW0 := Aside0.mk hB.size
 have HB := Aside0.mk hB
 clear hB
 have H : (if a1 < 0 then (some (false, 0, 0, false, 0, 0, false)) else (if a1 ≥ (s0_1.length : Int) then (some (false, 0, 0, false, 0, 0, false)) else (if a2 < 0 then (some (false, 0, 0, false, 0, 0, false)) else (if 0 ≤ a1 then (if a1 < (s0_1.length : Int) then (if a2 ≥ (((rd_T78 s0_1 a1).f0).length : Int) then (some (false, 0, 0, false, 0, 0, false)) else (if 0 ≤ a2 then (if a2 < (((rd_T78 s0_1 a1).f0).length : Int) then (some ((rd_T75 ((rd_T78 s0_1 a1).f0) a2).f0, (rd_T75 ((rd_T78 s0_1 a1).f0) a2).f1, (rd_T75 ((rd_T78 s0_1 a1).f0) a2).f2, (rd_T75 ((rd_T78 s0_1 a1).f0) a2).f3, (rd_T75 ((rd_T78 s0_1 a1).f0) a2).f4, (rd_T75 ((rd_T78 s0_1 a1).f0) a2).f5, (rd_T75 ((rd_T78 s0_1 a1).f0) a2).f0)) else (none)) else (none))) else (none)) else (none))))) = some (r1, r2, r3, r4, r5, r6, r7) := h
 clear h
 by_cases c4 : a1 < 0
 ·rw [if_pos c4] at H
  have c4b0 : decide (a1 < 0) = true := decide_eq_true c4
  clear c4
  simp only [Option.some.injEq, Prod.mk.injEq] at H
  obtain ⟨rfl, rfl, rfl, rfl, rfl, rfl, rfl⟩ := H
  go_enter Try.func130, Try.ntmps130
  go_wp2_with (first | ((with_reducible refine gate_dst (N := 6) rfl ?_); (try (refine gate_guard (by rfl) ?_; dsimp only)); refine box_event ?hg (N := 6) ?hd (cs := #[.bool false, .int .i64 0, .int .i64 0, .bool false, .int .i64 0, .int .i64 0]) (t := 75) ?hr ?_; (case hd => rfl); (case hg => rfl); (case hr => first | (go_simp; done) | (go_simp; rfl)); intro gb209 hg w5 hbox hb; have n0_ := Aside0.mk (IsS45.below (by repeat (first | (with_reducible first | exact HI0.out | apply IsS45.alloc | apply IsS45.drewN | apply IsS45.drew) | exact HI0.out)) hb); have n1_ := Aside0.mk (KeepBut.trans (by repeat (first | (with_reducible first | exact HK.out | apply KeepBut.set_ | apply keep_drewN | apply keep_drew | apply keep_alloc) | exact HK.out)) (KeepBut.of_below hb g none) (.inl rfl)); have n2_ := Aside0.mk (below_step (by repeat (first | (with_reducible first | exact HB.out | apply eA | apply eN | apply eD | refine below_set ?_ (IsS45.ge HI0.out)) | exact HB.out)) hb); have n3_ := Aside0.mk (hbox); have n4_ := Aside0.mk ((by rw [hg]; exact (keep_size (w := w) (g := g) (row := none) (by repeat (first | (with_reducible first | exact HK.out | apply KeepBut.set_ | apply keep_drewN | apply keep_drew | apply keep_alloc) | exact HK.out))) : w.heap.size ≤ gb209)); have n5_ := Aside0.mk ((Nat.le_trans HW0.out (by rw [hg]; exact (keep_size (w := w) (g := g) (row := none) (by repeat (first | (with_reducible first | exact HK.out | apply KeepBut.set_ | apply keep_drewN | apply keep_drew | apply keep_alloc) | exact HK.out))) : w.heap.size ≤ gb209) : w0.heap.size ≤ gb209)); have n6_ := Aside0.mk ((by rw [hg]; exact Nat.ne_of_lt (IsS45.lt (show IsS45 w0 _ g s0_0 s0_1 s0_2 s0_3 from by repeat (first | (with_reducible first | exact HI0.out | apply IsS45.alloc | apply IsS45.drewN | apply IsS45.drew) | exact HI0.out))) : g ≠ gb209)); have n7_ := Aside0.mk ((by rw [hg]; exact Nat.ne_of_gt (IsS45.lt (show IsS45 w0 _ g s0_0 s0_1 s0_2 s0_3 from by repeat (first | (with_reducible first | exact HI0.out | apply IsS45.alloc | apply IsS45.drewN | apply IsS45.drew) | exact HI0.out))) : gb209 ≠ g)); clear HI0 HK HB; have HI0 := n0_; have HK := n1_; have HB := n2_; have BK209 := n3_; have GW209 := n4_; have GE209 := n5_; have NB0_209 := n6_; have NB209_0 := n7_; clear n0_ n1_ n2_ n3_ n4_ n5_ n6_ n7_; clear hb hbox hg; have hnb6 := NB209_0.out; have hnc6 := NB0_209.out; obtain ⟨_, _, _, _, _, _, _, _, _, _, _, _⟩ := zc6_ BK209.out))
  refine bodyPost_ret (results_ct rfl _ _ gb209 75 #[.bool false, .int .i64 0, .int .i64 0, .bool false, .int .i64 0, .int .i64 0] (0, 0) _ rfl (by (with_reducible repeat first | apply bN | apply bD | apply bA); refine blk_put (cs := #[.bool false, .int .i64 0, .int .i64 0, .bool false, .int .i64 0, .int .i64 0]) ?_ 5 _ rfl; (with_reducible repeat first | apply bN | apply bD | apply bA); refine blk_put (cs := #[.bool false, .int .i64 0, .int .i64 0, .bool false, .int .i64 0, .int .i64 0]) ?_ 4 _ rfl; (with_reducible repeat first | apply bN | apply bD | apply bA); refine blk_put (cs := #[.bool false, .int .i64 0, .int .i64 0, .bool false, .int .i64 0, .int .i64 0]) ?_ 3 _ rfl; (with_reducible repeat first | apply bN | apply bD | apply bA); refine blk_put (cs := #[.bool false, .int .i64 0, .int .i64 0, .bool false, .int .i64 0, .int .i64 0]) ?_ 2 _ rfl; (with_reducible repeat first | apply bN | apply bD | apply bA); refine blk_put (cs := #[.bool false, .int .i64 0, .int .i64 0, .bool false, .int .i64 0, .int .i64 0]) ?_ 1 _ rfl; (with_reducible repeat first | apply bN | apply bD | apply bA); refine blk_put (cs := #[.bool false, .int .i64 0, .int .i64 0, .bool false, .int .i64 0, .int .i64 0]) ?_ 0 _ rfl; (with_reducible repeat first | apply bN | apply bD | apply bA); exact BK209.out) Try.underlying75 rfl (by kernel_rfl)) rfl ?_
  exact ⟨by first | rfl | (simp [errW_none, errW_some] <;> rfl) | (simp [*, errW_none, errW_some] <;> rfl), by repeat (first | (with_reducible first | exact HI0.out | apply IsS45.alloc | apply IsS45.drewN | apply IsS45.drew | refine IsS45.far ?_ NB0_209.out _) | exact HI0.out), by repeat (first | (with_reducible first | exact HB.out | apply eA | apply eN | apply eD | refine below_set ?_ (IsS45.ge HI0.out) | refine below_set ?_ GE209.out) | exact HB.out), by repeat (first | (with_reducible first | exact HK.out | apply KeepBut.set_ | apply keep_drewN | apply keep_drew | apply keep_alloc | refine keep_far ?_ GW209.out _) | exact HK.out)⟩
 ·rw [if_neg c4] at H
  have c4b0 : decide (a1 < 0) = false := decide_eq_false c4
  clear c4
  by_cases c8 : a1 ≥ (s0_1.length : Int)
  ·rw [if_pos c8] at H
   have c8b0 : decide ((s0_1.length : Int) ≤ a1) = true := decide_eq_true c8
   clear c8
   simp only [Option.some.injEq, Prod.mk.injEq] at H
   obtain ⟨rfl, rfl, rfl, rfl, rfl, rfl, rfl⟩ := H
   go_enter Try.func130, Try.ntmps130
   go_wp2_with (first | ((with_reducible refine gate_dst (N := 6) rfl ?_); (try (refine gate_guard (by rfl) ?_; dsimp only)); refine box_event ?hg (N := 6) ?hd (cs := #[.bool false, .int .i64 0, .int .i64 0, .bool false, .int .i64 0, .int .i64 0]) (t := 75) ?hr ?_; (case hd => rfl); (case hg => rfl); (case hr => first | (go_simp; done) | (go_simp; rfl)); intro gb209 hg w9 hbox hb; have n0_ := Aside0.mk (IsS45.below (by repeat (first | (with_reducible first | exact HI0.out | apply IsS45.alloc | apply IsS45.drewN | apply IsS45.drew) | exact HI0.out)) hb); have n1_ := Aside0.mk (KeepBut.trans (by repeat (first | (with_reducible first | exact HK.out | apply KeepBut.set_ | apply keep_drewN | apply keep_drew | apply keep_alloc) | exact HK.out)) (KeepBut.of_below hb g none) (.inl rfl)); have n2_ := Aside0.mk (below_step (by repeat (first | (with_reducible first | exact HB.out | apply eA | apply eN | apply eD | refine below_set ?_ (IsS45.ge HI0.out)) | exact HB.out)) hb); have n3_ := Aside0.mk (hbox); have n4_ := Aside0.mk ((by rw [hg]; exact (keep_size (w := w) (g := g) (row := none) (by repeat (first | (with_reducible first | exact HK.out | apply KeepBut.set_ | apply keep_drewN | apply keep_drew | apply keep_alloc) | exact HK.out))) : w.heap.size ≤ gb209)); have n5_ := Aside0.mk ((Nat.le_trans HW0.out (by rw [hg]; exact (keep_size (w := w) (g := g) (row := none) (by repeat (first | (with_reducible first | exact HK.out | apply KeepBut.set_ | apply keep_drewN | apply keep_drew | apply keep_alloc) | exact HK.out))) : w.heap.size ≤ gb209) : w0.heap.size ≤ gb209)); have n6_ := Aside0.mk ((by rw [hg]; exact Nat.ne_of_lt (IsS45.lt (show IsS45 w0 _ g s0_0 s0_1 s0_2 s0_3 from by repeat (first | (with_reducible first | exact HI0.out | apply IsS45.alloc | apply IsS45.drewN | apply IsS45.drew) | exact HI0.out))) : g ≠ gb209)); have n7_ := Aside0.mk ((by rw [hg]; exact Nat.ne_of_gt (IsS45.lt (show IsS45 w0 _ g s0_0 s0_1 s0_2 s0_3 from by repeat (first | (with_reducible first | exact HI0.out | apply IsS45.alloc | apply IsS45.drewN | apply IsS45.drew) | exact HI0.out))) : gb209 ≠ g)); clear HI0 HK HB; have HI0 := n0_; have HK := n1_; have HB := n2_; have BK209 := n3_; have GW209 := n4_; have GE209 := n5_; have NB0_209 := n6_; have NB209_0 := n7_; clear n0_ n1_ n2_ n3_ n4_ n5_ n6_ n7_; clear hb hbox hg; obtain ⟨ASz10_0, cSz10_0, ASz10_1, cSz10_1, ASz10_2, cSz10_2, ASz10_3, cSz10_3, HGz10, hgz10, HSz10_0, HSz10_1, HSz10_2, HSz10_3⟩ := HI0.out; have hcz10_0 := cellS45_0 HGz10; have hcz10_1 := cellS45_1 HGz10; have hcz10_2 := cellS45_2 HGz10; have hcz10_3 := cellS45_3 HGz10; clear HGz10 hgz10; have hnb11 := NB209_0.out; have hnc11 := NB0_209.out; obtain ⟨_, _, _, _, _, _, _, _, _, _, _, _⟩ := zc6_ BK209.out))
   refine bodyPost_ret (results_ct rfl _ _ gb209 75 #[.bool false, .int .i64 0, .int .i64 0, .bool false, .int .i64 0, .int .i64 0] (0, 0) _ rfl (by (with_reducible repeat first | apply bN | apply bD | apply bA); refine blk_put (cs := #[.bool false, .int .i64 0, .int .i64 0, .bool false, .int .i64 0, .int .i64 0]) ?_ 5 _ rfl; (with_reducible repeat first | apply bN | apply bD | apply bA); refine blk_put (cs := #[.bool false, .int .i64 0, .int .i64 0, .bool false, .int .i64 0, .int .i64 0]) ?_ 4 _ rfl; (with_reducible repeat first | apply bN | apply bD | apply bA); refine blk_put (cs := #[.bool false, .int .i64 0, .int .i64 0, .bool false, .int .i64 0, .int .i64 0]) ?_ 3 _ rfl; (with_reducible repeat first | apply bN | apply bD | apply bA); refine blk_put (cs := #[.bool false, .int .i64 0, .int .i64 0, .bool false, .int .i64 0, .int .i64 0]) ?_ 2 _ rfl; (with_reducible repeat first | apply bN | apply bD | apply bA); refine blk_put (cs := #[.bool false, .int .i64 0, .int .i64 0, .bool false, .int .i64 0, .int .i64 0]) ?_ 1 _ rfl; (with_reducible repeat first | apply bN | apply bD | apply bA); refine blk_put (cs := #[.bool false, .int .i64 0, .int .i64 0, .bool false, .int .i64 0, .int .i64 0]) ?_ 0 _ rfl; (with_reducible repeat first | apply bN | apply bD | apply bA); exact BK209.out) Try.underlying75 rfl (by kernel_rfl)) rfl ?_
   exact ⟨by first | rfl | (simp [errW_none, errW_some] <;> rfl) | (simp [*, errW_none, errW_some] <;> rfl), by repeat (first | (with_reducible first | exact HI0.out | apply IsS45.alloc | apply IsS45.drewN | apply IsS45.drew | refine IsS45.far ?_ NB0_209.out _) | exact HI0.out), by repeat (first | (with_reducible first | exact HB.out | apply eA | apply eN | apply eD | refine below_set ?_ (IsS45.ge HI0.out) | refine below_set ?_ GE209.out) | exact HB.out), by repeat (first | (with_reducible first | exact HK.out | apply KeepBut.set_ | apply keep_drewN | apply keep_drew | apply keep_alloc | refine keep_far ?_ GW209.out _) | exact HK.out)⟩
  ·rw [if_neg c8] at H
   have c8b0 : decide ((s0_1.length : Int) ≤ a1) = false := decide_eq_false c8
   clear c8
   by_cases c13 : a2 < 0
   ·rw [if_pos c13] at H
    have c13b0 : decide (a2 < 0) = true := decide_eq_true c13
    clear c13
    simp only [Option.some.injEq, Prod.mk.injEq] at H
    obtain ⟨rfl, rfl, rfl, rfl, rfl, rfl, rfl⟩ := H
    go_enter Try.func130, Try.ntmps130
    go_wp2_with (first | ((with_reducible refine gate_dst (N := 6) rfl ?_); (try (refine gate_guard (by rfl) ?_; dsimp only)); refine box_event ?hg (N := 6) ?hd (cs := #[.bool false, .int .i64 0, .int .i64 0, .bool false, .int .i64 0, .int .i64 0]) (t := 75) ?hr ?_; (case hd => rfl); (case hg => rfl); (case hr => first | (go_simp; done) | (go_simp; rfl)); intro gb209 hg w14 hbox hb; have n0_ := Aside0.mk (IsS45.below (by repeat (first | (with_reducible first | exact HI0.out | apply IsS45.alloc | apply IsS45.drewN | apply IsS45.drew) | exact HI0.out)) hb); have n1_ := Aside0.mk (KeepBut.trans (by repeat (first | (with_reducible first | exact HK.out | apply KeepBut.set_ | apply keep_drewN | apply keep_drew | apply keep_alloc) | exact HK.out)) (KeepBut.of_below hb g none) (.inl rfl)); have n2_ := Aside0.mk (below_step (by repeat (first | (with_reducible first | exact HB.out | apply eA | apply eN | apply eD | refine below_set ?_ (IsS45.ge HI0.out)) | exact HB.out)) hb); have n3_ := Aside0.mk (hbox); have n4_ := Aside0.mk ((by rw [hg]; exact (keep_size (w := w) (g := g) (row := none) (by repeat (first | (with_reducible first | exact HK.out | apply KeepBut.set_ | apply keep_drewN | apply keep_drew | apply keep_alloc) | exact HK.out))) : w.heap.size ≤ gb209)); have n5_ := Aside0.mk ((Nat.le_trans HW0.out (by rw [hg]; exact (keep_size (w := w) (g := g) (row := none) (by repeat (first | (with_reducible first | exact HK.out | apply KeepBut.set_ | apply keep_drewN | apply keep_drew | apply keep_alloc) | exact HK.out))) : w.heap.size ≤ gb209) : w0.heap.size ≤ gb209)); have n6_ := Aside0.mk ((by rw [hg]; exact Nat.ne_of_lt (IsS45.lt (show IsS45 w0 _ g s0_0 s0_1 s0_2 s0_3 from by repeat (first | (with_reducible first | exact HI0.out | apply IsS45.alloc | apply IsS45.drewN | apply IsS45.drew) | exact HI0.out))) : g ≠ gb209)); have n7_ := Aside0.mk ((by rw [hg]; exact Nat.ne_of_gt (IsS45.lt (show IsS45 w0 _ g s0_0 s0_1 s0_2 s0_3 from by repeat (first | (with_reducible first | exact HI0.out | apply IsS45.alloc | apply IsS45.drewN | apply IsS45.drew) | exact HI0.out))) : gb209 ≠ g)); clear HI0 HK HB; have HI0 := n0_; have HK := n1_; have HB := n2_; have BK209 := n3_; have GW209 := n4_; have GE209 := n5_; have NB0_209 := n6_; have NB209_0 := n7_; clear n0_ n1_ n2_ n3_ n4_ n5_ n6_ n7_; clear hb hbox hg; obtain ⟨ASz15_0, cSz15_0, ASz15_1, cSz15_1, ASz15_2, cSz15_2, ASz15_3, cSz15_3, HGz15, hgz15, HSz15_0, HSz15_1, HSz15_2, HSz15_3⟩ := HI0.out; have hcz15_0 := cellS45_0 HGz15; have hcz15_1 := cellS45_1 HGz15; have hcz15_2 := cellS45_2 HGz15; have hcz15_3 := cellS45_3 HGz15; clear HGz15 hgz15; have hnb16 := NB209_0.out; have hnc16 := NB0_209.out; obtain ⟨_, _, _, _, _, _, _, _, _, _, _, _⟩ := zc6_ BK209.out))
    refine bodyPost_ret (results_ct rfl _ _ gb209 75 #[.bool false, .int .i64 0, .int .i64 0, .bool false, .int .i64 0, .int .i64 0] (0, 0) _ rfl (by (with_reducible repeat first | apply bN | apply bD | apply bA); refine blk_put (cs := #[.bool false, .int .i64 0, .int .i64 0, .bool false, .int .i64 0, .int .i64 0]) ?_ 5 _ rfl; (with_reducible repeat first | apply bN | apply bD | apply bA); refine blk_put (cs := #[.bool false, .int .i64 0, .int .i64 0, .bool false, .int .i64 0, .int .i64 0]) ?_ 4 _ rfl; (with_reducible repeat first | apply bN | apply bD | apply bA); refine blk_put (cs := #[.bool false, .int .i64 0, .int .i64 0, .bool false, .int .i64 0, .int .i64 0]) ?_ 3 _ rfl; (with_reducible repeat first | apply bN | apply bD | apply bA); refine blk_put (cs := #[.bool false, .int .i64 0, .int .i64 0, .bool false, .int .i64 0, .int .i64 0]) ?_ 2 _ rfl; (with_reducible repeat first | apply bN | apply bD | apply bA); refine blk_put (cs := #[.bool false, .int .i64 0, .int .i64 0, .bool false, .int .i64 0, .int .i64 0]) ?_ 1 _ rfl; (with_reducible repeat first | apply bN | apply bD | apply bA); refine blk_put (cs := #[.bool false, .int .i64 0, .int .i64 0, .bool false, .int .i64 0, .int .i64 0]) ?_ 0 _ rfl; (with_reducible repeat first | apply bN | apply bD | apply bA); exact BK209.out) Try.underlying75 rfl (by kernel_rfl)) rfl ?_
    exact ⟨by first | rfl | (simp [errW_none, errW_some] <;> rfl) | (simp [*, errW_none, errW_some] <;> rfl), by repeat (first | (with_reducible first | exact HI0.out | apply IsS45.alloc | apply IsS45.drewN | apply IsS45.drew | refine IsS45.far ?_ NB0_209.out _) | exact HI0.out), by repeat (first | (with_reducible first | exact HB.out | apply eA | apply eN | apply eD | refine below_set ?_ (IsS45.ge HI0.out) | refine below_set ?_ GE209.out) | exact HB.out), by repeat (first | (with_reducible first | exact HK.out | apply KeepBut.set_ | apply keep_drewN | apply keep_drew | apply keep_alloc | refine keep_far ?_ GW209.out _) | exact HK.out)⟩
   ·rw [if_neg c13] at H
    have c13b0 : decide (a2 < 0) = false := decide_eq_false c13
    clear c13
    by_cases c18 : 0 ≤ a1
    ·rw [if_pos c18] at H
     have c18b0 : decide (0 ≤ a1) = true := decide_eq_true c18
     clear c18
     by_cases c19 : a1 < (s0_1.length : Int)
     ·rw [if_pos c19] at H
      have c19b0 : decide (a1 < (s0_1.length : Int)) = true := decide_eq_true c19
      clear c19
      by_cases c20 : a2 ≥ (((rd_T78 s0_1 a1).f0).length : Int)
      ·rw [if_pos c20] at H
       have c20b0 : decide ((((rd_T78 s0_1 a1).f0).length : Int) ≤ a2) = true := decide_eq_true c20
       clear c20
       simp only [Option.some.injEq, Prod.mk.injEq] at H
       obtain ⟨rfl, rfl, rfl, rfl, rfl, rfl, rfl⟩ := H
       go_enter Try.func130, Try.ntmps130
       go_wp2_with (first | ((with_reducible refine gate_dst (N := 6) rfl ?_); (try (refine gate_guard (by rfl) ?_; dsimp only)); refine box_event ?hg (N := 6) ?hd (cs := #[.bool false, .int .i64 0, .int .i64 0, .bool false, .int .i64 0, .int .i64 0]) (t := 75) ?hr ?_; (case hd => rfl); (case hg => rfl); (case hr => first | (go_simp; done) | (go_simp; rfl)); intro gb209 hg w21 hbox hb; have n0_ := Aside0.mk (IsS45.below (by repeat (first | (with_reducible first | exact HI0.out | apply IsS45.alloc | apply IsS45.drewN | apply IsS45.drew) | exact HI0.out)) hb); have n1_ := Aside0.mk (KeepBut.trans (by repeat (first | (with_reducible first | exact HK.out | apply KeepBut.set_ | apply keep_drewN | apply keep_drew | apply keep_alloc) | exact HK.out)) (KeepBut.of_below hb g none) (.inl rfl)); have n2_ := Aside0.mk (below_step (by repeat (first | (with_reducible first | exact HB.out | apply eA | apply eN | apply eD | refine below_set ?_ (IsS45.ge HI0.out)) | exact HB.out)) hb); have n3_ := Aside0.mk (hbox); have n4_ := Aside0.mk ((by rw [hg]; exact (keep_size (w := w) (g := g) (row := none) (by repeat (first | (with_reducible first | exact HK.out | apply KeepBut.set_ | apply keep_drewN | apply keep_drew | apply keep_alloc) | exact HK.out))) : w.heap.size ≤ gb209)); have n5_ := Aside0.mk ((Nat.le_trans HW0.out (by rw [hg]; exact (keep_size (w := w) (g := g) (row := none) (by repeat (first | (with_reducible first | exact HK.out | apply KeepBut.set_ | apply keep_drewN | apply keep_drew | apply keep_alloc) | exact HK.out))) : w.heap.size ≤ gb209) : w0.heap.size ≤ gb209)); have n6_ := Aside0.mk ((by rw [hg]; exact Nat.ne_of_lt (IsS45.lt (show IsS45 w0 _ g s0_0 s0_1 s0_2 s0_3 from by repeat (first | (with_reducible first | exact HI0.out | apply IsS45.alloc | apply IsS45.drewN | apply IsS45.drew) | exact HI0.out))) : g ≠ gb209)); have n7_ := Aside0.mk ((by rw [hg]; exact Nat.ne_of_gt (IsS45.lt (show IsS45 w0 _ g s0_0 s0_1 s0_2 s0_3 from by repeat (first | (with_reducible first | exact HI0.out | apply IsS45.alloc | apply IsS45.drewN | apply IsS45.drew) | exact HI0.out))) : gb209 ≠ g)); clear HI0 HK HB; have HI0 := n0_; have HK := n1_; have HB := n2_; have BK209 := n3_; have GW209 := n4_; have GE209 := n5_; have NB0_209 := n6_; have NB209_0 := n7_; clear n0_ n1_ n2_ n3_ n4_ n5_ n6_ n7_; clear hb hbox hg; obtain ⟨ASz22_0, cSz22_0, ASz22_1, cSz22_1, ASz22_2, cSz22_2, ASz22_3, cSz22_3, HGz22, hgz22, HSz22_0, HSz22_1, HSz22_2, HSz22_3⟩ := HI0.out; have hcz22_0 := cellS45_0 HGz22; have hcz22_1 := cellS45_1 HGz22; have hcz22_2 := cellS45_2 HGz22; have hcz22_3 := cellS45_3 HGz22; clear HGz22 hgz22; have p210 : 0 ≤ (a1 : Int) := of_decide_eq_true (by first | (with_reducible assumption) | assumption); have q210 : a1 < (s0_1.length : Int) := of_decide_eq_true (by first | (with_reducible assumption) | assumption); obtain ⟨ad210, A210_0, c210_0, A210_1, c210_1, e210, hx210_0, hx210_1, hl210_0, hi210_0, hl210_1, hi210_1⟩ := at_T78 HSz22_1 a1 p210 q210; cases e210; replace hx210_0 := pw_cell_below HB.out hx210_0; replace hx210_1 := pw_cell_below HB.out hx210_1; have HR210_0 := Aside0.mk hi210_0; have HC210_0 := Aside0.mk hl210_0; clear hi210_0 hl210_0; have HR210_1 := Aside0.mk hi210_1; have HC210_1 := Aside0.mk hl210_1; clear hi210_1 hl210_1; replace p210 := eq_true p210; replace q210 := eq_true q210; have hnb23 := NB209_0.out; have hnc23 := NB0_209.out; obtain ⟨_, _, _, _, _, _, _, _, _, _, _, _⟩ := zc6_ BK209.out))
       refine bodyPost_ret (results_ct rfl _ _ gb209 75 #[.bool false, .int .i64 0, .int .i64 0, .bool false, .int .i64 0, .int .i64 0] (0, 0) _ rfl (by (with_reducible repeat first | apply bN | apply bD | apply bA); refine blk_put (cs := #[.bool false, .int .i64 0, .int .i64 0, .bool false, .int .i64 0, .int .i64 0]) ?_ 5 _ rfl; (with_reducible repeat first | apply bN | apply bD | apply bA); refine blk_put (cs := #[.bool false, .int .i64 0, .int .i64 0, .bool false, .int .i64 0, .int .i64 0]) ?_ 4 _ rfl; (with_reducible repeat first | apply bN | apply bD | apply bA); refine blk_put (cs := #[.bool false, .int .i64 0, .int .i64 0, .bool false, .int .i64 0, .int .i64 0]) ?_ 3 _ rfl; (with_reducible repeat first | apply bN | apply bD | apply bA); refine blk_put (cs := #[.bool false, .int .i64 0, .int .i64 0, .bool false, .int .i64 0, .int .i64 0]) ?_ 2 _ rfl; (with_reducible repeat first | apply bN | apply bD | apply bA); refine blk_put (cs := #[.bool false, .int .i64 0, .int .i64 0, .bool false, .int .i64 0, .int .i64 0]) ?_ 1 _ rfl; (with_reducible repeat first | apply bN | apply bD | apply bA); refine blk_put (cs := #[.bool false, .int .i64 0, .int .i64 0, .bool false, .int .i64 0, .int .i64 0]) ?_ 0 _ rfl; (with_reducible repeat first | apply bN | apply bD | apply bA); exact BK209.out) Try.underlying75 rfl (by kernel_rfl)) rfl ?_
       exact ⟨by first | rfl | (simp [errW_none, errW_some] <;> rfl) | (simp [*, errW_none, errW_some] <;> rfl), by repeat (first | (with_reducible first | exact HI0.out | apply IsS45.alloc | apply IsS45.drewN | apply IsS45.drew | refine IsS45.far ?_ NB0_209.out _) | exact HI0.out), by repeat (first | (with_reducible first | exact HB.out | apply eA | apply eN | apply eD | refine below_set ?_ (IsS45.ge HI0.out) | refine below_set ?_ GE209.out) | exact HB.out), by repeat (first | (with_reducible first | exact HK.out | apply KeepBut.set_ | apply keep_drewN | apply keep_drew | apply keep_alloc | refine keep_far ?_ GW209.out _) | exact HK.out)⟩
      ·rw [if_neg c20] at H
       have c20b0 : decide ((((rd_T78 s0_1 a1).f0).length : Int) ≤ a2) = false := decide_eq_false c20
       clear c20
       by_cases c25 : 0 ≤ a2
       ·rw [if_pos c25] at H
        have c25b0 : decide (0 ≤ a2) = true := decide_eq_true c25
        clear c25
        by_cases c26 : a2 < (((rd_T78 s0_1 a1).f0).length : Int)
        ·rw [if_pos c26] at H
         have c26b0 : decide (a2 < (((rd_T78 s0_1 a1).f0).length : Int)) = true := decide_eq_true c26
         clear c26
         simp only [Option.some.injEq, Prod.mk.injEq] at H
         obtain ⟨rfl, rfl, rfl, rfl, rfl, rfl, rfl⟩ := H
         go_enter Try.func130, Try.ntmps130
         try go_wp2_with (first | ((with_reducible refine gate_dst (N := 6) rfl ?_); (try (refine gate_guard (by rfl) ?_; dsimp only)); refine box_event ?hg (N := 6) ?hd (cs := #[.bool false, .int .i64 0, .int .i64 0, .bool false, .int .i64 0, .int .i64 0]) (t := 75) ?hr ?_; (case hd => rfl); (case hg => rfl); (case hr => first | (go_simp; done) | (go_simp; rfl)); intro gb209 hg w27 hbox hb; have n0_ := Aside0.mk (IsS45.below (by repeat (first | (with_reducible first | exact HI0.out | apply IsS45.alloc | apply IsS45.drewN | apply IsS45.drew) | exact HI0.out)) hb); have n1_ := Aside0.mk (KeepBut.trans (by repeat (first | (with_reducible first | exact HK.out | apply KeepBut.set_ | apply keep_drewN | apply keep_drew | apply keep_alloc) | exact HK.out)) (KeepBut.of_below hb g none) (.inl rfl)); have n2_ := Aside0.mk (below_step (by repeat (first | (with_reducible first | exact HB.out | apply eA | apply eN | apply eD | refine below_set ?_ (IsS45.ge HI0.out)) | exact HB.out)) hb); have n3_ := Aside0.mk (hbox); have n4_ := Aside0.mk ((by rw [hg]; exact (keep_size (w := w) (g := g) (row := none) (by repeat (first | (with_reducible first | exact HK.out | apply KeepBut.set_ | apply keep_drewN | apply keep_drew | apply keep_alloc) | exact HK.out))) : w.heap.size ≤ gb209)); have n5_ := Aside0.mk ((Nat.le_trans HW0.out (by rw [hg]; exact (keep_size (w := w) (g := g) (row := none) (by repeat (first | (with_reducible first | exact HK.out | apply KeepBut.set_ | apply keep_drewN | apply keep_drew | apply keep_alloc) | exact HK.out))) : w.heap.size ≤ gb209) : w0.heap.size ≤ gb209)); have n6_ := Aside0.mk ((by rw [hg]; exact Nat.ne_of_lt (IsS45.lt (show IsS45 w0 _ g s0_0 s0_1 s0_2 s0_3 from by repeat (first | (with_reducible first | exact HI0.out | apply IsS45.alloc | apply IsS45.drewN | apply IsS45.drew) | exact HI0.out))) : g ≠ gb209)); have n7_ := Aside0.mk ((by rw [hg]; exact Nat.ne_of_gt (IsS45.lt (show IsS45 w0 _ g s0_0 s0_1 s0_2 s0_3 from by repeat (first | (with_reducible first | exact HI0.out | apply IsS45.alloc | apply IsS45.drewN | apply IsS45.drew) | exact HI0.out))) : gb209 ≠ g)); clear HI0 HK HB; have HI0 := n0_; have HK := n1_; have HB := n2_; have BK209 := n3_; have GW209 := n4_; have GE209 := n5_; have NB0_209 := n6_; have NB209_0 := n7_; clear n0_ n1_ n2_ n3_ n4_ n5_ n6_ n7_; clear hb hbox hg; obtain ⟨ASz28_0, cSz28_0, ASz28_1, cSz28_1, ASz28_2, cSz28_2, ASz28_3, cSz28_3, HGz28, hgz28, HSz28_0, HSz28_1, HSz28_2, HSz28_3⟩ := HI0.out; have hcz28_0 := cellS45_0 HGz28; have hcz28_1 := cellS45_1 HGz28; have hcz28_2 := cellS45_2 HGz28; have hcz28_3 := cellS45_3 HGz28; clear HGz28 hgz28; have p210 : 0 ≤ (a1 : Int) := of_decide_eq_true (by first | (with_reducible assumption) | assumption); have q210 : a1 < (s0_1.length : Int) := of_decide_eq_true (by first | (with_reducible assumption) | assumption); obtain ⟨ad210, A210_0, c210_0, A210_1, c210_1, e210, hx210_0, hx210_1, hl210_0, hi210_0, hl210_1, hi210_1⟩ := at_T78 HSz28_1 a1 p210 q210; cases e210; replace hx210_0 := pw_cell_below HB.out hx210_0; replace hx210_1 := pw_cell_below HB.out hx210_1; have HR210_0 := Aside0.mk (Kd.C_below hi210_0 HB.out); have HC210_0 := Aside0.mk hl210_0; clear hi210_0 hl210_0; have HR210_1 := Aside0.mk (Kd.C_below hi210_1 HB.out); have HC210_1 := Aside0.mk hl210_1; clear hi210_1 hl210_1; replace p210 := eq_true p210; replace q210 := eq_true q210; have p211 : 0 ≤ (a1 : Int) := of_decide_eq_true (by first | (with_reducible assumption) | assumption); have q211 : a1 < (s0_1.length : Int) := of_decide_eq_true (by first | (with_reducible assumption) | assumption); obtain ⟨ad211, A211_0, c211_0, A211_1, c211_1, e211, hx211_0, hx211_1, hl211_0, hi211_0, hl211_1, hi211_1⟩ := at_T78 HSz28_1 a1 p211 q211; obtain rfl : ad210 = ad211 := (by injection e211); replace hx211_0 := pw_cell_below HB.out hx211_0; replace hx211_1 := pw_cell_below HB.out hx211_1; (try obtain ⟨rfl, rfl⟩ : A210_0 = A211_0 ∧ c210_0 = c211_0 := (by have e_ := hx210_0.symm.trans hx211_0; simp at e_; exact e_)); (try obtain ⟨rfl, rfl⟩ : A210_1 = A211_1 ∧ c210_1 = c211_1 := (by have e_ := hx210_1.symm.trans hx211_1; simp at e_; exact e_)); have HR211_0 := Aside0.mk (Kd.C_below hi211_0 HB.out); have HC211_0 := Aside0.mk hl211_0; clear hi211_0 hl211_0; have HR211_1 := Aside0.mk (Kd.C_below hi211_1 HB.out); have HC211_1 := Aside0.mk hl211_1; clear hi211_1 hl211_1; replace p211 := eq_true p211; replace q211 := eq_true q211; have p212 : 0 ≤ (a2 : Int) := of_decide_eq_true (by first | (with_reducible assumption) | assumption); have q212 : a2 < (((rd_T78 s0_1 a1).f0).length : Int) := of_decide_eq_true (by first | (with_reducible assumption) | assumption); obtain ⟨ad212, e212, hx212_0, hx212_1, hx212_2, hx212_3, hx212_4, hx212_5⟩ := at_T75 HR211_0.out a2 p212 q212; cases e212; replace p212 := eq_true p212; replace q212 := eq_true q212) | ((with_reducible refine gate_dst (N := 8) rfl ?_); (try (refine gate_guard (by rfl) ?_; dsimp only)); refine box_event ?hg (N := 8) ?hd (cs := #[.bool false, .int .i64 0, .int .i64 0, .bool false, .int .i64 0, .int .i64 0]) (t := 75) ?hr ?_; (case hd => rfl); (case hg => rfl); (case hr => first | (go_simp; done) | (go_simp; rfl)); intro gb213 hg w29 hbox hb; have n0_ := Aside0.mk (IsS45.below (by repeat (first | (with_reducible first | exact HI0.out | apply IsS45.alloc | apply IsS45.drewN | apply IsS45.drew | refine IsS45.far ?_ NB0_209.out _) | exact HI0.out)) hb); have n1_ := Aside0.mk (blk_below (bk_ BK209.out) hb); have n2_ := Aside0.mk (Kd.C_below (by repeat (first | (with_reducible exact HR210_0.out) | (with_reducible refine Kd.C_alloc ?_ _) | (with_reducible refine Kd.C_drewN ?_ _) | (with_reducible refine Kd.C_drew ?_) | exact HR210_0.out)) hb); have n3_ := Aside0.mk (Kd.C_below (by repeat (first | (with_reducible exact HR210_1.out) | (with_reducible refine Kd.C_alloc ?_ _) | (with_reducible refine Kd.C_drewN ?_ _) | (with_reducible refine Kd.C_drew ?_) | exact HR210_1.out)) hb); have n4_ := Aside0.mk (Kd.C_below (by repeat (first | (with_reducible exact HR211_0.out) | (with_reducible refine Kd.C_alloc ?_ _) | (with_reducible refine Kd.C_drewN ?_ _) | (with_reducible refine Kd.C_drew ?_) | exact HR211_0.out)) hb); have n5_ := Aside0.mk (Kd.C_below (by repeat (first | (with_reducible exact HR211_1.out) | (with_reducible refine Kd.C_alloc ?_ _) | (with_reducible refine Kd.C_drewN ?_ _) | (with_reducible refine Kd.C_drew ?_) | exact HR211_1.out)) hb); have n6_ := Aside0.mk (KeepBut.trans (by repeat (first | (with_reducible first | exact HK.out | apply KeepBut.set_ | apply keep_drewN | apply keep_drew | apply keep_alloc | refine keep_far ?_ GW209.out _) | exact HK.out)) (KeepBut.of_below hb g none) (.inl rfl)); have n7_ := Aside0.mk (below_step (by repeat (first | (with_reducible first | exact HB.out | apply eA | apply eN | apply eD | refine below_set ?_ (IsS45.ge HI0.out) | refine below_set ?_ GE209.out) | exact HB.out)) hb); have n8_ := Aside0.mk (hbox); have n9_ := Aside0.mk ((by rw [hg]; exact (keep_size (w := w) (g := g) (row := none) (by repeat (first | (with_reducible first | exact HK.out | apply KeepBut.set_ | apply keep_drewN | apply keep_drew | apply keep_alloc | refine keep_far ?_ GW209.out _) | exact HK.out))) : w.heap.size ≤ gb213)); have n10_ := Aside0.mk ((Nat.le_trans HW0.out (by rw [hg]; exact (keep_size (w := w) (g := g) (row := none) (by repeat (first | (with_reducible first | exact HK.out | apply KeepBut.set_ | apply keep_drewN | apply keep_drew | apply keep_alloc | refine keep_far ?_ GW209.out _) | exact HK.out))) : w.heap.size ≤ gb213) : w0.heap.size ≤ gb213)); have n11_ := Aside0.mk ((by rw [hg]; exact Nat.ne_of_lt (blk_lt (g := gb209) (o := .cells #[.bool false, .int .i64 0, .int .i64 0, .bool false, .int .i64 0, .int .i64 0] 75 (0, 0)) (bk_ BK209.out)) : gb209 ≠ gb213)); have n12_ := Aside0.mk ((by rw [hg]; exact Nat.ne_of_gt (blk_lt (g := gb209) (o := .cells #[.bool false, .int .i64 0, .int .i64 0, .bool false, .int .i64 0, .int .i64 0] 75 (0, 0)) (bk_ BK209.out)) : gb213 ≠ gb209)); have n13_ := Aside0.mk ((by rw [hg]; exact Nat.ne_of_lt (IsS45.lt (show IsS45 w0 _ g s0_0 s0_1 s0_2 s0_3 from by repeat (first | (with_reducible first | exact HI0.out | apply IsS45.alloc | apply IsS45.drewN | apply IsS45.drew | refine IsS45.far ?_ NB0_209.out _) | exact HI0.out))) : g ≠ gb213)); have n14_ := Aside0.mk ((by rw [hg]; exact Nat.ne_of_gt (IsS45.lt (show IsS45 w0 _ g s0_0 s0_1 s0_2 s0_3 from by repeat (first | (with_reducible first | exact HI0.out | apply IsS45.alloc | apply IsS45.drewN | apply IsS45.drew | refine IsS45.far ?_ NB0_209.out _) | exact HI0.out))) : gb213 ≠ g)); clear HI0 BK209; clear HR210_0 HR210_1; clear HR211_0 HR211_1; clear HK HB; have HI0 := n0_; have BK209 := n1_; have HR210_0 := n2_; have HR210_1 := n3_; have HR211_0 := n4_; have HR211_1 := n5_; have HK := n6_; have HB := n7_; have BK213 := n8_; have GW213 := n9_; have GE213 := n10_; have NB209_213 := n11_; have NB213_209 := n12_; have NB0_213 := n13_; have NB213_0 := n14_; clear n0_ n1_ n2_ n3_ n4_ n5_ n6_ n7_ n8_ n9_ n10_ n11_ n12_ n13_ n14_; clear hb hbox hg; have hnb30 := NB213_209.out; have hnc30 := NB209_213.out; have hnb31 := NB213_0.out; have hnc31 := NB0_213.out; obtain ⟨_, _, _, _, _, _, _, _, _, _, _, _⟩ := zc6_ BK213.out))
         have n0_ : Aside0 (((((((w29.setCell ⟨gb213, 0, none⟩ (.bool ((rd_T75 ((rd_T78 s0_1 a1).f0) a2).f0))).setCell ⟨gb213, 1, none⟩ (.int .i64 ((rd_T75 ((rd_T78 s0_1 a1).f0) a2).f1))).setCell ⟨gb213, 2, none⟩ (.int .i64 ((rd_T75 ((rd_T78 s0_1 a1).f0) a2).f2))).setCell ⟨gb213, 3, none⟩ (.bool ((rd_T75 ((rd_T78 s0_1 a1).f0) a2).f3))).setCell ⟨gb213, 4, none⟩ (.int .i64 ((rd_T75 ((rd_T78 s0_1 a1).f0) a2).f4))).setCell ⟨gb213, 5, none⟩ (.int .i64 ((rd_T75 ((rd_T78 s0_1 a1).f0) a2).f5))).heap[gb209]? = some (.cells #[.bool false, .int .i64 0, .int .i64 0, .bool false, .int .i64 0, .int .i64 0] 75 (0, 0))) := ⟨by (with_reducible repeat first | apply bN | apply bD | apply bA); refine blk_far ?_ NB209_213.out _; (with_reducible repeat first | apply bN | apply bD | apply bA); refine blk_far ?_ NB209_213.out _; (with_reducible repeat first | apply bN | apply bD | apply bA); refine blk_far ?_ NB209_213.out _; (with_reducible repeat first | apply bN | apply bD | apply bA); refine blk_far ?_ NB209_213.out _; (with_reducible repeat first | apply bN | apply bD | apply bA); refine blk_far ?_ NB209_213.out _; (with_reducible repeat first | apply bN | apply bD | apply bA); refine blk_far ?_ NB209_213.out _; (with_reducible repeat first | apply bN | apply bD | apply bA); exact BK209.out⟩
         have n1_ : Aside0 (((((((w29.setCell ⟨gb213, 0, none⟩ (.bool ((rd_T75 ((rd_T78 s0_1 a1).f0) a2).f0))).setCell ⟨gb213, 1, none⟩ (.int .i64 ((rd_T75 ((rd_T78 s0_1 a1).f0) a2).f1))).setCell ⟨gb213, 2, none⟩ (.int .i64 ((rd_T75 ((rd_T78 s0_1 a1).f0) a2).f2))).setCell ⟨gb213, 3, none⟩ (.bool ((rd_T75 ((rd_T78 s0_1 a1).f0) a2).f3))).setCell ⟨gb213, 4, none⟩ (.int .i64 ((rd_T75 ((rd_T78 s0_1 a1).f0) a2).f4))).setCell ⟨gb213, 5, none⟩ (.int .i64 ((rd_T75 ((rd_T78 s0_1 a1).f0) a2).f5))).heap[gb213]? = some (.cells #[.bool ((rd_T75 ((rd_T78 s0_1 a1).f0) a2).f0), .int .i64 ((rd_T75 ((rd_T78 s0_1 a1).f0) a2).f1), .int .i64 ((rd_T75 ((rd_T78 s0_1 a1).f0) a2).f2), .bool ((rd_T75 ((rd_T78 s0_1 a1).f0) a2).f3), .int .i64 ((rd_T75 ((rd_T78 s0_1 a1).f0) a2).f4), .int .i64 ((rd_T75 ((rd_T78 s0_1 a1).f0) a2).f5)] 75 (0, 0))) := ⟨by (with_reducible repeat first | apply bN | apply bD | apply bA); refine blk_put (cs := #[.bool ((rd_T75 ((rd_T78 s0_1 a1).f0) a2).f0), .int .i64 ((rd_T75 ((rd_T78 s0_1 a1).f0) a2).f1), .int .i64 ((rd_T75 ((rd_T78 s0_1 a1).f0) a2).f2), .bool ((rd_T75 ((rd_T78 s0_1 a1).f0) a2).f3), .int .i64 ((rd_T75 ((rd_T78 s0_1 a1).f0) a2).f4), .int .i64 0]) ?_ 5 _ rfl; (with_reducible repeat first | apply bN | apply bD | apply bA); refine blk_put (cs := #[.bool ((rd_T75 ((rd_T78 s0_1 a1).f0) a2).f0), .int .i64 ((rd_T75 ((rd_T78 s0_1 a1).f0) a2).f1), .int .i64 ((rd_T75 ((rd_T78 s0_1 a1).f0) a2).f2), .bool ((rd_T75 ((rd_T78 s0_1 a1).f0) a2).f3), .int .i64 0, .int .i64 0]) ?_ 4 _ rfl; (with_reducible repeat first | apply bN | apply bD | apply bA); refine blk_put (cs := #[.bool ((rd_T75 ((rd_T78 s0_1 a1).f0) a2).f0), .int .i64 ((rd_T75 ((rd_T78 s0_1 a1).f0) a2).f1), .int .i64 ((rd_T75 ((rd_T78 s0_1 a1).f0) a2).f2), .bool false, .int .i64 0, .int .i64 0]) ?_ 3 _ rfl; (with_reducible repeat first | apply bN | apply bD | apply bA); refine blk_put (cs := #[.bool ((rd_T75 ((rd_T78 s0_1 a1).f0) a2).f0), .int .i64 ((rd_T75 ((rd_T78 s0_1 a1).f0) a2).f1), .int .i64 0, .bool false, .int .i64 0, .int .i64 0]) ?_ 2 _ rfl; (with_reducible repeat first | apply bN | apply bD | apply bA); refine blk_put (cs := #[.bool ((rd_T75 ((rd_T78 s0_1 a1).f0) a2).f0), .int .i64 0, .int .i64 0, .bool false, .int .i64 0, .int .i64 0]) ?_ 1 _ rfl; (with_reducible repeat first | apply bN | apply bD | apply bA); refine blk_put (cs := #[.bool false, .int .i64 0, .int .i64 0, .bool false, .int .i64 0, .int .i64 0]) ?_ 0 _ rfl; (with_reducible repeat first | apply bN | apply bD | apply bA); exact BK213.out⟩
         have n2_ : Aside0 (IsS45 w0 ((((((w29.setCell ⟨gb213, 0, none⟩ (.bool ((rd_T75 ((rd_T78 s0_1 a1).f0) a2).f0))).setCell ⟨gb213, 1, none⟩ (.int .i64 ((rd_T75 ((rd_T78 s0_1 a1).f0) a2).f1))).setCell ⟨gb213, 2, none⟩ (.int .i64 ((rd_T75 ((rd_T78 s0_1 a1).f0) a2).f2))).setCell ⟨gb213, 3, none⟩ (.bool ((rd_T75 ((rd_T78 s0_1 a1).f0) a2).f3))).setCell ⟨gb213, 4, none⟩ (.int .i64 ((rd_T75 ((rd_T78 s0_1 a1).f0) a2).f4))).setCell ⟨gb213, 5, none⟩ (.int .i64 ((rd_T75 ((rd_T78 s0_1 a1).f0) a2).f5))) g s0_0 s0_1 s0_2 s0_3) := ⟨by repeat (first | (with_reducible first | exact HI0.out | apply IsS45.alloc | apply IsS45.drewN | apply IsS45.drew | refine IsS45.far ?_ NB0_209.out _ | refine IsS45.far ?_ NB0_213.out _) | exact HI0.out)⟩
         have n3_ : Aside0 (KeepBut w ((((((w29.setCell ⟨gb213, 0, none⟩ (.bool ((rd_T75 ((rd_T78 s0_1 a1).f0) a2).f0))).setCell ⟨gb213, 1, none⟩ (.int .i64 ((rd_T75 ((rd_T78 s0_1 a1).f0) a2).f1))).setCell ⟨gb213, 2, none⟩ (.int .i64 ((rd_T75 ((rd_T78 s0_1 a1).f0) a2).f2))).setCell ⟨gb213, 3, none⟩ (.bool ((rd_T75 ((rd_T78 s0_1 a1).f0) a2).f3))).setCell ⟨gb213, 4, none⟩ (.int .i64 ((rd_T75 ((rd_T78 s0_1 a1).f0) a2).f4))).setCell ⟨gb213, 5, none⟩ (.int .i64 ((rd_T75 ((rd_T78 s0_1 a1).f0) a2).f5))) g none) := ⟨by repeat (first | (with_reducible first | exact HK.out | apply KeepBut.set_ | apply keep_drewN | apply keep_drew | apply keep_alloc | refine keep_far ?_ GW209.out _ | refine keep_far ?_ GW213.out _) | exact HK.out)⟩
         have n4_ : Aside0 (Below w0.heap.size w0 ((((((w29.setCell ⟨gb213, 0, none⟩ (.bool ((rd_T75 ((rd_T78 s0_1 a1).f0) a2).f0))).setCell ⟨gb213, 1, none⟩ (.int .i64 ((rd_T75 ((rd_T78 s0_1 a1).f0) a2).f1))).setCell ⟨gb213, 2, none⟩ (.int .i64 ((rd_T75 ((rd_T78 s0_1 a1).f0) a2).f2))).setCell ⟨gb213, 3, none⟩ (.bool ((rd_T75 ((rd_T78 s0_1 a1).f0) a2).f3))).setCell ⟨gb213, 4, none⟩ (.int .i64 ((rd_T75 ((rd_T78 s0_1 a1).f0) a2).f4))).setCell ⟨gb213, 5, none⟩ (.int .i64 ((rd_T75 ((rd_T78 s0_1 a1).f0) a2).f5)))) := ⟨by repeat (first | (with_reducible first | exact HB.out | apply eA | apply eN | apply eD | refine below_set ?_ (IsS45.ge HI0.out) | refine below_set ?_ GE209.out | refine below_set ?_ GE213.out) | exact HB.out)⟩
         (try clear BK209)
         (try clear BK213)
         (try clear HI0)
         (try clear HK)
         (try clear HB)
         generalize ((((((w29.setCell ⟨gb213, 0, none⟩ (.bool ((rd_T75 ((rd_T78 s0_1 a1).f0) a2).f0))).setCell ⟨gb213, 1, none⟩ (.int .i64 ((rd_T75 ((rd_T78 s0_1 a1).f0) a2).f1))).setCell ⟨gb213, 2, none⟩ (.int .i64 ((rd_T75 ((rd_T78 s0_1 a1).f0) a2).f2))).setCell ⟨gb213, 3, none⟩ (.bool ((rd_T75 ((rd_T78 s0_1 a1).f0) a2).f3))).setCell ⟨gb213, 4, none⟩ (.int .i64 ((rd_T75 ((rd_T78 s0_1 a1).f0) a2).f4))).setCell ⟨gb213, 5, none⟩ (.int .i64 ((rd_T75 ((rd_T78 s0_1 a1).f0) a2).f5))) = w33 at n0_ n1_ n2_ n3_ n4_ ⊢
         have BK209 := n0_
         have BK213 := n1_
         have HI0 := n2_
         have HK := n3_
         have HB := n4_
         clear n0_ n1_ n2_ n3_ n4_
         have n0_ := Aside0.mk (blk_drew BK209.out)
         have n1_ := Aside0.mk (blk_drew BK213.out)
         have n2_ := Aside0.mk (IsS45.drew HI0.out)
         have n3_ := Aside0.mk (keep_drew HK.out)
         have n4_ := Aside0.mk (below_drew1 HB.out)
         clear BK209 BK213 HI0 HK HB
         have BK209 := n0_
         have BK213 := n1_
         have HI0 := n2_
         have HK := n3_
         have HB := n4_
         clear n0_ n1_ n2_ n3_ n4_
         refine start_ (n := 5) (S := fun w' => w'.cell? ⟨gb213, 0, none⟩ = some (.bool ((rd_T75 ((rd_T78 s0_1 a1).f0) a2).f0)) ∧ w'.cell? ⟨gb213, 1, none⟩ = some (.int .i64 ((rd_T75 ((rd_T78 s0_1 a1).f0) a2).f1)) ∧ w'.cell? ⟨gb213, 2, none⟩ = some (.int .i64 ((rd_T75 ((rd_T78 s0_1 a1).f0) a2).f2)) ∧ w'.cell? ⟨gb213, 3, none⟩ = some (.bool ((rd_T75 ((rd_T78 s0_1 a1).f0) a2).f3)) ∧ w'.cell? ⟨gb213, 4, none⟩ = some (.int .i64 ((rd_T75 ((rd_T78 s0_1 a1).f0) a2).f4)) ∧ w'.cell? ⟨gb213, 5, none⟩ = some (.int .i64 ((rd_T75 ((rd_T78 s0_1 a1).f0) a2).f5))) (ds := []) #[false, false, false, false, false] (by kernel_rfl) rfl rfl ⟨(blk_cell BK213.out 0).trans rfl, (blk_cell BK213.out 1).trans rfl, (blk_cell BK213.out 2).trans rfl, (blk_cell BK213.out 3).trans rfl, (blk_cell BK213.out 4).trans rfl, (blk_cell BK213.out 5).trans rfl⟩ (fun hHeld => ?_)
         generalize w33.drew = w34 at BK209 BK213 HI0 HK HB hHeld ⊢
         refine pure_ (i := 1) (N := some 50) (v := ?_) (a' := ?_) #[false, true, false, false, false] rfl rfl (by kernel_rfl) (fun _ _ _ h => h) (Or.inl ⟨by rfl, ?_⟩) ?_ ?_
         rotate_left
         ·intro w'
          go_simp
          with_reducible rfl
         rotate_left
         ·simp only [Act.put, List.setIfInBounds_toArray, List.set_cons_zero, List.set_cons_succ, i64_w, i32_w]
          rfl
         refine take_ (i := 0) (N := some 49) (v := ?_) (a' := ?_) #[true, true, false, false, false] rfl rfl (by kernel_rfl) (fun _ _ _ h => h) (Or.inl ⟨by rfl, ?_⟩) hHeld ?_ ?_
         rotate_left
         ·rintro w' ⟨s0, s1, s2, s3, s4, s5⟩
          go_simp
          with_reducible rfl
         rotate_left
         ·simp only [Act.put, List.setIfInBounds_toArray, List.set_cons_zero, List.set_cons_succ, i64_w, i32_w]
          rfl
         refine take_ (i := 2) (N := some 51) (v := ?_) (a' := ?_) #[true, true, true, false, false] rfl rfl (by kernel_rfl) (fun _ _ _ h => h) (Or.inl ⟨by rfl, ?_⟩) hHeld ?_ ?_
         rotate_left
         ·rintro w' ⟨s0, s1, s2, s3, s4, s5⟩
          go_simp
          with_reducible rfl
         rotate_left
         ·simp only [Act.put, List.setIfInBounds_toArray, List.set_cons_zero, List.set_cons_succ, i64_w, i32_w]
          rfl
         refine one_ (i := 3) (N := none) #[true, true, true, true, false] rfl rfl (by kernel_rfl) (by decide) (fun K hK => ?_)
         have hs35 : w34.cell? ⟨gb209, 0, none⟩ = some (.bool false) := (blk_cell BK209.out 0).trans rfl
         have hfs35 := blk_frozen BK209.out 0
         have hns35_1 := NB213_209.out
         have hms35_1 := NB209_213.out
         have hs36 : w34.cell? ⟨gb209, 1, none⟩ = some (.int .i64 0) := (blk_cell BK209.out 1).trans rfl
         have hfs36 := blk_frozen BK209.out 1
         have hns36_1 := NB213_209.out
         have hms36_1 := NB209_213.out
         have hs37 : w34.cell? ⟨gb209, 2, none⟩ = some (.int .i64 0) := (blk_cell BK209.out 2).trans rfl
         have hfs37 := blk_frozen BK209.out 2
         have hns37_1 := NB213_209.out
         have hms37_1 := NB209_213.out
         have hs38 : w34.cell? ⟨gb209, 3, none⟩ = some (.bool false) := (blk_cell BK209.out 3).trans rfl
         have hfs38 := blk_frozen BK209.out 3
         have hns38_1 := NB213_209.out
         have hms38_1 := NB209_213.out
         have hs39 : w34.cell? ⟨gb209, 4, none⟩ = some (.int .i64 0) := (blk_cell BK209.out 4).trans rfl
         have hfs39 := blk_frozen BK209.out 4
         have hns39_1 := NB213_209.out
         have hms39_1 := NB209_213.out
         have hs40 : w34.cell? ⟨gb209, 5, none⟩ = some (.int .i64 0) := (blk_cell BK209.out 5).trans rfl
         have hfs40 := blk_frozen BK209.out 5
         have hns40_1 := NB213_209.out
         have hms40_1 := NB209_213.out
         refine skip_ (w1 := ?_) (by rfl) rfl ?_ ?_
         rotate_left
         ·go_simp
          rfl
         refine hK.out _ _ ⟨((cell_far (p := ⟨gb209, _, none⟩) NB213_209.out _).trans (((cell_far (p := ⟨gb209, _, none⟩) NB213_209.out _).trans (((cell_far (p := ⟨gb209, _, none⟩) NB213_209.out _).trans (((cell_far (p := ⟨gb209, _, none⟩) NB213_209.out _).trans (((cell_far (p := ⟨gb209, _, none⟩) NB213_209.out _).trans (((cell_far (p := ⟨gb209, _, none⟩) NB213_209.out _).trans (hHeld.1)))))))))))), ((cell_far (p := ⟨gb209, _, none⟩) NB213_209.out _).trans (((cell_far (p := ⟨gb209, _, none⟩) NB213_209.out _).trans (((cell_far (p := ⟨gb209, _, none⟩) NB213_209.out _).trans (((cell_far (p := ⟨gb209, _, none⟩) NB213_209.out _).trans (((cell_far (p := ⟨gb209, _, none⟩) NB213_209.out _).trans (((cell_far (p := ⟨gb209, _, none⟩) NB213_209.out _).trans (hHeld.2.1)))))))))))), ((cell_far (p := ⟨gb209, _, none⟩) NB213_209.out _).trans (((cell_far (p := ⟨gb209, _, none⟩) NB213_209.out _).trans (((cell_far (p := ⟨gb209, _, none⟩) NB213_209.out _).trans (((cell_far (p := ⟨gb209, _, none⟩) NB213_209.out _).trans (((cell_far (p := ⟨gb209, _, none⟩) NB213_209.out _).trans (((cell_far (p := ⟨gb209, _, none⟩) NB213_209.out _).trans (hHeld.2.2.1)))))))))))), ((cell_far (p := ⟨gb209, _, none⟩) NB213_209.out _).trans (((cell_far (p := ⟨gb209, _, none⟩) NB213_209.out _).trans (((cell_far (p := ⟨gb209, _, none⟩) NB213_209.out _).trans (((cell_far (p := ⟨gb209, _, none⟩) NB213_209.out _).trans (((cell_far (p := ⟨gb209, _, none⟩) NB213_209.out _).trans (((cell_far (p := ⟨gb209, _, none⟩) NB213_209.out _).trans (hHeld.2.2.2.1)))))))))))), ((cell_far (p := ⟨gb209, _, none⟩) NB213_209.out _).trans (((cell_far (p := ⟨gb209, _, none⟩) NB213_209.out _).trans (((cell_far (p := ⟨gb209, _, none⟩) NB213_209.out _).trans (((cell_far (p := ⟨gb209, _, none⟩) NB213_209.out _).trans (((cell_far (p := ⟨gb209, _, none⟩) NB213_209.out _).trans (((cell_far (p := ⟨gb209, _, none⟩) NB213_209.out _).trans (hHeld.2.2.2.2.1)))))))))))), ((cell_far (p := ⟨gb209, _, none⟩) NB213_209.out _).trans (((cell_far (p := ⟨gb209, _, none⟩) NB213_209.out _).trans (((cell_far (p := ⟨gb209, _, none⟩) NB213_209.out _).trans (((cell_far (p := ⟨gb209, _, none⟩) NB213_209.out _).trans (((cell_far (p := ⟨gb209, _, none⟩) NB213_209.out _).trans (((cell_far (p := ⟨gb209, _, none⟩) NB213_209.out _).trans (hHeld.2.2.2.2.2))))))))))))⟩ (fun hHeld => ?_)
         clear hK K
         refine pure_ (i := 4) (N := some 7) (v := ?_) (a' := ?_) #[true, true, true, true, true] rfl rfl (by kernel_rfl) (fun _ _ _ h => h) (Or.inl ⟨by rfl, ?_⟩) ?_ ?_
         rotate_left
         ·intro w'
          go_simp
          with_reducible rfl
         rotate_left
         ·simp only [Act.put, List.setIfInBounds_toArray, List.set_cons_zero, List.set_cons_succ, i64_w, i32_w]
          rfl
         refine done_ (by kernel_rfl) ?_
         try go_wp2
         refine bodyPost_ret (results_ct rfl _ _ gb209 75 #[.bool ((rd_T75 ((rd_T78 s0_1 a1).f0) a2).f0), .int .i64 ((rd_T75 ((rd_T78 s0_1 a1).f0) a2).f1), .int .i64 ((rd_T75 ((rd_T78 s0_1 a1).f0) a2).f2), .bool ((rd_T75 ((rd_T78 s0_1 a1).f0) a2).f3), .int .i64 ((rd_T75 ((rd_T78 s0_1 a1).f0) a2).f4), .int .i64 ((rd_T75 ((rd_T78 s0_1 a1).f0) a2).f5)] (0, 0) _ rfl (by (with_reducible repeat first | apply bN | apply bD | apply bA); refine blk_put (cs := #[.bool ((rd_T75 ((rd_T78 s0_1 a1).f0) a2).f0), .int .i64 ((rd_T75 ((rd_T78 s0_1 a1).f0) a2).f1), .int .i64 ((rd_T75 ((rd_T78 s0_1 a1).f0) a2).f2), .bool ((rd_T75 ((rd_T78 s0_1 a1).f0) a2).f3), .int .i64 ((rd_T75 ((rd_T78 s0_1 a1).f0) a2).f4), .int .i64 0]) ?_ 5 _ rfl; (with_reducible repeat first | apply bN | apply bD | apply bA); refine blk_put (cs := #[.bool ((rd_T75 ((rd_T78 s0_1 a1).f0) a2).f0), .int .i64 ((rd_T75 ((rd_T78 s0_1 a1).f0) a2).f1), .int .i64 ((rd_T75 ((rd_T78 s0_1 a1).f0) a2).f2), .bool ((rd_T75 ((rd_T78 s0_1 a1).f0) a2).f3), .int .i64 0, .int .i64 0]) ?_ 4 _ rfl; (with_reducible repeat first | apply bN | apply bD | apply bA); refine blk_put (cs := #[.bool ((rd_T75 ((rd_T78 s0_1 a1).f0) a2).f0), .int .i64 ((rd_T75 ((rd_T78 s0_1 a1).f0) a2).f1), .int .i64 ((rd_T75 ((rd_T78 s0_1 a1).f0) a2).f2), .bool false, .int .i64 0, .int .i64 0]) ?_ 3 _ rfl; (with_reducible repeat first | apply bN | apply bD | apply bA); refine blk_put (cs := #[.bool ((rd_T75 ((rd_T78 s0_1 a1).f0) a2).f0), .int .i64 ((rd_T75 ((rd_T78 s0_1 a1).f0) a2).f1), .int .i64 0, .bool false, .int .i64 0, .int .i64 0]) ?_ 2 _ rfl; (with_reducible repeat first | apply bN | apply bD | apply bA); refine blk_put (cs := #[.bool ((rd_T75 ((rd_T78 s0_1 a1).f0) a2).f0), .int .i64 0, .int .i64 0, .bool false, .int .i64 0, .int .i64 0]) ?_ 1 _ rfl; (with_reducible repeat first | apply bN | apply bD | apply bA); refine blk_put (cs := #[.bool false, .int .i64 0, .int .i64 0, .bool false, .int .i64 0, .int .i64 0]) ?_ 0 _ rfl; (with_reducible repeat first | apply bN | apply bD | apply bA); exact BK209.out) Try.underlying75 rfl (by kernel_rfl)) rfl ?_
         exact ⟨by first | rfl | (simp [errW_none, errW_some] <;> rfl) | (simp [*, errW_none, errW_some] <;> rfl), by repeat (first | (with_reducible first | exact HI0.out | apply IsS45.alloc | apply IsS45.drewN | apply IsS45.drew | refine IsS45.far ?_ NB0_209.out _ | refine IsS45.far ?_ NB0_213.out _) | exact HI0.out), by repeat (first | (with_reducible first | exact HB.out | apply eA | apply eN | apply eD | refine below_set ?_ (IsS45.ge HI0.out) | refine below_set ?_ GE209.out | refine below_set ?_ GE213.out) | exact HB.out), by repeat (first | (with_reducible first | exact HK.out | apply KeepBut.set_ | apply keep_drewN | apply keep_drew | apply keep_alloc | refine keep_far ?_ GW209.out _ | refine keep_far ?_ GW213.out _) | exact HK.out)⟩
        ·rw [if_neg c26] at H
         exact absurd H (by simp)
       ·rw [if_neg c25] at H
        exact absurd H (by simp)
     ·rw [if_neg c19] at H
      exact absurd H (by simp)
    ·rw [if_neg c18] at H
     exact absurd H (by simp)

end Go.Proofs.Ytdoflfifnkpacaa.WO
