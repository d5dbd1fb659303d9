/-
  The functions of worlds: what they compute, and the laws of it.
-/
import Derived.StillTailTactics
import Derived.Lib.Hide
import Derived.Test.YtdoflfifnkpacaaC19WqOw
import Derived.Test.YtdoflfifnkpacaaC19WqHq
import Derived.Test.YtdoflfifnkpacaaC19WOx7
namespace Go.Proofs.Ytdoflfifnkpacaa.WO.LA
open Go Go.RowKit Go.Proofs.YtdoflfifnkpacaaW.PrintWords Go.Proofs.YtdoflfifnkpacaaW.PrintLast Go.Proofs.YtdoflfifnkpacaaW.PrintMore
attribute [local go_sem] max2_int min2_int max_two min_two max_three min_three max_four min_four
set_option linter.unusedVariables false
set_option linter.unusedSimpArgs false
theorem eqI_Lay {W : World} {base base' : Nat} {v u : Value} {l : List Int} {L M : List Row} (h1 : Lay W base (rI v l :: L)) (h2 : Lay W base' (rI u l :: M)) :
    Calls Try.prog 34 #[v, u] W fun e w' => e = .returned (.bool true) ∧ Below W.heap.size W w' := by
  obtain ⟨A, c, rfl⟩ := h1.hdI (n := l.length) rfl
  obtain ⟨A', c', rfl⟩ := h2.hdI (n := l.length) rfl
  exact eqIntS_ l W (CI h1).2.2 (CI h2).2.2 (CI h1).2.1 (CI h2).2.1
theorem heldI_Lay {W : World} {base n : Nat} {v : Value} {a : Int} {L : List Row} (h1 : Lay W base (rI v (mkL (fun x => x) nx n a) :: L)) :
    Calls Try.prog 37 #[v, .int .i64 a] W fun e w' => e = .returned (.int .i64 (mkF nx n a)) ∧ Below W.heap.size W w' := by
  obtain ⟨A, c, rfl⟩ := h1.hdI (n := n) (mkL_len _ _ _ _)
  have h := (CI h1).2.2
  rw [mkL_len] at h
  exact heldIntS_ n a W h
theorem eqW_WR {W : World} {base base' : Nat} {p0 p1 p2 p3 s0 s1 s2 s3 : Value} {hsP hsS : List (Value × Value)} {T : List S67} {B : List S78} {C : List S155} {E : List Int} {F F' : List Row} (hP : WR W base p0 p1 p2 p3 hsP T B C E F) (hS : WR W base' s0 s1 s2 s3 hsS T B C E F') :
    Calls Try.prog 20 #[.agg #[p0, p1, p2, p3], .agg #[s0, s1, s2, s3]] W fun e w' => e = .returned (.bool true) ∧ Below W.heap.size W w' := by
  obtain ⟨Ap0, cp0, Ap1, cp1, Ap2, cp2, Ap3, cp3, rfl, rfl, rfl, rfl⟩ := hP.forms
  obtain ⟨As0, cs0, As1, cs1, As2, cs2, As3, cs3, rfl, rfl, rfl, rfl⟩ := hS.forms
  exact eqWorld_ T B C E W (C67 hP.2).2.2 (C67 hS.2).2.2 (C67 hP.2).2.1 (C67 hS.2).2.1 (wr_C78 hP).2.2 (wr_C78 hS).2.2 (wr_C78 hP).2.1 (wr_C78 hS).2.1 (C155 hP.2.tail.tail).2.2 (C155 hS.2.tail.tail).2.2 (C155 hP.2.tail.tail).2.1 (C155 hS.2.tail.tail).2.1 (CI hP.2.tail.tail.tail).2.2 (CI hS.2.tail.tail.tail).2.2 (CI hP.2.tail.tail.tail).2.1 (CI hS.2.tail.tail.tail).2.1
theorem WR.tuck {r : Row} {w : World} {base : Nat} {v0 v1 v2 v3 : Value} {hs : List (Value × Value)} {T : List S67} {B : List S78} {C : List S155} {E : List Int} {F : List Row} (hl : hs.length = B.length) (h : Lay w base (r :: rTh v0 T :: rTa v1 hs :: rLo v2 C :: rI v3 E :: (tabRows hs B ++ F))) : WR w base v0 v1 v2 v3 hs T B C E (r :: F) :=
  ⟨hl, h.perm (List.perm_middle (l₁ := rTh v0 T :: rTa v1 hs :: rLo v2 C :: rI v3 E :: tabRows hs B) (l₂ := F) (a := r)).symm⟩
/-- A call's rows beside a world's: ahead of its frame. -/
theorem WR.more {w w1 : World} {base : Nat} {v0 v1 v2 v3 : Value} {hs : List (Value × Value)} {T : List S67} {B : List S78} {C : List S155} {E : List Int} {F : List Row} {r : Row} (h : WR w base v0 v1 v2 v3 hs T B C E F) (hb : Below w.heap.size w w1) (hz : base ≤ w.heap.size) (h1 : Lay w1 w.heap.size [r]) : WR w1 base v0 v1 v2 v3 hs T B C E (r :: F) :=
  WR.tuck h.1 (h.2.merge hb hz h1)
theorem WR.fr {w : World} {base : Nat} {v0 v1 v2 v3 : Value} {hs : List (Value × Value)} {T : List S67} {B : List S78} {C : List S155} {E : List Int} {F : List Row} (h : WR w base v0 v1 v2 v3 hs T B C E F) : Lay w base F := h.2.tail.tail.tail.tail.sub (List.sublist_append_right _ _)
theorem WR.below {w w1 : World} {base : Nat} {v0 v1 v2 v3 : Value} {hs : List (Value × Value)} {T : List S67} {B : List S78} {C : List S155} {E : List Int} {F : List Row} (h : WR w base v0 v1 v2 v3 hs T B C E F) (hb : Below w.heap.size w w1) : WR w1 base v0 v1 v2 v3 hs T B C E F := ⟨h.1, h.2.below hb⟩
theorem implO {W : World} {base k : Nat} {p0 p1 p2 p3 : Value} {hs : List (Value × Value)} {T : List S67} {B : List S78} {C : List S155} {E : List Int} {F : List Row} {thing : Int} {b : Bool} (h : WR W base p0 p1 p2 p3 hs T B C E F) (hh : impl_GoodWorld.f k T B C E = some b) (hK : b = true → (owns thing 0 B).length ≤ 1048576) :
    Calls Try.prog 33 #[.agg #[p0, p1, p2, p3], .int .i64 thing] W fun e w' => ∃ v, e = .returned (.tuple #[v, .bool (ownsR b T B thing).2]) ∧ Lay w' W.heap.size [rI v (ownsR b T B thing).1] ∧ Below W.heap.size W w' := by
  obtain ⟨A0, c0, A1, c1, A2, c2, A3, c3, rfl, rfl, rfl, rfl⟩ := h.forms
  exact impl_OwnersOf.lay k A0 c0 T A1 c1 B A2 c2 C A3 c3 E thing b W (C67 h.2).2.2 (C67 h.2).2.1 (wr_C78 h).2.2 (wr_C78 h).2.1 (C155 h.2.tail.tail).2.2 (C155 h.2.tail.tail).2.1 (CI h.2.tail.tail.tail).2.2 (CI h.2.tail.tail.tail).2.1 hh hK
theorem specO {W : World} {base k : Nat} {p0 p1 p2 p3 : Value} {hs : List (Value × Value)} {T : List S67} {B : List S78} {C : List S155} {E : List Int} {F : List Row} {thing : Int} {b : Bool} (h : WR W base p0 p1 p2 p3 hs T B C E F) (hh : spec_GoodWorld.f k T B C E = some b) (hK : b = true → (owns thing 0 B).length ≤ 1048576) :
    Calls Try.prog 32 #[.agg #[p0, p1, p2, p3], .int .i64 thing] W fun e w' => ∃ v, e = .returned (.tuple #[v, .bool (ownsR b T B thing).2]) ∧ Lay w' W.heap.size [rI v (ownsR b T B thing).1] ∧ Below W.heap.size W w' := by
  obtain ⟨A0, c0, A1, c1, A2, c2, A3, c3, rfl, rfl, rfl, rfl⟩ := h.forms
  exact spec_OwnersOf.lay k A0 c0 T A1 c1 B A2 c2 C A3 c3 E thing b W (C67 h.2).2.2 (C67 h.2).2.1 (wr_C78 h).2.2 (wr_C78 h).2.1 (C155 h.2.tail.tail).2.2 (C155 h.2.tail.tail).2.1 (CI h.2.tail.tail.tail).2.2 (CI h.2.tail.tail.tail).2.1 hh hK
/-- The law's argument, as it lies. -/
structure Arg (w : World) (A0 : Option Addr) (c0 : Nat) (T0 : List S159) (A1 : Option Addr) (c1 : Nat) (B0 : List S152) (A2 : Option Addr) (c2 : Nat) (C0 : List S162) (A3 : Option Addr) (c3 : Nat) (E0 : List Int) : Prop where
  r0 : Kd.C k159 w A0 T0.length T0
  l0 : T0.length ≤ c0
  r1 : Kd.C k152 w A1 B0.length B0
  l1 : B0.length ≤ c1
  r2 : Kd.C k162 w A2 C0.length C0
  l2 : C0.length ≤ c2
  r3 : Kd.C (Kd.int .i64) w A3 E0.length E0
  l3 : E0.length ≤ c3
theorem Arg.below {w w1 : World} {A0 : Option Addr} {c0 : Nat} {T0 : List S159} {A1 : Option Addr} {c1 : Nat} {B0 : List S152} {A2 : Option Addr} {c2 : Nat} {C0 : List S162} {A3 : Option Addr} {c3 : Nat} {E0 : List Int} (h : Arg w A0 c0 T0 A1 c1 B0 A2 c2 C0 A3 c3 E0) (hb : Below w.heap.size w w1) : Arg w1 A0 c0 T0 A1 c1 B0 A2 c2 C0 A3 c3 E0 :=
  ⟨Kd.C_below h.r0 hb, h.l0, Kd.C_below h.r1 hb, h.l1, Kd.C_below h.r2 hb, h.l2, Kd.C_below h.r3 hb, h.l3⟩
def TPost (w : World) (T : List S67) (B : List S78) (C : List S155) (E : List Int) (e : Ending) (w' : World) : Prop := ∃ v0 v1 v2 v3 : Value, e = .returned (.agg #[v0, v1, v2, v3]) ∧ Below w.heap.size w w' ∧ (∀ q ∈ [v0, v1, v2, v3], q.oneCell' = true) ∧ ∀ base F, Lay w base F → base ≤ w.heap.size → ∃ hs, WR w' base v0 v1 v2 v3 hs T B C E F
theorem toW {w : World} {k : Nat} {A0 : Option Addr} {c0 : Nat} {T0 : List S159} {A1 : Option Addr} {c1 : Nat} {B0 : List S152} {A2 : Option Addr} {c2 : Nat} {C0 : List S162} {A3 : Option Addr} {c3 : Nat} {E0 : List Int} {T : List S67} {B : List S78} {C : List S155} {E : List Int} (h : Arg w A0 c0 T0 A1 c1 B0 A2 c2 C0 A3 c3 E0) (hto : laws_toWorld.f k T0 B0 C0 E0 = some (T, B, C, E)) :
    Calls Try.prog 18 #[.agg #[.slice A0 T0.length c0, .slice A1 B0.length c1, .slice A2 C0.length c2, .slice A3 E0.length c3]] w fun e w' => TPost w T B C E e w' := by
  refine (laws_toWorld.calls k A0 c0 T0 A1 c1 B0 A2 c2 C0 A3 c3 E0 T B C E w h.r0 h.l0 h.r1 h.l1 h.r2 h.l2 h.r3 h.l3 hto).mono ?_
  rintro e w' ⟨v0, v1, v2, v3, rfl, r0, r1, r2, r3, hb⟩
  obtain ⟨hs0, hw0⟩ := WR.ofR (Lay.nil w w.heap.size) hb (Nat.le_refl _) r0 r1 r2 r3
  exact ⟨v0, v1, v2, v3, rfl, hb, hw0.ones, fun base F hF hz => WR.ofR hF hb hz r0 r1 r2 r3⟩
set_option maxHeartbeats 2000000 in
set_option maxRecDepth 100000 in
theorem walk_OwnersOf_big (thing : Int) (A0 : Option Addr) (c0 : Nat) (T0 : List S159) (A1 : Option Addr) (c1 : Nat) (B0 : List S152) (A2 : Option Addr) (c2 : Nat) (C0 : List S162) (A3 : Option Addr) (c3 : Nat) (E0 : List Int) (t : Int) (k : Nat) (w : World) (hA : Arg w A0 c0 T0 A1 c1 B0 A2 c2 C0 A3 c3 E0) (hsz : laws_szWorld.f k T0 B0 C0 E0 1048576 = some t) (ht : t < 0) :
    Calls Try.prog 6 #[.agg #[.slice A0 T0.length c0, .slice A1 B0.length c1, .slice A2 C0.length c2, .slice A3 E0.length c3], .int .i64 thing] w fun e w' => e = .returned (.bool true) ∧ Below w.heap.size w w' := by
  have HL := Aside0.mk (Lay.nil w w.heap.size)
  have HB := Aside0.mk (Below.refl w.heap.size w)
  have HZ := Aside0.mk (Nat.le_refl w.heap.size)
  have HA := Aside0.mk hA
  have Hsz := Aside0.mk hsz
  clear hA hsz
  have d1 : decide (t < 0) = true := decide_eq_true ht
  clear ht
  go_enter Try.func6, Try.ntmps6
  go_upto_region 1 with ((with_reducible refine gate_dst (N := 2) rfl ?_); (try (refine gate_guard (by rfl) ?_; dsimp only)); refine HL.out.box_ev HB.out HZ.out rfl (N := 2) rfl [.slice A0 T0.length c0, .slice A1 B0.length c1, .slice A2 C0.length c2, .slice A3 E0.length c3] 38 (by first | (go_simp; done) | (go_simp; rfl)) ?_; intro g2 w1 hl_ hb_ hz_; replace HL := Aside0.mk hl_; replace HB := Aside0.mk hb_; replace HZ := Aside0.mk hz_; clear hl_ hb_ hz_)
  have b0 := HL.out.cell 0 rfl
  have b1 := HL.out.cell 1 rfl
  have b2 := HL.out.cell 2 rfl
  have b3 := HL.out.cell 3 rfl
  go_wp2_with (go_at_call 16; refine (laws_szWorld.calls k A0 c0 T0 A1 c1 B0 A2 c2 C0 A3 c3 E0 1048576 t _ (HA.out.below HB.out).r0 (HA.out.below HB.out).l0 (HA.out.below HB.out).r1 (HA.out.below HB.out).l1 (HA.out.below HB.out).r2 (HA.out.below HB.out).l2 (HA.out.below HB.out).r3 (HA.out.below HB.out).l3 Hsz.out).mono ?_; rintro e_ w2 ⟨rfl, hb_⟩; replace HL := Aside0.mk (HL.out.below hb_); replace HB := Aside0.mk (below_up HB.out HZ.out hb_); replace HZ := Aside0.mk (Nat.le_trans HZ.out hb_.size); clear hb_)
  go_ret
  exact ⟨rfl, HB.out⟩
set_option maxHeartbeats 2000000 in
set_option maxRecDepth 100000 in
theorem walk_OwnersOf (thing : Int) (A0 : Option Addr) (c0 : Nat) (T0 : List S159) (A1 : Option Addr) (c1 : Nat) (B0 : List S152) (A2 : Option Addr) (c2 : Nat) (C0 : List S162) (A3 : Option Addr) (c3 : Nat) (E0 : List Int) (t : Int) (k : Nat) (w : World) (hA : Arg w A0 c0 T0 A1 c1 B0 A2 c2 C0 A3 c3 E0) (hsz : laws_szWorld.f k T0 B0 C0 E0 1048576 = some t) (ht : ¬ t < 0) (T : List S67) (B : List S78) (C : List S155) (E : List Int) (b : Bool) (T' : List S67) (B' : List S78) (C' : List S155) (E' : List Int) (n1 n2 n3 n4 : Int) (hto : laws_toWorld.f k T0 B0 C0 E0 = some (T, B, C, E)) (hgi : impl_GoodWorld.f k T B C E = some b) (hgs : spec_GoodWorld.f k T B C E = some b) (hK : b = true → (owns thing 0 B).length ≤ 1048576)
    (hm2 : laws_markThingS.f k T 1 = some (n1, T')) (hm3 : markTabs k B n1 = some (B', n2)) (hm4 : laws_markLoanS.f k C n2 = some (n3, C')) (hm5 : laws_markIntS.f k E n3 = some (n4, E')) (hn4 : ¬ n4 < 0) (hn5 : ¬ mkF nx (ownsR b T B thing).1.length 1 < 0) :
    Calls Try.prog 6 #[.agg #[.slice A0 T0.length c0, .slice A1 B0.length c1, .slice A2 C0.length c2, .slice A3 E0.length c3], .int .i64 thing] w fun e w' => e = .returned (.bool true) ∧ Below w.heap.size w w' := by
  have HL := Aside0.mk (Lay.nil w w.heap.size)
  have HB := Aside0.mk (Below.refl w.heap.size w)
  have HZ := Aside0.mk (Nat.le_refl w.heap.size)
  have HA := Aside0.mk hA
  have Hsz := Aside0.mk hsz
  clear hA hsz
  have Hto := Aside0.mk hto
  have Hgi := Aside0.mk hgi
  have Hgs := Aside0.mk hgs
  have HK := Aside0.mk hK
  have Hm2 := Aside0.mk hm2
  have Hm3 := Aside0.mk hm3
  have Hm4 := Aside0.mk hm4
  have Hm5 := Aside0.mk hm5
  have d1 : decide (t < 0) = false := decide_eq_false ht
  have d3 : decide (n4 < 0) = false := decide_eq_false hn4
  have d4 : decide (mkF nx (ownsR b T B thing).1.length 1 < 0) = false := decide_eq_false hn5
  have en5 : (mkF nx (ownsR b T B thing).1.length 1 != mkF nx (ownsR b T B thing).1.length 1) = false := by simp
  clear ht hto hgi hgs hK hm2 hm3 hm4 hm5 hn4 hn5
  generalize hR : ownsR b T B thing = R at *
  obtain ⟨R, ok⟩ := R
  have eok : (ok != ok) = false := by simp
  have HRe := Aside0.mk hR
  clear hR
  dsimp only at d4 en5
  go_enter Try.func6, Try.ntmps6
  go_upto_region 1 with ((with_reducible refine gate_dst (N := 2) rfl ?_); (try (refine gate_guard (by rfl) ?_; dsimp only)); refine HL.out.box_ev HB.out HZ.out rfl (N := 2) rfl [.slice A0 T0.length c0, .slice A1 B0.length c1, .slice A2 C0.length c2, .slice A3 E0.length c3] 38 (by first | (go_simp; done) | (go_simp; rfl)) ?_; intro g2 w1 hl_ hb_ hz_; replace HL := Aside0.mk hl_; replace HB := Aside0.mk hb_; replace HZ := Aside0.mk hz_; clear hl_ hb_ hz_)
  have b0 := HL.out.cell 0 rfl
  have b1 := HL.out.cell 1 rfl
  have b2 := HL.out.cell 2 rfl
  have b3 := HL.out.cell 3 rfl
  go_upto_region 5 with (go_at_call 16; refine (laws_szWorld.calls k A0 c0 T0 A1 c1 B0 A2 c2 C0 A3 c3 E0 1048576 t _ (HA.out.below HB.out).r0 (HA.out.below HB.out).l0 (HA.out.below HB.out).r1 (HA.out.below HB.out).l1 (HA.out.below HB.out).r2 (HA.out.below HB.out).l2 (HA.out.below HB.out).r3 (HA.out.below HB.out).l3 Hsz.out).mono ?_; rintro e_ w2 ⟨rfl, hb_⟩; replace HL := Aside0.mk (HL.out.below hb_); replace HB := Aside0.mk (below_up HB.out HZ.out hb_); replace HZ := Aside0.mk (Nat.le_trans HZ.out hb_.size); clear hb_)
  clear b0 b1 b2 b3
  have b0 := HL.out.cell 0 rfl
  have b1 := HL.out.cell 1 rfl
  have b2 := HL.out.cell 2 rfl
  have b3 := HL.out.cell 3 rfl
  go_upto_region 6 with (first | (go_at_call 18; refine (toW (HA.out.below HB.out) Hto.out).mono ?_; rintro e_ w3 ⟨s0, s1, s2, s3, rfl, hb_, ho_, hw_⟩; obtain ⟨hs, hw_⟩ := hw_ _ _ HL.out HZ.out; have HO := Aside0.mk ho_; have HR := Aside0.mk hw_; replace HB := Aside0.mk (below_up HB.out HZ.out hb_); replace HZ := Aside0.mk (Nat.le_trans HZ.out hb_.size); clear hb_ hw_ ho_; skip) | (go_at_call 32; refine (specO HR.out Hgs.out HK.out).mono ?_; rintro e_ w4 ⟨vs, rfl, hl_, hb_⟩; (try rw [HRe.out] at hl_ ⊢); dsimp only at hl_ ⊢; replace HL := Aside0.mk ((HR.out.more hb_ HZ.out hl_).fr); clear HR HO; replace HB := Aside0.mk (below_up HB.out HZ.out hb_); replace HZ := Aside0.mk (Nat.le_trans HZ.out hb_.size); clear hb_ hl_))
  clear b0 b1 b2 b3
  have b0 := HL.out.tail.cell 0 rfl
  have b1 := HL.out.tail.cell 1 rfl
  have b2 := HL.out.tail.cell 2 rfl
  have b3 := HL.out.tail.cell 3 rfl
  go_upto_region 7 with (first | (go_at_call 18; refine (toW (HA.out.below HB.out) Hto.out).mono ?_; rintro e_ w5 ⟨s0, s1, s2, s3, rfl, hb_, ho_, hw_⟩; obtain ⟨hs, hw_⟩ := hw_ _ _ HL.out HZ.out; have HO := Aside0.mk ho_; have HR := Aside0.mk hw_; replace HB := Aside0.mk (below_up HB.out HZ.out hb_); replace HZ := Aside0.mk (Nat.le_trans HZ.out hb_.size); clear hb_ hw_ ho_; clear HL) | ((with_reducible refine gate_dst (N := 8) rfl ?_); refine HR.out.2.box_ev HB.out HZ.out rfl (N := 8) rfl [.slice none 0 0, .slice none 0 0, .slice none 0 0, .slice none 0 0] 45 (by first | (go_simp; done) | (go_simp; rfl)) ?_; intro g8 w6 hl_ hb_ hz_; replace HR := Aside0.mk (WR.tuck HR.out.1 hl_); replace HB := Aside0.mk hb_; replace HZ := Aside0.mk hz_; clear hl_ hb_ hz_) | ((with_reducible refine gate_store (t := 45) (p := 8) rfl ?_); refine HR.out.out.store_ev HB.out rfl rfl rfl 0 (by first | rfl | (go_simp; done) | (go_simp; rfl)) (u := .agg #[s0, s1, s2, s3]) (by first | rfl | (go_simp; done) | (go_simp; rfl)) (seg := [s0, s1, s2, s3]) rfl (by kernel_rfl) HO.out (by simp) ?_; intro w7 hl_ hb_ hs2_; replace HR := Aside0.mk (WR.tuck (r := box g8 45 [s0, s1, s2, s3]) HR.out.1 hl_); replace HB := Aside0.mk hb_; replace HZ := Aside0.mk (Nat.le_trans HZ.out (Nat.le_of_eq hs2_)); clear hl_ hb_ hs2_))
  clear b0 b1 b2 b3
  have f0 := HR.out.fr.cell 0 rfl
  have f1 := HR.out.fr.cell 1 rfl
  have f2 := HR.out.fr.cell 2 rfl
  have f3 := HR.out.fr.cell 3 rfl
  go_upto_region 8 with (go_at_call 33; refine (implO HR.out Hgi.out HK.out).mono ?_; rintro e_ w8 ⟨vg, rfl, hl_, hb_⟩; (try rw [HRe.out] at hl_ ⊢); dsimp only at hl_ ⊢; replace HR := Aside0.mk (HR.out.more hb_ HZ.out hl_); clear f0 f1 f2 f3; replace HB := Aside0.mk (below_up HB.out HZ.out hb_); replace HZ := Aside0.mk (Nat.le_trans HZ.out hb_.size); clear hb_ hl_)
  go_upto_region 10 with (go_at_call 34; refine (eqI_Lay HR.out.fr HR.out.fr.tail.tail).mono ?_; rintro e_ w9 ⟨rfl, hb_⟩; replace HR := Aside0.mk (HR.out.below hb_); replace HB := Aside0.mk (below_up HB.out HZ.out hb_); replace HZ := Aside0.mk (Nat.le_trans HZ.out hb_.size); clear hb_)
  have f0 := HR.out.fr.tail.cell 0 rfl
  have f1 := HR.out.fr.tail.cell 1 rfl
  have f2 := HR.out.fr.tail.cell 2 rfl
  have f3 := HR.out.fr.tail.cell 3 rfl
  have b0 := HR.out.fr.tail.tail.tail.cell 0 rfl
  have b1 := HR.out.fr.tail.tail.tail.cell 1 rfl
  have b2 := HR.out.fr.tail.tail.tail.cell 2 rfl
  have b3 := HR.out.fr.tail.tail.tail.cell 3 rfl
  refine draw_call (A := ?_) 2 0 [true, true] [] Try.func18 (by kernel_rfl) rfl #[.agg #[.slice A0 T0.length c0, .slice A1 B0.length c1, .slice A2 C0.length c2, .slice A3 E0.length c3]] (by kernel_rfl) rfl _ rfl rfl rfl (S := fun W => Below w9.heap.size w9 W) (by kernel_rfl) (fun _ _ _ d _ h => by cases d <;> exact h) (pw_below_drewN (Below.refl _ _) 1) ?_ ?_ ?_
  rotate_left
  · simp only [List.take_succ_cons, List.take_zero, List.drop_succ_cons, List.drop_zero]
    repeat (first | (refine hdF_ _ rfl (by rfl) (v := ?_) (a' := ?_) (fun W => by go_simp; with_reducible rfl) (by simp only [Act.put, List.setIfInBounds_toArray, List.set_cons_zero, List.set_cons_succ, i64_w, i32_w]; rfl) ?_) | (refine hdT_ _ rfl (by rfl) (v := ?_) (a' := ?_) (fun W hW => by have f0 := pw_cell_below hW f0; have f1 := pw_cell_below hW f1; have f2 := pw_cell_below hW f2; have f3 := pw_cell_below hW f3; have b0 := pw_cell_below hW b0; have b1 := pw_cell_below hW b1; have b2 := pw_cell_below hW b2; have b3 := pw_cell_below hW b3; go_simp; with_reducible rfl) (by simp only [Act.put, List.setIfInBounds_toArray, List.set_cons_zero, List.set_cons_succ, i64_w, i32_w]; rfl) ?_))
    exact hd_end
  · first | rfl | (go_simp; done) | (go_simp; rfl)
  refine (toW (w := w9.drew) (HA.out.below (pw_below_drewN HB.out 1)) Hto.out).mono ?_
  rintro e_ w10 ⟨u0, u1, u2, u3, rfl, hb_, -, hw_⟩
  obtain ⟨hu, hw_⟩ := hw_ _ _ HR.out.2.drew HZ.out
  refine ⟨_, rfl, (pw_below_drewN (Below.refl _ _) 1).trans hb_, _, rfl, ?_⟩
  simp only [List.drop_succ_cons, List.drop_zero, Act.put, List.setIfInBounds_toArray, List.set_cons_zero, List.set_cons_succ]
  have HU := Aside0.mk hw_
  have hbb_ : Below w9.heap.size w9 w10 := (pw_below_drewN (Below.refl _ _) 1).trans hb_
  replace HR := Aside0.mk (HR.out.below hbb_)
  replace HB := Aside0.mk (below_up HB.out HZ.out hbb_)
  replace HZ := Aside0.mk (Nat.le_trans HZ.out hbb_.size)
  clear hb_ hbb_ hw_ f0 f1 f2 f3 b0 b1 b2 b3
  go_upto_region 13 with (go_at_call 20; refine (eqW_WR HR.out HU.out).mono ?_; rintro e_ w11 ⟨rfl, hb_⟩; replace HR := Aside0.mk (HR.out.below hb_); replace HB := Aside0.mk (below_up HB.out HZ.out hb_); replace HZ := Aside0.mk (Nat.le_trans HZ.out hb_.size); clear hb_ HU)
  have f0 := HR.out.fr.tail.cell 0 rfl
  have f1 := HR.out.fr.tail.cell 1 rfl
  have f2 := HR.out.fr.tail.cell 2 rfl
  have f3 := HR.out.fr.tail.cell 3 rfl
  go_upto_region 14 with (go_at_call 35; refine (laws_markWorld.lay k _ _ _ _ _ T T' B B' C C' E E' _ 1 n1 n2 n3 n4 w _ HR.out HB.out Hm2.out Hm3.out Hm4.out Hm5.out).mono ?_; rintro e_ w12 ⟨rfl, hw_, hb_⟩; replace HR := Aside0.mk hw_; replace HB := Aside0.mk hb_; replace HZ := Aside0.mk hb_.size; clear hw_ hb_)
  clear f0 f1 f2 f3
  go_upto_region 16 with (go_at_call 34; refine (eqI_Lay HR.out.fr HR.out.fr.tail.tail).mono ?_; rintro e_ w13 ⟨rfl, hb_⟩; replace HR := Aside0.mk (HR.out.below hb_); replace HB := Aside0.mk (below_up HB.out HZ.out hb_); replace HZ := Aside0.mk (Nat.le_trans HZ.out hb_.size); clear hb_)
  have HL := Aside0.mk HR.out.fr
  clear HR
  go_upto_region 18 with (go_at_call 36; refine (mark_I (k := k) HL.out HB.out rfl).mono ?_; rintro e_ w14 ⟨rfl, hl_, hb_, hz_⟩; replace HL := Aside0.mk hl_; replace HB := Aside0.mk hb_; replace HZ := Aside0.mk hz_; clear hl_ hb_ hz_)
  go_upto_region 24 with (go_at_call 37; refine (heldI_Lay HL.out).mono ?_; rintro e_ w15 ⟨rfl, hb_⟩; replace HL := Aside0.mk (HL.out.below hb_); replace HB := Aside0.mk (below_up HB.out HZ.out hb_); replace HZ := Aside0.mk (Nat.le_trans HZ.out hb_.size); clear hb_)
  have b0 := HL.out.tail.tail.tail.cell 0 rfl
  have b1 := HL.out.tail.tail.tail.cell 1 rfl
  have b2 := HL.out.tail.tail.tail.cell 2 rfl
  have b3 := HL.out.tail.tail.tail.cell 3 rfl
  go_upto_region 25 with (first | (go_at_call 18; refine (toW (HA.out.below HB.out) Hto.out).mono ?_; rintro e_ w16 ⟨s0, s1, s2, s3, rfl, hb_, ho_, hw_⟩; obtain ⟨hs, hw_⟩ := hw_ _ _ HL.out HZ.out; have HO := Aside0.mk ho_; have HR := Aside0.mk hw_; replace HB := Aside0.mk (below_up HB.out HZ.out hb_); replace HZ := Aside0.mk (Nat.le_trans HZ.out hb_.size); clear hb_ hw_ ho_; clear HL) | (go_at_call 33; refine (implO HR.out Hgi.out HK.out).mono ?_; rintro e_ w17 ⟨vh, rfl, hl_, hb_⟩; (try rw [HRe.out] at hl_ ⊢); dsimp only at hl_ ⊢; have HL := Aside0.mk ((HR.out.more hb_ HZ.out hl_).fr); clear HR HO; replace HB := Aside0.mk (below_up HB.out HZ.out hb_); replace HZ := Aside0.mk (Nat.le_trans HZ.out hb_.size); clear hb_ hl_))
  clear b0 b1 b2 b3
  go_upto_region 27 with (go_at_call 34; refine (eqI_Lay HL.out HL.out.tail.tail.tail).mono ?_; rintro e_ w18 ⟨rfl, hb_⟩; replace HL := Aside0.mk (HL.out.below hb_); replace HB := Aside0.mk (below_up HB.out HZ.out hb_); replace HZ := Aside0.mk (Nat.le_trans HZ.out hb_.size); clear hb_)
  go_wp2_with (go_at_call 37; refine (heldI_Lay HL.out.tail).mono ?_; rintro e_ w19 ⟨rfl, hb_⟩; replace HL := Aside0.mk (HL.out.below hb_); replace HB := Aside0.mk (below_up HB.out HZ.out hb_); replace HZ := Aside0.mk (Nat.le_trans HZ.out hb_.size); clear hb_)
  go_ret
  exact ⟨rfl, HB.out⟩
end Go.Proofs.Ytdoflfifnkpacaa.WO.LA
