/-
  The functions of worlds: what they compute, and the laws of it.
-/
import Derived.StillTailTactics
import Derived.Lib.Hide
import Derived.Test.YtdoflfifnkpacaaC23WpS
namespace Go.Proofs.Ytdoflfifnkpacaa.WP
open Go Go.RowKit Go.Proofs.YtdoflfifnkpacaaW.PrintWords Go.Proofs.YtdoflfifnkpacaaW.PrintLast Go.Proofs.YtdoflfifnkpacaaW.PrintMore
attribute [local go_sem] max2_int min2_int max_two min_two max_three min_three max_four min_four
set_option linter.unusedVariables false
set_option linter.unusedSimpArgs false
section
variable {w w1 w0 : World} {base g : Nat} {bx : List Value} {v0 v1 v2 v3 : Value} {hs : List (Value × Value)} {T : List S67} {B : List S78} {C : List S155} {E : List Int} {F F' : List Row}
theorem WW.toWR (h : WW w base g bx v0 v1 v2 v3 hs T B C E F) : WR w base v0 v1 v2 v3 hs T B C E (box g 45 bx :: F) :=
  ⟨h.1, h.2.perm (List.perm_middle (l₁ := rTh v0 T :: rTa v1 hs :: rLo v2 C :: rI v3 E :: tabRows hs B) (l₂ := F) (a := box g 45 bx)).symm⟩
theorem WR.toWW (h : WR w base v0 v1 v2 v3 hs T B C E (_root_.Go.Proofs.Ytdoflfifnkpacaa.WP.box g 45 bx :: F)) : WW w base g bx v0 v1 v2 v3 hs T B C E F := ⟨h.1, h.out⟩
theorem WR.frame (h : WR w base v0 v1 v2 v3 hs T B C E F) (hp : List.Perm F F') : WR w base v0 v1 v2 v3 hs T B C E F' := ⟨h.1, h.2.perm (((((hp.append_left _).cons _).cons _).cons _).cons _)⟩
theorem WR.fsub (h : WR w base v0 v1 v2 v3 hs T B C E F) (hp : List.Sublist F' F) : WR w base v0 v1 v2 v3 hs T B C E F' :=
  ⟨h.1, h.2.sub (((((hp.append_left _).cons_cons _).cons_cons _).cons_cons _).cons_cons _)⟩
theorem WR.tuck {r : Row} (hl : hs.length = B.length) (h : Lay w base (r :: rTh v0 T :: rTa v1 hs :: rLo v2 C :: rI v3 E :: (tabRows hs B ++ F))) : WR w base v0 v1 v2 v3 hs T B C E (r :: F) :=
  ⟨hl, h.perm (List.perm_middle (l₁ := rTh v0 T :: rTa v1 hs :: rLo v2 C :: rI v3 E :: tabRows hs B) (l₂ := F) (a := r)).symm⟩
theorem WR.newbox (h : WR w base v0 v1 v2 v3 hs T B C E F) (hz : base ≤ w.heap.size) (t : TypeId) (cs : List Value) : WR (w.alloc (.cells cs.toArray t (0, 0))) base v0 v1 v2 v3 hs T B C E (_root_.Go.Proofs.Ytdoflfifnkpacaa.WP.box w.heap.size t cs :: F) :=
  WR.tuck h.1 (h.2.fresh (fun k hk => Below.heap_alloc w _ k hk) (box_ok (blk_new w _) (Nat.le_refl _)) hz)
end
def Four := Value × Value × Value × Value
def optRow : Option Nat → List Row
  | none => []
  | some p => [box p 45 [.slice none 0 0, .slice none 0 0, .slice none 0 0, .slice none 0 0]]
def ST (w0 : World) (base : Nat) (b : Four) (T : List S67) (B : List S78) (C : List S155) (E : List Int) (K : List Row) (og : Option Nat) (W : World) : Prop := ∃ hs, WR W base b.1 b.2.1 b.2.2.1 b.2.2.2 hs T B C E (optRow og ++ K) ∧ Below base w0 W ∧ base ≤ W.heap.size
def OST (w0 : World) (base : Nat) (T : List S67) (B : List S78) (C : List S155) (E : List Int) (K : List Row) (og : Option Nat) (e : Ending) (w' : World) : Prop := ∃ b : Four, e = .returned (.agg #[b.1, b.2.1, b.2.2.1, b.2.2.2]) ∧ ST w0 base b T B C E K og w'
def DST (w0 : World) (base : Nat) (T : List S67) (B : List S78) (C : List S155) (E : List Int) (told code : Int) (K : List Row) (og : Option Nat) (e : Ending) (w' : World) : Prop := ∃ b : Four, e = .returned (.tuple #[.agg #[b.1, b.2.1, b.2.2.1, b.2.2.2], .int .i64 told, .int .i64 code]) ∧ ST w0 base b T B C E K og w'
def obW : Obj := .cells #[.slice none 0 0, .slice none 0 0, .slice none 0 0, .slice none 0 0] 45 (0, 0)
theorem ST.alloc {w0 W : World} {base : Nat} {b : Four} {T : List S67} {B : List S78} {C : List S155} {E : List Int} {K : List Row} (h : ST w0 base b T B C E K Option.none W) : ST w0 base b T B C E K (some W.heap.size) (W.alloc obW) := by
  obtain ⟨hs, h1, h2, h3⟩ := h
  exact ⟨hs, h1.newbox h3 45 [.slice Option.none 0 0, .slice Option.none 0 0, .slice Option.none 0 0, .slice Option.none 0 0], h2.alloc h3 _, Nat.le_trans h3 (below_alloc (Below.refl _ _) _).size⟩
theorem oldF_opt (v0 v1 v2 v3 : Value) (hs : List (Value × Value)) (T : List S67) (B : List S78) (C : List S155) (E : List Int) (R0 : List Row) (og : Option Nat) : List.Perm (oldF v0 v1 v2 v3 hs T B C E (optRow og ++ R0)) (optRow og ++ oldF v0 v1 v2 v3 hs T B C E R0) := by
  cases og with
  | none => exact List.Perm.refl _
  | some p => exact List.perm_middle (l₁ := rTh v0 T :: rTa v1 hs :: rLo v2 C :: rI v3 E :: tabRows hs B) (l₂ := R0)
theorem own_ST {w0 W : World} {base k : Nat} {v0 v1 v2 v3 : Value} {hs : List (Value × Value)} {T T' : List S67} {B B' : List S78} {C C' : List S155} {E E' : List Int} {R0 : List Row} {og : Option Nat} (h : WR W base v0 v1 v2 v3 hs T B C E (optRow og ++ R0)) (hb : Below base w0 W) (hz : base ≤ W.heap.size) (hr : spec_l16Own.f k T B C E = some (T', B', C', E')) :
    Calls Try.prog 102 #[.agg #[v0, v1, v2, v3]] W fun e w' => OST w0 base T' B' C' E' (oldF v0 v1 v2 v3 hs T B C E R0) og e w' := by
  refine ((spec_l16Own.lay base v0 v1 v2 v3 hs T B C E (optRow og ++ R0) k T' B' C' E' w0 W h hb hz hr)).mono ?_
  rintro e w' ⟨v, rfl, x0, x1, x2, x3, hs', rfl, h1, h2, h3⟩
  exact ⟨(x0, x1, x2, x3), rfl, hs', h1.frame (oldF_opt ..), h2, h3⟩
theorem do_ST {w0 W : World} {base k : Nat} {b : Four} {T T' : List S67} {B B' : List S78} {C C' : List S155} {E E' : List Int} {K : List Row} {og : Option Nat} {kind part at_ to_ n told code : Int} (h : ST w0 base b T B C E K og W) (hr : sDo k T B C E kind part at_ to_ n = some (T', B', C', E', told, code)) :
    Calls Try.prog 101 #[.agg #[b.1, b.2.1, b.2.2.1, b.2.2.2], .agg #[.int .i64 kind, .int .i64 part, .int .i64 at_, .int .i64 to_, .int .i64 n]] W fun e w' => DST w0 base T' B' C' E' told code K og e w' := by
  obtain ⟨hs, h1, h2, h3⟩ := h
  refine ((spec_l16Do.lay base _ _ _ _ hs T B C E (optRow og ++ K) k kind part at_ to_ n T' B' C' E' told code w0 W h1 h2 h3 hr)).mono ?_
  rintro e w' ⟨v, rfl, x0, x1, x2, x3, hs', rfl, h1, h2, h3⟩
  exact ⟨(x0, x1, x2, x3), rfl, hs', h1, h2, h3⟩
theorem Lay.boxCell {w : World} {base g t : Nat} {cs : List Value} {L : List Row} (h : Lay w base L) (hm : box g t cs ∈ L) : ∀ (j : Nat) (u : Value), cs[j]? = some u → w.cell? ⟨g, j, none⟩ = some u := by
  intro j u hj
  have ho := h.1 _ hm
  have := box_blk ho
  have e := blk_cell this j
  rw [e]
  simpa using hj
theorem ST.cells {w0 W : World} {base g t : Nat} {cs : List Value} {b : Four} {T : List S67} {B : List S78} {C : List S155} {E : List Int} {K : List Row} {og : Option Nat} (h : ST w0 base b T B C E K og W) (hm : box g t cs ∈ K) : ∀ (j : Nat) (u : Value), cs[j]? = some u → W.cell? ⟨g, j, none⟩ = some u := by
  obtain ⟨hs, h1, h2, h3⟩ := h
  refine h1.2.boxCell (t := t) ?_
  simp only [List.mem_cons, List.mem_append]
  exact .inr (.inr (.inr (.inr (.inr (.inr hm)))))
def kept (g ga : Nat) (cs ds : List Value) (W : World) : Prop := (∀ (j : Nat) (u : Value), cs[j]? = some u → W.cell? ⟨g, j, none⟩ = some u) ∧ (∀ (j : Nat) (u : Value), ds[j]? = some u → W.cell? ⟨ga, j, none⟩ = some u)
theorem kept.alloc {g ga : Nat} {cs ds : List Value} {W : World} (h : kept g ga cs ds W) (o : Obj) : kept g ga cs ds (W.alloc o) := by
  refine ⟨fun j u hu => ?_, fun j u hu => ?_⟩
  · have := h.1 j u hu
    exact ((below_alloc (Below.refl W.heap.size W) o).cell (p := ⟨g, j, none⟩) (World.block_lt_of_cell? _ _ this)).trans this
  · have := h.2 j u hu
    exact ((below_alloc (Below.refl W.heap.size W) o).cell (p := ⟨ga, j, none⟩) (World.block_lt_of_cell? _ _ this)).trans this
theorem WW.nilTuck {w : World} {base g : Nat} {bx : List Value} {v0 v1 v2 v3 : Value} {hs : List (Value × Value)} {T : List S67} {B : List S78} {C : List S155} {E : List Int} {F : List Row} (h : WW w base g bx v0 v1 v2 v3 hs T B C E F) : WW w base g bx v0 v1 v2 v3 hs T B C E (rI nilV [] :: F) := WW.tuck h.1 (h.2.nilRow 3 1)
def sPlayG (k : Nat) : List S69 → List S67 → List S78 → List S155 → List Int → Option (List S67 × List S78 × List S155 × List Int × List Int)
  | [], T, B, C, E => some (T, B, C, E, [])
  | a :: l, T, B, C, E => (spec_l16Own.f k T B C E).bind fun o => (sDo k o.1 o.2.1 o.2.2.1 o.2.2.2 a.f0 a.f1 a.f2 a.f3 a.f4).bind fun r =>
    (if r.2.2.2.2.2 = 0 then sPlayG k l r.1 r.2.1 r.2.2.1 r.2.2.2.1 else sPlayG k l T B C E).bind fun q => some (q.1, q.2.1, q.2.2.1, q.2.2.2.1, r.2.2.2.2.2 :: q.2.2.2.2)
def sPlay (k : Nat) (n : Int) (l : List S69) : Option (List S67 × List S78 × List S155 × List Int × List Int × Bool) :=
  if 1 ≤ n ∧ n ≤ 5 then (if (l.length : Int) > 100 then some ([], [], [], [], [], false) else (sPlayG k l [] (newB n) [] []).bind fun q => (spec_l16Own.f k q.1 q.2.1 q.2.2.1 q.2.2.2.1).bind fun o => some (o.1, o.2.1, o.2.2.1, o.2.2.2, q.2.2.2.2, true)) else some ([], [], [], [], [], false)
theorem WR.dropOld {w : World} {base : Nat} {x0 x1 x2 x3 v0 v1 v2 v3 : Value} {hs hs' : List (Value × Value)} {T T' : List S67} {B B' : List S78} {C C' : List S155} {E E' : List Int} {F : List Row} (h : WR w base x0 x1 x2 x3 hs' T' B' C' E' (oldF v0 v1 v2 v3 hs T B C E F)) : WR w base x0 x1 x2 x3 hs' T' B' C' E' F :=
  h.fsub ((((List.sublist_append_right _ _).cons _).cons _).cons _ |>.cons _)
theorem WR.ofTail {w : World} {base : Nat} {v0 v1 v2 v3 : Value} {hs : List (Value × Value)} {T : List S67} {B : List S78} {C : List S155} {E : List Int} {F : List Row} (hl : hs.length = B.length) (h : Lay w base (rTh v0 T :: rTa v1 hs :: rLo v2 C :: rI v3 E :: (tabRows hs B ++ F))) : WR w base v0 v1 v2 v3 hs T B C E F := ⟨hl, h⟩
set_option maxHeartbeats 4000000 in
set_option maxRecDepth 100000 in
theorem spec_PlayWorld.lay (base : Nat) (n : Int) (A : Option Addr) (c : Nat) (l : List S69) (k : Nat) (r : List S67 × List S78 × List S155 × List Int × List Int × Bool) (F : List Row) (w0 w : World) (hA : k69.C w0 A l.length l) (h0 : w0.heap.size ≤ base) (hL : Lay w base F) (hb : Below base w0 w) (hz : base ≤ w.heap.size) (hr : sPlay k n l = some r) :
    Calls Try.prog 40 #[.int .i64 n, .slice A l.length c] w fun e_ w' => PlayPost w0 base r F e_ w' := by
  have HL := Aside0.mk hL
  have HB := Aside0.mk hb
  have HZ := Aside0.mk hz
  have HA := Aside0.mk hA
  have H0 := Aside0.mk h0
  have HR := Aside0.mk hr
  clear hL hb hz hA h0 hr
  go_enter Try.func40, Try.ntmps40
  go_upto_region 1 with ((with_reducible refine gate_dst (N := 4) rfl ?_); (try (refine gate_guard (by rfl) ?_; dsimp only)); refine HL.out.box_ev HB.out HZ.out rfl (N := 4) rfl [.slice none 0 0, .slice none 0 0, .slice none 0 0, .slice none 0 0] 45 (by first | (go_simp; done) | (go_simp; rfl)) ?_; intro gr w1 hl_ hb_ hz_; replace HL := Aside0.mk hl_; replace HB := Aside0.mk hb_; replace HZ := Aside0.mk hz_; clear hl_ hb_ hz_)
  go_upto_region 2 with (first | (go_at_call 100; refine (spec_NewWorld.lay base n _ _ _ HL.out HB.out HZ.out).mono ?_; rintro e_ w2 ⟨v, rfl, v0, v1, v2, v3, hs, rfl, hw_, hb_, hz_⟩; replace HL := Aside0.mk hw_.2; have HS := Aside0.mk hw_.1; have HO := Aside0.mk hw_.ones; replace HB := Aside0.mk hb_; replace HZ := Aside0.mk hz_; clear hw_ hb_ hz_) | ((with_reducible refine gate_dst (N := 7) rfl ?_); (try (refine gate_guard (by rfl) ?_; dsimp only)); refine HL.out.box_ev HB.out HZ.out rfl (N := 7) rfl [.slice none 0 0, .slice none 0 0, .slice none 0 0, .slice none 0 0] 45 (by first | (go_simp; done) | (go_simp; rfl)) ?_; intro g w3 hl_ hb_ hz_; replace HL := Aside0.mk hl_; replace HB := Aside0.mk hb_; replace HZ := Aside0.mk hz_; clear hl_ hb_ hz_) | ((with_reducible refine gate_store (t := 45) (p := 7) rfl ?_); refine HL.out.store_ev HB.out rfl rfl rfl (0) (by first | rfl | (go_simp; done) | (go_simp; rfl)) (u := .agg #[v0, v1, v2, v3]) (by first | rfl | (go_simp; done) | (go_simp; rfl)) (seg := [v0, v1, v2, v3]) rfl (by kernel_rfl) HO.out (by first | omega | (simp; done) | (simp; omega)) ?_; intro w4 hl_ hb_ hs_; replace HL := Aside0.mk hl_; replace HB := Aside0.mk hb_; replace HZ := Aside0.mk (Nat.le_trans HZ.out (Nat.le_of_eq hs_)); clear hl_ hb_ hs_))
  have HW := Aside0.mk (WR.box (g := g) (bx := [v0, v1, v2, v3]) HS.out HL.out)
  clear HL HS HO
  have hr := HR.out
  clear HR
  unfold sPlay at hr
  by_cases k0 : 1 ≤ n ∧ n ≤ 5
  case neg =>
    rw [if_neg k0] at hr
    have e0 : okN n = false := decide_eq_false k0
    clear k0
    obtain rfl := Option.some.inj hr
    have HL := Aside0.mk HW.out.out
    clear HW
    go_wp2_with ((with_reducible refine gate_store (t := 45) (p := 4) rfl ?_); refine HL.out.store_ev HB.out rfl rfl rfl (0) (by first | rfl | (go_simp; done) | (go_simp; rfl)) (u := .agg #[.slice none 0 0, .slice none 0 0, .slice none 0 0, .slice none 0 0]) (by first | rfl | (go_simp; done) | (go_simp; rfl)) (seg := [.slice none 0 0, .slice none 0 0, .slice none 0 0, .slice none 0 0]) rfl (by kernel_rfl) (by simp [Value.oneCell']) (by first | omega | (simp; done) | (simp; omega)) ?_; intro w5 hl_ hb_ hs_; replace HL := Aside0.mk hl_; replace HB := Aside0.mk hb_; replace HZ := Aside0.mk (Nat.le_trans HZ.out (Nat.le_of_eq hs_)); clear hl_ hb_ hs_)
    replace HL := Aside0.mk (show Lay _ _ (box gr 45 [.slice none 0 0, .slice none 0 0, .slice none 0 0, .slice none 0 0] :: _) from HL.out)
    exact bodyPost_ret (results_list (rs := [.cell 4 45, .tmp 5, .tmp 6]) rfl (by simp) (.cell gr 45 #[.slice none 0 0, .slice none 0 0, .slice none 0 0, .slice none 0 0] (0, 0) _ rfl HL.out.boxB Try.underlying45 rfl (by kernel_rfl) (.tmp (.tmp .nil)))) rfl ⟨_, _, rfl, AfterR.mk (WR.none ((HL.out.tail.tail.tail.tail.tail.tail.sub (List.sublist_append_right _ _)).nilRow 3 1)) HB.out HZ.out⟩
  rw [if_pos k0] at hr
  have e0 : okN n = true := decide_eq_true k0
  clear k0
  by_cases k1 : (l.length : Int) > 100
  · rw [if_pos k1] at hr
    have e1 : decide (100 < (l.length : Int)) = true := decide_eq_true k1
    clear k1
    obtain rfl := Option.some.inj hr
    have HL := Aside0.mk HW.out.out
    clear HW
    go_wp2_with ((with_reducible refine gate_store (t := 45) (p := 4) rfl ?_); refine HL.out.store_ev HB.out rfl rfl rfl (0) (by first | rfl | (go_simp; done) | (go_simp; rfl)) (u := .agg #[.slice none 0 0, .slice none 0 0, .slice none 0 0, .slice none 0 0]) (by first | rfl | (go_simp; done) | (go_simp; rfl)) (seg := [.slice none 0 0, .slice none 0 0, .slice none 0 0, .slice none 0 0]) rfl (by kernel_rfl) (by simp [Value.oneCell']) (by first | omega | (simp; done) | (simp; omega)) ?_; intro w5 hl_ hb_ hs_; replace HL := Aside0.mk hl_; replace HB := Aside0.mk hb_; replace HZ := Aside0.mk (Nat.le_trans HZ.out (Nat.le_of_eq hs_)); clear hl_ hb_ hs_)
    replace HL := Aside0.mk (show Lay _ _ (box gr 45 [.slice none 0 0, .slice none 0 0, .slice none 0 0, .slice none 0 0] :: _) from HL.out)
    exact bodyPost_ret (results_list (rs := [.cell 4 45, .tmp 5, .tmp 6]) rfl (by simp) (.cell gr 45 #[.slice none 0 0, .slice none 0 0, .slice none 0 0, .slice none 0 0] (0, 0) _ rfl HL.out.boxB Try.underlying45 rfl (by kernel_rfl) (.tmp (.tmp .nil)))) rfl ⟨_, _, rfl, AfterR.mk (WR.none ((HL.out.tail.tail.tail.tail.tail.tail.sub (List.sublist_append_right _ _)).nilRow 3 1)) HB.out HZ.out⟩
  rw [if_neg k1] at hr
  have e1 : decide (100 < (l.length : Int)) = false := decide_eq_false k1
  have K1 := Aside0.mk (show l.length ≤ 100 by omega)
  clear k1
  replace hr := Option.bind_eq_some_iff.mp hr
  obtain ⟨⟨T', B', C', E', cs'⟩, hP, hr⟩ := hr
  replace hr := Option.bind_eq_some_iff.mp hr
  obtain ⟨⟨To, Bo, Co, Eo⟩, hO, hr⟩ := hr
  obtain rfl := Option.some.inj hr
  have HP := Aside0.mk hP
  have HOW := Aside0.mk hO
  clear hP hO
  go_upto_region 5 with (fail)
  clear e1
  have HI := Aside0.mk (After.mk HW.out.nilTuck HB.out HZ.out)
  clear HW HB HZ
  go_wp2_with (fail)
  go_loopw [9, 30] (fun v9 v30 wr => ∃ (x : Int) (T : List S67) (B : List S78) (C : List S155) (E done rest : List Int), v30 = .int .i64 x ∧ Aside0 (0 ≤ x) ∧ Aside0 (x ≤ l.length) ∧ Aside0 (sPlayG k (l.drop x.toNat) T B C E = some (T', B', C', E', rest)) ∧ Aside0 (done ++ rest = cs') ∧ Aside0 (done.length = x.toNat) ∧ Aside0 (After w0 base g T B C E (rI v9 done :: box gr 45 [.slice none 0 0, .slice none 0 0, .slice none 0 0, .slice none 0 0] :: F) wr)) (fun v9 v30 _ => l.length - (intOf v30).toNat)
  case atStart => exact ⟨0, [], newB n, [], [], [], cs', rfl, ⟨Int.le_refl _⟩, ⟨by omega⟩, HP, ⟨rfl⟩, ⟨rfl⟩, HI⟩
  case round =>
    clear HP HI
    obtain ⟨x, T, B, C, E, done, rest, rfl, X0, X1, HP, HC, HD, HI⟩ := hrel
    by_cases hlt : x < (l.length : Int)
    case neg =>
      have nlt : decide (x < (l.length : Int)) = false := decide_eq_false hlt
      have hp := HP.out
      rw [dropI_end l x hlt X0.out] at hp
      simp only [sPlayG, Option.some.injEq, Prod.mk.injEq] at hp
      obtain ⟨rfl, rfl, rfl, rfl, rfl⟩ := hp
      have hI := HI.out
      rw [List.append_nil] at HC
      have hc := HC.out
      subst hc
      obtain ⟨v0, v1, v2, v3, hs, hw, hb, hz⟩ := hI
      have HW := Aside0.mk hw
      have HB := Aside0.mk hb
      have HZ := Aside0.mk hz
      clear hw hb hz HI HC HD HP hlt
      have b0 := HW.out.at 0 rfl
      have b1 := HW.out.at 1 rfl
      have b2 := HW.out.at 2 rfl
      have b3 := HW.out.at 3 rfl
      go_wp2_with (first | (go_at_call 102; refine (spec_l16Own.lay base v0 v1 v2 v3 hs _ _ _ _ _ k _ _ _ _ w0 _ HW.out.less0 HB.out HZ.out HOW.out).mono ?_; rintro e_ w6 ⟨v_, rfl, x0_, x1_, x2_, x3_, hs_, rfl, hw_, hb_, hz_⟩; have HR := Aside0.mk (hw_.dropOld.frame (List.Perm.swap _ _ _)); have HO := Aside0.mk hw_.ones; replace HB := Aside0.mk hb_; replace HZ := Aside0.mk hz_; clear hw_ hb_ hz_) | ((with_reducible refine gate_store (t := 45) (p := 4) rfl ?_); refine HR.out.out.store_ev HB.out rfl rfl rfl 0 (by first | rfl | (go_simp; done) | (go_simp; rfl)) (u := .agg #[x0_, x1_, x2_, x3_]) (by first | rfl | (go_simp; done) | (go_simp; rfl)) (seg := [x0_, x1_, x2_, x3_]) rfl (by kernel_rfl) HO.out (by simp) ?_; intro w7 hl_ hb_ hs2_; have HL := Aside0.mk (show Lay _ _ (box gr 45 [x0_, x1_, x2_, x3_] :: _) from hl_); replace HB := Aside0.mk hb_; replace HZ := Aside0.mk (Nat.le_trans HZ.out (Nat.le_of_eq hs2_)); clear hl_ hb_ hs2_))
      exact bodyPost_ret (results_list (rs := [.cell 4 45, .tmp 5, .tmp 6]) rfl (by simp) (.cell gr 45 #[x0_, x1_, x2_, x3_] (0, 0) _ rfl HL.out.boxB Try.underlying45 rfl (by kernel_rfl) (.tmp (.tmp .nil)))) rfl ⟨_, _, rfl, AfterR.mk (WR.ofTail HR.out.1 HL.out.tail) HB.out HZ.out⟩
    have nlt : decide (x < (l.length : Int)) = true := decide_eq_true hlt
    have hp := HP.out
    rw [dropI_at l x z69 X0.out hlt] at hp
    simp only [sPlayG] at hp
    replace hp := Option.bind_eq_some_iff.mp hp
    obtain ⟨⟨Tq, Bq, Cq, Eq_⟩, hN, hp⟩ := hp
    replace hp := Option.bind_eq_some_iff.mp hp
    obtain ⟨⟨T1, B1, C1, E1, told, code⟩, hK, hp⟩ := hp
    replace hp := Option.bind_eq_some_iff.mp hp
    obtain ⟨⟨T2, B2, C2, E2, cs2⟩, hQ, hp⟩ := hp
    simp only [Option.some.injEq, Prod.mk.injEq] at hp
    obtain ⟨rfl, rfl, rfl, rfl, rfl⟩ := hp
    have HN := Aside0.mk hN
    have HK := Aside0.mk hK
    have HQ := Aside0.mk hQ
    obtain ⟨v0, v1, v2, v3, hs, hw, hb, hz⟩ := HI.out
    have HW := Aside0.mk hw
    have HB := Aside0.mk hb
    have HZ := Aside0.mk hz
    clear hw hb hz HI HP hQ hK hN
    obtain ⟨A9, c9, e9⟩ := HW.out.out.hdI (n := done.length) rfl
    subst e9
    have q0 : 0 ≤ x := X0.out
    have hk := Kd.C_below HA.out (HB.out.mono H0.out)
    obtain ⟨ad, eA, x0, x1, x2, x3, x4⟩ := at_T69 hk x q0 hlt
    clear hk
    have e0 : (0 ≤ x) = True := eq_true q0
    have e1 : (x < (l.length : Int)) = True := eq_true hlt
    subst eA
    go_upto_region 8 with (first | ((with_reducible refine gate_dst (N := 11) rfl ?_); refine HW.out.2.box_ev HB.out HZ.out rfl (N := 11) rfl [.int .i64 0, .int .i64 0, .int .i64 0, .int .i64 0, .int .i64 0] 69 (by first | (go_simp; done) | (go_simp; rfl)) ?_; intro ga w6 hl_ hb_ hz_; replace HW := Aside0.mk (WW.tuck HW.out.1 hl_); replace HB := Aside0.mk hb_; replace HZ := Aside0.mk hz_; clear hl_ hb_ hz_) | ((with_reducible refine gate_store (t := 69) (p := 11) rfl ?_); refine HW.out.out.store_ev HB.out rfl rfl rfl 0 (by first | rfl | (go_simp; done) | (go_simp; rfl)) (u := .agg #[.int .i64 ((rd_T69 l x)).f0, .int .i64 ((rd_T69 l x)).f1, .int .i64 ((rd_T69 l x)).f2, .int .i64 ((rd_T69 l x)).f3, .int .i64 ((rd_T69 l x)).f4]) (by first | rfl | (go_simp; done) | (go_simp; rfl)) (seg := [.int .i64 ((rd_T69 l x)).f0, .int .i64 ((rd_T69 l x)).f1, .int .i64 ((rd_T69 l x)).f2, .int .i64 ((rd_T69 l x)).f3, .int .i64 ((rd_T69 l x)).f4]) rfl (by kernel_rfl) (by simp [Value.oneCell']) (by simp) ?_; intro w7 hl_ hb_ hs_; replace HW := Aside0.mk (WW.tuck (r := box ga 69 [.int .i64 ((rd_T69 l x)).f0, .int .i64 ((rd_T69 l x)).f1, .int .i64 ((rd_T69 l x)).f2, .int .i64 ((rd_T69 l x)).f3, .int .i64 ((rd_T69 l x)).f4]) HW.out.1 hl_); replace HB := Aside0.mk hb_; replace HZ := Aside0.mk (Nat.le_trans HZ.out (Nat.le_of_eq hs_)); clear hl_ hb_ hs_))
    clear x0 x1 x2 x3 x4
    obtain ⟨R0, hR0⟩ : ∃ R0, R0 = (box g 45 [v0, v1, v2, v3] :: box ga 69 [.int .i64 ((rd_T69 l x)).f0, .int .i64 ((rd_T69 l x)).f1, .int .i64 ((rd_T69 l x)).f2, .int .i64 ((rd_T69 l x)).f3, .int .i64 ((rd_T69 l x)).f4] :: rI (.slice A9 done.length c9) done :: box gr 45 [.slice none 0 0, .slice none 0 0, .slice none 0 0, .slice none 0 0] :: F) := ⟨_, rfl⟩
    have HM1 : Aside0 (box g 45 [v0, v1, v2, v3] ∈ R0) := ⟨by rw [hR0]; simp⟩
    have HM2 : Aside0 (box ga 69 [.int .i64 ((rd_T69 l x)).f0, .int .i64 ((rd_T69 l x)).f1, .int .i64 ((rd_T69 l x)).f2, .int .i64 ((rd_T69 l x)).f3, .int .i64 ((rd_T69 l x)).f4] ∈ R0) := ⟨by rw [hR0]; simp⟩
    have HD0 : Aside0 (WR w7.drew base v0 v1 v2 v3 hs T B C E R0) := ⟨by rw [hR0]; exact HW.out.drew.toWR⟩
    have HE0 := Aside0.mk hR0
    clear hR0
    have hS0 : kept g ga [v0, v1, v2, v3] [.int .i64 ((rd_T69 l x)).f0, .int .i64 ((rd_T69 l x)).f1, .int .i64 ((rd_T69 l x)).f2, .int .i64 ((rd_T69 l x)).f3, .int .i64 ((rd_T69 l x)).f4] w7.drew := ⟨HD0.out.2.boxCell (t := 45) (by simp only [List.mem_cons, List.mem_append]; exact .inr (.inr (.inr (.inr (.inr HM1.out))))), HD0.out.2.boxCell (t := 69) (by simp only [List.mem_cons, List.mem_append]; exact .inr (.inr (.inr (.inr (.inr HM2.out)))))⟩
    have HS0 := Aside0.mk hS0
    clear hS0
    refine draw_two (A := ?_) 4 Try.func102 (by kernel_rfl) rfl Try.func101 (by kernel_rfl) rfl #[.agg #[v0, v1, v2, v3]] (fun b : Four => #[.agg #[b.1, b.2.1, b.2.2.1, b.2.2.2], .agg #[.int .i64 ((rd_T69 l x)).f0, .int .i64 ((rd_T69 l x)).f1, .int .i64 ((rd_T69 l x)).f2, .int .i64 ((rd_T69 l x)).f3, .int .i64 ((rd_T69 l x)).f4]]) (fun b => .agg #[b.1, b.2.1, b.2.2.1, b.2.2.2]) (fun _ (c : Four) => .tuple #[.agg #[c.1, c.2.1, c.2.2.1, c.2.2.2], .int .i64 told, .int .i64 code])
      (fun og W => WR W base v0 v1 v2 v3 hs T B C E (optRow og ++ R0) ∧ Below base w0 W ∧ base ≤ W.heap.size) (fun b og W => ST w0 base b Tq Bq Cq Eq_ (oldF v0 v1 v2 v3 hs T B C E R0) og W) (fun _ c og W => ST w0 base c T1 B1 C1 E1 (oldF v0 v1 v2 v3 hs T B C E R0) og W) ?A2 obW (by kernel_rfl) rfl rfl rfl rfl rfl _ _ _ rfl rfl rfl rfl rfl rfl rfl rfl (by kernel_rfl) (fun _ _ _ d _ h => by cases d <;> exact h) (S := (fun W => kept g ga [v0, v1, v2, v3] [.int .i64 ((rd_T69 l x)).f0, .int .i64 ((rd_T69 l x)).f1, .int .i64 ((rd_T69 l x)).f2, .int .i64 ((rd_T69 l x)).f3, .int .i64 ((rd_T69 l x)).f4] W)) HS0.out (fun W h => h.alloc _) ?hh ?hrun ?ha1 ?ha1p ?ha2 ?ha2p ?ha2q ⟨HD0.out, HB.out.drew, HZ.out⟩ ?hal0 (fun b W h _ => h.alloc) (fun b c W h _ => h.alloc) ?hc1 ?hc2 ?hb1 ?hb2 ?hb3 ?hrest
    case hh =>
      repeat (first | (refine hdF_ _ rfl (by rfl) (v := ?_) (a' := ?_) (fun W => by go_simp; with_reducible rfl) (by simp only [Act.put, List.setIfInBounds_toArray, List.set_cons_zero, List.set_cons_succ, i64_w, i32_w]; rfl) ?_) | (refine hdT_ _ rfl (by rfl) (v := ?_) (a' := ?_) (fun W hW => by obtain ⟨sb_, sa_⟩ := hW; have b0 := sb_ 0 _ rfl; have b1 := sb_ 1 _ rfl; have b2 := sb_ 2 _ rfl; have b3 := sb_ 3 _ rfl; have a0 := sa_ 0 _ rfl; have a1 := sa_ 1 _ rfl; have a2 := sa_ 2 _ rfl; have a3 := sa_ 3 _ rfl; have a4 := sa_ 4 _ rfl; go_simp; with_reducible rfl) (by simp only [Act.put, List.setIfInBounds_toArray, List.set_cons_zero, List.set_cons_succ, i64_w, i32_w]; rfl) ?_))
      exact hd_end
    case hrun =>
      intro W A'
      first | rfl | (go_simp; done) | (go_simp; rfl)
    case ha1 =>
      first | rfl | (go_simp; done) | (go_simp; rfl)
    case ha1p =>
      intro z0_
      first | rfl | (go_simp; done) | (go_simp; rfl)
    case ha2 =>
      intro z0_
      first | rfl | (go_simp; done) | (go_simp; rfl)
    case ha2p =>
      intro z0_ z1_
      first | rfl | (go_simp; done) | (go_simp; rfl)
    case ha2q =>
      intro z0_ z1_
      first | rfl | (go_simp; done) | (go_simp; rfl)
    case hal0 =>
      rintro W ⟨h1_, h2_, h3_⟩ _
      exact ⟨h1_.newbox h3_ 45 [.slice none 0 0, .slice none 0 0, .slice none 0 0, .slice none 0 0], h2_.alloc h3_ _, Nat.le_trans h3_ (below_alloc (Below.refl _ _) _).size⟩
    case hc1 =>
      rintro og W ⟨h1_, h2_, h3_⟩ _
      refine (own_ST h1_ h2_ h3_ HN.out).mono ?_
      rintro e_ w_ ⟨b_, rfl, hst_⟩
      exact ⟨b_, rfl, ⟨ST.cells (t := 45) hst_ (by unfold oldF; simp only [List.mem_cons, List.mem_append]; exact .inr (.inr (.inr (.inr (.inr HM1.out))))), ST.cells (t := 69) hst_ (by unfold oldF; simp only [List.mem_cons, List.mem_append]; exact .inr (.inr (.inr (.inr (.inr HM2.out)))))⟩, hst_⟩
    case hc2 =>
      intro b_ og W h_ _
      refine (do_ST h_ HK.out).mono ?_
      rintro e_ w_ ⟨c_, rfl, hst_⟩
      exact ⟨c_, rfl, ⟨ST.cells (t := 45) hst_ (by unfold oldF; simp only [List.mem_cons, List.mem_append]; exact .inr (.inr (.inr (.inr (.inr HM1.out))))), ST.cells (t := 69) hst_ (by unfold oldF; simp only [List.mem_cons, List.mem_append]; exact .inr (.inr (.inr (.inr (.inr HM2.out)))))⟩, hst_⟩
    case hb1 =>
      intro b_ c_ gn
      simp only [List.take_succ_cons, List.take_zero, List.drop_succ_cons, List.drop_zero]
      repeat (first | (refine hdF_ _ rfl (by rfl) (v := ?_) (a' := ?_) (fun W => by go_simp; with_reducible rfl) (by simp only [Act.put, List.setIfInBounds_toArray, List.set_cons_zero, List.set_cons_succ, i64_w, i32_w]; rfl) ?_) | (refine hdT_ _ rfl (by rfl) (v := ?_) (a' := ?_) (fun W hW => by go_simp; with_reducible rfl) (by simp only [Act.put, List.setIfInBounds_toArray, List.set_cons_zero, List.set_cons_succ, i64_w, i32_w]; rfl) ?_))
      exact hd_end
    case hb2 =>
      intro b_ c_ gn
      simp only [List.take_succ_cons, List.take_zero, List.drop_succ_cons, List.drop_zero]
      repeat (first | (refine hdF_ _ rfl (by rfl) (v := ?_) (a' := ?_) (fun W => by go_simp; with_reducible rfl) (by simp only [Act.put, List.setIfInBounds_toArray, List.set_cons_zero, List.set_cons_succ, i64_w, i32_w]; rfl) ?_) | (refine hdT_ _ rfl (by rfl) (v := ?_) (a' := ?_) (fun W hW => by go_simp; with_reducible rfl) (by simp only [Act.put, List.setIfInBounds_toArray, List.set_cons_zero, List.set_cons_succ, i64_w, i32_w]; rfl) ?_))
      exact hd_end
    case hb3 =>
      intro b_ c_ gn
      refine ⟨?_, ?_, ?_⟩
      rotate_left
      · simp only [List.take_succ_cons, List.take_zero, List.drop_succ_cons, List.drop_zero]
        repeat (first | (refine hdF_ _ rfl (by rfl) (v := ?_) (a' := ?_) (fun W => by go_simp; with_reducible rfl) (by simp only [Act.put, List.setIfInBounds_toArray, List.set_cons_zero, List.set_cons_succ, i64_w, i32_w]; rfl) ?_) | (refine hdT_ _ rfl (by rfl) (v := ?_) (a' := ?_) (fun W hW => by go_simp; with_reducible rfl) (by simp only [Act.put, List.setIfInBounds_toArray, List.set_cons_zero, List.set_cons_succ, i64_w, i32_w]; rfl) ?_))
        exact hd_end
      · first | rfl | (simp only [Act.put, List.setIfInBounds_toArray, List.set_cons_zero, List.set_cons_succ]; done)
    intro b_ c_ gt w8 hst_
    have HSL := Aside0.mk HW.out.1
    obtain ⟨x0_, x1_, x2_, x3_⟩ := c_
    obtain ⟨hs1, hw_, hb_, hz_⟩ := hst_
    simp only [optRow, List.cons_append, List.nil_append] at hw_
    have HR := Aside0.mk hw_
    have HO := Aside0.mk hw_.ones
    replace HB := Aside0.mk hb_
    replace HZ := Aside0.mk hz_
    clear hw_ hb_ hz_ HS0 HD0 HM1 HM2 HN HK HW
    simp only [List.drop_succ_cons, List.drop_zero, Act.put, List.setIfInBounds_toArray, List.set_cons_zero, List.set_cons_succ]
    have w64 : IntKind.i64.wrap (x + 1) = x + 1 := IntWalk.i64_in _ (by have := K1.out; omega)
    go_upto_region 9 with ((with_reducible refine gate_store (t := 45) (p := 12) rfl ?_); refine HR.out.out.store_ev HB.out rfl rfl rfl 0 (by first | rfl | (go_simp; done) | (go_simp; rfl)) (u := .agg #[x0_, x1_, x2_, x3_]) (by first | rfl | (go_simp; done) | (go_simp; rfl)) (seg := [x0_, x1_, x2_, x3_]) rfl (by kernel_rfl) HO.out (by simp) ?_; intro w9 hl_ hb_ hs2_; have HL := Aside0.mk (show Lay _ _ (box gt 45 [x0_, x1_, x2_, x3_] :: _) from hl_); replace HB := Aside0.mk hb_; replace HZ := Aside0.mk (Nat.le_trans HZ.out (Nat.le_of_eq hs2_)); clear hl_ hb_ hs2_)
    by_cases z0 : code = 0
    · have z1 : (code == 0) = true := by simpa using z0
      have hq := HQ.out
      rw [if_pos z0] at hq
      replace HQ := Aside0.mk hq
      clear hq z1
      subst z0
      have HW := Aside0.mk (show WW _ base g [v0, v1, v2, v3] _ _ _ _ _ _ _ _ _ (box ga 69 [.int .i64 ((rd_T69 l x)).f0, .int .i64 ((rd_T69 l x)).f1, .int .i64 ((rd_T69 l x)).f2, .int .i64 ((rd_T69 l x)).f3, .int .i64 ((rd_T69 l x)).f4] :: rI (.slice A9 done.length c9) done :: box gr 45 [.slice none 0 0, .slice none 0 0, .slice none 0 0, .slice none 0 0] :: F) from (HE0.out ▸ (WR.ofTail HR.out.1 HL.out.tail).dropOld : WR _ _ _ _ _ _ _ _ _ _ _ (box g 45 [v0, v1, v2, v3] :: (box ga 69 [.int .i64 ((rd_T69 l x)).f0, .int .i64 ((rd_T69 l x)).f1, .int .i64 ((rd_T69 l x)).f2, .int .i64 ((rd_T69 l x)).f3, .int .i64 ((rd_T69 l x)).f4] :: rI (.slice A9 done.length c9) done :: box gr 45 [.slice none 0 0, .slice none 0 0, .slice none 0 0, .slice none 0 0] :: F))).toWW)
      have y0 := HL.out.cell 0 rfl
      have y1 := HL.out.cell 1 rfl
      have y2 := HL.out.cell 2 rfl
      have y3 := HL.out.cell 3 rfl
      clear HL HR
      go_upto_region 11 with ((with_reducible refine gate_store (t := 45) (p := 7) rfl ?_); refine HW.out.2.store_ev HB.out rfl rfl rfl 0 (by first | rfl | (go_simp; done) | (go_simp; rfl)) (u := .agg #[x0_, x1_, x2_, x3_]) (by first | rfl | (go_simp; done) | (go_simp; rfl)) (seg := [x0_, x1_, x2_, x3_]) rfl (by kernel_rfl) HO.out (by simp) ?_; intro w10 hl_ hb_ hs2_; replace HW := Aside0.mk (WR.box (bx := [x0_, x1_, x2_, x3_]) HW.out.1 (show Lay _ _ (box g 45 [x0_, x1_, x2_, x3_] :: _) from hl_)); replace HB := Aside0.mk hb_; replace HZ := Aside0.mk (Nat.le_trans HZ.out (Nat.le_of_eq hs2_)); clear hl_ hb_ hs2_)
      clear y0 y1 y2 y3
      have HSW := Aside0.mk HW.out.1
      have HL := Aside0.mk HW.out.less.out
      clear HW
      go_wp2_with ((with_reducible refine gate_builtin (b := .append) (xs := #[.tmp 45, .tmp 47]) rfl ?_); at_builtin; refine HL.out.append_ev HB.out HZ.out rfl (.tmp 45) (.tmp 47) 36 (.int .i64 0) 8 rfl Try.underlying36 (by kernel_rfl) rfl (Nat.succ_pos _) (by decide) rfl rfl [.int .i64 0] rfl (by simp [Value.oneCell']) (show (done.length + 1) * 8 ≤ 140737488355328 from by have h1_ := HD.out; have h2_ := K1.out; have h3_ := X1.out; omega) ?_; intro v11 w11 hl_ hb_ hz_; replace HL := Aside0.mk hl_; replace HB := Aside0.mk hb_; replace HZ := Aside0.mk hz_; clear hl_ hb_ hz_; replace HL := Aside0.mk (rI_snoc _ done 0 ▸ HL.out))
      have HW := Aside0.mk (WW.tuck HSW.out HL.out)
      go_roundw
      case rel =>
        refine ⟨x + 1, T1, B1, C1, E1, done ++ [0], cs2, rfl, ⟨by omega⟩, ⟨by omega⟩, HQ, ⟨by rw [List.append_assoc]; exact HC.out⟩, ⟨by rw [List.length_append, HD.out]; simp; omega⟩, ⟨?_⟩⟩
        exact After.mk HW.out HB.out HZ.out
      case measure => simp [intOf]; omega
    · have z1 : (code == 0) = false := by simpa using z0
      have hq := HQ.out
      rw [if_neg z0] at hq
      replace HQ := Aside0.mk hq
      clear hq
      have HW := Aside0.mk (show WW _ base g [v0, v1, v2, v3] _ _ _ _ _ _ _ _ _ (box ga 69 [.int .i64 ((rd_T69 l x)).f0, .int .i64 ((rd_T69 l x)).f1, .int .i64 ((rd_T69 l x)).f2, .int .i64 ((rd_T69 l x)).f3, .int .i64 ((rd_T69 l x)).f4] :: rI (.slice A9 done.length c9) done :: box gr 45 [.slice none 0 0, .slice none 0 0, .slice none 0 0, .slice none 0 0] :: F) from (HE0.out ▸ (WR.ofTail HSL.out (HL.out.tail.tail.tail.tail.tail.sub (List.sublist_append_right _ _))) : WR _ _ _ _ _ _ _ _ _ _ _ (box g 45 [v0, v1, v2, v3] :: (box ga 69 [.int .i64 ((rd_T69 l x)).f0, .int .i64 ((rd_T69 l x)).f1, .int .i64 ((rd_T69 l x)).f2, .int .i64 ((rd_T69 l x)).f3, .int .i64 ((rd_T69 l x)).f4] :: rI (.slice A9 done.length c9) done :: box gr 45 [.slice none 0 0, .slice none 0 0, .slice none 0 0, .slice none 0 0] :: F))).toWW)
      clear HL HR
      go_upto_region 11 with (fail)
      have HSW := Aside0.mk HW.out.1
      have HL := Aside0.mk HW.out.less.out
      clear HW
      go_wp2_with ((with_reducible refine gate_builtin (b := .append) (xs := #[.tmp 45, .tmp 47]) rfl ?_); at_builtin; refine HL.out.append_ev HB.out HZ.out rfl (.tmp 45) (.tmp 47) 36 (.int .i64 0) 8 rfl Try.underlying36 (by kernel_rfl) rfl (Nat.succ_pos _) (by decide) rfl rfl [.int .i64 code] rfl (by simp [Value.oneCell']) (show (done.length + 1) * 8 ≤ 140737488355328 from by have h1_ := HD.out; have h2_ := K1.out; have h3_ := X1.out; omega) ?_; intro v11 w11 hl_ hb_ hz_; replace HL := Aside0.mk hl_; replace HB := Aside0.mk hb_; replace HZ := Aside0.mk hz_; clear hl_ hb_ hz_; replace HL := Aside0.mk (rI_snoc _ done code ▸ HL.out))
      have HW := Aside0.mk (WW.tuck HSW.out HL.out)
      go_roundw
      case rel =>
        refine ⟨x + 1, T, B, C, E, done ++ [code], cs2, rfl, ⟨by omega⟩, ⟨by omega⟩, HQ, ⟨by rw [List.append_assoc]; exact HC.out⟩, ⟨by rw [List.length_append, HD.out]; simp; omega⟩, ⟨?_⟩⟩
        exact After.mk HW.out HB.out HZ.out
      case measure => simp [intOf]; omega
end Go.Proofs.Ytdoflfifnkpacaa.WP
