/-
  The functions of worlds: what they compute, and the laws of it.
-/
import Derived.StillTailTactics
import Derived.Lib.Hide
import Derived.Test.YtdoflfifnkpacaaC23WpLay9
import Derived.Test.YtdoflfifnkpacaaC23WpM
namespace Go.Proofs.Ytdoflfifnkpacaa.WP
open Go Go.RowKit Go.Proofs.YtdoflfifnkpacaaW.PrintWords Go.Proofs.YtdoflfifnkpacaaW.PrintLast Go.Proofs.YtdoflfifnkpacaaW.PrintMore
attribute [local go_sem] max2_int min2_int max_two min_two max_three min_three max_four min_four
set_option linter.unusedVariables false
set_option linter.unusedSimpArgs false
set_option maxHeartbeats 1000000 in
set_option maxRecDepth 100000 in
theorem walk_PlayWorld (n : Int) (A0 : Option Addr) (c0 : Nat) (l : List S86) (t : Int) (k : Nat) (M M' : List S69) (T T' : List S67) (B B' : List S78) (C C' : List S155) (E E' cs cs' : List Int) (ok : Bool) (m1 n1 n2 n3 n4 n5 : Int) (w : World)
    (hr0 : Kd.C k86 w A0 l.length l) (hc0 : l.length ≤ c0) (hsz : laws_szActS.f l 1048576 = some t) (ht : ¬ t < 0) (hto : laws_toActS.f k l = some M) (hsp : sPlay k n M = some (T, B, C, E, cs, ok)) (him : playR n M = some (T, B, C, E, cs, ok)) (heq : laws_eqWorld.f k T B C E T B C E = some true) (hei : laws_eqIntS.f k cs cs = some true) (hea : laws_eqActS.f k M M = some true) (hma : laws_markActS.f k M 1 = some (m1, M')) (hm1 : ¬ m1 < 0) (hm2 : laws_markThingS.f k T 1 = some (n1, T')) (hm3 : markTabs k B n1 = some (B', n2)) (hm4 : laws_markLoanS.f k C n2 = some (n3, C')) (hm5 : laws_markIntS.f k E n3 = some (n4, E')) (hm6 : laws_markIntS.f k cs n4 = some (n5, cs')) (hh1 : laws_heldWorld.f k T' B' C' E' 1 = some n4) (hh2 : laws_heldIntS.f k cs' n4 = some n5) (hn4 : ¬ n4 < 0) (hn5 : ¬ n5 < 0) :
    Calls Try.prog 9 #[.int .i64 n, .slice A0 l.length c0] w fun e w' => e = .returned (.bool true) ∧ Below w.heap.size w w' := by
  have H0 := Aside0.mk hr0
  have Heq := Aside0.mk heq
  have Hei := Aside0.mk hei
  have Hea := Aside0.mk hea
  have Hma := Aside0.mk hma
  have d2 : decide (m1 < 0) = false := decide_eq_false hm1
  have Hm2 := Aside0.mk hm2
  have Hm3 := Aside0.mk hm3
  have Hm4 := Aside0.mk hm4
  have Hm5 := Aside0.mk hm5
  have Hm6 := Aside0.mk hm6
  have Hh1 := Aside0.mk hh1
  have Hh2 := Aside0.mk hh2
  have d3 : decide (n4 < 0) = false := decide_eq_false hn4
  have d4 : decide (n5 < 0) = false := decide_eq_false hn5
  clear heq hei hea hma hm1 hm2 hm3 hm4 hm5 hm6 hh1 hh2 hn4 hn5
  have Hto := Aside0.mk hto
  have Hsp := Aside0.mk hsp
  have Him := Aside0.mk him
  have Hsz := Aside0.mk hsz
  have HC0 := Aside0.mk hc0
  have d1 : decide (t < 0) = false := decide_eq_false ht
  clear hr0 hto hsp him hsz ht hc0
  go_enter Try.func9, Try.ntmps9
  go_upto_region 5 with (go_at_call 46; (with_reducible refine (laws_szActS.calls A0 c0 l 1048576 t _ H0.out HC0.out Hsz.out).mono ?_); rintro e_ w_ ⟨rfl, ⟨nd, rfl⟩⟩)
  have HN := Aside0.mk (pw_below_drewN (Below.refl w.heap.size w) nd)
  generalize w.drewN nd = w1 at *
  go_upto_region 6 with (first | (go_at_call 47; refine (laws_toActS.calls k A0 c0 l M w1 (Kd.C_below H0.out HN.out) HC0.out Hto.out).mono ?_; rintro e_ w2 ⟨va_, rfl, ra_, hb_⟩; have HL := Aside0.mk ((Lay.nil w1 w.heap.size).fresh1 hb_ HN.out.size (R_rAc ra_)); have HB := Aside0.mk (HN.out.trans (hb_.mono HN.out.size)); have HZ := Aside0.mk (Nat.le_trans HN.out.size hb_.size); clear hb_ ra_; obtain ⟨Aa, ca, ea_, -⟩ := HL.out.slice; simp only [rAc] at ea_; subst ea_) | (go_at_call 40; refine (spec_PlayWorld.lay w2.heap.size n Aa ca M k (T, B, C, E, cs, ok) [] w2 w2 (C69 HL.out).2.2 (Nat.le_refl _) (Lay.nil _ _) (Below.refl _ _) (Nat.le_refl _) Hsp.out).mono ?_; rintro e_ w3 ⟨v_, vs_, rfl, s0, s1, s2, s3, hsS, rfl, hw_, hb_, hz_⟩; have HR := Aside0.mk (WR.merge HL.out hb_ HZ.out hw_); have HO := Aside0.mk hw_.ones; replace HB := Aside0.mk (below_up HB.out HZ.out hb_); replace HZ := Aside0.mk (Nat.le_trans HZ.out hb_.size); simp only [List.cons_append, List.nil_append] at HR; clear hw_ hb_ hz_ HL) | ((with_reducible refine gate_dst (N := 6) rfl ?_); refine HR.out.2.box_ev HB.out HZ.out rfl (N := 6) rfl [.slice none 0 0, .slice none 0 0, .slice none 0 0, .slice none 0 0] 45 (by first | (go_simp; done) | (go_simp; rfl)) ?_; intro g6 w4 hl_ hb_ hz_; replace HR := Aside0.mk (WR.tuck HR.out.1 hl_); replace HB := Aside0.mk hb_; replace HZ := Aside0.mk hz_; clear hl_ hb_ hz_) | ((with_reducible refine gate_store (t := 45) (p := 6) rfl ?_); refine HR.out.out.store_ev HB.out rfl rfl rfl 0 (by first | rfl | (go_simp; done) | (go_simp; rfl)) (u := .agg #[s0, s1, s2, s3]) (by first | rfl | (go_simp; done) | (go_simp; rfl)) (seg := [s0, s1, s2, s3]) rfl (by kernel_rfl) HO.out (by simp) ?_; intro w5 hl_ hb_ hs2_; replace HR := Aside0.mk (WR.tuck (r := box g6 45 [s0, s1, s2, s3]) HR.out.1 hl_); replace HB := Aside0.mk hb_; replace HZ := Aside0.mk (Nat.le_trans HZ.out (Nat.le_of_eq hs2_)); clear hl_ hb_ hs2_))
  -- the world of the model lies ahead; from here on all rows as one list
  have HS := Aside0.mk HR.out.1
  have HL := Aside0.mk HR.out.bare
  clear HR
  go_upto_region 7 with (go_at_call 47; refine (laws_toActS.calls k A0 c0 l M w5 (Kd.C_below H0.out HB.out) HC0.out Hto.out).mono ?_; rintro e_ w6 ⟨va_, rfl, ra_, hb_⟩; replace HL := Aside0.mk (HL.out.fresh1 hb_ HZ.out (R_rAc ra_)); replace HB := Aside0.mk (below_up HB.out HZ.out hb_); replace HZ := Aside0.mk (Nat.le_trans HZ.out hb_.size); clear hb_ ra_; obtain ⟨Ab, cb, eb_, -⟩ := HL.out.slice; simp only [rAc] at eb_; subst eb_)
  go_upto_region 8 with (first | (go_at_call 39; refine (impl_PlayWorld.lay w6.heap.size n Ab cb M (T, B, C, E, cs, ok) [] w6 w6 (C69 HL.out).2.2 (Nat.le_refl _) (Lay.nil _ _) (Below.refl _ _) (Nat.le_refl _) Him.out).mono ?_; rintro e_ w7 ⟨v_, vp_, rfl, p0, p1, p2, p3, hsP, rfl, hw_, hb_, hz_⟩; have HR := Aside0.mk (WR.merge HL.out hb_ HZ.out hw_); have HO := Aside0.mk hw_.ones; replace HB := Aside0.mk (below_up HB.out HZ.out hb_); replace HZ := Aside0.mk (Nat.le_trans HZ.out hb_.size); simp only [List.cons_append, List.nil_append] at HR; clear hw_ hb_ hz_ HL) | ((with_reducible refine gate_dst (N := 10) rfl ?_); refine HR.out.2.box_ev HB.out HZ.out rfl (N := 10) rfl [.slice none 0 0, .slice none 0 0, .slice none 0 0, .slice none 0 0] 45 (by first | (go_simp; done) | (go_simp; rfl)) ?_; intro g10 w8 hl_ hb_ hz_; replace HR := Aside0.mk (WR.tuck HR.out.1 hl_); replace HB := Aside0.mk hb_; replace HZ := Aside0.mk hz_; clear hl_ hb_ hz_) | ((with_reducible refine gate_store (t := 45) (p := 10) rfl ?_); refine HR.out.out.store_ev HB.out rfl rfl rfl 0 (by first | rfl | (go_simp; done) | (go_simp; rfl)) (u := .agg #[p0, p1, p2, p3]) (by first | rfl | (go_simp; done) | (go_simp; rfl)) (seg := [p0, p1, p2, p3]) rfl (by kernel_rfl) HO.out (by simp) ?_; intro w9 hl_ hb_ hs2_; replace HR := Aside0.mk (WR.tuck (r := box g10 45 [p0, p1, p2, p3]) HR.out.1 hl_); replace HB := Aside0.mk hb_; replace HZ := Aside0.mk (Nat.le_trans HZ.out (Nat.le_of_eq hs2_)); clear hl_ hb_ hs2_))
  have HSW := Aside0.mk (WR.ofTail HS.out HR.out.fr.tail.tail.tail)
  have f0 := HR.out.out.cell 0 rfl
  have f1 := HR.out.out.cell 1 rfl
  have f2 := HR.out.out.cell 2 rfl
  have f3 := HR.out.out.cell 3 rfl
  have g0 := HSW.out.out.cell 0 rfl
  have g1 := HSW.out.out.cell 1 rfl
  have g2 := HSW.out.out.cell 2 rfl
  have g3 := HSW.out.out.cell 3 rfl
  have eok : (ok != ok) = false := by simp
  go_upto_region 10 with (first | (go_at_call 20; refine (eqWorld_WR HR.out HSW.out Heq.out).mono ?_; rintro e_ w10 ⟨rfl, hb_⟩; replace HR := Aside0.mk (HR.out.below hb_); replace HSW := Aside0.mk (HSW.out.below hb_); replace HB := Aside0.mk (below_up HB.out HZ.out hb_); replace HZ := Aside0.mk (Nat.le_trans HZ.out hb_.size); clear hb_) | (go_at_call 34; refine (eqIntS_Lay HR.out.fr.tail HSW.out.fr.tail Hei.out).mono ?_; rintro e_ w_ ⟨rfl, ⟨nd2, rfl⟩⟩))
  clear f0 f1 f2 f3 g0 g1 g2 g3
  refine WR.named _ HR.out HB.out HZ.out ?_
  clear HR HB HZ HSW HO
  intro w11 hw_ hb_ hz_
  have HR := Aside0.mk hw_
  have HB := Aside0.mk hb_
  have HZ := Aside0.mk hz_
  clear hw_ hb_ hz_
  go_upto_region 12 with (first | (go_at_call 47; refine (laws_toActS.calls k A0 c0 l M w11 (Kd.C_below H0.out HB.out) HC0.out Hto.out).mono ?_; rintro e_ w12 ⟨va_, rfl, ra_, hb_⟩; replace HR := Aside0.mk (WR.tuck HR.out.1 (HR.out.2.fresh1 hb_ HZ.out (R_rAc ra_))); replace HB := Aside0.mk (below_up HB.out HZ.out hb_); replace HZ := Aside0.mk (Nat.le_trans HZ.out hb_.size); clear hb_ ra_) | (go_at_call 48; refine (eqActS_Lay HR.out.fr.tail.tail.tail HR.out.fr Hea.out).mono ?_; rintro e_ w13 ⟨rfl, hb_⟩; replace HR := Aside0.mk (HR.out.below hb_); replace HB := Aside0.mk (below_up HB.out HZ.out hb_); replace HZ := Aside0.mk (Nat.le_trans HZ.out hb_.size); clear hb_))
  replace HR := Aside0.mk (HR.out.fsub (List.sublist_cons_self _ _))
  replace HR := Aside0.mk (HR.out.frame ((List.Perm.cons _ (List.Perm.swap _ _ _)).trans (List.Perm.swap _ _ _)))
  go_upto_region 14 with (go_at_call 49; refine (mark_A HR.out.out HB.out Hma.out).mono ?_; rintro e_ w14 ⟨rfl, hl_, hb_, hz_⟩; replace HR := Aside0.mk (WR.tuck HR.out.1 hl_); replace HB := Aside0.mk hb_; replace HZ := Aside0.mk hz_; clear hl_ hb_ hz_)
  have HSW := Aside0.mk (WR.ofTail HS.out HR.out.fr.tail.tail.tail)
  have f0 := HR.out.fr.tail.cell 0 rfl
  have f1 := HR.out.fr.tail.cell 1 rfl
  have f2 := HR.out.fr.tail.cell 2 rfl
  have f3 := HR.out.fr.tail.cell 3 rfl
  have g0 := HSW.out.out.cell 0 rfl
  have g1 := HSW.out.out.cell 1 rfl
  have g2 := HSW.out.out.cell 2 rfl
  have g3 := HSW.out.out.cell 3 rfl
  go_upto_region 16 with (first | (go_at_call 20; refine (eqWorld_WR HR.out HSW.out Heq.out).mono ?_; rintro e_ w15 ⟨rfl, hb_⟩; replace HR := Aside0.mk (HR.out.below hb_); replace HSW := Aside0.mk (HSW.out.below hb_); replace HB := Aside0.mk (below_up HB.out HZ.out hb_); replace HZ := Aside0.mk (Nat.le_trans HZ.out hb_.size); clear hb_) | (go_at_call 34; refine (eqIntS_Lay HR.out.fr.tail.tail HSW.out.fr.tail Hei.out).mono ?_; rintro e_ w_ ⟨rfl, ⟨nd3, rfl⟩⟩))
  clear f0 f1 f2 f3 g0 g1 g2 g3
  refine WR.named _ HR.out HB.out HZ.out ?_
  clear HR HB HZ HSW
  intro w16 hw_ hb_ hz_
  have HR := Aside0.mk hw_
  have HB := Aside0.mk hb_
  have HZ := Aside0.mk hz_
  clear hw_ hb_ hz_
  replace HR := Aside0.mk (HR.out.frame ((List.Perm.cons _ (List.Perm.swap _ _ _)).trans (List.Perm.swap _ _ _)))
  have f0 := HR.out.fr.tail.tail.cell 0 rfl
  have f1 := HR.out.fr.tail.tail.cell 1 rfl
  have f2 := HR.out.fr.tail.tail.cell 2 rfl
  have f3 := HR.out.fr.tail.tail.cell 3 rfl
  go_upto_region 18 with (go_at_call 35; refine (laws_markWorld.lay k _ _ _ _ _ T T' B B' C C' E E' _ 1 n1 n2 n3 n4 w _ HR.out HB.out Hm2.out Hm3.out Hm4.out Hm5.out).mono ?_; rintro e_ w17 ⟨rfl, hw_, hb_⟩; replace HR := Aside0.mk hw_; replace HB := Aside0.mk hb_; replace HZ := Aside0.mk hb_.size; clear hw_ hb_)
  clear f0 f1 f2 f3
  go_upto_region 19 with (go_at_call 36; refine (mark_I HR.out.out HB.out Hm6.out).mono ?_; rintro e_ w18 ⟨rfl, hl_, hb_, hz_⟩; replace HR := Aside0.mk (WR.tuck HR.out.1 hl_); replace HB := Aside0.mk hb_; replace HZ := Aside0.mk hz_; clear hl_ hb_ hz_)
  have f0 := HR.out.fr.tail.tail.cell 0 rfl
  have f1 := HR.out.fr.tail.tail.cell 1 rfl
  have f2 := HR.out.fr.tail.tail.cell 2 rfl
  have f3 := HR.out.fr.tail.tail.cell 3 rfl
  have en5 : (n5 != n5) = false := by simp
  go_upto_region 28 with (first | (go_at_call 50; refine (heldWorld_WR HR.out Hh1.out).mono ?_; rintro e_ w19 ⟨rfl, hb_⟩; replace HR := Aside0.mk (HR.out.below hb_); replace HB := Aside0.mk (below_up HB.out HZ.out hb_); replace HZ := Aside0.mk (Nat.le_trans HZ.out hb_.size); clear hb_) | (go_at_call 37; refine (heldIntS_Lay HR.out.fr Hh2.out).mono ?_; rintro e_ w_ ⟨rfl, ⟨nd4, rfl⟩⟩))
  clear f0 f1 f2 f3
  refine WR.named _ HR.out HB.out HZ.out ?_
  clear HR HB HZ
  intro w20 hw_ hb_ hz_
  have HR := Aside0.mk hw_
  have HB := Aside0.mk hb_
  have HZ := Aside0.mk hz_
  clear hw_ hb_ hz_
  have HP1 := Aside0.mk HR.out.1
  have HL := Aside0.mk HR.out.bare
  clear HR
  go_upto_region 29 with (first | (go_at_call 47; refine (laws_toActS.calls k A0 c0 l M w20 (Kd.C_below H0.out HB.out) HC0.out Hto.out).mono ?_; rintro e_ w21 ⟨va_, rfl, ra_, hb_⟩; replace HL := Aside0.mk (HL.out.fresh1 hb_ HZ.out (R_rAc ra_)); replace HB := Aside0.mk (below_up HB.out HZ.out hb_); replace HZ := Aside0.mk (Nat.le_trans HZ.out hb_.size); clear hb_ ra_; obtain ⟨Ac, cc, ec_, -⟩ := HL.out.slice; simp only [rAc] at ec_; subst ec_) | (go_at_call 39; refine (impl_PlayWorld.lay w21.heap.size n Ac cc M (T, B, C, E, cs, ok) [] w21 w21 (C69 HL.out).2.2 (Nat.le_refl _) (Lay.nil _ _) (Below.refl _ _) (Nat.le_refl _) Him.out).mono ?_; rintro e_ w22 ⟨v_, vq_, rfl, q0, q1, q2, q3, hsQ, rfl, hw_, hb_, hz_⟩; have HR := Aside0.mk (WR.merge HL.out hb_ HZ.out hw_); have HO := Aside0.mk hw_.ones; replace HB := Aside0.mk (below_up HB.out HZ.out hb_); replace HZ := Aside0.mk (Nat.le_trans HZ.out hb_.size); simp only [List.cons_append, List.nil_append] at HR; clear hw_ hb_ hz_ HL) | ((with_reducible refine gate_dst (N := 16) rfl ?_); refine HR.out.2.box_ev HB.out HZ.out rfl (N := 16) rfl [.slice none 0 0, .slice none 0 0, .slice none 0 0, .slice none 0 0] 45 (by first | (go_simp; done) | (go_simp; rfl)) ?_; intro g16 w23 hl_ hb_ hz_; replace HR := Aside0.mk (WR.tuck HR.out.1 hl_); replace HB := Aside0.mk hb_; replace HZ := Aside0.mk hz_; clear hl_ hb_ hz_) | ((with_reducible refine gate_store (t := 45) (p := 16) rfl ?_); refine HR.out.out.store_ev HB.out rfl rfl rfl 0 (by first | rfl | (go_simp; done) | (go_simp; rfl)) (u := .agg #[q0, q1, q2, q3]) (by first | rfl | (go_simp; done) | (go_simp; rfl)) (seg := [q0, q1, q2, q3]) rfl (by kernel_rfl) HO.out (by simp) ?_; intro w24 hl_ hb_ hs2_; replace HR := Aside0.mk (WR.tuck (r := box g16 45 [q0, q1, q2, q3]) HR.out.1 hl_); replace HB := Aside0.mk hb_; replace HZ := Aside0.mk (Nat.le_trans HZ.out (Nat.le_of_eq hs2_)); clear hl_ hb_ hs2_))
  have HPW := Aside0.mk (WR.ofTail HP1.out HR.out.fr.tail.tail.tail)
  have HSW := Aside0.mk (WR.ofTail HS.out HPW.out.fr.tail.tail.tail)
  have f0 := HR.out.out.cell 0 rfl
  have f1 := HR.out.out.cell 1 rfl
  have f2 := HR.out.out.cell 2 rfl
  have f3 := HR.out.out.cell 3 rfl
  have g0 := HSW.out.out.cell 0 rfl
  have g1 := HSW.out.out.cell 1 rfl
  have g2 := HSW.out.out.cell 2 rfl
  have g3 := HSW.out.out.cell 3 rfl
  go_upto_region 31 with (first | (go_at_call 20; refine (eqWorld_WR HR.out HSW.out Heq.out).mono ?_; rintro e_ w25 ⟨rfl, hb_⟩; replace HR := Aside0.mk (HR.out.below hb_); replace HSW := Aside0.mk (HSW.out.below hb_); replace HB := Aside0.mk (below_up HB.out HZ.out hb_); replace HZ := Aside0.mk (Nat.le_trans HZ.out hb_.size); clear hb_) | (go_at_call 34; refine (eqIntS_Lay HR.out.fr.tail HSW.out.fr.tail Hei.out).mono ?_; rintro e_ w_ ⟨rfl, ⟨nd5, rfl⟩⟩))
  clear f0 f1 f2 f3 g0 g1 g2 g3
  refine WR.named _ HR.out HB.out HZ.out ?_
  clear HR HB HZ HPW HSW
  intro w26 hw_ hb_ hz_
  have HR := Aside0.mk (WR.ofTail HP1.out hw_.fr.tail.tail.tail)
  have HB := Aside0.mk hb_
  have HZ := Aside0.mk hz_
  clear hw_ hb_ hz_
  have f0 := HR.out.fr.tail.tail.cell 0 rfl
  have f1 := HR.out.fr.tail.tail.cell 1 rfl
  have f2 := HR.out.fr.tail.tail.cell 2 rfl
  have f3 := HR.out.fr.tail.tail.cell 3 rfl
  go_wp2_with (first | (go_at_call 50; refine (heldWorld_WR HR.out Hh1.out).mono ?_; rintro e_ w27 ⟨rfl, hb_⟩; replace HR := Aside0.mk (HR.out.below hb_); replace HB := Aside0.mk (below_up HB.out HZ.out hb_); replace HZ := Aside0.mk (Nat.le_trans HZ.out hb_.size); clear hb_) | (go_at_call 37; refine (heldIntS_Lay HR.out.fr Hh2.out).mono ?_; rintro e_ w_ ⟨rfl, ⟨nd6, rfl⟩⟩))
  go_ret
  exact ⟨rfl, pw_below_drewN HB.out _⟩
set_option maxHeartbeats 1000000 in
set_option maxRecDepth 100000 in
theorem walk_PlayWorld_big (n : Int) (A0 : Option Addr) (c0 : Nat) (l : List S86) (t : Int) (w : World) (hr0 : Kd.C k86 w A0 l.length l) (hc0 : l.length ≤ c0) (hsz : laws_szActS.f l 1048576 = some t) (ht : t < 0) :
    Calls Try.prog 9 #[.int .i64 n, .slice A0 l.length c0] w fun e w' => e = .returned (.bool true) ∧ Below w.heap.size w w' := by
  have H0 := Aside0.mk hr0
  have Hsz := Aside0.mk hsz
  have HC0 := Aside0.mk hc0
  have d1 : decide (t < 0) = true := decide_eq_true ht
  clear hr0 hsz ht hc0
  go_enter Try.func9, Try.ntmps9
  go_wp2_with (go_at_call 46; (with_reducible refine (laws_szActS.calls A0 c0 l 1048576 t _ H0.out HC0.out Hsz.out).mono ?_); rintro e_ w_ ⟨rfl, ⟨nd, rfl⟩⟩)
  go_ret
  exact ⟨rfl, pw_below_drewN (Below.refl _ _) nd⟩
end Go.Proofs.Ytdoflfifnkpacaa.WP
