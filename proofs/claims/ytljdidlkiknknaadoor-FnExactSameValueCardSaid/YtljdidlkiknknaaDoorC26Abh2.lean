/-
  What a call does, told without addresses: a state, steps, and that the code follows them.
-/
import Derived.Test.YtljdidlkiknknaaDoorC26Abh1x3
import Derived.Test.YtljdidlkiknknaaDoorC26Abkin
namespace Go.Proofs.YtljdidlkiknknaaDoor.AB
open Go Go.RowKit Go.Proofs.YtljdidlkiknknaaDoorW.PrintWords Go.Proofs.YtljdidlkiknknaaDoorW.PrintMore
set_option linter.unusedSimpArgs false
set_option linter.unusedVariables false
def shapeOf.L2 (N : Nat) (l : (List TN)) (v1_54 : Int) (v1_o_0 : (List ND)) (y0 : ((List (List Int)) × Bool)) (k1 : Int → (List ND) → (List Int) → Option ((Option Sh) × Bool)) : Nat → Int → (List Int) → (List Int) → Option ((Option Sh) × Bool)
  | 0, _, _, _ => none
  | n2 + 1, v2_101, v2_o_1, v2_o_2 =>
    bif decide (v2_101 < (((y0.1.getD v1_54.toNat default).map eI).length : Int)) then
      bif inR v2_101 (y0.1.getD v1_54.toNat default).length then
        bif inR v1_54 (v1_o_0.set v1_54.toNat (ND.mk ((l.getD v1_54.toNat default).kind) ((l.getD v1_54.toNat default).n) [])).length then
          bif inR ((y0.1.getD v1_54.toNat default).getD v2_101.toNat default) (v1_o_0.set v1_54.toNat (ND.mk ((l.getD v1_54.toNat default).kind) ((l.getD v1_54.toNat default).n) [])).length then
            bif okAp (v2_o_2.length + [((y0.1.getD v1_54.toNat default).getD v2_101.toNat default)].length) 8 then
              shapeOf.L2 N l v1_54 v1_o_0 y0 (k1) n2 (IntKind.i64.wrap (v2_101 + 1)) v2_o_1 (v2_o_2 ++ [((y0.1.getD v1_54.toNat default).getD v2_101.toNat default)])
            else none
          else none
        else none
      else none
    else
      k1 (IntKind.i64.wrap (v1_54 + 1)) (v1_o_0.set v1_54.toNat (ND.mk ((l.getD v1_54.toNat default).kind) ((l.getD v1_54.toNat default).n) v2_o_2)) v2_o_1
def shapeOf.L1 (N : Nat) (l : (List TN)) (y0 : ((List (List Int)) × Bool)) : Nat → Int → (List ND) → (List Int) → Option ((Option Sh) × Bool)
  | 0, _, _, _ => none
  | n1 + 1, v1_54, v1_o_0, v1_o_1 =>
    bif decide (v1_54 < ((l.map eTN).length : Int)) then
      bif inR v1_54 l.length then
        bif inR v1_54 v1_o_1.length then
          bif decide (v1_54 > 0) then
        bif inR ((l.getD v1_54.toNat default).up) (v1_o_1.set v1_54.toNat 1).length then
          bif inR v1_54 (v1_o_1.set v1_54.toNat 1).length then
            bif inR v1_54 ((v1_o_1.set v1_54.toNat 1).set v1_54.toNat (IntKind.i64.wrap (((v1_o_1.set v1_54.toNat 1).getD ((l.getD v1_54.toNat default).up).toNat default) + 1))).length then
              bif decide ((((v1_o_1.set v1_54.toNat 1).set v1_54.toNat (IntKind.i64.wrap (((v1_o_1.set v1_54.toNat 1).getD ((l.getD v1_54.toNat default).up).toNat default) + 1))).getD v1_54.toNat default) > 8) then
          some (none, false)
        else
          bif inR v1_54 y0.1.length then
            (nodeOk.sem N (l.getD v1_54.toNat default) (((y0.1.getD v1_54.toNat default).map eI).length : Int)).bind fun y1 =>
            bif (!y1) then
            some (none, false)
          else
            bif inR v1_54 v1_o_0.length then
              shapeOf.L2 N l v1_54 v1_o_0 y0 (shapeOf.L1 N l y0 n1) N 0 ((v1_o_1.set v1_54.toNat 1).set v1_54.toNat (IntKind.i64.wrap (((v1_o_1.set v1_54.toNat 1).getD ((l.getD v1_54.toNat default).up).toNat default) + 1))) []
            else none
          else none
            else none
          else none
        else none
      else
        bif inR v1_54 (v1_o_1.set v1_54.toNat 1).length then
          bif decide (((v1_o_1.set v1_54.toNat 1).getD v1_54.toNat default) > 8) then
          some (none, false)
        else
          bif inR v1_54 y0.1.length then
            (nodeOk.sem N (l.getD v1_54.toNat default) (((y0.1.getD v1_54.toNat default).map eI).length : Int)).bind fun y1 =>
            bif (!y1) then
            some (none, false)
          else
            bif inR v1_54 v1_o_0.length then
              shapeOf.L2 N l v1_54 v1_o_0 y0 (shapeOf.L1 N l y0 n1) N 0 (v1_o_1.set v1_54.toNat 1) []
            else none
          else none
        else none
        else none
      else none
    else
      bif okND v1_o_0 then
      bif inR (0 : Int) (treesB 0 v1_o_0).length then
        some ((some ((treesB 0 v1_o_0).getD (0 : Int).toNat default)), true)
      else none
      else none
def shapeOf.L0 (N : Nat) (l : (List TN)) : Nat → Int → (List Int) → Option ((Option Sh) × Bool)
  | 0, _, _ => none
  | n0 + 1, v0_28, v0_o_0 =>
    bif decide (v0_28 < ((l.map eTN).length : Int)) then
      bif inR v0_28 l.length then
        bif inR v0_28 v0_o_0.length then
          shapeOf.L0 N l n0 (IntKind.i64.wrap (v0_28 + 1)) (v0_o_0.set v0_28.toNat ((l.getD v0_28.toNat default).up))
        else none
      else none
    else
      (kin.sem N v0_o_0).bind fun y0 =>
      bif (!y0.2) then
        some (none, false)
      else
        bif okMk 40 ((l.map eTN).length : Int) then
          bif okMk 8 ((l.map eTN).length : Int) then
            bif decide (0 < (List.replicate ((l.map eTN).length : Int).toNat [nI 0, nI 0, .v (.slice none 0 0)]).length) then
          shapeOf.L1 N l y0 N 0 (List.replicate ((l.map eTN).length : Int).toNat (ND.mk 0 0 [])) (List.replicate ((l.map eTN).length : Int).toNat 0)
        else none
          else none
        else none
def shapeOf.sem (N : Nat) (l : (List TN)) : Option ((Option Sh) × Bool) :=
    bif decide (((l.map eTN).length : Int) < 1) then
      some (none, false)
    else
      bif decide (((l.map eTN).length : Int) > 40) then
        some (none, false)
      else
        bif okMk 8 ((l.map eTN).length : Int) then
          shapeOf.L0 N l N 0 (List.replicate ((l.map eTN).length : Int).toNat 0)
        else none
set_option maxHeartbeats 1000000 in
theorem shapeOf.ok (N : Nat) (l : (List TN)) (r : ((Option Sh) × Bool)) (h : shapeOf.sem N l = some r) : Ok Tryd.prog 59 [tI (.sl 3 (l.map eTN))] (.tup [tI (oSh r.1), tI (bI r.2)]) := by
  unfold shapeOf.sem at h
  refine fnW_ok Tryd.func59 (by kernel_rfl) rfl rfl fun F hF => ?_
  rcases bif_some h with ⟨c1, h⟩ | ⟨c1, h⟩
  · obtain rfl := Option.some.inj h
    exact finW_ok (n := 400) (gs := [.b true, .a 1]) [] (ob := [decide (((l.map eTN).length : Int) < 1) = true, decide (((l.map eTN).length : Int) < 1) = true, decide (((l.map eTN).length : Int) < 1) = true, decide (((l.map eTN).length : Int) < 1) = true]) (r' := .tup [tI (.v (.pointer none)), tI (bI false)]) [] (by kernel_rfl) ⟨c1, c1, c1, c1, trivial⟩ rfl
  · rcases bif_some h with ⟨c2, h⟩ | ⟨c2, h⟩
    · obtain rfl := Option.some.inj h
      exact finW_ok (n := 400) (gs := [.b false, .b true]) [] (ob := [decide (((l.map eTN).length : Int) < 1) = false, decide (((l.map eTN).length : Int) < 1) = false, decide (((l.map eTN).length : Int) < 1) = false, decide (((l.map eTN).length : Int) < 1) = false, decide (((l.map eTN).length : Int) > 40) = true]) (r' := .tup [tI (.v (.pointer none)), tI (bI false)]) [] (by kernel_rfl) ⟨c1, c1, c1, c1, c2, trivial⟩ rfl
    · obtain ⟨c3, h⟩ := chk_some h
      refine headB_ok (n := 400) (gs := [.b false, .b false]) [] [] [0, 2, 3, 4, 26, 27, 28] [0] (ob := [decide (((l.map eTN).length : Int) < 1) = false, decide (((l.map eTN).length : Int) < 1) = false, decide (((l.map eTN).length : Int) < 1) = false, decide (((l.map eTN).length : Int) < 1) = false, decide (((l.map eTN).length : Int) > 40) = false, ((l.map eTN).length : Int) = ((l.map eTN).length : Int), 0 ≤ ((l.map eTN).length : Int), (8 : Int) * ((l.map eTN).length : Int) ≤ 281474976710656]) (b := lB (codeOf Tryd.f59) 0) (K' := lK (codeOf Tryd.f59) 0) (σ' := ⟨mkT_ 123 [(0, aI (.sl 3 (l.map eTN))), (2, aI (.v (.pointer none))), (3, aI (bI false)), (4, .t (.c (.os 0))), (26, aI (.sl 3 (l.map eTN))), (27, aI (nI ((l.map eTN).length : Int))), (28, aI (nI 0))], [.live (.row 3 1 (List.replicate ((l.map eTN).length : Int).toNat [nI 0]))]⟩) (by kernel_rfl) ⟨c1, c1, c1, c1, c2, rfl, (okMk_lo c3), (okMk_hi c3), trivial⟩ ?_
      rw [((by simp [cutC, eI, eTN]) : List.replicate ((l.map eTN).length : Int).toNat [nI 0] = (List.replicate ((l.map eTN).length : Int).toNat 0).map eI)]
      refine loop_ok (fun q : Nat × Int × (List Int) => ⟨mkT_ 123 [(0, aI (.sl 3 (l.map eTN))), (2, aI (.v (.pointer none))), (3, aI (bI false)), (4, .t (.c (.os 0))), (26, aI (.sl 3 (l.map eTN))), (27, aI (nI ((l.map eTN).length : Int))), (28, aI (nI (q.2.1)))], [.live (.row 3 1 ((q.2.2).map eI))]⟩) (fun q => shapeOf.L0 N l q.1 q.2.1 q.2.2 = some r) (fun q => q.1) (N, 0, List.replicate ((l.map eTN).length : Int).toNat 0) h ?_
      clear h
      rintro ⟨n0, v0_28, v0_o_0⟩ h R0 hR0
      replace h : shapeOf.L0 N l n0 v0_28 v0_o_0 = some r := h
      rcases n0 with _ | n0
      · cases h
      unfold shapeOf.L0 at h
      show AX _ _ _ _ _ (⟨mkT_ 123 [(0, aI (.sl 3 (l.map eTN))), (2, aI (.v (.pointer none))), (3, aI (bI false)), (4, .t (.c (.os 0))), (26, aI (.sl 3 (l.map eTN))), (27, aI (nI ((l.map eTN).length : Int))), (28, aI (nI v0_28))], [.live (.row 3 1 (v0_o_0.map eI))]⟩)
      rcases bif_some h with ⟨c4, h⟩ | ⟨c4, h⟩
      · obtain ⟨c5, h⟩ := chk_some h
        obtain ⟨c6, h⟩ := chk_some h
        exact inv_ok (n := 400) (gs := [.b true, .ys [nI ((l.getD v0_28.toNat default).kind), nI ((l.getD v0_28.toNat default).n), nI ((l.getD v0_28.toNat default).up)], .ys [nI (v0_o_0.getD v0_28.toNat default)]]) [0, 2, 3, 4, 26, 27, 28] [0] (ob := [decide (v0_28 < ((l.map eTN).length : Int)) = true, 0 ≤ v0_28, (l.map eTN)[v0_28.toNat]? = some [nI ((l.getD v0_28.toNat default).kind), nI ((l.getD v0_28.toNat default).n), nI ((l.getD v0_28.toNat default).up)], 0 ≤ v0_28, v0_28 < ((v0_o_0.map eI).length : Int), (v0_o_0.map eI)[v0_28.toNat]? = some [nI (v0_o_0.getD v0_28.toNat default)]]) (σ' := ⟨mkT_ 123 [(0, aI (.sl 3 (l.map eTN))), (2, aI (.v (.pointer none))), (3, aI (bI false)), (4, .t (.c (.os 0))), (26, aI (.sl 3 (l.map eTN))), (27, aI (nI ((l.map eTN).length : Int))), (28, aI (nI (IntKind.i64.wrap (v0_28 + 1))))], [.live (.row 3 1 ((v0_o_0.map eI).set v0_28.toNat [nI ((l.getD v0_28.toNat default).up)]))]⟩) (by kernel_rfl) ⟨c4, (inR_lo c5), (el_of eTN rfl c5), (inR_lo c6), (inR_hi (by simp [cutC]) c6), (el_of eI rfl c6), trivial⟩ (fun a w hs => hR0 (n0, IntKind.i64.wrap (v0_28 + 1), v0_o_0.set v0_28.toNat ((l.getD v0_28.toNat default).up)) a w h (Nat.lt_succ_self _) (by rw [((by simp [cutC, eI]) : (v0_o_0.map eI).set v0_28.toNat [nI ((l.getD v0_28.toNat default).up)] = (v0_o_0.set v0_28.toNat ((l.getD v0_28.toNat default).up)).map eI)] at hs; exact hs))
      · obtain ⟨y0, c7, h⟩ := bind_some' h
        rcases bif_some h with ⟨c8, h⟩ | ⟨c8, h⟩
        · obtain rfl := Option.some.inj h
          exact finW_ok (n := 400) (gs := [.b false, .fz 0, .r (.tup [tI (.sl 1 (y0.1.map eLI)), tI (bI y0.2)]), .b true]) [] (ob := [decide (v0_28 < ((l.map eTN).length : Int)) = false, Ok Tryd.prog 82 [tI (.sl 1 (v0_o_0.map eI))] (.tup [tI (.sl 1 (y0.1.map eLI)), tI (bI y0.2)]), (!y0.2) = true]) (r' := .tup [tI (.v (.pointer none)), tI (bI false)]) [] (by kernel_rfl) ⟨c4, (kin.ok N v0_o_0 y0 c7), c8, trivial⟩ rfl
        · obtain ⟨c9, h⟩ := chk_some h
          obtain ⟨c10, h⟩ := chk_some h
          refine drp_ok (n := 400) (gs := [.b false, .fz 0, .r (.tup [tI (.sl 1 (y0.1.map eLI)), tI (bI y0.2)]), .b false]) [[], [], [], [], [], [], [], []] 0 [0, 2, 3, 7, 9, 10] (ob := [decide (v0_28 < ((l.map eTN).length : Int)) = false, Ok Tryd.prog 82 [tI (.sl 1 (v0_o_0.map eI))] (.tup [tI (.sl 1 (y0.1.map eLI)), tI (bI y0.2)]), (!y0.2) = false]) [[], [], [((l.map eTN).length : Int) = ((l.map eTN).length : Int), 0 ≤ ((l.map eTN).length : Int), (40 : Int) * ((l.map eTN).length : Int) ≤ 281474976710656], [], [], [((l.map eTN).length : Int) = ((l.map eTN).length : Int), 0 ≤ ((l.map eTN).length : Int), (8 : Int) * ((l.map eTN).length : Int) ≤ 281474976710656], [], []] (K' := dK (codeOf Tryd.f59) 0) (σ' := ⟨mkT_ 123 [(0, aI (.sl 3 (l.map eTN))), (2, aI (.v (.pointer none))), (3, aI (bI false)), (7, aI (.sl 1 (y0.1.map eLI))), (9, .t (.c (.os 0))), (10, .t (.c (.os 1)))], [.live (.row 113 3 (List.replicate ((l.map eTN).length : Int).toNat [nI 0, nI 0, .v (.slice none 0 0)])), .live (.row 3 1 (List.replicate ((l.map eTN).length : Int).toNat [nI 0]))]⟩) (by kernel_rfl) ⟨c4, (kin.ok N v0_o_0 y0 c7), c8, trivial⟩ ⟨rfl, (okMk_lo c9), (okMk_hi c9), rfl, (okMk_lo c10), (okMk_hi c10), trivial⟩ ?_
          obtain ⟨c11, h⟩ := chk_some h
          refine headB_ok (n := 400) (gs := []) [] [] [2, 3, 7, 9, 10, 52, 53, 54] [0, 1] (ob := []) (b := lB (codeOf Tryd.f59) 1) (K' := lK (codeOf Tryd.f59) 1) (σ' := ⟨mkT_ 123 [(2, aI (.v (.pointer none))), (3, aI (bI false)), (7, aI (.sl 1 (y0.1.map eLI))), (9, .t (.c (.os 0))), (10, .t (.c (.os 1))), (52, aI (.sl 3 (l.map eTN))), (53, aI (nI ((l.map eTN).length : Int))), (54, aI (nI 0))], [.live (.row 113 3 (List.replicate ((l.map eTN).length : Int).toNat [nI 0, nI 0, .v (.slice none 0 0)])), .live (.row 3 1 (List.replicate ((l.map eTN).length : Int).toNat [nI 0]))]⟩) (by kernel_rfl) trivial ?_
          refine nameG_ok 0 [none, none, some 1] rfl (of_decide_eq_true c11) fun g => ?_
          show AX _ _ _ _ _ (⟨mkT_ 123 [(2, aI (.v (.pointer none))), (3, aI (bI false)), (7, aI (.sl 1 (y0.1.map eLI))), (9, .t (.c (.os 0))), (10, .t (.c (.os 1))), (52, aI (.sl 3 (l.map eTN))), (53, aI (nI ((l.map eTN).length : Int))), (54, aI (nI 0))], [.live (.rowG g 113 3 ((List.replicate ((l.map eTN).length : Int).toNat [nI 0, nI 0, .v (.slice none 0 0)]).map (wkIL [none, none, some 1])) none), .live (.row 3 1 (List.replicate ((l.map eTN).length : Int).toNat [nI 0]))]⟩)
          rw [((by simp [cutC, eTN, eND, wkIL, wkI]) : (List.replicate ((l.map eTN).length : Int).toNat [nI 0, nI 0, .v (.slice none 0 0)]).map (wkIL [none, none, some 1]) = (List.replicate ((l.map eTN).length : Int).toNat (ND.mk 0 0 [])).map (eND g))]
          rw [((by simp [cutC, eI, eTN]) : List.replicate ((l.map eTN).length : Int).toNat [nI 0] = (List.replicate ((l.map eTN).length : Int).toNat 0).map eI)]
          refine loop_ok (fun q : Nat × Int × (List ND) × (List Int) => ⟨mkT_ 123 [(2, aI (.v (.pointer none))), (3, aI (bI false)), (7, aI (.sl 1 (y0.1.map eLI))), (9, .t (.c (.os 0))), (10, .t (.c (.os 1))), (52, aI (.sl 3 (l.map eTN))), (53, aI (nI ((l.map eTN).length : Int))), (54, aI (nI (q.2.1)))], [.live (.rowG g 113 3 ((q.2.2.1).map (eND g)) none), .live (.row 3 1 ((q.2.2.2).map eI))]⟩) (fun q => shapeOf.L1 N l y0 q.1 q.2.1 q.2.2.1 q.2.2.2 = some r) (fun q => q.1) (N, 0, List.replicate ((l.map eTN).length : Int).toNat (ND.mk 0 0 []), List.replicate ((l.map eTN).length : Int).toNat 0) h ?_
          clear h
          rintro ⟨n1, v1_54, v1_o_0, v1_o_1⟩ h R1 hR1
          replace h : shapeOf.L1 N l y0 n1 v1_54 v1_o_0 v1_o_1 = some r := h
          rcases n1 with _ | n1
          · cases h
          unfold shapeOf.L1 at h
          show AX _ _ _ _ _ (⟨mkT_ 123 [(2, aI (.v (.pointer none))), (3, aI (bI false)), (7, aI (.sl 1 (y0.1.map eLI))), (9, .t (.c (.os 0))), (10, .t (.c (.os 1))), (52, aI (.sl 3 (l.map eTN))), (53, aI (nI ((l.map eTN).length : Int))), (54, aI (nI v1_54))], [.live (.rowG g 113 3 (v1_o_0.map (eND g)) none), .live (.row 3 1 (v1_o_1.map eI))]⟩)
          rcases bif_some h with ⟨c12, h⟩ | ⟨c12, h⟩
          · obtain ⟨c13, h⟩ := chk_some h
            obtain ⟨c14, h⟩ := chk_some h
            rcases bif_some h with ⟨c15, h⟩ | ⟨c15, h⟩
            · obtain ⟨c16, h⟩ := chk_some h
              obtain ⟨c17, h⟩ := chk_some h
              obtain ⟨c18, h⟩ := chk_some h
              rcases bif_some h with ⟨c19, h⟩ | ⟨c19, h⟩
              · refine drw_ok (n := 400) (gs := [.b true, .ys [nI ((l.getD v1_54.toNat default).kind), nI ((l.getD v1_54.toNat default).n), nI ((l.getD v1_54.toNat default).up)], .ys [nI (v1_o_1.getD v1_54.toNat default)], .b true, .ys [nI ((v1_o_1.set v1_54.toNat 1).getD ((l.getD v1_54.toNat default).up).toNat default)], .ys [nI ((v1_o_1.set v1_54.toNat 1).getD v1_54.toNat default)]]) [[], [], [], [.ys [nI (((v1_o_1.set v1_54.toNat 1).set v1_54.toNat (IntKind.i64.wrap (((v1_o_1.set v1_54.toNat 1).getD ((l.getD v1_54.toNat default).up).toNat default) + 1))).getD v1_54.toNat default)]], [], [], [.b true], [.b true], [.b true], [.b true], [.b true], [.b true], [.b true], [.b true], [.b true]] [2, 3, 7, 9, 10, 11, 12, 52, 53, 54, 87] [0, 1, 2] (ob := [decide (v1_54 < ((l.map eTN).length : Int)) = true, 0 ≤ v1_54, (l.map eTN)[v1_54.toNat]? = some [nI ((l.getD v1_54.toNat default).kind), nI ((l.getD v1_54.toNat default).n), nI ((l.getD v1_54.toNat default).up)], 0 ≤ v1_54, v1_54 < ((v1_o_1.map eI).length : Int), (v1_o_1.map eI)[v1_54.toNat]? = some [nI (v1_o_1.getD v1_54.toNat default)], decide (v1_54 > 0) = true, 0 ≤ ((l.getD v1_54.toNat default).up), ((l.getD v1_54.toNat default).up) < (((v1_o_1.map eI).set v1_54.toNat [nI 1]).length : Int), ((v1_o_1.map eI).set v1_54.toNat [nI 1])[((l.getD v1_54.toNat default).up).toNat]? = some [nI ((v1_o_1.set v1_54.toNat 1).getD ((l.getD v1_54.toNat default).up).toNat default)], 0 ≤ v1_54, v1_54 < (((v1_o_1.map eI).set v1_54.toNat [nI 1]).length : Int), ((v1_o_1.map eI).set v1_54.toNat [nI 1])[v1_54.toNat]? = some [nI ((v1_o_1.set v1_54.toNat 1).getD v1_54.toNat default)], 0 ≤ v1_54, v1_54 < ((((v1_o_1.map eI).set v1_54.toNat [nI 1]).set v1_54.toNat [nI (IntKind.i64.wrap (((v1_o_1.set v1_54.toNat 1).getD ((l.getD v1_54.toNat default).up).toNat default) + 1))]).length : Int), (((v1_o_1.map eI).set v1_54.toNat [nI 1]).set v1_54.toNat [nI (IntKind.i64.wrap (((v1_o_1.set v1_54.toNat 1).getD ((l.getD v1_54.toNat default).up).toNat default) + 1))])[v1_54.toNat]? = some [nI (((v1_o_1.set v1_54.toNat 1).set v1_54.toNat (IntKind.i64.wrap (((v1_o_1.set v1_54.toNat 1).getD ((l.getD v1_54.toNat default).up).toNat default) + 1))).getD v1_54.toNat default)], decide ((((v1_o_1.set v1_54.toNat 1).set v1_54.toNat (IntKind.i64.wrap (((v1_o_1.set v1_54.toNat 1).getD ((l.getD v1_54.toNat default).up).toNat default) + 1))).getD v1_54.toNat default) > 8) = true, decide ((((v1_o_1.set v1_54.toNat 1).set v1_54.toNat (IntKind.i64.wrap (((v1_o_1.set v1_54.toNat 1).getD ((l.getD v1_54.toNat default).up).toNat default) + 1))).getD v1_54.toNat default) > 8) = true, decide ((((v1_o_1.set v1_54.toNat 1).set v1_54.toNat (IntKind.i64.wrap (((v1_o_1.set v1_54.toNat 1).getD ((l.getD v1_54.toNat default).up).toNat default) + 1))).getD v1_54.toNat default) > 8) = true, decide ((((v1_o_1.set v1_54.toNat 1).set v1_54.toNat (IntKind.i64.wrap (((v1_o_1.set v1_54.toNat 1).getD ((l.getD v1_54.toNat default).up).toNat default) + 1))).getD v1_54.toNat default) > 8) = true, decide ((((v1_o_1.set v1_54.toNat 1).set v1_54.toNat (IntKind.i64.wrap (((v1_o_1.set v1_54.toNat 1).getD ((l.getD v1_54.toNat default).up).toNat default) + 1))).getD v1_54.toNat default) > 8) = true, decide ((((v1_o_1.set v1_54.toNat 1).set v1_54.toNat (IntKind.i64.wrap (((v1_o_1.set v1_54.toNat 1).getD ((l.getD v1_54.toNat default).up).toNat default) + 1))).getD v1_54.toNat default) > 8) = true, decide ((((v1_o_1.set v1_54.toNat 1).set v1_54.toNat (IntKind.i64.wrap (((v1_o_1.set v1_54.toNat 1).getD ((l.getD v1_54.toNat default).up).toNat default) + 1))).getD v1_54.toNat default) > 8) = true, decide ((((v1_o_1.set v1_54.toNat 1).set v1_54.toNat (IntKind.i64.wrap (((v1_o_1.set v1_54.toNat 1).getD ((l.getD v1_54.toNat default).up).toNat default) + 1))).getD v1_54.toNat default) > 8) = true, decide ((((v1_o_1.set v1_54.toNat 1).set v1_54.toNat (IntKind.i64.wrap (((v1_o_1.set v1_54.toNat 1).getD ((l.getD v1_54.toNat default).up).toNat default) + 1))).getD v1_54.toNat default) > 8) = true]) (K' := dK (lB (codeOf Tryd.f59) 1) 0 ++ [.inv R1] ++ lK (codeOf Tryd.f59) 1) (σ' := ⟨mkT_ 123 [(2, aI (.v (.pointer none))), (3, aI (bI false)), (7, aI (.sl 1 (y0.1.map eLI))), (9, .t (.c (.os 0))), (10, .t (.c (.os 1))), (11, aI (nI v1_54)), (12, .t (.c (.loc 2 0))), (52, aI (.sl 3 (l.map eTN))), (53, aI (nI ((l.map eTN).length : Int))), (54, aI (nI v1_54)), (87, aI (bI true))], [.live (.rowG g 113 3 (v1_o_0.map (eND g)) none), .live (.row 3 1 (((v1_o_1.map eI).set v1_54.toNat [nI 1]).set v1_54.toNat [nI (IntKind.i64.wrap (((v1_o_1.set v1_54.toNat 1).getD ((l.getD v1_54.toNat default).up).toNat default) + 1))])), .live (.box 67 [.i (nI ((l.getD v1_54.toNat default).kind)), .i (nI ((l.getD v1_54.toNat default).n)), .i (nI ((l.getD v1_54.toNat default).up))])]⟩) (by kernel_rfl) ⟨c12, (inR_lo c13), (el_of eTN rfl c13), (inR_lo c14), (inR_hi (by simp [cutC]) c14), (el_of eI rfl c14), c15, (inR_lo c16), (inR_hi (by simp [cutC]) c16), (el_of eI (by simp [cutC, eI]) c16), (inR_lo c17), (inR_hi (by simp [cutC]) c17), (el_of eI (by simp [cutC, eI]) c17), (inR_lo c18), (inR_hi (by simp [cutC]) c18), (el_of eI (by simp [cutC, eI]) c18), c19, c19, c19, c19, c19, c19, c19, c19, c19, trivial⟩ ?_
                obtain rfl := Option.some.inj h
                exact finW_ok (n := 400) (gs := [.a 1]) [] (ob := []) (r' := .tup [tI (.v (.pointer none)), tI (bI false)]) [] (by kernel_rfl) trivial rfl
              · obtain ⟨c20, h⟩ := chk_some h
                obtain ⟨y1, c21, h⟩ := bind_some' h
                refine drw_ok (n := 400) (gs := [.b true, .ys [nI ((l.getD v1_54.toNat default).kind), nI ((l.getD v1_54.toNat default).n), nI ((l.getD v1_54.toNat default).up)], .ys [nI (v1_o_1.getD v1_54.toNat default)], .b true, .ys [nI ((v1_o_1.set v1_54.toNat 1).getD ((l.getD v1_54.toNat default).up).toNat default)], .ys [nI ((v1_o_1.set v1_54.toNat 1).getD v1_54.toNat default)]]) [[], [], [], [.ys [nI (((v1_o_1.set v1_54.toNat 1).set v1_54.toNat (IntKind.i64.wrap (((v1_o_1.set v1_54.toNat 1).getD ((l.getD v1_54.toNat default).up).toNat default) + 1))).getD v1_54.toNat default)]], [], [], [.b false], [.b false], [.b false], [.b false, .ys [.sl 1 ((y0.1.getD v1_54.toNat default).map eI)]], [.b false], [.b false], [.b false, .r (aI (bI y1))], [.b false], [.b false]] [2, 3, 7, 9, 10, 11, 12, 52, 53, 54, 87] [0, 1, 2] (ob := [decide (v1_54 < ((l.map eTN).length : Int)) = true, 0 ≤ v1_54, (l.map eTN)[v1_54.toNat]? = some [nI ((l.getD v1_54.toNat default).kind), nI ((l.getD v1_54.toNat default).n), nI ((l.getD v1_54.toNat default).up)], 0 ≤ v1_54, v1_54 < ((v1_o_1.map eI).length : Int), (v1_o_1.map eI)[v1_54.toNat]? = some [nI (v1_o_1.getD v1_54.toNat default)], decide (v1_54 > 0) = true, 0 ≤ ((l.getD v1_54.toNat default).up), ((l.getD v1_54.toNat default).up) < (((v1_o_1.map eI).set v1_54.toNat [nI 1]).length : Int), ((v1_o_1.map eI).set v1_54.toNat [nI 1])[((l.getD v1_54.toNat default).up).toNat]? = some [nI ((v1_o_1.set v1_54.toNat 1).getD ((l.getD v1_54.toNat default).up).toNat default)], 0 ≤ v1_54, v1_54 < (((v1_o_1.map eI).set v1_54.toNat [nI 1]).length : Int), ((v1_o_1.map eI).set v1_54.toNat [nI 1])[v1_54.toNat]? = some [nI ((v1_o_1.set v1_54.toNat 1).getD v1_54.toNat default)], 0 ≤ v1_54, v1_54 < ((((v1_o_1.map eI).set v1_54.toNat [nI 1]).set v1_54.toNat [nI (IntKind.i64.wrap (((v1_o_1.set v1_54.toNat 1).getD ((l.getD v1_54.toNat default).up).toNat default) + 1))]).length : Int), (((v1_o_1.map eI).set v1_54.toNat [nI 1]).set v1_54.toNat [nI (IntKind.i64.wrap (((v1_o_1.set v1_54.toNat 1).getD ((l.getD v1_54.toNat default).up).toNat default) + 1))])[v1_54.toNat]? = some [nI (((v1_o_1.set v1_54.toNat 1).set v1_54.toNat (IntKind.i64.wrap (((v1_o_1.set v1_54.toNat 1).getD ((l.getD v1_54.toNat default).up).toNat default) + 1))).getD v1_54.toNat default)], decide ((((v1_o_1.set v1_54.toNat 1).set v1_54.toNat (IntKind.i64.wrap (((v1_o_1.set v1_54.toNat 1).getD ((l.getD v1_54.toNat default).up).toNat default) + 1))).getD v1_54.toNat default) > 8) = false, decide ((((v1_o_1.set v1_54.toNat 1).set v1_54.toNat (IntKind.i64.wrap (((v1_o_1.set v1_54.toNat 1).getD ((l.getD v1_54.toNat default).up).toNat default) + 1))).getD v1_54.toNat default) > 8) = false, decide ((((v1_o_1.set v1_54.toNat 1).set v1_54.toNat (IntKind.i64.wrap (((v1_o_1.set v1_54.toNat 1).getD ((l.getD v1_54.toNat default).up).toNat default) + 1))).getD v1_54.toNat default) > 8) = false, decide ((((v1_o_1.set v1_54.toNat 1).set v1_54.toNat (IntKind.i64.wrap (((v1_o_1.set v1_54.toNat 1).getD ((l.getD v1_54.toNat default).up).toNat default) + 1))).getD v1_54.toNat default) > 8) = false, 0 ≤ v1_54, (y0.1.map eLI)[v1_54.toNat]? = some [.sl 1 ((y0.1.getD v1_54.toNat default).map eI)], decide ((((v1_o_1.set v1_54.toNat 1).set v1_54.toNat (IntKind.i64.wrap (((v1_o_1.set v1_54.toNat 1).getD ((l.getD v1_54.toNat default).up).toNat default) + 1))).getD v1_54.toNat default) > 8) = false, decide ((((v1_o_1.set v1_54.toNat 1).set v1_54.toNat (IntKind.i64.wrap (((v1_o_1.set v1_54.toNat 1).getD ((l.getD v1_54.toNat default).up).toNat default) + 1))).getD v1_54.toNat default) > 8) = false, decide ((((v1_o_1.set v1_54.toNat 1).set v1_54.toNat (IntKind.i64.wrap (((v1_o_1.set v1_54.toNat 1).getD ((l.getD v1_54.toNat default).up).toNat default) + 1))).getD v1_54.toNat default) > 8) = false, Ok Tryd.prog 83 [.agg [.i (nI ((l.getD v1_54.toNat default).kind)), .i (nI ((l.getD v1_54.toNat default).n)), .i (nI ((l.getD v1_54.toNat default).up))], tI (nI (((y0.1.getD v1_54.toNat default).map eI).length : Int))] (aI (bI y1)), decide ((((v1_o_1.set v1_54.toNat 1).set v1_54.toNat (IntKind.i64.wrap (((v1_o_1.set v1_54.toNat 1).getD ((l.getD v1_54.toNat default).up).toNat default) + 1))).getD v1_54.toNat default) > 8) = false, decide ((((v1_o_1.set v1_54.toNat 1).set v1_54.toNat (IntKind.i64.wrap (((v1_o_1.set v1_54.toNat 1).getD ((l.getD v1_54.toNat default).up).toNat default) + 1))).getD v1_54.toNat default) > 8) = false]) (K' := dK (lB (codeOf Tryd.f59) 1) 0 ++ [.inv R1] ++ lK (codeOf Tryd.f59) 1) (σ' := ⟨mkT_ 123 [(2, aI (.v (.pointer none))), (3, aI (bI false)), (7, aI (.sl 1 (y0.1.map eLI))), (9, .t (.c (.os 0))), (10, .t (.c (.os 1))), (11, aI (nI v1_54)), (12, .t (.c (.loc 2 0))), (52, aI (.sl 3 (l.map eTN))), (53, aI (nI ((l.map eTN).length : Int))), (54, aI (nI v1_54)), (87, aI (bI (!y1)))], [.live (.rowG g 113 3 (v1_o_0.map (eND g)) none), .live (.row 3 1 (((v1_o_1.map eI).set v1_54.toNat [nI 1]).set v1_54.toNat [nI (IntKind.i64.wrap (((v1_o_1.set v1_54.toNat 1).getD ((l.getD v1_54.toNat default).up).toNat default) + 1))])), .live (.box 67 [.i (nI ((l.getD v1_54.toNat default).kind)), .i (nI ((l.getD v1_54.toNat default).n)), .i (nI ((l.getD v1_54.toNat default).up))])]⟩) (by kernel_rfl) ⟨c12, (inR_lo c13), (el_of eTN rfl c13), (inR_lo c14), (inR_hi (by simp [cutC]) c14), (el_of eI rfl c14), c15, (inR_lo c16), (inR_hi (by simp [cutC]) c16), (el_of eI (by simp [cutC, eI]) c16), (inR_lo c17), (inR_hi (by simp [cutC]) c17), (el_of eI (by simp [cutC, eI]) c17), (inR_lo c18), (inR_hi (by simp [cutC]) c18), (el_of eI (by simp [cutC, eI]) c18), c19, c19, c19, c19, (inR_lo c20), (el_of eLI rfl c20), c19, c19, c19, (nodeOk.ok N (l.getD v1_54.toNat default) (((y0.1.getD v1_54.toNat default).map eI).length : Int) y1 c21), c19, c19, trivial⟩ ?_
                rcases bif_some h with ⟨c22, h⟩ | ⟨c22, h⟩
                · obtain rfl := Option.some.inj h
                  exact finW_ok (n := 400) (gs := [.b true]) [] (ob := [(!y1) = true]) (r' := .tup [tI (.v (.pointer none)), tI (bI false)]) [] (by kernel_rfl) ⟨c22, trivial⟩ rfl
                · obtain ⟨c23, h⟩ := chk_some h
                  refine headB_ok (n := 400) (gs := [.b false, .ys [nI ((v1_o_0.getD v1_54.toNat default).kind), nI ((v1_o_0.getD v1_54.toNat default).n), .sl 1 (((v1_o_0.getD v1_54.toNat default).kids).map (eKp g))], .ys [.sl 1 ((y0.1.getD v1_54.toNat default).map eI)]]) [] [] [2, 3, 7, 9, 10, 11, 52, 53, 54, 99, 100, 101] [0, 1] (ob := [(!y1) = false, 0 ≤ v1_54, v1_54 < ((v1_o_0.map (eND g)).length : Int), (v1_o_0.map (eND g))[v1_54.toNat]? = some [nI ((v1_o_0.getD v1_54.toNat default).kind), nI ((v1_o_0.getD v1_54.toNat default).n), .sl 1 (((v1_o_0.getD v1_54.toNat default).kids).map (eKp g))], 0 ≤ v1_54, (y0.1.map eLI)[v1_54.toNat]? = some [.sl 1 ((y0.1.getD v1_54.toNat default).map eI)]]) (b := lB (codeOf Tryd.f59) 2) (K' := lK (lB (codeOf Tryd.f59) 1) 0 ++ [.inv R1] ++ lK (codeOf Tryd.f59) 1) (σ' := ⟨mkT_ 123 [(2, aI (.v (.pointer none))), (3, aI (bI false)), (7, aI (.sl 1 (y0.1.map eLI))), (9, .t (.c (.os 0))), (10, .t (.c (.os 1))), (11, aI (nI v1_54)), (52, aI (.sl 3 (l.map eTN))), (53, aI (nI ((l.map eTN).length : Int))), (54, aI (nI v1_54)), (99, aI (.sl 1 ((y0.1.getD v1_54.toNat default).map eI))), (100, aI (nI (((y0.1.getD v1_54.toNat default).map eI).length : Int))), (101, aI (nI 0))], [.live (.rowG g 113 3 ((v1_o_0.map (eND g)).set v1_54.toNat [nI ((l.getD v1_54.toNat default).kind), nI ((l.getD v1_54.toNat default).n), .v (.slice none 0 0)]) none), .live (.row 3 1 (((v1_o_1.map eI).set v1_54.toNat [nI 1]).set v1_54.toNat [nI (IntKind.i64.wrap (((v1_o_1.set v1_54.toNat 1).getD ((l.getD v1_54.toNat default).up).toNat default) + 1))]))]⟩) (by kernel_rfl) ⟨c22, (inR_lo c23), (inR_hi (by simp [cutC]) c23), (el_of (eND g) rfl c23), (inR_lo c20), (el_of eLI rfl c20), trivial⟩ ?_
                  refine adoptG_ok 0 v1_54.toNat 2 [nI ((l.getD v1_54.toNat default).kind), nI ((l.getD v1_54.toNat default).n), .v (.slice none 0 0)] 72 1 rfl (set_at _ (by simp [cutC]) (inR_nat c23)) rfl ?_
                  show AX _ _ _ _ _ (⟨mkT_ 123 [(2, aI (.v (.pointer none))), (3, aI (bI false)), (7, aI (.sl 1 (y0.1.map eLI))), (9, .t (.c (.os 0))), (10, .t (.c (.os 1))), (11, aI (nI v1_54)), (52, aI (.sl 3 (l.map eTN))), (53, aI (nI ((l.map eTN).length : Int))), (54, aI (nI v1_54)), (99, aI (.sl 1 ((y0.1.getD v1_54.toNat default).map eI))), (100, aI (nI (((y0.1.getD v1_54.toNat default).map eI).length : Int))), (101, aI (nI 0))], [.live (.rowG g 113 3 (((v1_o_0.map (eND g)).set v1_54.toNat [nI ((l.getD v1_54.toNat default).kind), nI ((l.getD v1_54.toNat default).n), .v (.slice none 0 0)]).set v1_54.toNat ([nI ((l.getD v1_54.toNat default).kind), nI ((l.getD v1_54.toNat default).n), .v (.slice none 0 0)].set 2 (.sl 1 []))) (some (v1_54.toNat, 2, .os 2))), .live (.row 3 1 (((v1_o_1.map eI).set v1_54.toNat [nI 1]).set v1_54.toNat [nI (IntKind.i64.wrap (((v1_o_1.set v1_54.toNat 1).getD ((l.getD v1_54.toNat default).up).toNat default) + 1))])), .live (.row 72 1 [])]⟩)
                  rw [((by simp [cutC, eND]) : ((v1_o_0.map (eND g)).set v1_54.toNat [nI ((l.getD v1_54.toNat default).kind), nI ((l.getD v1_54.toNat default).n), .v (.slice none 0 0)]).set v1_54.toNat ([nI ((l.getD v1_54.toNat default).kind), nI ((l.getD v1_54.toNat default).n), .v (.slice none 0 0)].set 2 (.sl 1 [])) = (v1_o_0.set v1_54.toNat (ND.mk ((l.getD v1_54.toNat default).kind) ((l.getD v1_54.toNat default).n) [])).map (eND g))]
                  rw [((by simp [cutC, eI]) : ((v1_o_1.map eI).set v1_54.toNat [nI 1]).set v1_54.toNat [nI (IntKind.i64.wrap (((v1_o_1.set v1_54.toNat 1).getD ((l.getD v1_54.toNat default).up).toNat default) + 1))] = ((v1_o_1.set v1_54.toNat 1).set v1_54.toNat (IntKind.i64.wrap (((v1_o_1.set v1_54.toNat 1).getD ((l.getD v1_54.toNat default).up).toNat default) + 1))).map eI)]
                  rw [((by simp [cutC, eKp]) : [] = [].map (eKp g))]
                  refine loop_ok (fun q : Nat × Int × (List Int) × (List Int) => ⟨mkT_ 123 [(2, aI (.v (.pointer none))), (3, aI (bI false)), (7, aI (.sl 1 (y0.1.map eLI))), (9, .t (.c (.os 0))), (10, .t (.c (.os 1))), (11, aI (nI v1_54)), (52, aI (.sl 3 (l.map eTN))), (53, aI (nI ((l.map eTN).length : Int))), (54, aI (nI v1_54)), (99, aI (.sl 1 ((y0.1.getD v1_54.toNat default).map eI))), (100, aI (nI (((y0.1.getD v1_54.toNat default).map eI).length : Int))), (101, aI (nI (q.2.1)))], [.live (.rowG g 113 3 ((v1_o_0.set v1_54.toNat (ND.mk ((l.getD v1_54.toNat default).kind) ((l.getD v1_54.toNat default).n) [])).map (eND g)) (some (v1_54.toNat, 2, .os 2))), .live (.row 3 1 ((q.2.2.1).map eI)), .live (.row 72 1 ((q.2.2.2).map (eKp g)))]⟩) (fun q => shapeOf.L2 N l v1_54 v1_o_0 y0 (shapeOf.L1 N l y0 n1) q.1 q.2.1 q.2.2.1 q.2.2.2 = some r) (fun q => q.1) (N, 0, (v1_o_1.set v1_54.toNat 1).set v1_54.toNat (IntKind.i64.wrap (((v1_o_1.set v1_54.toNat 1).getD ((l.getD v1_54.toNat default).up).toNat default) + 1)), []) h ?_
                  clear h
                  rintro ⟨n2, v2_101, v2_o_1, v2_o_2⟩ h R2 hR2
                  replace h : shapeOf.L2 N l v1_54 v1_o_0 y0 (shapeOf.L1 N l y0 n1) n2 v2_101 v2_o_1 v2_o_2 = some r := h
                  rcases n2 with _ | n2
                  · cases h
                  unfold shapeOf.L2 at h
                  show AX _ _ _ _ _ (⟨mkT_ 123 [(2, aI (.v (.pointer none))), (3, aI (bI false)), (7, aI (.sl 1 (y0.1.map eLI))), (9, .t (.c (.os 0))), (10, .t (.c (.os 1))), (11, aI (nI v1_54)), (52, aI (.sl 3 (l.map eTN))), (53, aI (nI ((l.map eTN).length : Int))), (54, aI (nI v1_54)), (99, aI (.sl 1 ((y0.1.getD v1_54.toNat default).map eI))), (100, aI (nI (((y0.1.getD v1_54.toNat default).map eI).length : Int))), (101, aI (nI v2_101))], [.live (.rowG g 113 3 ((v1_o_0.set v1_54.toNat (ND.mk ((l.getD v1_54.toNat default).kind) ((l.getD v1_54.toNat default).n) [])).map (eND g)) (some (v1_54.toNat, 2, .os 2))), .live (.row 3 1 (v2_o_1.map eI)), .live (.row 72 1 (v2_o_2.map (eKp g)))]⟩)
                  rcases bif_some h with ⟨c24, h⟩ | ⟨c24, h⟩
                  · obtain ⟨c25, h⟩ := chk_some h
                    obtain ⟨c26, h⟩ := chk_some h
                    obtain ⟨c27, h⟩ := chk_some h
                    obtain ⟨c28, h⟩ := chk_some h
                    refine drx_ok (n := 400) (gs := [.b true, .ys [nI ((y0.1.getD v1_54.toNat default).getD v2_101.toNat default)]]) [[], [], [], [], [], [], [], [], [], [], [], [], [], [], []] [2, 3, 7, 9, 10, 11, 52, 53, 54, 99, 100, 101] [0, 1, 4] (ob := [decide (v2_101 < (((y0.1.getD v1_54.toNat default).map eI).length : Int)) = true, 0 ≤ v2_101, ((y0.1.getD v1_54.toNat default).map eI)[v2_101.toNat]? = some [nI ((y0.1.getD v1_54.toNat default).getD v2_101.toNat default)], 0 ≤ v1_54, v1_54 < (((v1_o_0.set v1_54.toNat (ND.mk ((l.getD v1_54.toNat default).kind) ((l.getD v1_54.toNat default).n) [])).map (eND g)).length : Int), v1_54.toNat = v1_54.toNat, v1_54.toNat < ((v1_o_0.set v1_54.toNat (ND.mk ((l.getD v1_54.toNat default).kind) ((l.getD v1_54.toNat default).n) [])).map (eND g)).length, 0 ≤ ((y0.1.getD v1_54.toNat default).getD v2_101.toNat default), ((y0.1.getD v1_54.toNat default).getD v2_101.toNat default) < (((v1_o_0.set v1_54.toNat (ND.mk ((l.getD v1_54.toNat default).kind) ((l.getD v1_54.toNat default).n) [])).map (eND g)).length : Int), ((v2_o_2.map (eKp g)).length + ([[IV.op (.pointer (some ⟨g, ((y0.1.getD v1_54.toNat default).getD v2_101.toNat default).toNat * 3 + 0, none⟩))]] : List (List IV)).length) * 8 ≤ 140737488355328, 0 ≤ v1_54, v1_54 < (((v1_o_0.set v1_54.toNat (ND.mk ((l.getD v1_54.toNat default).kind) ((l.getD v1_54.toNat default).n) [])).map (eND g)).length : Int), v1_54.toNat = v1_54.toNat, v1_54.toNat < ((v1_o_0.set v1_54.toNat (ND.mk ((l.getD v1_54.toNat default).kind) ((l.getD v1_54.toNat default).n) [])).map (eND g)).length]) (K' := dK (lB (codeOf Tryd.f59) 2) 0 ++ [.inv R2] ++ lK (lB (codeOf Tryd.f59) 1) 0 ++ [.inv R1] ++ lK (codeOf Tryd.f59) 1) (σ' := ⟨mkT_ 123 [(2, aI (.v (.pointer none))), (3, aI (bI false)), (7, aI (.sl 1 (y0.1.map eLI))), (9, .t (.c (.os 0))), (10, .t (.c (.os 1))), (11, aI (nI v1_54)), (52, aI (.sl 3 (l.map eTN))), (53, aI (nI ((l.map eTN).length : Int))), (54, aI (nI v1_54)), (99, aI (.sl 1 ((y0.1.getD v1_54.toNat default).map eI))), (100, aI (nI (((y0.1.getD v1_54.toNat default).map eI).length : Int))), (101, aI (nI v2_101))], [.live (.rowG g 113 3 ((v1_o_0.set v1_54.toNat (ND.mk ((l.getD v1_54.toNat default).kind) ((l.getD v1_54.toNat default).n) [])).map (eND g)) (some (v1_54.toNat, 2, .os 2))), .live (.row 3 1 (v2_o_1.map eI)), .live (.row 72 1 ((v2_o_2.map (eKp g)) ++ [[IV.op (.pointer (some ⟨g, ((y0.1.getD v1_54.toNat default).getD v2_101.toNat default).toNat * 3 + 0, none⟩))]]))]⟩) (by kernel_rfl) ⟨c24, (inR_lo c25), (el_of eI rfl c25), (inR_lo c26), (inR_hi (by simp [cutC]) c26), rfl, (inR_nat' (by simp [cutC]) c26), (inR_lo c27), (inR_hi (by simp [cutC]) c27), (okAp_of (by simp) c28), (inR_lo c26), (inR_hi (by simp [cutC]) c26), rfl, (inR_nat' (by simp [cutC]) c26), trivial⟩ ?_
                    exact inv_ok (n := 400) (gs := []) [2, 3, 7, 9, 10, 11, 52, 53, 54, 99, 100, 101] [0, 1, 2] (ob := []) (σ' := ⟨mkT_ 123 [(2, aI (.v (.pointer none))), (3, aI (bI false)), (7, aI (.sl 1 (y0.1.map eLI))), (9, .t (.c (.os 0))), (10, .t (.c (.os 1))), (11, aI (nI v1_54)), (52, aI (.sl 3 (l.map eTN))), (53, aI (nI ((l.map eTN).length : Int))), (54, aI (nI v1_54)), (99, aI (.sl 1 ((y0.1.getD v1_54.toNat default).map eI))), (100, aI (nI (((y0.1.getD v1_54.toNat default).map eI).length : Int))), (101, aI (nI (IntKind.i64.wrap (v2_101 + 1))))], [.live (.rowG g 113 3 ((v1_o_0.set v1_54.toNat (ND.mk ((l.getD v1_54.toNat default).kind) ((l.getD v1_54.toNat default).n) [])).map (eND g)) (some (v1_54.toNat, 2, .os 2))), .live (.row 3 1 (v2_o_1.map eI)), .live (.row 72 1 ((v2_o_2.map (eKp g)) ++ [[IV.op (.pointer (some ⟨g, ((y0.1.getD v1_54.toNat default).getD v2_101.toNat default).toNat * 3 + 0, none⟩))]]))]⟩) (by kernel_rfl) trivial (fun a w hs => hR2 (n2, IntKind.i64.wrap (v2_101 + 1), v2_o_1, v2_o_2 ++ [((y0.1.getD v1_54.toNat default).getD v2_101.toNat default)]) a w h (Nat.lt_succ_self _) (by rw [((by simp [cutC, eKp]) : (v2_o_2.map (eKp g)) ++ [[IV.op (.pointer (some ⟨g, ((y0.1.getD v1_54.toNat default).getD v2_101.toNat default).toNat * 3 + 0, none⟩))]] = (v2_o_2 ++ [((y0.1.getD v1_54.toNat default).getD v2_101.toNat default)]).map (eKp g))] at hs; exact hs))
                  · refine freeze_ok 2 rfl ?_
                    refine foldG_ok 0 [nI ((l.getD v1_54.toNat default).kind), nI ((l.getD v1_54.toNat default).n), .sl 1 []] rfl (map_set_at _ (by simp [cutC]) (inR_nat c23)) ?_
                    show AX _ _ _ _ _ (⟨mkT_ 123 [(2, aI (.v (.pointer none))), (3, aI (bI false)), (7, aI (.sl 1 (y0.1.map eLI))), (9, .t (.c (.os 0))), (10, .t (.c (.os 1))), (11, aI (nI v1_54)), (52, aI (.sl 3 (l.map eTN))), (53, aI (nI ((l.map eTN).length : Int))), (54, aI (nI v1_54)), (99, aI (.sl 1 ((y0.1.getD v1_54.toNat default).map eI))), (100, aI (nI (((y0.1.getD v1_54.toNat default).map eI).length : Int))), (101, aI (nI v2_101))], [.live (.rowG g 113 3 (((v1_o_0.set v1_54.toNat (ND.mk ((l.getD v1_54.toNat default).kind) ((l.getD v1_54.toNat default).n) [])).map (eND g)).set v1_54.toNat ([nI ((l.getD v1_54.toNat default).kind), nI ((l.getD v1_54.toNat default).n), .sl 1 []].set 2 (.sl 1 (v2_o_2.map (eKp g))))) none), .live (.row 3 1 (v2_o_1.map eI)), .dead]⟩)
                    rw [((by simp [cutC, eKp, eND]) : ((v1_o_0.set v1_54.toNat (ND.mk ((l.getD v1_54.toNat default).kind) ((l.getD v1_54.toNat default).n) [])).map (eND g)).set v1_54.toNat ([nI ((l.getD v1_54.toNat default).kind), nI ((l.getD v1_54.toNat default).n), .sl 1 []].set 2 (.sl 1 (v2_o_2.map (eKp g)))) = (v1_o_0.set v1_54.toNat (ND.mk ((l.getD v1_54.toNat default).kind) ((l.getD v1_54.toNat default).n) v2_o_2)).map (eND g))]
                    exact inv_ok (n := 400) (gs := [.b false]) [2, 3, 7, 9, 10, 52, 53, 54] [0, 1] (ob := [decide (v2_101 < (((y0.1.getD v1_54.toNat default).map eI).length : Int)) = false]) (σ' := ⟨mkT_ 123 [(2, aI (.v (.pointer none))), (3, aI (bI false)), (7, aI (.sl 1 (y0.1.map eLI))), (9, .t (.c (.os 0))), (10, .t (.c (.os 1))), (52, aI (.sl 3 (l.map eTN))), (53, aI (nI ((l.map eTN).length : Int))), (54, aI (nI (IntKind.i64.wrap (v1_54 + 1))))], [.live (.rowG g 113 3 ((v1_o_0.set v1_54.toNat (ND.mk ((l.getD v1_54.toNat default).kind) ((l.getD v1_54.toNat default).n) v2_o_2)).map (eND g)) none), .live (.row 3 1 (v2_o_1.map eI))]⟩) (by kernel_rfl) ⟨c24, trivial⟩ (fun a w hs => hR1 (n1, IntKind.i64.wrap (v1_54 + 1), v1_o_0.set v1_54.toNat (ND.mk ((l.getD v1_54.toNat default).kind) ((l.getD v1_54.toNat default).n) v2_o_2), v2_o_1) a w h (Nat.lt_succ_self _) hs)
            · obtain ⟨c29, h⟩ := chk_some h
              rcases bif_some h with ⟨c30, h⟩ | ⟨c30, h⟩
              · refine drw_ok (n := 400) (gs := [.b true, .ys [nI ((l.getD v1_54.toNat default).kind), nI ((l.getD v1_54.toNat default).n), nI ((l.getD v1_54.toNat default).up)], .ys [nI (v1_o_1.getD v1_54.toNat default)], .b false]) [[], [], [], [.ys [nI ((v1_o_1.set v1_54.toNat 1).getD v1_54.toNat default)]], [], [], [.b true], [.b true], [.b true], [.b true], [.b true], [.b true], [.b true], [.b true], [.b true]] [2, 3, 7, 9, 10, 11, 12, 52, 53, 54, 87] [0, 1, 2] (ob := [decide (v1_54 < ((l.map eTN).length : Int)) = true, 0 ≤ v1_54, (l.map eTN)[v1_54.toNat]? = some [nI ((l.getD v1_54.toNat default).kind), nI ((l.getD v1_54.toNat default).n), nI ((l.getD v1_54.toNat default).up)], 0 ≤ v1_54, v1_54 < ((v1_o_1.map eI).length : Int), (v1_o_1.map eI)[v1_54.toNat]? = some [nI (v1_o_1.getD v1_54.toNat default)], decide (v1_54 > 0) = false, 0 ≤ v1_54, v1_54 < (((v1_o_1.map eI).set v1_54.toNat [nI 1]).length : Int), ((v1_o_1.map eI).set v1_54.toNat [nI 1])[v1_54.toNat]? = some [nI ((v1_o_1.set v1_54.toNat 1).getD v1_54.toNat default)], decide (((v1_o_1.set v1_54.toNat 1).getD v1_54.toNat default) > 8) = true, decide (((v1_o_1.set v1_54.toNat 1).getD v1_54.toNat default) > 8) = true, decide (((v1_o_1.set v1_54.toNat 1).getD v1_54.toNat default) > 8) = true, decide (((v1_o_1.set v1_54.toNat 1).getD v1_54.toNat default) > 8) = true, decide (((v1_o_1.set v1_54.toNat 1).getD v1_54.toNat default) > 8) = true, decide (((v1_o_1.set v1_54.toNat 1).getD v1_54.toNat default) > 8) = true, decide (((v1_o_1.set v1_54.toNat 1).getD v1_54.toNat default) > 8) = true, decide (((v1_o_1.set v1_54.toNat 1).getD v1_54.toNat default) > 8) = true, decide (((v1_o_1.set v1_54.toNat 1).getD v1_54.toNat default) > 8) = true]) (K' := dK (lB (codeOf Tryd.f59) 1) 0 ++ [.inv R1] ++ lK (codeOf Tryd.f59) 1) (σ' := ⟨mkT_ 123 [(2, aI (.v (.pointer none))), (3, aI (bI false)), (7, aI (.sl 1 (y0.1.map eLI))), (9, .t (.c (.os 0))), (10, .t (.c (.os 1))), (11, aI (nI v1_54)), (12, .t (.c (.loc 2 0))), (52, aI (.sl 3 (l.map eTN))), (53, aI (nI ((l.map eTN).length : Int))), (54, aI (nI v1_54)), (87, aI (bI true))], [.live (.rowG g 113 3 (v1_o_0.map (eND g)) none), .live (.row 3 1 ((v1_o_1.map eI).set v1_54.toNat [nI 1])), .live (.box 67 [.i (nI ((l.getD v1_54.toNat default).kind)), .i (nI ((l.getD v1_54.toNat default).n)), .i (nI ((l.getD v1_54.toNat default).up))])]⟩) (by kernel_rfl) ⟨c12, (inR_lo c13), (el_of eTN rfl c13), (inR_lo c14), (inR_hi (by simp [cutC]) c14), (el_of eI rfl c14), c15, (inR_lo c29), (inR_hi (by simp [cutC]) c29), (el_of eI (by simp [cutC, eI]) c29), c30, c30, c30, c30, c30, c30, c30, c30, c30, trivial⟩ ?_
                obtain rfl := Option.some.inj h
                exact finW_ok (n := 400) (gs := [.a 1]) [] (ob := []) (r' := .tup [tI (.v (.pointer none)), tI (bI false)]) [] (by kernel_rfl) trivial rfl
              · obtain ⟨c31, h⟩ := chk_some h
                obtain ⟨y1, c32, h⟩ := bind_some' h
                refine drw_ok (n := 400) (gs := [.b true, .ys [nI ((l.getD v1_54.toNat default).kind), nI ((l.getD v1_54.toNat default).n), nI ((l.getD v1_54.toNat default).up)], .ys [nI (v1_o_1.getD v1_54.toNat default)], .b false]) [[], [], [], [.ys [nI ((v1_o_1.set v1_54.toNat 1).getD v1_54.toNat default)]], [], [], [.b false], [.b false], [.b false], [.b false, .ys [.sl 1 ((y0.1.getD v1_54.toNat default).map eI)]], [.b false], [.b false], [.b false, .r (aI (bI y1))], [.b false], [.b false]] [2, 3, 7, 9, 10, 11, 12, 52, 53, 54, 87] [0, 1, 2] (ob := [decide (v1_54 < ((l.map eTN).length : Int)) = true, 0 ≤ v1_54, (l.map eTN)[v1_54.toNat]? = some [nI ((l.getD v1_54.toNat default).kind), nI ((l.getD v1_54.toNat default).n), nI ((l.getD v1_54.toNat default).up)], 0 ≤ v1_54, v1_54 < ((v1_o_1.map eI).length : Int), (v1_o_1.map eI)[v1_54.toNat]? = some [nI (v1_o_1.getD v1_54.toNat default)], decide (v1_54 > 0) = false, 0 ≤ v1_54, v1_54 < (((v1_o_1.map eI).set v1_54.toNat [nI 1]).length : Int), ((v1_o_1.map eI).set v1_54.toNat [nI 1])[v1_54.toNat]? = some [nI ((v1_o_1.set v1_54.toNat 1).getD v1_54.toNat default)], decide (((v1_o_1.set v1_54.toNat 1).getD v1_54.toNat default) > 8) = false, decide (((v1_o_1.set v1_54.toNat 1).getD v1_54.toNat default) > 8) = false, decide (((v1_o_1.set v1_54.toNat 1).getD v1_54.toNat default) > 8) = false, decide (((v1_o_1.set v1_54.toNat 1).getD v1_54.toNat default) > 8) = false, 0 ≤ v1_54, (y0.1.map eLI)[v1_54.toNat]? = some [.sl 1 ((y0.1.getD v1_54.toNat default).map eI)], decide (((v1_o_1.set v1_54.toNat 1).getD v1_54.toNat default) > 8) = false, decide (((v1_o_1.set v1_54.toNat 1).getD v1_54.toNat default) > 8) = false, decide (((v1_o_1.set v1_54.toNat 1).getD v1_54.toNat default) > 8) = false, Ok Tryd.prog 83 [.agg [.i (nI ((l.getD v1_54.toNat default).kind)), .i (nI ((l.getD v1_54.toNat default).n)), .i (nI ((l.getD v1_54.toNat default).up))], tI (nI (((y0.1.getD v1_54.toNat default).map eI).length : Int))] (aI (bI y1)), decide (((v1_o_1.set v1_54.toNat 1).getD v1_54.toNat default) > 8) = false, decide (((v1_o_1.set v1_54.toNat 1).getD v1_54.toNat default) > 8) = false]) (K' := dK (lB (codeOf Tryd.f59) 1) 0 ++ [.inv R1] ++ lK (codeOf Tryd.f59) 1) (σ' := ⟨mkT_ 123 [(2, aI (.v (.pointer none))), (3, aI (bI false)), (7, aI (.sl 1 (y0.1.map eLI))), (9, .t (.c (.os 0))), (10, .t (.c (.os 1))), (11, aI (nI v1_54)), (12, .t (.c (.loc 2 0))), (52, aI (.sl 3 (l.map eTN))), (53, aI (nI ((l.map eTN).length : Int))), (54, aI (nI v1_54)), (87, aI (bI (!y1)))], [.live (.rowG g 113 3 (v1_o_0.map (eND g)) none), .live (.row 3 1 ((v1_o_1.map eI).set v1_54.toNat [nI 1])), .live (.box 67 [.i (nI ((l.getD v1_54.toNat default).kind)), .i (nI ((l.getD v1_54.toNat default).n)), .i (nI ((l.getD v1_54.toNat default).up))])]⟩) (by kernel_rfl) ⟨c12, (inR_lo c13), (el_of eTN rfl c13), (inR_lo c14), (inR_hi (by simp [cutC]) c14), (el_of eI rfl c14), c15, (inR_lo c29), (inR_hi (by simp [cutC]) c29), (el_of eI (by simp [cutC, eI]) c29), c30, c30, c30, c30, (inR_lo c31), (el_of eLI rfl c31), c30, c30, c30, (nodeOk.ok N (l.getD v1_54.toNat default) (((y0.1.getD v1_54.toNat default).map eI).length : Int) y1 c32), c30, c30, trivial⟩ ?_
                rcases bif_some h with ⟨c33, h⟩ | ⟨c33, h⟩
                · obtain rfl := Option.some.inj h
                  exact finW_ok (n := 400) (gs := [.b true]) [] (ob := [(!y1) = true]) (r' := .tup [tI (.v (.pointer none)), tI (bI false)]) [] (by kernel_rfl) ⟨c33, trivial⟩ rfl
                · obtain ⟨c34, h⟩ := chk_some h
                  refine headB_ok (n := 400) (gs := [.b false, .ys [nI ((v1_o_0.getD v1_54.toNat default).kind), nI ((v1_o_0.getD v1_54.toNat default).n), .sl 1 (((v1_o_0.getD v1_54.toNat default).kids).map (eKp g))], .ys [.sl 1 ((y0.1.getD v1_54.toNat default).map eI)]]) [] [] [2, 3, 7, 9, 10, 11, 52, 53, 54, 99, 100, 101] [0, 1] (ob := [(!y1) = false, 0 ≤ v1_54, v1_54 < ((v1_o_0.map (eND g)).length : Int), (v1_o_0.map (eND g))[v1_54.toNat]? = some [nI ((v1_o_0.getD v1_54.toNat default).kind), nI ((v1_o_0.getD v1_54.toNat default).n), .sl 1 (((v1_o_0.getD v1_54.toNat default).kids).map (eKp g))], 0 ≤ v1_54, (y0.1.map eLI)[v1_54.toNat]? = some [.sl 1 ((y0.1.getD v1_54.toNat default).map eI)]]) (b := lB (codeOf Tryd.f59) 2) (K' := lK (lB (codeOf Tryd.f59) 1) 0 ++ [.inv R1] ++ lK (codeOf Tryd.f59) 1) (σ' := ⟨mkT_ 123 [(2, aI (.v (.pointer none))), (3, aI (bI false)), (7, aI (.sl 1 (y0.1.map eLI))), (9, .t (.c (.os 0))), (10, .t (.c (.os 1))), (11, aI (nI v1_54)), (52, aI (.sl 3 (l.map eTN))), (53, aI (nI ((l.map eTN).length : Int))), (54, aI (nI v1_54)), (99, aI (.sl 1 ((y0.1.getD v1_54.toNat default).map eI))), (100, aI (nI (((y0.1.getD v1_54.toNat default).map eI).length : Int))), (101, aI (nI 0))], [.live (.rowG g 113 3 ((v1_o_0.map (eND g)).set v1_54.toNat [nI ((l.getD v1_54.toNat default).kind), nI ((l.getD v1_54.toNat default).n), .v (.slice none 0 0)]) none), .live (.row 3 1 ((v1_o_1.map eI).set v1_54.toNat [nI 1]))]⟩) (by kernel_rfl) ⟨c33, (inR_lo c34), (inR_hi (by simp [cutC]) c34), (el_of (eND g) rfl c34), (inR_lo c31), (el_of eLI rfl c31), trivial⟩ ?_
                  refine adoptG_ok 0 v1_54.toNat 2 [nI ((l.getD v1_54.toNat default).kind), nI ((l.getD v1_54.toNat default).n), .v (.slice none 0 0)] 72 1 rfl (set_at _ (by simp [cutC]) (inR_nat c34)) rfl ?_
                  show AX _ _ _ _ _ (⟨mkT_ 123 [(2, aI (.v (.pointer none))), (3, aI (bI false)), (7, aI (.sl 1 (y0.1.map eLI))), (9, .t (.c (.os 0))), (10, .t (.c (.os 1))), (11, aI (nI v1_54)), (52, aI (.sl 3 (l.map eTN))), (53, aI (nI ((l.map eTN).length : Int))), (54, aI (nI v1_54)), (99, aI (.sl 1 ((y0.1.getD v1_54.toNat default).map eI))), (100, aI (nI (((y0.1.getD v1_54.toNat default).map eI).length : Int))), (101, aI (nI 0))], [.live (.rowG g 113 3 (((v1_o_0.map (eND g)).set v1_54.toNat [nI ((l.getD v1_54.toNat default).kind), nI ((l.getD v1_54.toNat default).n), .v (.slice none 0 0)]).set v1_54.toNat ([nI ((l.getD v1_54.toNat default).kind), nI ((l.getD v1_54.toNat default).n), .v (.slice none 0 0)].set 2 (.sl 1 []))) (some (v1_54.toNat, 2, .os 2))), .live (.row 3 1 ((v1_o_1.map eI).set v1_54.toNat [nI 1])), .live (.row 72 1 [])]⟩)
                  rw [((by simp [cutC, eND]) : ((v1_o_0.map (eND g)).set v1_54.toNat [nI ((l.getD v1_54.toNat default).kind), nI ((l.getD v1_54.toNat default).n), .v (.slice none 0 0)]).set v1_54.toNat ([nI ((l.getD v1_54.toNat default).kind), nI ((l.getD v1_54.toNat default).n), .v (.slice none 0 0)].set 2 (.sl 1 [])) = (v1_o_0.set v1_54.toNat (ND.mk ((l.getD v1_54.toNat default).kind) ((l.getD v1_54.toNat default).n) [])).map (eND g))]
                  rw [((by simp [cutC, eI]) : (v1_o_1.map eI).set v1_54.toNat [nI 1] = (v1_o_1.set v1_54.toNat 1).map eI)]
                  rw [((by simp [cutC, eKp]) : [] = [].map (eKp g))]
                  refine loop_ok (fun q : Nat × Int × (List Int) × (List Int) => ⟨mkT_ 123 [(2, aI (.v (.pointer none))), (3, aI (bI false)), (7, aI (.sl 1 (y0.1.map eLI))), (9, .t (.c (.os 0))), (10, .t (.c (.os 1))), (11, aI (nI v1_54)), (52, aI (.sl 3 (l.map eTN))), (53, aI (nI ((l.map eTN).length : Int))), (54, aI (nI v1_54)), (99, aI (.sl 1 ((y0.1.getD v1_54.toNat default).map eI))), (100, aI (nI (((y0.1.getD v1_54.toNat default).map eI).length : Int))), (101, aI (nI (q.2.1)))], [.live (.rowG g 113 3 ((v1_o_0.set v1_54.toNat (ND.mk ((l.getD v1_54.toNat default).kind) ((l.getD v1_54.toNat default).n) [])).map (eND g)) (some (v1_54.toNat, 2, .os 2))), .live (.row 3 1 ((q.2.2.1).map eI)), .live (.row 72 1 ((q.2.2.2).map (eKp g)))]⟩) (fun q => shapeOf.L2 N l v1_54 v1_o_0 y0 (shapeOf.L1 N l y0 n1) q.1 q.2.1 q.2.2.1 q.2.2.2 = some r) (fun q => q.1) (N, 0, v1_o_1.set v1_54.toNat 1, []) h ?_
                  clear h
                  rintro ⟨n2, v2_101, v2_o_1, v2_o_2⟩ h R2 hR2
                  replace h : shapeOf.L2 N l v1_54 v1_o_0 y0 (shapeOf.L1 N l y0 n1) n2 v2_101 v2_o_1 v2_o_2 = some r := h
                  rcases n2 with _ | n2
                  · cases h
                  unfold shapeOf.L2 at h
                  show AX _ _ _ _ _ (⟨mkT_ 123 [(2, aI (.v (.pointer none))), (3, aI (bI false)), (7, aI (.sl 1 (y0.1.map eLI))), (9, .t (.c (.os 0))), (10, .t (.c (.os 1))), (11, aI (nI v1_54)), (52, aI (.sl 3 (l.map eTN))), (53, aI (nI ((l.map eTN).length : Int))), (54, aI (nI v1_54)), (99, aI (.sl 1 ((y0.1.getD v1_54.toNat default).map eI))), (100, aI (nI (((y0.1.getD v1_54.toNat default).map eI).length : Int))), (101, aI (nI v2_101))], [.live (.rowG g 113 3 ((v1_o_0.set v1_54.toNat (ND.mk ((l.getD v1_54.toNat default).kind) ((l.getD v1_54.toNat default).n) [])).map (eND g)) (some (v1_54.toNat, 2, .os 2))), .live (.row 3 1 (v2_o_1.map eI)), .live (.row 72 1 (v2_o_2.map (eKp g)))]⟩)
                  rcases bif_some h with ⟨c35, h⟩ | ⟨c35, h⟩
                  · obtain ⟨c36, h⟩ := chk_some h
                    obtain ⟨c37, h⟩ := chk_some h
                    obtain ⟨c38, h⟩ := chk_some h
                    obtain ⟨c39, h⟩ := chk_some h
                    refine drx_ok (n := 400) (gs := [.b true, .ys [nI ((y0.1.getD v1_54.toNat default).getD v2_101.toNat default)]]) [[], [], [], [], [], [], [], [], [], [], [], [], [], [], []] [2, 3, 7, 9, 10, 11, 52, 53, 54, 99, 100, 101] [0, 1, 4] (ob := [decide (v2_101 < (((y0.1.getD v1_54.toNat default).map eI).length : Int)) = true, 0 ≤ v2_101, ((y0.1.getD v1_54.toNat default).map eI)[v2_101.toNat]? = some [nI ((y0.1.getD v1_54.toNat default).getD v2_101.toNat default)], 0 ≤ v1_54, v1_54 < (((v1_o_0.set v1_54.toNat (ND.mk ((l.getD v1_54.toNat default).kind) ((l.getD v1_54.toNat default).n) [])).map (eND g)).length : Int), v1_54.toNat = v1_54.toNat, v1_54.toNat < ((v1_o_0.set v1_54.toNat (ND.mk ((l.getD v1_54.toNat default).kind) ((l.getD v1_54.toNat default).n) [])).map (eND g)).length, 0 ≤ ((y0.1.getD v1_54.toNat default).getD v2_101.toNat default), ((y0.1.getD v1_54.toNat default).getD v2_101.toNat default) < (((v1_o_0.set v1_54.toNat (ND.mk ((l.getD v1_54.toNat default).kind) ((l.getD v1_54.toNat default).n) [])).map (eND g)).length : Int), ((v2_o_2.map (eKp g)).length + ([[IV.op (.pointer (some ⟨g, ((y0.1.getD v1_54.toNat default).getD v2_101.toNat default).toNat * 3 + 0, none⟩))]] : List (List IV)).length) * 8 ≤ 140737488355328, 0 ≤ v1_54, v1_54 < (((v1_o_0.set v1_54.toNat (ND.mk ((l.getD v1_54.toNat default).kind) ((l.getD v1_54.toNat default).n) [])).map (eND g)).length : Int), v1_54.toNat = v1_54.toNat, v1_54.toNat < ((v1_o_0.set v1_54.toNat (ND.mk ((l.getD v1_54.toNat default).kind) ((l.getD v1_54.toNat default).n) [])).map (eND g)).length]) (K' := dK (lB (codeOf Tryd.f59) 2) 0 ++ [.inv R2] ++ lK (lB (codeOf Tryd.f59) 1) 0 ++ [.inv R1] ++ lK (codeOf Tryd.f59) 1) (σ' := ⟨mkT_ 123 [(2, aI (.v (.pointer none))), (3, aI (bI false)), (7, aI (.sl 1 (y0.1.map eLI))), (9, .t (.c (.os 0))), (10, .t (.c (.os 1))), (11, aI (nI v1_54)), (52, aI (.sl 3 (l.map eTN))), (53, aI (nI ((l.map eTN).length : Int))), (54, aI (nI v1_54)), (99, aI (.sl 1 ((y0.1.getD v1_54.toNat default).map eI))), (100, aI (nI (((y0.1.getD v1_54.toNat default).map eI).length : Int))), (101, aI (nI v2_101))], [.live (.rowG g 113 3 ((v1_o_0.set v1_54.toNat (ND.mk ((l.getD v1_54.toNat default).kind) ((l.getD v1_54.toNat default).n) [])).map (eND g)) (some (v1_54.toNat, 2, .os 2))), .live (.row 3 1 (v2_o_1.map eI)), .live (.row 72 1 ((v2_o_2.map (eKp g)) ++ [[IV.op (.pointer (some ⟨g, ((y0.1.getD v1_54.toNat default).getD v2_101.toNat default).toNat * 3 + 0, none⟩))]]))]⟩) (by kernel_rfl) ⟨c35, (inR_lo c36), (el_of eI rfl c36), (inR_lo c37), (inR_hi (by simp [cutC]) c37), rfl, (inR_nat' (by simp [cutC]) c37), (inR_lo c38), (inR_hi (by simp [cutC]) c38), (okAp_of (by simp) c39), (inR_lo c37), (inR_hi (by simp [cutC]) c37), rfl, (inR_nat' (by simp [cutC]) c37), trivial⟩ ?_
                    exact inv_ok (n := 400) (gs := []) [2, 3, 7, 9, 10, 11, 52, 53, 54, 99, 100, 101] [0, 1, 2] (ob := []) (σ' := ⟨mkT_ 123 [(2, aI (.v (.pointer none))), (3, aI (bI false)), (7, aI (.sl 1 (y0.1.map eLI))), (9, .t (.c (.os 0))), (10, .t (.c (.os 1))), (11, aI (nI v1_54)), (52, aI (.sl 3 (l.map eTN))), (53, aI (nI ((l.map eTN).length : Int))), (54, aI (nI v1_54)), (99, aI (.sl 1 ((y0.1.getD v1_54.toNat default).map eI))), (100, aI (nI (((y0.1.getD v1_54.toNat default).map eI).length : Int))), (101, aI (nI (IntKind.i64.wrap (v2_101 + 1))))], [.live (.rowG g 113 3 ((v1_o_0.set v1_54.toNat (ND.mk ((l.getD v1_54.toNat default).kind) ((l.getD v1_54.toNat default).n) [])).map (eND g)) (some (v1_54.toNat, 2, .os 2))), .live (.row 3 1 (v2_o_1.map eI)), .live (.row 72 1 ((v2_o_2.map (eKp g)) ++ [[IV.op (.pointer (some ⟨g, ((y0.1.getD v1_54.toNat default).getD v2_101.toNat default).toNat * 3 + 0, none⟩))]]))]⟩) (by kernel_rfl) trivial (fun a w hs => hR2 (n2, IntKind.i64.wrap (v2_101 + 1), v2_o_1, v2_o_2 ++ [((y0.1.getD v1_54.toNat default).getD v2_101.toNat default)]) a w h (Nat.lt_succ_self _) (by rw [((by simp [cutC, eKp]) : (v2_o_2.map (eKp g)) ++ [[IV.op (.pointer (some ⟨g, ((y0.1.getD v1_54.toNat default).getD v2_101.toNat default).toNat * 3 + 0, none⟩))]] = (v2_o_2 ++ [((y0.1.getD v1_54.toNat default).getD v2_101.toNat default)]).map (eKp g))] at hs; exact hs))
                  · refine freeze_ok 2 rfl ?_
                    refine foldG_ok 0 [nI ((l.getD v1_54.toNat default).kind), nI ((l.getD v1_54.toNat default).n), .sl 1 []] rfl (map_set_at _ (by simp [cutC]) (inR_nat c34)) ?_
                    show AX _ _ _ _ _ (⟨mkT_ 123 [(2, aI (.v (.pointer none))), (3, aI (bI false)), (7, aI (.sl 1 (y0.1.map eLI))), (9, .t (.c (.os 0))), (10, .t (.c (.os 1))), (11, aI (nI v1_54)), (52, aI (.sl 3 (l.map eTN))), (53, aI (nI ((l.map eTN).length : Int))), (54, aI (nI v1_54)), (99, aI (.sl 1 ((y0.1.getD v1_54.toNat default).map eI))), (100, aI (nI (((y0.1.getD v1_54.toNat default).map eI).length : Int))), (101, aI (nI v2_101))], [.live (.rowG g 113 3 (((v1_o_0.set v1_54.toNat (ND.mk ((l.getD v1_54.toNat default).kind) ((l.getD v1_54.toNat default).n) [])).map (eND g)).set v1_54.toNat ([nI ((l.getD v1_54.toNat default).kind), nI ((l.getD v1_54.toNat default).n), .sl 1 []].set 2 (.sl 1 (v2_o_2.map (eKp g))))) none), .live (.row 3 1 (v2_o_1.map eI)), .dead]⟩)
                    rw [((by simp [cutC, eKp, eND]) : ((v1_o_0.set v1_54.toNat (ND.mk ((l.getD v1_54.toNat default).kind) ((l.getD v1_54.toNat default).n) [])).map (eND g)).set v1_54.toNat ([nI ((l.getD v1_54.toNat default).kind), nI ((l.getD v1_54.toNat default).n), .sl 1 []].set 2 (.sl 1 (v2_o_2.map (eKp g)))) = (v1_o_0.set v1_54.toNat (ND.mk ((l.getD v1_54.toNat default).kind) ((l.getD v1_54.toNat default).n) v2_o_2)).map (eND g))]
                    exact inv_ok (n := 400) (gs := [.b false]) [2, 3, 7, 9, 10, 52, 53, 54] [0, 1] (ob := [decide (v2_101 < (((y0.1.getD v1_54.toNat default).map eI).length : Int)) = false]) (σ' := ⟨mkT_ 123 [(2, aI (.v (.pointer none))), (3, aI (bI false)), (7, aI (.sl 1 (y0.1.map eLI))), (9, .t (.c (.os 0))), (10, .t (.c (.os 1))), (52, aI (.sl 3 (l.map eTN))), (53, aI (nI ((l.map eTN).length : Int))), (54, aI (nI (IntKind.i64.wrap (v1_54 + 1))))], [.live (.rowG g 113 3 ((v1_o_0.set v1_54.toNat (ND.mk ((l.getD v1_54.toNat default).kind) ((l.getD v1_54.toNat default).n) v2_o_2)).map (eND g)) none), .live (.row 3 1 (v2_o_1.map eI))]⟩) (by kernel_rfl) ⟨c35, trivial⟩ (fun a w hs => hR1 (n1, IntKind.i64.wrap (v1_54 + 1), v1_o_0.set v1_54.toNat (ND.mk ((l.getD v1_54.toNat default).kind) ((l.getD v1_54.toNat default).n) v2_o_2), v2_o_1) a w h (Nat.lt_succ_self _) hs)
          · obtain ⟨c40, h⟩ := chk_some h
            refine exitG_ok 0 ((treesB 0 v1_o_0).map eSB) rfl (fun m w Z v => exitSh c40 m w Z v) ?_
            show AX _ _ _ _ _ (⟨mkT_ 123 [(2, aI (.v (.pointer none))), (3, aI (bI false)), (7, aI (.sl 1 (y0.1.map eLI))), (9, aI (.sl 3 ((treesB 0 v1_o_0).map eSB))), (10, .t (.c (.os 1))), (52, aI (.sl 3 (l.map eTN))), (53, aI (nI ((l.map eTN).length : Int))), (54, aI (nI v1_54))], [.dead, .live (.row 3 1 (v1_o_1.map eI))]⟩)
            obtain ⟨c41, h⟩ := chk_some h
            obtain rfl := Option.some.inj h
            exact finW_ok (n := 400) (gs := [.b false, .ys [nI (((treesB 0 v1_o_0).getD (0 : Int).toNat default).kind), nI (((treesB 0 v1_o_0).getD (0 : Int).toNat default).n), .sl 1 ((((treesB 0 v1_o_0).getD (0 : Int).toNat default).kids).map eP)]]) [] (ob := [decide (v1_54 < ((l.map eTN).length : Int)) = false, 0 ≤ (0 : Int), ((treesB 0 v1_o_0).map eSB)[(0 : Int).toNat]? = some [nI (((treesB 0 v1_o_0).getD (0 : Int).toNat default).kind), nI (((treesB 0 v1_o_0).getD (0 : Int).toNat default).n), .sl 1 ((((treesB 0 v1_o_0).getD (0 : Int).toNat default).kids).map eP)]]) (r' := .tup [tI (.pt [nI (((treesB 0 v1_o_0).getD (0 : Int).toNat default).kind), nI (((treesB 0 v1_o_0).getD (0 : Int).toNat default).n), .sl 1 ((((treesB 0 v1_o_0).getD (0 : Int).toNat default).kids).map eP)]), tI (bI true)]) [] (by kernel_rfl) ⟨c12, (inR_lo c41), (el_of eSB rfl c41), trivial⟩ rfl
def datumOf.L2 (N : Nat) (l : (List VN)) (v1_50 : Int) (v1_o_0 : (List VD)) (y0 : ((List (List Int)) × Bool)) (k1 : Int → (List VD) → Option ((Option Dt) × Bool)) : Nat → Int → (List Int) → Option ((Option Dt) × Bool)
  | 0, _, _ => none
  | n2 + 1, v2_68, v2_o_1 =>
    bif decide (v2_68 < (((y0.1.getD v1_50.toNat default).map eI).length : Int)) then
      bif inR v2_68 (y0.1.getD v1_50.toNat default).length then
        bif inR v1_50 (v1_o_0.set v1_50.toNat (VD.mk ((l.getD v1_50.toNat default).n) ((l.getD v1_50.toNat default).text) [])).length then
          bif inR ((y0.1.getD v1_50.toNat default).getD v2_68.toNat default) (v1_o_0.set v1_50.toNat (VD.mk ((l.getD v1_50.toNat default).n) ((l.getD v1_50.toNat default).text) [])).length then
            bif okAp (v2_o_1.length + [((y0.1.getD v1_50.toNat default).getD v2_68.toNat default)].length) 8 then
              datumOf.L2 N l v1_50 v1_o_0 y0 (k1) n2 (IntKind.i64.wrap (v2_68 + 1)) (v2_o_1 ++ [((y0.1.getD v1_50.toNat default).getD v2_68.toNat default)])
            else none
          else none
        else none
      else none
    else
      k1 (IntKind.i64.wrap (v1_50 + 1)) (v1_o_0.set v1_50.toNat (VD.mk ((l.getD v1_50.toNat default).n) ((l.getD v1_50.toNat default).text) v2_o_1))
def datumOf.L1 (N : Nat) (l : (List VN)) (y0 : ((List (List Int)) × Bool)) : Nat → Int → (List VD) → Option ((Option Dt) × Bool)
  | 0, _, _ => none
  | n1 + 1, v1_50, v1_o_0 =>
    bif decide (v1_50 < ((l.map eVN).length : Int)) then
      bif inR v1_50 l.length then
        bif inR v1_50 v1_o_0.length then
          bif inR v1_50 y0.1.length then
            datumOf.L2 N l v1_50 v1_o_0 y0 (datumOf.L1 N l y0 n1) N 0 []
          else none
        else none
      else none
    else
      bif okVD v1_o_0 then
      bif inR (0 : Int) (dtreesB 0 v1_o_0).length then
        some ((some ((dtreesB 0 v1_o_0).getD (0 : Int).toNat default)), true)
      else none
      else none
def datumOf.L0 (N : Nat) (l : (List VN)) : Nat → Int → (List Int) → Option ((Option Dt) × Bool)
  | 0, _, _ => none
  | n0 + 1, v0_27, v0_o_0 =>
    bif decide (v0_27 < ((l.map eVN).length : Int)) then
      bif inR v0_27 l.length then
        bif inR v0_27 v0_o_0.length then
          datumOf.L0 N l n0 (IntKind.i64.wrap (v0_27 + 1)) (v0_o_0.set v0_27.toNat ((l.getD v0_27.toNat default).up))
        else none
      else none
    else
      (kin.sem N v0_o_0).bind fun y0 =>
      bif (!y0.2) then
        some (none, false)
      else
        bif okMk 48 ((l.map eVN).length : Int) then
          bif decide (0 < (List.replicate ((l.map eVN).length : Int).toNat [nI 0, sI ByteArray.empty, .v (.slice none 0 0)]).length) then
            datumOf.L1 N l y0 N 0 (List.replicate ((l.map eVN).length : Int).toNat (VD.mk 0 ByteArray.empty []))
          else none
        else none
def datumOf.sem (N : Nat) (l : (List VN)) : Option ((Option Dt) × Bool) :=
    bif decide (((l.map eVN).length : Int) < 1) then
      some (none, false)
    else
      bif decide (((l.map eVN).length : Int) > 100) then
        some (none, false)
      else
        bif okMk 8 ((l.map eVN).length : Int) then
          datumOf.L0 N l N 0 (List.replicate ((l.map eVN).length : Int).toNat 0)
        else none
set_option maxHeartbeats 1000000 in
theorem datumOf.ok (N : Nat) (l : (List VN)) (r : ((Option Dt) × Bool)) (h : datumOf.sem N l = some r) : Ok Tryd.prog 60 [tI (.sl 3 (l.map eVN))] (.tup [tI (oDt r.1), tI (bI r.2)]) := by
  unfold datumOf.sem at h
  refine fnW_ok Tryd.func60 (by kernel_rfl) rfl rfl fun F hF => ?_
  rcases bif_some h with ⟨c1, h⟩ | ⟨c1, h⟩
  · obtain rfl := Option.some.inj h
    exact finW_ok (n := 400) (gs := [.b true, .a 1]) [] (ob := [decide (((l.map eVN).length : Int) < 1) = true, decide (((l.map eVN).length : Int) < 1) = true, decide (((l.map eVN).length : Int) < 1) = true, decide (((l.map eVN).length : Int) < 1) = true]) (r' := .tup [tI (.v (.pointer none)), tI (bI false)]) [] (by kernel_rfl) ⟨c1, c1, c1, c1, trivial⟩ rfl
  · rcases bif_some h with ⟨c2, h⟩ | ⟨c2, h⟩
    · obtain rfl := Option.some.inj h
      exact finW_ok (n := 400) (gs := [.b false, .b true]) [] (ob := [decide (((l.map eVN).length : Int) < 1) = false, decide (((l.map eVN).length : Int) < 1) = false, decide (((l.map eVN).length : Int) < 1) = false, decide (((l.map eVN).length : Int) < 1) = false, decide (((l.map eVN).length : Int) > 100) = true]) (r' := .tup [tI (.v (.pointer none)), tI (bI false)]) [] (by kernel_rfl) ⟨c1, c1, c1, c1, c2, trivial⟩ rfl
    · obtain ⟨c3, h⟩ := chk_some h
      refine headB_ok (n := 400) (gs := [.b false, .b false]) [] [] [0, 2, 3, 4, 25, 26, 27] [0] (ob := [decide (((l.map eVN).length : Int) < 1) = false, decide (((l.map eVN).length : Int) < 1) = false, decide (((l.map eVN).length : Int) < 1) = false, decide (((l.map eVN).length : Int) < 1) = false, decide (((l.map eVN).length : Int) > 100) = false, ((l.map eVN).length : Int) = ((l.map eVN).length : Int), 0 ≤ ((l.map eVN).length : Int), (8 : Int) * ((l.map eVN).length : Int) ≤ 281474976710656]) (b := lB (codeOf Tryd.f60) 0) (K' := lK (codeOf Tryd.f60) 0) (σ' := ⟨mkT_ 90 [(0, aI (.sl 3 (l.map eVN))), (2, aI (.v (.pointer none))), (3, aI (bI false)), (4, .t (.c (.os 0))), (25, aI (.sl 3 (l.map eVN))), (26, aI (nI ((l.map eVN).length : Int))), (27, aI (nI 0))], [.live (.row 3 1 (List.replicate ((l.map eVN).length : Int).toNat [nI 0]))]⟩) (by kernel_rfl) ⟨c1, c1, c1, c1, c2, rfl, (okMk_lo c3), (okMk_hi c3), trivial⟩ ?_
      rw [((by simp [cutC, eI, eVN]) : List.replicate ((l.map eVN).length : Int).toNat [nI 0] = (List.replicate ((l.map eVN).length : Int).toNat 0).map eI)]
      refine loop_ok (fun q : Nat × Int × (List Int) => ⟨mkT_ 90 [(0, aI (.sl 3 (l.map eVN))), (2, aI (.v (.pointer none))), (3, aI (bI false)), (4, .t (.c (.os 0))), (25, aI (.sl 3 (l.map eVN))), (26, aI (nI ((l.map eVN).length : Int))), (27, aI (nI (q.2.1)))], [.live (.row 3 1 ((q.2.2).map eI))]⟩) (fun q => datumOf.L0 N l q.1 q.2.1 q.2.2 = some r) (fun q => q.1) (N, 0, List.replicate ((l.map eVN).length : Int).toNat 0) h ?_
      clear h
      rintro ⟨n0, v0_27, v0_o_0⟩ h R0 hR0
      replace h : datumOf.L0 N l n0 v0_27 v0_o_0 = some r := h
      rcases n0 with _ | n0
      · cases h
      unfold datumOf.L0 at h
      show AX _ _ _ _ _ (⟨mkT_ 90 [(0, aI (.sl 3 (l.map eVN))), (2, aI (.v (.pointer none))), (3, aI (bI false)), (4, .t (.c (.os 0))), (25, aI (.sl 3 (l.map eVN))), (26, aI (nI ((l.map eVN).length : Int))), (27, aI (nI v0_27))], [.live (.row 3 1 (v0_o_0.map eI))]⟩)
      rcases bif_some h with ⟨c4, h⟩ | ⟨c4, h⟩
      · obtain ⟨c5, h⟩ := chk_some h
        obtain ⟨c6, h⟩ := chk_some h
        exact inv_ok (n := 400) (gs := [.b true, .ys [nI ((l.getD v0_27.toNat default).n), sI ((l.getD v0_27.toNat default).text), nI ((l.getD v0_27.toNat default).up)], .ys [nI (v0_o_0.getD v0_27.toNat default)]]) [0, 2, 3, 4, 25, 26, 27] [0] (ob := [decide (v0_27 < ((l.map eVN).length : Int)) = true, 0 ≤ v0_27, (l.map eVN)[v0_27.toNat]? = some [nI ((l.getD v0_27.toNat default).n), sI ((l.getD v0_27.toNat default).text), nI ((l.getD v0_27.toNat default).up)], 0 ≤ v0_27, v0_27 < ((v0_o_0.map eI).length : Int), (v0_o_0.map eI)[v0_27.toNat]? = some [nI (v0_o_0.getD v0_27.toNat default)]]) (σ' := ⟨mkT_ 90 [(0, aI (.sl 3 (l.map eVN))), (2, aI (.v (.pointer none))), (3, aI (bI false)), (4, .t (.c (.os 0))), (25, aI (.sl 3 (l.map eVN))), (26, aI (nI ((l.map eVN).length : Int))), (27, aI (nI (IntKind.i64.wrap (v0_27 + 1))))], [.live (.row 3 1 ((v0_o_0.map eI).set v0_27.toNat [nI ((l.getD v0_27.toNat default).up)]))]⟩) (by kernel_rfl) ⟨c4, (inR_lo c5), (el_of eVN rfl c5), (inR_lo c6), (inR_hi (by simp [cutC]) c6), (el_of eI rfl c6), trivial⟩ (fun a w hs => hR0 (n0, IntKind.i64.wrap (v0_27 + 1), v0_o_0.set v0_27.toNat ((l.getD v0_27.toNat default).up)) a w h (Nat.lt_succ_self _) (by rw [((by simp [cutC, eI]) : (v0_o_0.map eI).set v0_27.toNat [nI ((l.getD v0_27.toNat default).up)] = (v0_o_0.set v0_27.toNat ((l.getD v0_27.toNat default).up)).map eI)] at hs; exact hs))
      · obtain ⟨y0, c7, h⟩ := bind_some' h
        rcases bif_some h with ⟨c8, h⟩ | ⟨c8, h⟩
        · obtain rfl := Option.some.inj h
          exact finW_ok (n := 400) (gs := [.b false, .fz 0, .r (.tup [tI (.sl 1 (y0.1.map eLI)), tI (bI y0.2)]), .b true]) [] (ob := [decide (v0_27 < ((l.map eVN).length : Int)) = false, Ok Tryd.prog 82 [tI (.sl 1 (v0_o_0.map eI))] (.tup [tI (.sl 1 (y0.1.map eLI)), tI (bI y0.2)]), (!y0.2) = true]) (r' := .tup [tI (.v (.pointer none)), tI (bI false)]) [] (by kernel_rfl) ⟨c4, (kin.ok N v0_o_0 y0 c7), c8, trivial⟩ rfl
        · obtain ⟨c9, h⟩ := chk_some h
          obtain ⟨c10, h⟩ := chk_some h
          refine headB_ok (n := 400) (gs := [.b false, .fz 0, .r (.tup [tI (.sl 1 (y0.1.map eLI)), tI (bI y0.2)]), .b false]) [] [] [2, 3, 7, 9, 48, 49, 50] [1] (ob := [decide (v0_27 < ((l.map eVN).length : Int)) = false, Ok Tryd.prog 82 [tI (.sl 1 (v0_o_0.map eI))] (.tup [tI (.sl 1 (y0.1.map eLI)), tI (bI y0.2)]), (!y0.2) = false, ((l.map eVN).length : Int) = ((l.map eVN).length : Int), 0 ≤ ((l.map eVN).length : Int), (48 : Int) * ((l.map eVN).length : Int) ≤ 281474976710656]) (b := lB (codeOf Tryd.f60) 1) (K' := lK (codeOf Tryd.f60) 1) (σ' := ⟨mkT_ 90 [(2, aI (.v (.pointer none))), (3, aI (bI false)), (7, aI (.sl 1 (y0.1.map eLI))), (9, .t (.c (.os 0))), (48, aI (.sl 3 (l.map eVN))), (49, aI (nI ((l.map eVN).length : Int))), (50, aI (nI 0))], [.live (.row 116 3 (List.replicate ((l.map eVN).length : Int).toNat [nI 0, sI ByteArray.empty, .v (.slice none 0 0)]))]⟩) (by kernel_rfl) ⟨c4, (kin.ok N v0_o_0 y0 c7), c8, rfl, (okMk_lo c9), (okMk_hi c9), trivial⟩ ?_
          refine nameG_ok 0 [none, none, some 1] rfl (of_decide_eq_true c10) fun g => ?_
          show AX _ _ _ _ _ (⟨mkT_ 90 [(2, aI (.v (.pointer none))), (3, aI (bI false)), (7, aI (.sl 1 (y0.1.map eLI))), (9, .t (.c (.os 0))), (48, aI (.sl 3 (l.map eVN))), (49, aI (nI ((l.map eVN).length : Int))), (50, aI (nI 0))], [.live (.rowG g 116 3 ((List.replicate ((l.map eVN).length : Int).toNat [nI 0, sI ByteArray.empty, .v (.slice none 0 0)]).map (wkIL [none, none, some 1])) none)]⟩)
          rw [((by simp [cutC, eVN, eVD, wkIL, wkI]) : (List.replicate ((l.map eVN).length : Int).toNat [nI 0, sI ByteArray.empty, .v (.slice none 0 0)]).map (wkIL [none, none, some 1]) = (List.replicate ((l.map eVN).length : Int).toNat (VD.mk 0 ByteArray.empty [])).map (eVD g))]
          refine loop_ok (fun q : Nat × Int × (List VD) => ⟨mkT_ 90 [(2, aI (.v (.pointer none))), (3, aI (bI false)), (7, aI (.sl 1 (y0.1.map eLI))), (9, .t (.c (.os 0))), (48, aI (.sl 3 (l.map eVN))), (49, aI (nI ((l.map eVN).length : Int))), (50, aI (nI (q.2.1)))], [.live (.rowG g 116 3 ((q.2.2).map (eVD g)) none)]⟩) (fun q => datumOf.L1 N l y0 q.1 q.2.1 q.2.2 = some r) (fun q => q.1) (N, 0, List.replicate ((l.map eVN).length : Int).toNat (VD.mk 0 ByteArray.empty [])) h ?_
          clear h
          rintro ⟨n1, v1_50, v1_o_0⟩ h R1 hR1
          replace h : datumOf.L1 N l y0 n1 v1_50 v1_o_0 = some r := h
          rcases n1 with _ | n1
          · cases h
          unfold datumOf.L1 at h
          show AX _ _ _ _ _ (⟨mkT_ 90 [(2, aI (.v (.pointer none))), (3, aI (bI false)), (7, aI (.sl 1 (y0.1.map eLI))), (9, .t (.c (.os 0))), (48, aI (.sl 3 (l.map eVN))), (49, aI (nI ((l.map eVN).length : Int))), (50, aI (nI v1_50))], [.live (.rowG g 116 3 (v1_o_0.map (eVD g)) none)]⟩)
          rcases bif_some h with ⟨c11, h⟩ | ⟨c11, h⟩
          · obtain ⟨c12, h⟩ := chk_some h
            obtain ⟨c13, h⟩ := chk_some h
            obtain ⟨c14, h⟩ := chk_some h
            refine headB_ok (n := 400) (gs := [.b true, .ys [nI ((l.getD v1_50.toNat default).n), sI ((l.getD v1_50.toNat default).text), nI ((l.getD v1_50.toNat default).up)], .ys [nI ((v1_o_0.getD v1_50.toNat default).n), sI ((v1_o_0.getD v1_50.toNat default).text), .sl 1 (((v1_o_0.getD v1_50.toNat default).kids).map (eKp g))], .ys [.sl 1 ((y0.1.getD v1_50.toNat default).map eI)]]) [] [] [2, 3, 7, 9, 10, 48, 49, 50, 66, 67, 68] [0] (ob := [decide (v1_50 < ((l.map eVN).length : Int)) = true, 0 ≤ v1_50, (l.map eVN)[v1_50.toNat]? = some [nI ((l.getD v1_50.toNat default).n), sI ((l.getD v1_50.toNat default).text), nI ((l.getD v1_50.toNat default).up)], 0 ≤ v1_50, v1_50 < ((v1_o_0.map (eVD g)).length : Int), (v1_o_0.map (eVD g))[v1_50.toNat]? = some [nI ((v1_o_0.getD v1_50.toNat default).n), sI ((v1_o_0.getD v1_50.toNat default).text), .sl 1 (((v1_o_0.getD v1_50.toNat default).kids).map (eKp g))], 0 ≤ v1_50, (y0.1.map eLI)[v1_50.toNat]? = some [.sl 1 ((y0.1.getD v1_50.toNat default).map eI)]]) (b := lB (codeOf Tryd.f60) 2) (K' := lK (lB (codeOf Tryd.f60) 1) 0 ++ [.inv R1] ++ lK (codeOf Tryd.f60) 1) (σ' := ⟨mkT_ 90 [(2, aI (.v (.pointer none))), (3, aI (bI false)), (7, aI (.sl 1 (y0.1.map eLI))), (9, .t (.c (.os 0))), (10, aI (nI v1_50)), (48, aI (.sl 3 (l.map eVN))), (49, aI (nI ((l.map eVN).length : Int))), (50, aI (nI v1_50)), (66, aI (.sl 1 ((y0.1.getD v1_50.toNat default).map eI))), (67, aI (nI (((y0.1.getD v1_50.toNat default).map eI).length : Int))), (68, aI (nI 0))], [.live (.rowG g 116 3 ((v1_o_0.map (eVD g)).set v1_50.toNat [nI ((l.getD v1_50.toNat default).n), sI ((l.getD v1_50.toNat default).text), .v (.slice none 0 0)]) none)]⟩) (by kernel_rfl) ⟨c11, (inR_lo c12), (el_of eVN rfl c12), (inR_lo c13), (inR_hi (by simp [cutC]) c13), (el_of (eVD g) rfl c13), (inR_lo c14), (el_of eLI rfl c14), trivial⟩ ?_
            refine adoptG_ok 0 v1_50.toNat 2 [nI ((l.getD v1_50.toNat default).n), sI ((l.getD v1_50.toNat default).text), .v (.slice none 0 0)] 73 1 rfl (set_at _ (by simp [cutC]) (inR_nat c13)) rfl ?_
            show AX _ _ _ _ _ (⟨mkT_ 90 [(2, aI (.v (.pointer none))), (3, aI (bI false)), (7, aI (.sl 1 (y0.1.map eLI))), (9, .t (.c (.os 0))), (10, aI (nI v1_50)), (48, aI (.sl 3 (l.map eVN))), (49, aI (nI ((l.map eVN).length : Int))), (50, aI (nI v1_50)), (66, aI (.sl 1 ((y0.1.getD v1_50.toNat default).map eI))), (67, aI (nI (((y0.1.getD v1_50.toNat default).map eI).length : Int))), (68, aI (nI 0))], [.live (.rowG g 116 3 (((v1_o_0.map (eVD g)).set v1_50.toNat [nI ((l.getD v1_50.toNat default).n), sI ((l.getD v1_50.toNat default).text), .v (.slice none 0 0)]).set v1_50.toNat ([nI ((l.getD v1_50.toNat default).n), sI ((l.getD v1_50.toNat default).text), .v (.slice none 0 0)].set 2 (.sl 1 []))) (some (v1_50.toNat, 2, .os 1))), .live (.row 73 1 [])]⟩)
            rw [((by simp [cutC, eVD]) : ((v1_o_0.map (eVD g)).set v1_50.toNat [nI ((l.getD v1_50.toNat default).n), sI ((l.getD v1_50.toNat default).text), .v (.slice none 0 0)]).set v1_50.toNat ([nI ((l.getD v1_50.toNat default).n), sI ((l.getD v1_50.toNat default).text), .v (.slice none 0 0)].set 2 (.sl 1 [])) = (v1_o_0.set v1_50.toNat (VD.mk ((l.getD v1_50.toNat default).n) ((l.getD v1_50.toNat default).text) [])).map (eVD g))]
            rw [((by simp [cutC, eKp]) : [] = [].map (eKp g))]
            refine loop_ok (fun q : Nat × Int × (List Int) => ⟨mkT_ 90 [(2, aI (.v (.pointer none))), (3, aI (bI false)), (7, aI (.sl 1 (y0.1.map eLI))), (9, .t (.c (.os 0))), (10, aI (nI v1_50)), (48, aI (.sl 3 (l.map eVN))), (49, aI (nI ((l.map eVN).length : Int))), (50, aI (nI v1_50)), (66, aI (.sl 1 ((y0.1.getD v1_50.toNat default).map eI))), (67, aI (nI (((y0.1.getD v1_50.toNat default).map eI).length : Int))), (68, aI (nI (q.2.1)))], [.live (.rowG g 116 3 ((v1_o_0.set v1_50.toNat (VD.mk ((l.getD v1_50.toNat default).n) ((l.getD v1_50.toNat default).text) [])).map (eVD g)) (some (v1_50.toNat, 2, .os 1))), .live (.row 73 1 ((q.2.2).map (eKp g)))]⟩) (fun q => datumOf.L2 N l v1_50 v1_o_0 y0 (datumOf.L1 N l y0 n1) q.1 q.2.1 q.2.2 = some r) (fun q => q.1) (N, 0, []) h ?_
            clear h
            rintro ⟨n2, v2_68, v2_o_1⟩ h R2 hR2
            replace h : datumOf.L2 N l v1_50 v1_o_0 y0 (datumOf.L1 N l y0 n1) n2 v2_68 v2_o_1 = some r := h
            rcases n2 with _ | n2
            · cases h
            unfold datumOf.L2 at h
            show AX _ _ _ _ _ (⟨mkT_ 90 [(2, aI (.v (.pointer none))), (3, aI (bI false)), (7, aI (.sl 1 (y0.1.map eLI))), (9, .t (.c (.os 0))), (10, aI (nI v1_50)), (48, aI (.sl 3 (l.map eVN))), (49, aI (nI ((l.map eVN).length : Int))), (50, aI (nI v1_50)), (66, aI (.sl 1 ((y0.1.getD v1_50.toNat default).map eI))), (67, aI (nI (((y0.1.getD v1_50.toNat default).map eI).length : Int))), (68, aI (nI v2_68))], [.live (.rowG g 116 3 ((v1_o_0.set v1_50.toNat (VD.mk ((l.getD v1_50.toNat default).n) ((l.getD v1_50.toNat default).text) [])).map (eVD g)) (some (v1_50.toNat, 2, .os 1))), .live (.row 73 1 (v2_o_1.map (eKp g)))]⟩)
            rcases bif_some h with ⟨c15, h⟩ | ⟨c15, h⟩
            · obtain ⟨c16, h⟩ := chk_some h
              obtain ⟨c17, h⟩ := chk_some h
              obtain ⟨c18, h⟩ := chk_some h
              obtain ⟨c19, h⟩ := chk_some h
              refine drx_ok (n := 400) (gs := [.b true, .ys [nI ((y0.1.getD v1_50.toNat default).getD v2_68.toNat default)]]) [[], [], [], [], [], [], [], [], [], [], [], [], [], [], []] [2, 3, 7, 9, 10, 48, 49, 50, 66, 67, 68] [0, 3] (ob := [decide (v2_68 < (((y0.1.getD v1_50.toNat default).map eI).length : Int)) = true, 0 ≤ v2_68, ((y0.1.getD v1_50.toNat default).map eI)[v2_68.toNat]? = some [nI ((y0.1.getD v1_50.toNat default).getD v2_68.toNat default)], 0 ≤ v1_50, v1_50 < (((v1_o_0.set v1_50.toNat (VD.mk ((l.getD v1_50.toNat default).n) ((l.getD v1_50.toNat default).text) [])).map (eVD g)).length : Int), v1_50.toNat = v1_50.toNat, v1_50.toNat < ((v1_o_0.set v1_50.toNat (VD.mk ((l.getD v1_50.toNat default).n) ((l.getD v1_50.toNat default).text) [])).map (eVD g)).length, 0 ≤ ((y0.1.getD v1_50.toNat default).getD v2_68.toNat default), ((y0.1.getD v1_50.toNat default).getD v2_68.toNat default) < (((v1_o_0.set v1_50.toNat (VD.mk ((l.getD v1_50.toNat default).n) ((l.getD v1_50.toNat default).text) [])).map (eVD g)).length : Int), ((v2_o_1.map (eKp g)).length + ([[IV.op (.pointer (some ⟨g, ((y0.1.getD v1_50.toNat default).getD v2_68.toNat default).toNat * 3 + 0, none⟩))]] : List (List IV)).length) * 8 ≤ 140737488355328, 0 ≤ v1_50, v1_50 < (((v1_o_0.set v1_50.toNat (VD.mk ((l.getD v1_50.toNat default).n) ((l.getD v1_50.toNat default).text) [])).map (eVD g)).length : Int), v1_50.toNat = v1_50.toNat, v1_50.toNat < ((v1_o_0.set v1_50.toNat (VD.mk ((l.getD v1_50.toNat default).n) ((l.getD v1_50.toNat default).text) [])).map (eVD g)).length]) (K' := dK (lB (codeOf Tryd.f60) 2) 0 ++ [.inv R2] ++ lK (lB (codeOf Tryd.f60) 1) 0 ++ [.inv R1] ++ lK (codeOf Tryd.f60) 1) (σ' := ⟨mkT_ 90 [(2, aI (.v (.pointer none))), (3, aI (bI false)), (7, aI (.sl 1 (y0.1.map eLI))), (9, .t (.c (.os 0))), (10, aI (nI v1_50)), (48, aI (.sl 3 (l.map eVN))), (49, aI (nI ((l.map eVN).length : Int))), (50, aI (nI v1_50)), (66, aI (.sl 1 ((y0.1.getD v1_50.toNat default).map eI))), (67, aI (nI (((y0.1.getD v1_50.toNat default).map eI).length : Int))), (68, aI (nI v2_68))], [.live (.rowG g 116 3 ((v1_o_0.set v1_50.toNat (VD.mk ((l.getD v1_50.toNat default).n) ((l.getD v1_50.toNat default).text) [])).map (eVD g)) (some (v1_50.toNat, 2, .os 1))), .live (.row 73 1 ((v2_o_1.map (eKp g)) ++ [[IV.op (.pointer (some ⟨g, ((y0.1.getD v1_50.toNat default).getD v2_68.toNat default).toNat * 3 + 0, none⟩))]]))]⟩) (by kernel_rfl) ⟨c15, (inR_lo c16), (el_of eI rfl c16), (inR_lo c17), (inR_hi (by simp [cutC]) c17), rfl, (inR_nat' (by simp [cutC]) c17), (inR_lo c18), (inR_hi (by simp [cutC]) c18), (okAp_of (by simp) c19), (inR_lo c17), (inR_hi (by simp [cutC]) c17), rfl, (inR_nat' (by simp [cutC]) c17), trivial⟩ ?_
              exact inv_ok (n := 400) (gs := []) [2, 3, 7, 9, 10, 48, 49, 50, 66, 67, 68] [0, 1] (ob := []) (σ' := ⟨mkT_ 90 [(2, aI (.v (.pointer none))), (3, aI (bI false)), (7, aI (.sl 1 (y0.1.map eLI))), (9, .t (.c (.os 0))), (10, aI (nI v1_50)), (48, aI (.sl 3 (l.map eVN))), (49, aI (nI ((l.map eVN).length : Int))), (50, aI (nI v1_50)), (66, aI (.sl 1 ((y0.1.getD v1_50.toNat default).map eI))), (67, aI (nI (((y0.1.getD v1_50.toNat default).map eI).length : Int))), (68, aI (nI (IntKind.i64.wrap (v2_68 + 1))))], [.live (.rowG g 116 3 ((v1_o_0.set v1_50.toNat (VD.mk ((l.getD v1_50.toNat default).n) ((l.getD v1_50.toNat default).text) [])).map (eVD g)) (some (v1_50.toNat, 2, .os 1))), .live (.row 73 1 ((v2_o_1.map (eKp g)) ++ [[IV.op (.pointer (some ⟨g, ((y0.1.getD v1_50.toNat default).getD v2_68.toNat default).toNat * 3 + 0, none⟩))]]))]⟩) (by kernel_rfl) trivial (fun a w hs => hR2 (n2, IntKind.i64.wrap (v2_68 + 1), v2_o_1 ++ [((y0.1.getD v1_50.toNat default).getD v2_68.toNat default)]) a w h (Nat.lt_succ_self _) (by rw [((by simp [cutC, eKp]) : (v2_o_1.map (eKp g)) ++ [[IV.op (.pointer (some ⟨g, ((y0.1.getD v1_50.toNat default).getD v2_68.toNat default).toNat * 3 + 0, none⟩))]] = (v2_o_1 ++ [((y0.1.getD v1_50.toNat default).getD v2_68.toNat default)]).map (eKp g))] at hs; exact hs))
            · refine freeze_ok 1 rfl ?_
              refine foldG_ok 0 [nI ((l.getD v1_50.toNat default).n), sI ((l.getD v1_50.toNat default).text), .sl 1 []] rfl (map_set_at _ (by simp [cutC]) (inR_nat c13)) ?_
              show AX _ _ _ _ _ (⟨mkT_ 90 [(2, aI (.v (.pointer none))), (3, aI (bI false)), (7, aI (.sl 1 (y0.1.map eLI))), (9, .t (.c (.os 0))), (10, aI (nI v1_50)), (48, aI (.sl 3 (l.map eVN))), (49, aI (nI ((l.map eVN).length : Int))), (50, aI (nI v1_50)), (66, aI (.sl 1 ((y0.1.getD v1_50.toNat default).map eI))), (67, aI (nI (((y0.1.getD v1_50.toNat default).map eI).length : Int))), (68, aI (nI v2_68))], [.live (.rowG g 116 3 (((v1_o_0.set v1_50.toNat (VD.mk ((l.getD v1_50.toNat default).n) ((l.getD v1_50.toNat default).text) [])).map (eVD g)).set v1_50.toNat ([nI ((l.getD v1_50.toNat default).n), sI ((l.getD v1_50.toNat default).text), .sl 1 []].set 2 (.sl 1 (v2_o_1.map (eKp g))))) none), .dead]⟩)
              rw [((by simp [cutC, eKp, eVD]) : ((v1_o_0.set v1_50.toNat (VD.mk ((l.getD v1_50.toNat default).n) ((l.getD v1_50.toNat default).text) [])).map (eVD g)).set v1_50.toNat ([nI ((l.getD v1_50.toNat default).n), sI ((l.getD v1_50.toNat default).text), .sl 1 []].set 2 (.sl 1 (v2_o_1.map (eKp g)))) = (v1_o_0.set v1_50.toNat (VD.mk ((l.getD v1_50.toNat default).n) ((l.getD v1_50.toNat default).text) v2_o_1)).map (eVD g))]
              exact inv_ok (n := 400) (gs := [.b false]) [2, 3, 7, 9, 48, 49, 50] [0] (ob := [decide (v2_68 < (((y0.1.getD v1_50.toNat default).map eI).length : Int)) = false]) (σ' := ⟨mkT_ 90 [(2, aI (.v (.pointer none))), (3, aI (bI false)), (7, aI (.sl 1 (y0.1.map eLI))), (9, .t (.c (.os 0))), (48, aI (.sl 3 (l.map eVN))), (49, aI (nI ((l.map eVN).length : Int))), (50, aI (nI (IntKind.i64.wrap (v1_50 + 1))))], [.live (.rowG g 116 3 ((v1_o_0.set v1_50.toNat (VD.mk ((l.getD v1_50.toNat default).n) ((l.getD v1_50.toNat default).text) v2_o_1)).map (eVD g)) none)]⟩) (by kernel_rfl) ⟨c15, trivial⟩ (fun a w hs => hR1 (n1, IntKind.i64.wrap (v1_50 + 1), v1_o_0.set v1_50.toNat (VD.mk ((l.getD v1_50.toNat default).n) ((l.getD v1_50.toNat default).text) v2_o_1)) a w h (Nat.lt_succ_self _) hs)
          · obtain ⟨c20, h⟩ := chk_some h
            refine exitG_ok 0 ((dtreesB 0 v1_o_0).map eDB) rfl (fun m w Z v => exitDt c20 m w Z v) ?_
            show AX _ _ _ _ _ (⟨mkT_ 90 [(2, aI (.v (.pointer none))), (3, aI (bI false)), (7, aI (.sl 1 (y0.1.map eLI))), (9, aI (.sl 3 ((dtreesB 0 v1_o_0).map eDB))), (48, aI (.sl 3 (l.map eVN))), (49, aI (nI ((l.map eVN).length : Int))), (50, aI (nI v1_50))], [.dead]⟩)
            obtain ⟨c21, h⟩ := chk_some h
            obtain rfl := Option.some.inj h
            exact finW_ok (n := 400) (gs := [.b false, .ys [nI (((dtreesB 0 v1_o_0).getD (0 : Int).toNat default).n), sI (((dtreesB 0 v1_o_0).getD (0 : Int).toNat default).text), .sl 1 ((((dtreesB 0 v1_o_0).getD (0 : Int).toNat default).kids).map eQ)]]) [] (ob := [decide (v1_50 < ((l.map eVN).length : Int)) = false, 0 ≤ (0 : Int), ((dtreesB 0 v1_o_0).map eDB)[(0 : Int).toNat]? = some [nI (((dtreesB 0 v1_o_0).getD (0 : Int).toNat default).n), sI (((dtreesB 0 v1_o_0).getD (0 : Int).toNat default).text), .sl 1 ((((dtreesB 0 v1_o_0).getD (0 : Int).toNat default).kids).map eQ)]]) (r' := .tup [tI (.pt [nI (((dtreesB 0 v1_o_0).getD (0 : Int).toNat default).n), sI (((dtreesB 0 v1_o_0).getD (0 : Int).toNat default).text), .sl 1 ((((dtreesB 0 v1_o_0).getD (0 : Int).toNat default).kids).map eQ)]), tI (bI true)]) [] (by kernel_rfl) ⟨c11, (inR_lo c21), (el_of eDB rfl c21), trivial⟩ rfl
def typed.sem (N : Nat) (t : (List TN)) (v : (List VN)) : Option ((Option Sh) × (Option Dt) × Bool) :=
    (shapeOf.sem N t).bind fun y0 =>
    bif (!y0.2) then
      some (none, none, false)
    else
      (datumOf.sem N v).bind fun y1 =>
      bif (!y1.2) then
        some (none, none, false)
      else
        optM y0.1 (
          none) fun p2 =>
          optM y1.1 (
            none) fun p3 =>
            (fits.sem N p2 p3).bind fun y4 =>
            bif (!y4) then
              some (none, none, false)
            else
              some ((some p2), (some p3), true)
set_option maxHeartbeats 1000000 in
theorem typed.ok (N : Nat) (t : (List TN)) (v : (List VN)) (r : ((Option Sh) × (Option Dt) × Bool)) (h : typed.sem N t v = some r) : Ok Tryd.prog 38 [tI (.sl 3 (t.map eTN)), tI (.sl 3 (v.map eVN))] (.tup [tI (oSh r.1), tI (oDt r.2.1), tI (bI r.2.2)]) := by
  unfold typed.sem at h
  refine fnW_ok Tryd.func38 (by kernel_rfl) rfl rfl fun F hF => ?_
  obtain ⟨y0, c1, h⟩ := bind_some' h
  rcases bif_some h with ⟨c2, h⟩ | ⟨c2, h⟩
  · obtain rfl := Option.some.inj h
    exact finW_ok (n := 400) (gs := [.r (.tup [tI (oSh y0.1), tI (bI y0.2)]), .b true]) [] (ob := [Ok Tryd.prog 59 [tI (.sl 3 (t.map eTN))] (.tup [tI (oSh y0.1), tI (bI y0.2)]), (!y0.2) = true]) (r' := .tup [tI (.v (.pointer none)), tI (.v (.pointer none)), tI (bI false)]) [] (by kernel_rfl) ⟨(shapeOf.ok N t y0 c1), c2, trivial⟩ rfl
  · obtain ⟨y1, c3, h⟩ := bind_some' h
    rcases bif_some h with ⟨c4, h⟩ | ⟨c4, h⟩
    · obtain rfl := Option.some.inj h
      exact finW_ok (n := 400) (gs := [.r (.tup [tI (oSh y0.1), tI (bI y0.2)]), .b false, .r (.tup [tI (oDt y1.1), tI (bI y1.2)]), .b true, .a 1]) [] (ob := [Ok Tryd.prog 59 [tI (.sl 3 (t.map eTN))] (.tup [tI (oSh y0.1), tI (bI y0.2)]), (!y0.2) = false, Ok Tryd.prog 60 [tI (.sl 3 (v.map eVN))] (.tup [tI (oDt y1.1), tI (bI y1.2)]), (!y1.2) = true, (!y1.2) = true, (!y1.2) = true, (!y1.2) = true, (!y1.2) = true]) (r' := .tup [tI (.v (.pointer none)), tI (.v (.pointer none)), tI (bI false)]) [] (by kernel_rfl) ⟨(shapeOf.ok N t y0 c1), c2, (datumOf.ok N v y1 c3), c4, c4, c4, c4, c4, trivial⟩ rfl
    · rcases optM_some h with ⟨c5, h⟩ | ⟨p2, c5, h⟩
      · try rw [c5]
        cases h
      · try rw [c5]
        rcases optM_some h with ⟨c6, h⟩ | ⟨p3, c6, h⟩
        · try rw [c6]
          cases h
        · try rw [c6]
          obtain ⟨y4, c7, h⟩ := bind_some' h
          rcases bif_some h with ⟨c8, h⟩ | ⟨c8, h⟩
          · obtain rfl := Option.some.inj h
            exact finW_ok (n := 400) (gs := [.r (.tup [tI (.pt [nI p2.kind, nI p2.n, .sl 1 (p2.kids.map eP)]), tI (bI y0.2)]), .b false, .r (.tup [tI (.pt [nI p3.n, sI p3.text, .sl 1 (p3.kids.map eQ)]), tI (bI y1.2)]), .b false, .r (aI (bI y4)), .b true]) [] (ob := [Ok Tryd.prog 59 [tI (.sl 3 (t.map eTN))] (.tup [tI (.pt [nI p2.kind, nI p2.n, .sl 1 (p2.kids.map eP)]), tI (bI y0.2)]), (!y0.2) = false, Ok Tryd.prog 60 [tI (.sl 3 (v.map eVN))] (.tup [tI (.pt [nI p3.n, sI p3.text, .sl 1 (p3.kids.map eQ)]), tI (bI y1.2)]), (!y1.2) = false, (!y1.2) = false, (!y1.2) = false, Ok Tryd.prog 61 [tI (.pt [nI p2.kind, nI p2.n, .sl 1 (p2.kids.map eP)]), tI (.pt [nI p3.n, sI p3.text, .sl 1 (p3.kids.map eQ)])] (aI (bI y4)), (!y1.2) = false, (!y1.2) = false, (!y4) = true]) (r' := .tup [tI (.v (.pointer none)), tI (.v (.pointer none)), tI (bI false)]) [] (by kernel_rfl) ⟨(by have q := (shapeOf.ok N t y0 c1); simp only [c5] at q; exact q), c2, (by have q := (datumOf.ok N v y1 c3); simp only [c6] at q; exact q), c4, c4, c4, (fits.ok N p2 p3 y4 c7), c4, c4, c8, trivial⟩ rfl
          · obtain rfl := Option.some.inj h
            exact finW_ok (n := 400) (gs := [.r (.tup [tI (.pt [nI p2.kind, nI p2.n, .sl 1 (p2.kids.map eP)]), tI (bI y0.2)]), .b false, .r (.tup [tI (.pt [nI p3.n, sI p3.text, .sl 1 (p3.kids.map eQ)]), tI (bI y1.2)]), .b false, .r (aI (bI y4)), .b false]) [] (ob := [Ok Tryd.prog 59 [tI (.sl 3 (t.map eTN))] (.tup [tI (.pt [nI p2.kind, nI p2.n, .sl 1 (p2.kids.map eP)]), tI (bI y0.2)]), (!y0.2) = false, Ok Tryd.prog 60 [tI (.sl 3 (v.map eVN))] (.tup [tI (.pt [nI p3.n, sI p3.text, .sl 1 (p3.kids.map eQ)]), tI (bI y1.2)]), (!y1.2) = false, (!y1.2) = false, (!y1.2) = false, Ok Tryd.prog 61 [tI (.pt [nI p2.kind, nI p2.n, .sl 1 (p2.kids.map eP)]), tI (.pt [nI p3.n, sI p3.text, .sl 1 (p3.kids.map eQ)])] (aI (bI y4)), (!y1.2) = false, (!y1.2) = false, (!y4) = false]) (r' := .tup [tI (.pt [nI p2.kind, nI p2.n, .sl 1 (p2.kids.map eP)]), tI (.pt [nI p3.n, sI p3.text, .sl 1 (p3.kids.map eQ)]), tI (bI true)]) [] (by kernel_rfl) ⟨(by have q := (shapeOf.ok N t y0 c1); simp only [c5] at q; exact q), c2, (by have q := (datumOf.ok N v y1 c3); simp only [c6] at q; exact q), c4, c4, c4, (fits.ok N p2 p3 y4 c7), c4, c4, c8, trivial⟩ rfl
def iFits.sem (N : Nat) (t : (List TN)) (v : (List VN)) : Option Bool :=
    (typed.sem N t v).bind fun y0 =>
    some y0.2.2
set_option maxHeartbeats 1000000 in
theorem iFits.ok (N : Nat) (t : (List TN)) (v : (List VN)) (r : Bool) (h : iFits.sem N t v = some r) : Ok Tryd.prog 14 [tI (.sl 3 (t.map eTN)), tI (.sl 3 (v.map eVN))] (aI (bI r)) := by
  unfold iFits.sem at h
  refine fnW_ok Tryd.func14 (by kernel_rfl) rfl rfl fun F hF => ?_
  obtain ⟨y0, c1, h⟩ := bind_some' h
  obtain rfl := Option.some.inj h
  exact finW_ok (n := 400) (gs := [.r (.tup [tI (oSh y0.1), tI (oDt y0.2.1), tI (bI y0.2.2)])]) [] (ob := [Ok Tryd.prog 38 [tI (.sl 3 (t.map eTN)), tI (.sl 3 (v.map eVN))] (.tup [tI (oSh y0.1), tI (oDt y0.2.1), tI (bI y0.2.2)])]) (r' := aI (bI y0.2.2)) [] (by kernel_rfl) ⟨(typed.ok N t v y0 c1), trivial⟩ rfl
def lawFits.sem (N : Nat) (t : (List TN)) (v : (List VN)) : Option Bool :=
    (szTN.sem N t 1048576).bind fun y0 =>
    bif decide (y0 < 0) then
      some true
    else
      (szVN.sem N v y0).bind fun y1 =>
      bif decide (y1 < 0) then
        some true
      else
        (toTN.sem N t).bind fun y2 =>
        (toVN.sem N v).bind fun y3 =>
        (sFits.sem N y2 y3).bind fun y4 =>
        (toTN.sem N t).bind fun y5 =>
        (toVN.sem N v).bind fun y6 =>
        (iFits.sem N y5 y6).bind fun y7 =>
        bif (!(y7 == y4)) then
          some false
        else
          (toTN.sem N t).bind fun y8 =>
          (eqTN.sem N y5 y8).bind fun y9 =>
          bif (!y9) then
            some false
          else
            (toVN.sem N v).bind fun y10 =>
            (eqVN.sem N y6 y10).bind fun y11 =>
            bif (!y11) then
              some false
            else
              some true
set_option maxHeartbeats 1000000 in
theorem lawFits.ok (N : Nat) (t : (List TN)) (v : (List VN)) (r : Bool) (h : lawFits.sem N t v = some r) : Ok Tryd.prog 3 [tI (.sl 3 (t.map eTN)), tI (.sl 3 (v.map eVN))] (aI (bI r)) := by
  unfold lawFits.sem at h
  refine fnW_ok Tryd.func3 (by kernel_rfl) rfl rfl fun F hF => ?_
  obtain ⟨y0, c1, h⟩ := bind_some' h
  rcases bif_some h with ⟨c2, h⟩ | ⟨c2, h⟩
  · obtain rfl := Option.some.inj h
    exact finW_ok (n := 400) (gs := [.r (aI (nI y0)), .b true]) [] (ob := [Ok Tryd.prog 9 [tI (.sl 3 (t.map eTN)), tI (nI 1048576)] (aI (nI y0)), decide (y0 < 0) = true]) (r' := aI (bI true)) [] (by kernel_rfl) ⟨(szTN.ok N t 1048576 y0 c1), c2, trivial⟩ rfl
  · obtain ⟨y1, c3, h⟩ := bind_some' h
    rcases bif_some h with ⟨c4, h⟩ | ⟨c4, h⟩
    · obtain rfl := Option.some.inj h
      exact finW_ok (n := 400) (gs := [.r (aI (nI y0)), .b false, .r (aI (nI y1)), .b true]) [] (ob := [Ok Tryd.prog 9 [tI (.sl 3 (t.map eTN)), tI (nI 1048576)] (aI (nI y0)), decide (y0 < 0) = false, Ok Tryd.prog 10 [tI (.sl 3 (v.map eVN)), tI (nI y0)] (aI (nI y1)), decide (y1 < 0) = true]) (r' := aI (bI true)) [] (by kernel_rfl) ⟨(szTN.ok N t 1048576 y0 c1), c2, (szVN.ok N v y0 y1 c3), c4, trivial⟩ rfl
    · obtain ⟨y2, c5, h⟩ := bind_some' h
      obtain ⟨y3, c6, h⟩ := bind_some' h
      obtain ⟨y4, c7, h⟩ := bind_some' h
      obtain ⟨y5, c8, h⟩ := bind_some' h
      obtain ⟨y6, c9, h⟩ := bind_some' h
      obtain ⟨y7, c10, h⟩ := bind_some' h
      rcases bif_some h with ⟨c11, h⟩ | ⟨c11, h⟩
      · obtain rfl := Option.some.inj h
        exact finW_ok (n := 400) (gs := [.r (aI (nI y0)), .b false, .r (aI (nI y1)), .b false, .r (aI (.sl 3 (y2.map eTN))), .r (aI (.sl 3 (y3.map eVN))), .r (aI (bI y4)), .r (aI (.sl 3 (y5.map eTN))), .r (aI (.sl 3 (y6.map eVN))), .r (aI (bI y7)), .b true]) [] (ob := [Ok Tryd.prog 9 [tI (.sl 3 (t.map eTN)), tI (nI 1048576)] (aI (nI y0)), decide (y0 < 0) = false, Ok Tryd.prog 10 [tI (.sl 3 (v.map eVN)), tI (nI y0)] (aI (nI y1)), decide (y1 < 0) = false, Ok Tryd.prog 12 [tI (.sl 3 (t.map eTN))] (aI (.sl 3 (y2.map eTN))), Ok Tryd.prog 13 [tI (.sl 3 (v.map eVN))] (aI (.sl 3 (y3.map eVN))), Ok Tryd.prog 11 [tI (.sl 3 (y2.map eTN)), tI (.sl 3 (y3.map eVN))] (aI (bI y4)), Ok Tryd.prog 12 [tI (.sl 3 (t.map eTN))] (aI (.sl 3 (y5.map eTN))), Ok Tryd.prog 13 [tI (.sl 3 (v.map eVN))] (aI (.sl 3 (y6.map eVN))), Ok Tryd.prog 14 [tI (.sl 3 (y5.map eTN)), tI (.sl 3 (y6.map eVN))] (aI (bI y7)), (!(y7 == y4)) = true]) (r' := aI (bI false)) [] (by kernel_rfl) ⟨(szTN.ok N t 1048576 y0 c1), c2, (szVN.ok N v y0 y1 c3), c4, (toTN.ok N t y2 c5), (toVN.ok N v y3 c6), (sFits.ok N y2 y3 y4 c7), (toTN.ok N t y5 c8), (toVN.ok N v y6 c9), (iFits.ok N y5 y6 y7 c10), c11, trivial⟩ rfl
      · obtain ⟨y8, c12, h⟩ := bind_some' h
        obtain ⟨y9, c13, h⟩ := bind_some' h
        rcases bif_some h with ⟨c14, h⟩ | ⟨c14, h⟩
        · obtain rfl := Option.some.inj h
          exact finW_ok (n := 400) (gs := [.r (aI (nI y0)), .b false, .r (aI (nI y1)), .b false, .r (aI (.sl 3 (y2.map eTN))), .r (aI (.sl 3 (y3.map eVN))), .r (aI (bI y4)), .r (aI (.sl 3 (y5.map eTN))), .r (aI (.sl 3 (y6.map eVN))), .r (aI (bI y7)), .b false, .r (aI (.sl 3 (y8.map eTN))), .r (aI (bI y9)), .b true]) [] (ob := [Ok Tryd.prog 9 [tI (.sl 3 (t.map eTN)), tI (nI 1048576)] (aI (nI y0)), decide (y0 < 0) = false, Ok Tryd.prog 10 [tI (.sl 3 (v.map eVN)), tI (nI y0)] (aI (nI y1)), decide (y1 < 0) = false, Ok Tryd.prog 12 [tI (.sl 3 (t.map eTN))] (aI (.sl 3 (y2.map eTN))), Ok Tryd.prog 13 [tI (.sl 3 (v.map eVN))] (aI (.sl 3 (y3.map eVN))), Ok Tryd.prog 11 [tI (.sl 3 (y2.map eTN)), tI (.sl 3 (y3.map eVN))] (aI (bI y4)), Ok Tryd.prog 12 [tI (.sl 3 (t.map eTN))] (aI (.sl 3 (y5.map eTN))), Ok Tryd.prog 13 [tI (.sl 3 (v.map eVN))] (aI (.sl 3 (y6.map eVN))), Ok Tryd.prog 14 [tI (.sl 3 (y5.map eTN)), tI (.sl 3 (y6.map eVN))] (aI (bI y7)), (!(y7 == y4)) = false, Ok Tryd.prog 12 [tI (.sl 3 (t.map eTN))] (aI (.sl 3 (y8.map eTN))), Ok Tryd.prog 15 [tI (.sl 3 (y5.map eTN)), tI (.sl 3 (y8.map eTN))] (aI (bI y9)), (!y9) = true]) (r' := aI (bI false)) [] (by kernel_rfl) ⟨(szTN.ok N t 1048576 y0 c1), c2, (szVN.ok N v y0 y1 c3), c4, (toTN.ok N t y2 c5), (toVN.ok N v y3 c6), (sFits.ok N y2 y3 y4 c7), (toTN.ok N t y5 c8), (toVN.ok N v y6 c9), (iFits.ok N y5 y6 y7 c10), c11, (toTN.ok N t y8 c12), (eqTN.ok N y5 y8 y9 c13), c14, trivial⟩ rfl
        · obtain ⟨y10, c15, h⟩ := bind_some' h
          obtain ⟨y11, c16, h⟩ := bind_some' h
          rcases bif_some h with ⟨c17, h⟩ | ⟨c17, h⟩
          · obtain rfl := Option.some.inj h
            exact finW_ok (n := 400) (gs := [.r (aI (nI y0)), .b false, .r (aI (nI y1)), .b false, .r (aI (.sl 3 (y2.map eTN))), .r (aI (.sl 3 (y3.map eVN))), .r (aI (bI y4)), .r (aI (.sl 3 (y5.map eTN))), .r (aI (.sl 3 (y6.map eVN))), .r (aI (bI y7)), .b false, .r (aI (.sl 3 (y8.map eTN))), .r (aI (bI y9)), .b false, .r (aI (.sl 3 (y10.map eVN))), .r (aI (bI y11)), .b true]) [] (ob := [Ok Tryd.prog 9 [tI (.sl 3 (t.map eTN)), tI (nI 1048576)] (aI (nI y0)), decide (y0 < 0) = false, Ok Tryd.prog 10 [tI (.sl 3 (v.map eVN)), tI (nI y0)] (aI (nI y1)), decide (y1 < 0) = false, Ok Tryd.prog 12 [tI (.sl 3 (t.map eTN))] (aI (.sl 3 (y2.map eTN))), Ok Tryd.prog 13 [tI (.sl 3 (v.map eVN))] (aI (.sl 3 (y3.map eVN))), Ok Tryd.prog 11 [tI (.sl 3 (y2.map eTN)), tI (.sl 3 (y3.map eVN))] (aI (bI y4)), Ok Tryd.prog 12 [tI (.sl 3 (t.map eTN))] (aI (.sl 3 (y5.map eTN))), Ok Tryd.prog 13 [tI (.sl 3 (v.map eVN))] (aI (.sl 3 (y6.map eVN))), Ok Tryd.prog 14 [tI (.sl 3 (y5.map eTN)), tI (.sl 3 (y6.map eVN))] (aI (bI y7)), (!(y7 == y4)) = false, Ok Tryd.prog 12 [tI (.sl 3 (t.map eTN))] (aI (.sl 3 (y8.map eTN))), Ok Tryd.prog 15 [tI (.sl 3 (y5.map eTN)), tI (.sl 3 (y8.map eTN))] (aI (bI y9)), (!y9) = false, Ok Tryd.prog 13 [tI (.sl 3 (v.map eVN))] (aI (.sl 3 (y10.map eVN))), Ok Tryd.prog 16 [tI (.sl 3 (y6.map eVN)), tI (.sl 3 (y10.map eVN))] (aI (bI y11)), (!y11) = true]) (r' := aI (bI false)) [] (by kernel_rfl) ⟨(szTN.ok N t 1048576 y0 c1), c2, (szVN.ok N v y0 y1 c3), c4, (toTN.ok N t y2 c5), (toVN.ok N v y3 c6), (sFits.ok N y2 y3 y4 c7), (toTN.ok N t y5 c8), (toVN.ok N v y6 c9), (iFits.ok N y5 y6 y7 c10), c11, (toTN.ok N t y8 c12), (eqTN.ok N y5 y8 y9 c13), c14, (toVN.ok N v y10 c15), (eqVN.ok N y6 y10 y11 c16), c17, trivial⟩ rfl
          · obtain rfl := Option.some.inj h
            exact finW_ok (n := 400) (gs := [.r (aI (nI y0)), .b false, .r (aI (nI y1)), .b false, .r (aI (.sl 3 (y2.map eTN))), .r (aI (.sl 3 (y3.map eVN))), .r (aI (bI y4)), .r (aI (.sl 3 (y5.map eTN))), .r (aI (.sl 3 (y6.map eVN))), .r (aI (bI y7)), .b false, .r (aI (.sl 3 (y8.map eTN))), .r (aI (bI y9)), .b false, .r (aI (.sl 3 (y10.map eVN))), .r (aI (bI y11)), .b false]) [] (ob := [Ok Tryd.prog 9 [tI (.sl 3 (t.map eTN)), tI (nI 1048576)] (aI (nI y0)), decide (y0 < 0) = false, Ok Tryd.prog 10 [tI (.sl 3 (v.map eVN)), tI (nI y0)] (aI (nI y1)), decide (y1 < 0) = false, Ok Tryd.prog 12 [tI (.sl 3 (t.map eTN))] (aI (.sl 3 (y2.map eTN))), Ok Tryd.prog 13 [tI (.sl 3 (v.map eVN))] (aI (.sl 3 (y3.map eVN))), Ok Tryd.prog 11 [tI (.sl 3 (y2.map eTN)), tI (.sl 3 (y3.map eVN))] (aI (bI y4)), Ok Tryd.prog 12 [tI (.sl 3 (t.map eTN))] (aI (.sl 3 (y5.map eTN))), Ok Tryd.prog 13 [tI (.sl 3 (v.map eVN))] (aI (.sl 3 (y6.map eVN))), Ok Tryd.prog 14 [tI (.sl 3 (y5.map eTN)), tI (.sl 3 (y6.map eVN))] (aI (bI y7)), (!(y7 == y4)) = false, Ok Tryd.prog 12 [tI (.sl 3 (t.map eTN))] (aI (.sl 3 (y8.map eTN))), Ok Tryd.prog 15 [tI (.sl 3 (y5.map eTN)), tI (.sl 3 (y8.map eTN))] (aI (bI y9)), (!y9) = false, Ok Tryd.prog 13 [tI (.sl 3 (v.map eVN))] (aI (.sl 3 (y10.map eVN))), Ok Tryd.prog 16 [tI (.sl 3 (y6.map eVN)), tI (.sl 3 (y10.map eVN))] (aI (bI y11)), (!y11) = false]) (r' := aI (bI true)) [] (by kernel_rfl) ⟨(szTN.ok N t 1048576 y0 c1), c2, (szVN.ok N v y0 y1 c3), c4, (toTN.ok N t y2 c5), (toVN.ok N v y3 c6), (sFits.ok N y2 y3 y4 c7), (toTN.ok N t y5 c8), (toVN.ok N v y6 c9), (iFits.ok N y5 y6 y7 c10), c11, (toTN.ok N t y8 c12), (eqTN.ok N y5 y8 y9 c13), c14, (toVN.ok N v y10 c15), (eqVN.ok N y6 y10 y11 c16), c17, trivial⟩ rfl
end Go.Proofs.YtljdidlkiknknaaDoor.AB
