/-
  What a call does, told without addresses: a state, steps, and that the code follows them.
-/
import Derived.Test.YtljdidlkiknknaaDoorC26Abh1p
namespace Go.Proofs.YtljdidlkiknknaaDoor.AB
open Go Go.RowKit Go.Proofs.YtljdidlkiknknaaDoorW.PrintWords Go.Proofs.YtljdidlkiknknaaDoorW.PrintMore
set_option linter.unusedSimpArgs false
set_option linter.unusedVariables false
def l1In.sem (N : Nat) (a : Int) (lo : Int) (hi : Int) : Option Bool :=
    bif decide (a ≥ lo) then
      some (decide (a ≤ hi))
    else
      some false
set_option maxHeartbeats 1000000 in
theorem l1In.ok (N : Nat) (a : Int) (lo : Int) (hi : Int) (r : Bool) (h : l1In.sem N a lo hi = some r) : Ok Tryd.prog 52 [tI (nI a), tI (nI lo), tI (nI hi)] (aI (bI r)) := by
  unfold l1In.sem at h
  refine fnW_ok Tryd.func52 (by kernel_rfl) rfl rfl fun F hF => ?_
  rcases bif_some h with ⟨c1, h⟩ | ⟨c1, h⟩
  · obtain rfl := Option.some.inj h
    exact finW_ok (n := 400) (gs := [.b true]) [] (ob := [decide (a ≥ lo) = true, decide (a ≥ lo) = true, decide (a ≥ lo) = true, decide (a ≥ lo) = true]) (r' := aI (bI (decide (a ≤ hi)))) [] (by kernel_rfl) ⟨c1, c1, c1, c1, trivial⟩ rfl
  · obtain rfl := Option.some.inj h
    exact finW_ok (n := 400) (gs := [.b false]) [] (ob := [decide (a ≥ lo) = false, decide (a ≥ lo) = false, decide (a ≥ lo) = false, decide (a ≥ lo) = false]) (r' := aI (bI false)) [] (by kernel_rfl) ⟨c1, c1, c1, c1, trivial⟩ rfl
def l11Shape.sem (N : Nat) (k : Int) : Option (Int × Int × Int × Int) :=
    bif (k == 13) then
      some (1, 1, 0, 0)
    else
      bif (k == 17) then
        some (1, 1, 0, 0)
      else
        bif (k == 14) then
          some (1, 8, 0, 0)
        else
          bif (k == 15) then
            some (1, 8, 0, 0)
          else
            bif (k == 18) then
              some (2, 2, 0, 0)
            else
              bif (k == 16) then
                some (0, 0, 1, 32)
              else
                bif (k == 19) then
                  some (0, 0, 1, 300)
                else
                  bif (k == 20) then
                    some (0, 0, 0, 9)
                  else
                    bif (k == 21) then
                      some (0, 0, 0, 9)
                    else
                      some (0, 0, 0, 0)
set_option maxHeartbeats 1000000 in
theorem l11Shape.ok (N : Nat) (k : Int) (r : (Int × Int × Int × Int)) (h : l11Shape.sem N k = some r) : Ok Tryd.prog 53 [tI (nI k)] (.tup [tI (nI r.1), tI (nI r.2.1), tI (nI r.2.2.1), tI (nI r.2.2.2)]) := by
  unfold l11Shape.sem at h
  refine fnW_ok Tryd.func53 (by kernel_rfl) rfl rfl fun F hF => ?_
  rcases bif_some h with ⟨c1, h⟩ | ⟨c1, h⟩
  · obtain rfl := Option.some.inj h
    exact finW_ok (n := 400) (gs := [.b true, .b true]) [] (ob := [(k == 13) = true, (k == 13) = true]) (r' := .tup [tI (nI 1), tI (nI 1), tI (nI 0), tI (nI 0)]) [] (by kernel_rfl) ⟨c1, c1, trivial⟩ rfl
  · rcases bif_some h with ⟨c2, h⟩ | ⟨c2, h⟩
    · obtain rfl := Option.some.inj h
      exact finW_ok (n := 400) (gs := [.b false, .b true]) [] (ob := [(k == 13) = false, (k == 17) = true]) (r' := .tup [tI (nI 1), tI (nI 1), tI (nI 0), tI (nI 0)]) [] (by kernel_rfl) ⟨c1, c2, trivial⟩ rfl
    · rcases bif_some h with ⟨c3, h⟩ | ⟨c3, h⟩
      · obtain rfl := Option.some.inj h
        exact finW_ok (n := 400) (gs := [.b false, .b false, .b true, .b true]) [] (ob := [(k == 13) = false, (k == 17) = false, (k == 14) = true, (k == 14) = true]) (r' := .tup [tI (nI 1), tI (nI 8), tI (nI 0), tI (nI 0)]) [] (by kernel_rfl) ⟨c1, c2, c3, c3, trivial⟩ rfl
      · rcases bif_some h with ⟨c4, h⟩ | ⟨c4, h⟩
        · obtain rfl := Option.some.inj h
          exact finW_ok (n := 400) (gs := [.b false, .b false, .b false, .b true]) [] (ob := [(k == 13) = false, (k == 17) = false, (k == 14) = false, (k == 15) = true]) (r' := .tup [tI (nI 1), tI (nI 8), tI (nI 0), tI (nI 0)]) [] (by kernel_rfl) ⟨c1, c2, c3, c4, trivial⟩ rfl
        · rcases bif_some h with ⟨c5, h⟩ | ⟨c5, h⟩
          · obtain rfl := Option.some.inj h
            exact finW_ok (n := 400) (gs := [.b false, .b false, .b false, .b false, .b true]) [] (ob := [(k == 13) = false, (k == 17) = false, (k == 14) = false, (k == 15) = false, (k == 18) = true]) (r' := .tup [tI (nI 2), tI (nI 2), tI (nI 0), tI (nI 0)]) [] (by kernel_rfl) ⟨c1, c2, c3, c4, c5, trivial⟩ rfl
          · rcases bif_some h with ⟨c6, h⟩ | ⟨c6, h⟩
            · obtain rfl := Option.some.inj h
              exact finW_ok (n := 400) (gs := [.b false, .b false, .b false, .b false, .b false, .b true]) [] (ob := [(k == 13) = false, (k == 17) = false, (k == 14) = false, (k == 15) = false, (k == 18) = false, (k == 16) = true]) (r' := .tup [tI (nI 0), tI (nI 0), tI (nI 1), tI (nI 32)]) [] (by kernel_rfl) ⟨c1, c2, c3, c4, c5, c6, trivial⟩ rfl
            · rcases bif_some h with ⟨c7, h⟩ | ⟨c7, h⟩
              · obtain rfl := Option.some.inj h
                exact finW_ok (n := 400) (gs := [.b false, .b false, .b false, .b false, .b false, .b false, .b true]) [] (ob := [(k == 13) = false, (k == 17) = false, (k == 14) = false, (k == 15) = false, (k == 18) = false, (k == 16) = false, (k == 19) = true]) (r' := .tup [tI (nI 0), tI (nI 0), tI (nI 1), tI (nI 300)]) [] (by kernel_rfl) ⟨c1, c2, c3, c4, c5, c6, c7, trivial⟩ rfl
              · rcases bif_some h with ⟨c8, h⟩ | ⟨c8, h⟩
                · obtain rfl := Option.some.inj h
                  exact finW_ok (n := 400) (gs := [.b false, .b false, .b false, .b false, .b false, .b false, .b false, .b true, .b true]) [] (ob := [(k == 13) = false, (k == 17) = false, (k == 14) = false, (k == 15) = false, (k == 18) = false, (k == 16) = false, (k == 19) = false, (k == 20) = true, (k == 20) = true]) (r' := .tup [tI (nI 0), tI (nI 0), tI (nI 0), tI (nI 9)]) [] (by kernel_rfl) ⟨c1, c2, c3, c4, c5, c6, c7, c8, c8, trivial⟩ rfl
                · rcases bif_some h with ⟨c9, h⟩ | ⟨c9, h⟩
                  · obtain rfl := Option.some.inj h
                    exact finW_ok (n := 400) (gs := [.b false, .b false, .b false, .b false, .b false, .b false, .b false, .b false, .b true]) [] (ob := [(k == 13) = false, (k == 17) = false, (k == 14) = false, (k == 15) = false, (k == 18) = false, (k == 16) = false, (k == 19) = false, (k == 20) = false, (k == 21) = true]) (r' := .tup [tI (nI 0), tI (nI 0), tI (nI 0), tI (nI 9)]) [] (by kernel_rfl) ⟨c1, c2, c3, c4, c5, c6, c7, c8, c9, trivial⟩ rfl
                  · obtain rfl := Option.some.inj h
                    exact finW_ok (n := 400) (gs := [.b false, .b false, .b false, .b false, .b false, .b false, .b false, .b false, .b false]) [] (ob := [(k == 13) = false, (k == 17) = false, (k == 14) = false, (k == 15) = false, (k == 18) = false, (k == 16) = false, (k == 19) = false, (k == 20) = false, (k == 21) = false]) (r' := .tup [tI (nI 0), tI (nI 0), tI (nI 0), tI (nI 0)]) [] (by kernel_rfl) ⟨c1, c2, c3, c4, c5, c6, c7, c8, c9, trivial⟩ rfl
def l11Parts.L0 (N : Nat) (l : (List TN)) (k : Int) : Nat → Int → (List Int) → Option (List Int)
  | 0, _, _ => none
  | n0 + 1, v0_6, v0_o_0 =>
    bif decide (v0_6 < ((l.map eTN).length : Int)) then
      bif inR v0_6 l.length then
        bif (((l.getD v0_6.toNat default).up) == k) then
        bif okAp (v0_o_0.length + [v0_6].length) 8 then
          l11Parts.L0 N l k n0 (IntKind.i64.wrap (v0_6 + 1)) (v0_o_0 ++ [v0_6])
        else none
      else
        l11Parts.L0 N l k n0 (IntKind.i64.wrap (v0_6 + 1)) v0_o_0
      else none
    else
      some v0_o_0
def l11Parts.sem (N : Nat) (l : (List TN)) (k : Int) : Option (List Int) :=
    l11Parts.L0 N l k N (IntKind.i64.wrap (k + 1)) []
set_option maxHeartbeats 1000000 in
theorem l11Parts.ok (N : Nat) (l : (List TN)) (k : Int) (r : (List Int)) (h : l11Parts.sem N l k = some r) : Ok Tryd.prog 54 [tI (.sl 3 (l.map eTN)), tI (nI k)] (aI (.sl 1 (r.map eI))) := by
  unfold l11Parts.sem at h
  refine fnW_ok Tryd.func54 (by kernel_rfl) rfl rfl fun F hF => ?_
  refine headB_ok (n := 400) (gs := []) [(5, 3, 1)] [] [0, 1, 4, 5, 6] [0] (ob := []) (b := lB (codeOf Tryd.f54) 0) (K' := lK (codeOf Tryd.f54) 0) (σ' := ⟨mkT_ 27 [(0, aI (.sl 3 (l.map eTN))), (1, aI (nI k)), (4, aI (.v (.slice none 0 0))), (5, .t (.c (.os 0))), (6, aI (nI (IntKind.i64.wrap (k + 1))))], [.live (.row 3 1 [])]⟩) (by kernel_rfl) trivial ?_
  rw [((by simp [cutC, eI]) : [] = [].map eI)]
  refine loop_ok (fun q : Nat × Int × (List Int) => ⟨mkT_ 27 [(0, aI (.sl 3 (l.map eTN))), (1, aI (nI k)), (4, aI (.v (.slice none 0 0))), (5, .t (.c (.os 0))), (6, aI (nI (q.2.1)))], [.live (.row 3 1 ((q.2.2).map eI))]⟩) (fun q => l11Parts.L0 N l k q.1 q.2.1 q.2.2 = some r) (fun q => q.1) (N, IntKind.i64.wrap (k + 1), []) h ?_
  clear h
  rintro ⟨n0, v0_6, v0_o_0⟩ h R0 hR0
  replace h : l11Parts.L0 N l k n0 v0_6 v0_o_0 = some r := h
  rcases n0 with _ | n0
  · cases h
  unfold l11Parts.L0 at h
  show AX _ _ _ _ _ (⟨mkT_ 27 [(0, aI (.sl 3 (l.map eTN))), (1, aI (nI k)), (4, aI (.v (.slice none 0 0))), (5, .t (.c (.os 0))), (6, aI (nI v0_6))], [.live (.row 3 1 (v0_o_0.map eI))]⟩)
  rcases bif_some h with ⟨c1, h⟩ | ⟨c1, h⟩
  · obtain ⟨c2, h⟩ := chk_some h
    rcases bif_some h with ⟨c3, h⟩ | ⟨c3, h⟩
    · obtain ⟨c4, h⟩ := chk_some h
      exact inv_ok (n := 400) (gs := [.b true, .ys [nI ((l.getD v0_6.toNat default).kind), nI ((l.getD v0_6.toNat default).n), nI ((l.getD v0_6.toNat default).up)], .b true]) [0, 1, 4, 5, 6] [2] (ob := [decide (v0_6 < ((l.map eTN).length : Int)) = true, 0 ≤ v0_6, (l.map eTN)[v0_6.toNat]? = some [nI ((l.getD v0_6.toNat default).kind), nI ((l.getD v0_6.toNat default).n), nI ((l.getD v0_6.toNat default).up)], (((l.getD v0_6.toNat default).up) == k) = true, ((v0_o_0.map eI).length + ([[nI v0_6]] : List (List IV)).length) * 8 ≤ 140737488355328]) (σ' := ⟨mkT_ 27 [(0, aI (.sl 3 (l.map eTN))), (1, aI (nI k)), (4, aI (.v (.slice none 0 0))), (5, .t (.c (.os 0))), (6, aI (nI (IntKind.i64.wrap (v0_6 + 1))))], [.live (.row 3 1 ((v0_o_0.map eI) ++ [[nI v0_6]]))]⟩) (by kernel_rfl) ⟨c1, (inR_lo c2), (el_of eTN rfl c2), c3, (okAp_of (by simp) c4), trivial⟩ (fun a w hs => hR0 (n0, IntKind.i64.wrap (v0_6 + 1), v0_o_0 ++ [v0_6]) a w h (Nat.lt_succ_self _) (by rw [((by simp [cutC, eI]) : (v0_o_0.map eI) ++ [[nI v0_6]] = (v0_o_0 ++ [v0_6]).map eI)] at hs; exact hs))
    · exact inv_ok (n := 400) (gs := [.b true, .ys [nI ((l.getD v0_6.toNat default).kind), nI ((l.getD v0_6.toNat default).n), nI ((l.getD v0_6.toNat default).up)], .b false]) [0, 1, 4, 5, 6] [0] (ob := [decide (v0_6 < ((l.map eTN).length : Int)) = true, 0 ≤ v0_6, (l.map eTN)[v0_6.toNat]? = some [nI ((l.getD v0_6.toNat default).kind), nI ((l.getD v0_6.toNat default).n), nI ((l.getD v0_6.toNat default).up)], (((l.getD v0_6.toNat default).up) == k) = false]) (σ' := ⟨mkT_ 27 [(0, aI (.sl 3 (l.map eTN))), (1, aI (nI k)), (4, aI (.v (.slice none 0 0))), (5, .t (.c (.os 0))), (6, aI (nI (IntKind.i64.wrap (v0_6 + 1))))], [.live (.row 3 1 (v0_o_0.map eI))]⟩) (by kernel_rfl) ⟨c1, (inR_lo c2), (el_of eTN rfl c2), c3, trivial⟩ (fun a w hs => hR0 (n0, IntKind.i64.wrap (v0_6 + 1), v0_o_0) a w h (Nat.lt_succ_self _) hs)
  · obtain rfl := Option.some.inj h
    exact finW_ok (n := 400) (gs := [.b false]) [.fz 0] (ob := [decide (v0_6 < ((l.map eTN).length : Int)) = false]) (r' := aI (.sl 1 (v0_o_0.map eI))) [] (by kernel_rfl) ⟨c1, trivial⟩ rfl
def sGoodType.L2 (N : Nat) (l : (List TN)) (v0_19 : Int) (v1_5 : Bool) (k0 : Int → Option Bool) : Nat → Int → Int → Option Bool
  | 0, _, _ => none
  | n2 + 1, v2_7, v2_8 =>
    bif decide (v2_8 ≥ 0) then
      bif inR v2_8 l.length then
        sGoodType.L2 N l v0_19 v1_5 (k0) n2 (IntKind.i64.wrap (v2_7 + 1)) ((l.getD v2_8.toNat default).up)
      else none
    else
      (l11Shape.sem N ((l.getD v0_19.toNat default).kind)).bind fun y3 =>
      bif (!v1_5) then
        some false
      else
        bif decide (v2_7 > 8) then
          some false
        else
          (l11Parts.sem N l v0_19).bind fun y4 =>
          (l1In.sem N ((y4.map eI).length : Int) y3.1 y3.2.1).bind fun y5 =>
          bif (!y5) then
            some false
          else
            (l1In.sem N ((l.getD v0_19.toNat default).n) y3.2.2.1 y3.2.2.2).bind fun y6 =>
            bif (!y6) then
              some false
            else
              k0 (IntKind.i64.wrap (v0_19 + 1))
def sGoodType.L1 (N : Nat) (l : (List TN)) (v0_19 : Int) (k0 : Int → Option Bool) : Nat → Bool → Int → Option Bool
  | 0, _, _ => none
  | n1 + 1, v1_5, v1_6 =>
    bif decide (v1_6 ≥ 0) then
      bif (!v1_5) then
        bif inR v1_6 l.length then
          sGoodType.L1 N l v0_19 (k0) n1 (v1_6 == ((l.getD v0_19.toNat default).up)) ((l.getD v1_6.toNat default).up)
        else none
      else
        sGoodType.L2 N l v0_19 v1_5 (k0) N 0 v0_19
    else
      sGoodType.L2 N l v0_19 v1_5 (k0) N 0 v0_19
def sGoodType.L0 (N : Nat) (l : (List TN)) : Nat → Int → Option Bool
  | 0, _ => none
  | n0 + 1, v0_19 =>
    bif decide (v0_19 < ((l.map eTN).length : Int)) then
      bif inR v0_19 l.length then
        bif (!((v0_19 == 0) == (((l.getD v0_19.toNat default).up) == (-1)))) then
        some false
      else
        (l1In.sem N ((l.getD v0_19.toNat default).up) (-1) (IntKind.i64.wrap (v0_19 - 1))).bind fun y1 =>
        bif (!y1) then
          some false
        else
          (l1In.sem N ((l.getD v0_19.toNat default).kind) 1 21).bind fun y2 =>
          bif (!y2) then
            some false
          else
            sGoodType.L1 N l v0_19 (sGoodType.L0 N l n0) N (v0_19 == 0) (IntKind.i64.wrap (v0_19 - 1))
      else none
    else
      some true
def sGoodType.sem (N : Nat) (l : (List TN)) : Option Bool :=
    (l1In.sem N ((l.map eTN).length : Int) 1 40).bind fun y0 =>
    bif (!y0) then
      some false
    else
      sGoodType.L0 N l N 0
set_option maxHeartbeats 1000000 in
theorem sGoodType.ok (N : Nat) (l : (List TN)) (r : Bool) (h : sGoodType.sem N l = some r) : Ok Tryd.prog 31 [tI (.sl 3 (l.map eTN))] (aI (bI r)) := by
  unfold sGoodType.sem at h
  refine fnW_ok Tryd.func31 (by kernel_rfl) rfl rfl fun F hF => ?_
  obtain ⟨y0, c1, h⟩ := bind_some' h
  rcases bif_some h with ⟨c2, h⟩ | ⟨c2, h⟩
  · obtain rfl := Option.some.inj h
    exact finW_ok (n := 400) (gs := [.r (aI (bI y0)), .b true]) [] (ob := [Ok Tryd.prog 52 [tI (nI ((l.map eTN).length : Int)), tI (nI 1), tI (nI 40)] (aI (bI y0)), (!y0) = true]) (r' := aI (bI false)) [] (by kernel_rfl) ⟨(l1In.ok N ((l.map eTN).length : Int) 1 40 y0 c1), c2, trivial⟩ rfl
  · refine headB_ok (n := 400) (gs := [.r (aI (bI y0)), .b false]) [] [] [0, 2, 17, 18, 19] [] (ob := [Ok Tryd.prog 52 [tI (nI ((l.map eTN).length : Int)), tI (nI 1), tI (nI 40)] (aI (bI y0)), (!y0) = false]) (b := lB (codeOf Tryd.f31) 0) (K' := lK (codeOf Tryd.f31) 0) (σ' := ⟨mkT_ 106 [(0, aI (.sl 3 (l.map eTN))), (2, aI (bI false)), (17, aI (.sl 3 (l.map eTN))), (18, aI (nI ((l.map eTN).length : Int))), (19, aI (nI 0))], []⟩) (by kernel_rfl) ⟨(l1In.ok N ((l.map eTN).length : Int) 1 40 y0 c1), c2, trivial⟩ ?_
    refine loop_ok (fun q : Nat × Int => ⟨mkT_ 106 [(0, aI (.sl 3 (l.map eTN))), (2, aI (bI false)), (17, aI (.sl 3 (l.map eTN))), (18, aI (nI ((l.map eTN).length : Int))), (19, aI (nI (q.2)))], []⟩) (fun q => sGoodType.L0 N l q.1 q.2 = some r) (fun q => q.1) (N, 0) h ?_
    clear h
    rintro ⟨n0, v0_19⟩ h R0 hR0
    replace h : sGoodType.L0 N l n0 v0_19 = some r := h
    rcases n0 with _ | n0
    · cases h
    unfold sGoodType.L0 at h
    show AX _ _ _ _ _ (⟨mkT_ 106 [(0, aI (.sl 3 (l.map eTN))), (2, aI (bI false)), (17, aI (.sl 3 (l.map eTN))), (18, aI (nI ((l.map eTN).length : Int))), (19, aI (nI v0_19))], []⟩)
    rcases bif_some h with ⟨c3, h⟩ | ⟨c3, h⟩
    · obtain ⟨c4, h⟩ := chk_some h
      rcases bif_some h with ⟨c5, h⟩ | ⟨c5, h⟩
      · obtain rfl := Option.some.inj h
        exact finW_ok (n := 400) (gs := [.b true, .ys [nI ((l.getD v0_19.toNat default).kind), nI ((l.getD v0_19.toNat default).n), nI ((l.getD v0_19.toNat default).up)], .b true, .a 2]) [] (ob := [decide (v0_19 < ((l.map eTN).length : Int)) = true, 0 ≤ v0_19, (l.map eTN)[v0_19.toNat]? = some [nI ((l.getD v0_19.toNat default).kind), nI ((l.getD v0_19.toNat default).n), nI ((l.getD v0_19.toNat default).up)], (!((v0_19 == 0) == (((l.getD v0_19.toNat default).up) == (-1)))) = true, (!((v0_19 == 0) == (((l.getD v0_19.toNat default).up) == (-1)))) = true, (!((v0_19 == 0) == (((l.getD v0_19.toNat default).up) == (-1)))) = true, (!((v0_19 == 0) == (((l.getD v0_19.toNat default).up) == (-1)))) = true, (!((v0_19 == 0) == (((l.getD v0_19.toNat default).up) == (-1)))) = true, (!((v0_19 == 0) == (((l.getD v0_19.toNat default).up) == (-1)))) = true, (!((v0_19 == 0) == (((l.getD v0_19.toNat default).up) == (-1)))) = true, true = true, true = true, true = true, true = true]) (r' := aI (bI false)) [] (by kernel_rfl) ⟨c3, (inR_lo c4), (el_of eTN rfl c4), c5, c5, c5, c5, c5, c5, c5, rfl, rfl, rfl, rfl, trivial⟩ rfl
      · obtain ⟨y1, c6, h⟩ := bind_some' h
        rcases bif_some h with ⟨c7, h⟩ | ⟨c7, h⟩
        · obtain rfl := Option.some.inj h
          exact finW_ok (n := 400) (gs := [.b true, .ys [nI ((l.getD v0_19.toNat default).kind), nI ((l.getD v0_19.toNat default).n), nI ((l.getD v0_19.toNat default).up)], .b false, .r (aI (bI y1)), .b true, .a 1]) [] (ob := [decide (v0_19 < ((l.map eTN).length : Int)) = true, 0 ≤ v0_19, (l.map eTN)[v0_19.toNat]? = some [nI ((l.getD v0_19.toNat default).kind), nI ((l.getD v0_19.toNat default).n), nI ((l.getD v0_19.toNat default).up)], (!((v0_19 == 0) == (((l.getD v0_19.toNat default).up) == (-1)))) = false, (!((v0_19 == 0) == (((l.getD v0_19.toNat default).up) == (-1)))) = false, (!((v0_19 == 0) == (((l.getD v0_19.toNat default).up) == (-1)))) = false, (!((v0_19 == 0) == (((l.getD v0_19.toNat default).up) == (-1)))) = false, (!((v0_19 == 0) == (((l.getD v0_19.toNat default).up) == (-1)))) = false, Ok Tryd.prog 52 [tI (nI ((l.getD v0_19.toNat default).up)), tI (nI (-1)), tI (nI (IntKind.i64.wrap (v0_19 - 1)))] (aI (bI y1)), (!((v0_19 == 0) == (((l.getD v0_19.toNat default).up) == (-1)))) = false, (!((v0_19 == 0) == (((l.getD v0_19.toNat default).up) == (-1)))) = false, (!y1) = true, (!y1) = true, (!y1) = true, (!y1) = true, (!y1) = true]) (r' := aI (bI false)) [] (by kernel_rfl) ⟨c3, (inR_lo c4), (el_of eTN rfl c4), c5, c5, c5, c5, c5, (l1In.ok N ((l.getD v0_19.toNat default).up) (-1) (IntKind.i64.wrap (v0_19 - 1)) y1 c6), c5, c5, c7, c7, c7, c7, c7, trivial⟩ rfl
        · obtain ⟨y2, c8, h⟩ := bind_some' h
          rcases bif_some h with ⟨c9, h⟩ | ⟨c9, h⟩
          · obtain rfl := Option.some.inj h
            exact finW_ok (n := 400) (gs := [.b true, .ys [nI ((l.getD v0_19.toNat default).kind), nI ((l.getD v0_19.toNat default).n), nI ((l.getD v0_19.toNat default).up)], .b false, .r (aI (bI y1)), .b false, .r (aI (bI y2)), .b true]) [] (ob := [decide (v0_19 < ((l.map eTN).length : Int)) = true, 0 ≤ v0_19, (l.map eTN)[v0_19.toNat]? = some [nI ((l.getD v0_19.toNat default).kind), nI ((l.getD v0_19.toNat default).n), nI ((l.getD v0_19.toNat default).up)], (!((v0_19 == 0) == (((l.getD v0_19.toNat default).up) == (-1)))) = false, (!((v0_19 == 0) == (((l.getD v0_19.toNat default).up) == (-1)))) = false, (!((v0_19 == 0) == (((l.getD v0_19.toNat default).up) == (-1)))) = false, (!((v0_19 == 0) == (((l.getD v0_19.toNat default).up) == (-1)))) = false, (!((v0_19 == 0) == (((l.getD v0_19.toNat default).up) == (-1)))) = false, Ok Tryd.prog 52 [tI (nI ((l.getD v0_19.toNat default).up)), tI (nI (-1)), tI (nI (IntKind.i64.wrap (v0_19 - 1)))] (aI (bI y1)), (!((v0_19 == 0) == (((l.getD v0_19.toNat default).up) == (-1)))) = false, (!((v0_19 == 0) == (((l.getD v0_19.toNat default).up) == (-1)))) = false, (!y1) = false, (!y1) = false, (!y1) = false, Ok Tryd.prog 52 [tI (nI ((l.getD v0_19.toNat default).kind)), tI (nI 1), tI (nI 21)] (aI (bI y2)), (!y1) = false, (!y1) = false, (!y2) = true]) (r' := aI (bI false)) [] (by kernel_rfl) ⟨c3, (inR_lo c4), (el_of eTN rfl c4), c5, c5, c5, c5, c5, (l1In.ok N ((l.getD v0_19.toNat default).up) (-1) (IntKind.i64.wrap (v0_19 - 1)) y1 c6), c5, c5, c7, c7, c7, (l1In.ok N ((l.getD v0_19.toNat default).kind) 1 21 y2 c8), c7, c7, c9, trivial⟩ rfl
          · refine headB_ok (n := 400) (gs := [.b true, .ys [nI ((l.getD v0_19.toNat default).kind), nI ((l.getD v0_19.toNat default).n), nI ((l.getD v0_19.toNat default).up)], .b false, .r (aI (bI y1)), .b false, .r (aI (bI y2)), .b false]) [] [] [0, 2, 3, 4, 5, 6, 17, 18, 19] [0] (ob := [decide (v0_19 < ((l.map eTN).length : Int)) = true, 0 ≤ v0_19, (l.map eTN)[v0_19.toNat]? = some [nI ((l.getD v0_19.toNat default).kind), nI ((l.getD v0_19.toNat default).n), nI ((l.getD v0_19.toNat default).up)], (!((v0_19 == 0) == (((l.getD v0_19.toNat default).up) == (-1)))) = false, (!((v0_19 == 0) == (((l.getD v0_19.toNat default).up) == (-1)))) = false, (!((v0_19 == 0) == (((l.getD v0_19.toNat default).up) == (-1)))) = false, (!((v0_19 == 0) == (((l.getD v0_19.toNat default).up) == (-1)))) = false, (!((v0_19 == 0) == (((l.getD v0_19.toNat default).up) == (-1)))) = false, Ok Tryd.prog 52 [tI (nI ((l.getD v0_19.toNat default).up)), tI (nI (-1)), tI (nI (IntKind.i64.wrap (v0_19 - 1)))] (aI (bI y1)), (!((v0_19 == 0) == (((l.getD v0_19.toNat default).up) == (-1)))) = false, (!((v0_19 == 0) == (((l.getD v0_19.toNat default).up) == (-1)))) = false, (!y1) = false, (!y1) = false, (!y1) = false, Ok Tryd.prog 52 [tI (nI ((l.getD v0_19.toNat default).kind)), tI (nI 1), tI (nI 21)] (aI (bI y2)), (!y1) = false, (!y1) = false, (!y2) = false]) (b := lB (codeOf Tryd.f31) 1) (K' := lK (lB (codeOf Tryd.f31) 0) 0 ++ [.inv R0] ++ lK (codeOf Tryd.f31) 0) (σ' := ⟨mkT_ 106 [(0, aI (.sl 3 (l.map eTN))), (2, aI (bI false)), (3, aI (nI v0_19)), (4, .t (.c (.loc 0 0))), (5, aI (bI (v0_19 == 0))), (6, aI (nI (IntKind.i64.wrap (v0_19 - 1)))), (17, aI (.sl 3 (l.map eTN))), (18, aI (nI ((l.map eTN).length : Int))), (19, aI (nI v0_19))], [.live (.box 67 [.i (nI ((l.getD v0_19.toNat default).kind)), .i (nI ((l.getD v0_19.toNat default).n)), .i (nI ((l.getD v0_19.toNat default).up))])]⟩) (by kernel_rfl) ⟨c3, (inR_lo c4), (el_of eTN rfl c4), c5, c5, c5, c5, c5, (l1In.ok N ((l.getD v0_19.toNat default).up) (-1) (IntKind.i64.wrap (v0_19 - 1)) y1 c6), c5, c5, c7, c7, c7, (l1In.ok N ((l.getD v0_19.toNat default).kind) 1 21 y2 c8), c7, c7, c9, trivial⟩ ?_
            refine loop_ok (fun q : Nat × Bool × Int => ⟨mkT_ 106 [(0, aI (.sl 3 (l.map eTN))), (2, aI (bI false)), (3, aI (nI v0_19)), (4, .t (.c (.loc 0 0))), (5, aI (bI (q.2.1))), (6, aI (nI (q.2.2))), (17, aI (.sl 3 (l.map eTN))), (18, aI (nI ((l.map eTN).length : Int))), (19, aI (nI v0_19))], [.live (.box 67 [.i (nI ((l.getD v0_19.toNat default).kind)), .i (nI ((l.getD v0_19.toNat default).n)), .i (nI ((l.getD v0_19.toNat default).up))])]⟩) (fun q => sGoodType.L1 N l v0_19 (sGoodType.L0 N l n0) q.1 q.2.1 q.2.2 = some r) (fun q => q.1) (N, (v0_19 == 0), IntKind.i64.wrap (v0_19 - 1)) h ?_
            clear h
            rintro ⟨n1, v1_5, v1_6⟩ h R1 hR1
            replace h : sGoodType.L1 N l v0_19 (sGoodType.L0 N l n0) n1 v1_5 v1_6 = some r := h
            rcases n1 with _ | n1
            · cases h
            unfold sGoodType.L1 at h
            show AX _ _ _ _ _ (⟨mkT_ 106 [(0, aI (.sl 3 (l.map eTN))), (2, aI (bI false)), (3, aI (nI v0_19)), (4, .t (.c (.loc 0 0))), (5, aI (bI v1_5)), (6, aI (nI v1_6)), (17, aI (.sl 3 (l.map eTN))), (18, aI (nI ((l.map eTN).length : Int))), (19, aI (nI v0_19))], [.live (.box 67 [.i (nI ((l.getD v0_19.toNat default).kind)), .i (nI ((l.getD v0_19.toNat default).n)), .i (nI ((l.getD v0_19.toNat default).up))])]⟩)
            rcases bif_some h with ⟨c10, h⟩ | ⟨c10, h⟩
            · rcases bif_some h with ⟨c11, h⟩ | ⟨c11, h⟩
              · obtain ⟨c12, h⟩ := chk_some h
                exact inv_ok (n := 400) (gs := [.b true, .b true, .ys [nI ((l.getD v1_6.toNat default).kind), nI ((l.getD v1_6.toNat default).n), nI ((l.getD v1_6.toNat default).up)]]) [0, 2, 3, 4, 5, 6, 17, 18, 19] [0] (ob := [decide (v1_6 ≥ 0) = true, decide (v1_6 ≥ 0) = true, decide (v1_6 ≥ 0) = true, (!v1_5) = true, 0 ≤ v1_6, (l.map eTN)[v1_6.toNat]? = some [nI ((l.getD v1_6.toNat default).kind), nI ((l.getD v1_6.toNat default).n), nI ((l.getD v1_6.toNat default).up)]]) (σ' := ⟨mkT_ 106 [(0, aI (.sl 3 (l.map eTN))), (2, aI (bI false)), (3, aI (nI v0_19)), (4, .t (.c (.loc 0 0))), (5, aI (bI (v1_6 == ((l.getD v0_19.toNat default).up)))), (6, aI (nI ((l.getD v1_6.toNat default).up))), (17, aI (.sl 3 (l.map eTN))), (18, aI (nI ((l.map eTN).length : Int))), (19, aI (nI v0_19))], [.live (.box 67 [.i (nI ((l.getD v0_19.toNat default).kind)), .i (nI ((l.getD v0_19.toNat default).n)), .i (nI ((l.getD v0_19.toNat default).up))])]⟩) (by kernel_rfl) ⟨c10, c10, c10, c11, (inR_lo c12), (el_of eTN rfl c12), trivial⟩ (fun a w hs => hR1 (n1, (v1_6 == ((l.getD v0_19.toNat default).up)), (l.getD v1_6.toNat default).up) a w h (Nat.lt_succ_self _) hs)
              · refine headB_ok (n := 400) (gs := [.b true, .b false]) [] [] [0, 2, 3, 4, 5, 7, 8, 17, 18, 19] [0] (ob := [decide (v1_6 ≥ 0) = true, decide (v1_6 ≥ 0) = true, decide (v1_6 ≥ 0) = true, (!v1_5) = false]) (b := lB (codeOf Tryd.f31) 2) (K' := lK (lB (codeOf Tryd.f31) 0) 1 ++ [.inv R0] ++ lK (codeOf Tryd.f31) 0) (σ' := ⟨mkT_ 106 [(0, aI (.sl 3 (l.map eTN))), (2, aI (bI false)), (3, aI (nI v0_19)), (4, .t (.c (.loc 0 0))), (5, aI (bI v1_5)), (7, aI (nI 0)), (8, aI (nI v0_19)), (17, aI (.sl 3 (l.map eTN))), (18, aI (nI ((l.map eTN).length : Int))), (19, aI (nI v0_19))], [.live (.box 67 [.i (nI ((l.getD v0_19.toNat default).kind)), .i (nI ((l.getD v0_19.toNat default).n)), .i (nI ((l.getD v0_19.toNat default).up))])]⟩) (by kernel_rfl) ⟨c10, c10, c10, c11, trivial⟩ ?_
                refine loop_ok (fun q : Nat × Int × Int => ⟨mkT_ 106 [(0, aI (.sl 3 (l.map eTN))), (2, aI (bI false)), (3, aI (nI v0_19)), (4, .t (.c (.loc 0 0))), (5, aI (bI v1_5)), (7, aI (nI (q.2.1))), (8, aI (nI (q.2.2))), (17, aI (.sl 3 (l.map eTN))), (18, aI (nI ((l.map eTN).length : Int))), (19, aI (nI v0_19))], [.live (.box 67 [.i (nI ((l.getD v0_19.toNat default).kind)), .i (nI ((l.getD v0_19.toNat default).n)), .i (nI ((l.getD v0_19.toNat default).up))])]⟩) (fun q => sGoodType.L2 N l v0_19 v1_5 (sGoodType.L0 N l n0) q.1 q.2.1 q.2.2 = some r) (fun q => q.1) (N, 0, v0_19) h ?_
                clear h
                rintro ⟨n2, v2_7, v2_8⟩ h R2 hR2
                replace h : sGoodType.L2 N l v0_19 v1_5 (sGoodType.L0 N l n0) n2 v2_7 v2_8 = some r := h
                rcases n2 with _ | n2
                · cases h
                unfold sGoodType.L2 at h
                show AX _ _ _ _ _ (⟨mkT_ 106 [(0, aI (.sl 3 (l.map eTN))), (2, aI (bI false)), (3, aI (nI v0_19)), (4, .t (.c (.loc 0 0))), (5, aI (bI v1_5)), (7, aI (nI v2_7)), (8, aI (nI v2_8)), (17, aI (.sl 3 (l.map eTN))), (18, aI (nI ((l.map eTN).length : Int))), (19, aI (nI v0_19))], [.live (.box 67 [.i (nI ((l.getD v0_19.toNat default).kind)), .i (nI ((l.getD v0_19.toNat default).n)), .i (nI ((l.getD v0_19.toNat default).up))])]⟩)
                rcases bif_some h with ⟨c13, h⟩ | ⟨c13, h⟩
                · obtain ⟨c14, h⟩ := chk_some h
                  exact inv_ok (n := 400) (gs := [.b true, .ys [nI ((l.getD v2_8.toNat default).kind), nI ((l.getD v2_8.toNat default).n), nI ((l.getD v2_8.toNat default).up)]]) [0, 2, 3, 4, 5, 7, 8, 17, 18, 19] [0] (ob := [decide (v2_8 ≥ 0) = true, 0 ≤ v2_8, (l.map eTN)[v2_8.toNat]? = some [nI ((l.getD v2_8.toNat default).kind), nI ((l.getD v2_8.toNat default).n), nI ((l.getD v2_8.toNat default).up)]]) (σ' := ⟨mkT_ 106 [(0, aI (.sl 3 (l.map eTN))), (2, aI (bI false)), (3, aI (nI v0_19)), (4, .t (.c (.loc 0 0))), (5, aI (bI v1_5)), (7, aI (nI (IntKind.i64.wrap (v2_7 + 1)))), (8, aI (nI ((l.getD v2_8.toNat default).up))), (17, aI (.sl 3 (l.map eTN))), (18, aI (nI ((l.map eTN).length : Int))), (19, aI (nI v0_19))], [.live (.box 67 [.i (nI ((l.getD v0_19.toNat default).kind)), .i (nI ((l.getD v0_19.toNat default).n)), .i (nI ((l.getD v0_19.toNat default).up))])]⟩) (by kernel_rfl) ⟨c13, (inR_lo c14), (el_of eTN rfl c14), trivial⟩ (fun a w hs => hR2 (n2, IntKind.i64.wrap (v2_7 + 1), (l.getD v2_8.toNat default).up) a w h (Nat.lt_succ_self _) hs)
                · obtain ⟨y3, c15, h⟩ := bind_some' h
                  rcases bif_some h with ⟨c16, h⟩ | ⟨c16, h⟩
                  · obtain rfl := Option.some.inj h
                    exact finW_ok (n := 400) (gs := [.b false, .r (.tup [tI (nI y3.1), tI (nI y3.2.1), tI (nI y3.2.2.1), tI (nI y3.2.2.2)]), .b true, .a 3]) [] (ob := [decide (v2_8 ≥ 0) = false, Ok Tryd.prog 53 [tI (nI ((l.getD v0_19.toNat default).kind))] (.tup [tI (nI y3.1), tI (nI y3.2.1), tI (nI y3.2.2.1), tI (nI y3.2.2.2)]), (!v1_5) = true, (!v1_5) = true, (!v1_5) = true, true = true, true = true, true = true, true = true, true = true, true = true, true = true, true = true, true = true, true = true, true = true, true = true, true = true, true = true]) (r' := aI (bI false)) [] (by kernel_rfl) ⟨c13, (l11Shape.ok N ((l.getD v0_19.toNat default).kind) y3 c15), c16, c16, c16, rfl, rfl, rfl, rfl, rfl, rfl, rfl, rfl, rfl, rfl, rfl, rfl, rfl, rfl, trivial⟩ rfl
                  · rcases bif_some h with ⟨c17, h⟩ | ⟨c17, h⟩
                    · obtain rfl := Option.some.inj h
                      exact finW_ok (n := 400) (gs := [.b false, .r (.tup [tI (nI y3.1), tI (nI y3.2.1), tI (nI y3.2.2.1), tI (nI y3.2.2.2)]), .b false, .b true, .a 2]) [] (ob := [decide (v2_8 ≥ 0) = false, Ok Tryd.prog 53 [tI (nI ((l.getD v0_19.toNat default).kind))] (.tup [tI (nI y3.1), tI (nI y3.2.1), tI (nI y3.2.2.1), tI (nI y3.2.2.2)]), (!v1_5) = false, (!v1_5) = false, (!v1_5) = false, decide (v2_7 > 8) = true, decide (v2_7 > 8) = true, decide (v2_7 > 8) = true, decide (v2_7 > 8) = true, decide (v2_7 > 8) = true, decide (v2_7 > 8) = true, decide (v2_7 > 8) = true, decide (v2_7 > 8) = true, decide (v2_7 > 8) = true, true = true, true = true, true = true, true = true, true = true, true = true]) (r' := aI (bI false)) [] (by kernel_rfl) ⟨c13, (l11Shape.ok N ((l.getD v0_19.toNat default).kind) y3 c15), c16, c16, c16, c17, c17, c17, c17, c17, c17, c17, c17, c17, rfl, rfl, rfl, rfl, rfl, rfl, trivial⟩ rfl
                    · obtain ⟨y4, c18, h⟩ := bind_some' h
                      obtain ⟨y5, c19, h⟩ := bind_some' h
                      rcases bif_some h with ⟨c20, h⟩ | ⟨c20, h⟩
                      · obtain rfl := Option.some.inj h
                        exact finW_ok (n := 400) (gs := [.b false, .r (.tup [tI (nI y3.1), tI (nI y3.2.1), tI (nI y3.2.2.1), tI (nI y3.2.2.2)]), .b false, .b false, .r (aI (.sl 1 (y4.map eI))), .r (aI (bI y5)), .b true, .a 1]) [] (ob := [decide (v2_8 ≥ 0) = false, Ok Tryd.prog 53 [tI (nI ((l.getD v0_19.toNat default).kind))] (.tup [tI (nI y3.1), tI (nI y3.2.1), tI (nI y3.2.2.1), tI (nI y3.2.2.2)]), (!v1_5) = false, (!v1_5) = false, (!v1_5) = false, decide (v2_7 > 8) = false, decide (v2_7 > 8) = false, decide (v2_7 > 8) = false, Ok Tryd.prog 54 [tI (.sl 3 (l.map eTN)), tI (nI v0_19)] (aI (.sl 1 (y4.map eI))), decide (v2_7 > 8) = false, decide (v2_7 > 8) = false, decide (v2_7 > 8) = false, decide (v2_7 > 8) = false, Ok Tryd.prog 52 [tI (nI ((y4.map eI).length : Int)), tI (nI y3.1), tI (nI y3.2.1)] (aI (bI y5)), decide (v2_7 > 8) = false, decide (v2_7 > 8) = false, (!y5) = true, (!y5) = true, (!y5) = true, (!y5) = true, (!y5) = true, (!y5) = true, (!y5) = true]) (r' := aI (bI false)) [] (by kernel_rfl) ⟨c13, (l11Shape.ok N ((l.getD v0_19.toNat default).kind) y3 c15), c16, c16, c16, c17, c17, c17, (l11Parts.ok N l v0_19 y4 c18), c17, c17, c17, c17, (l1In.ok N ((y4.map eI).length : Int) y3.1 y3.2.1 y5 c19), c17, c17, c20, c20, c20, c20, c20, c20, c20, trivial⟩ rfl
                      · obtain ⟨y6, c21, h⟩ := bind_some' h
                        rcases bif_some h with ⟨c22, h⟩ | ⟨c22, h⟩
                        · obtain rfl := Option.some.inj h
                          exact finW_ok (n := 400) (gs := [.b false, .r (.tup [tI (nI y3.1), tI (nI y3.2.1), tI (nI y3.2.2.1), tI (nI y3.2.2.2)]), .b false, .b false, .r (aI (.sl 1 (y4.map eI))), .r (aI (bI y5)), .b false, .r (aI (bI y6)), .b true]) [] (ob := [decide (v2_8 ≥ 0) = false, Ok Tryd.prog 53 [tI (nI ((l.getD v0_19.toNat default).kind))] (.tup [tI (nI y3.1), tI (nI y3.2.1), tI (nI y3.2.2.1), tI (nI y3.2.2.2)]), (!v1_5) = false, (!v1_5) = false, (!v1_5) = false, decide (v2_7 > 8) = false, decide (v2_7 > 8) = false, decide (v2_7 > 8) = false, Ok Tryd.prog 54 [tI (.sl 3 (l.map eTN)), tI (nI v0_19)] (aI (.sl 1 (y4.map eI))), decide (v2_7 > 8) = false, decide (v2_7 > 8) = false, decide (v2_7 > 8) = false, decide (v2_7 > 8) = false, Ok Tryd.prog 52 [tI (nI ((y4.map eI).length : Int)), tI (nI y3.1), tI (nI y3.2.1)] (aI (bI y5)), decide (v2_7 > 8) = false, decide (v2_7 > 8) = false, (!y5) = false, (!y5) = false, (!y5) = false, (!y5) = false, (!y5) = false, Ok Tryd.prog 52 [tI (nI ((l.getD v0_19.toNat default).n)), tI (nI y3.2.2.1), tI (nI y3.2.2.2)] (aI (bI y6)), (!y5) = false, (!y5) = false, (!y6) = true]) (r' := aI (bI false)) [] (by kernel_rfl) ⟨c13, (l11Shape.ok N ((l.getD v0_19.toNat default).kind) y3 c15), c16, c16, c16, c17, c17, c17, (l11Parts.ok N l v0_19 y4 c18), c17, c17, c17, c17, (l1In.ok N ((y4.map eI).length : Int) y3.1 y3.2.1 y5 c19), c17, c17, c20, c20, c20, c20, c20, (l1In.ok N ((l.getD v0_19.toNat default).n) y3.2.2.1 y3.2.2.2 y6 c21), c20, c20, c22, trivial⟩ rfl
                        · exact inv_ok (n := 400) (gs := [.b false, .r (.tup [tI (nI y3.1), tI (nI y3.2.1), tI (nI y3.2.2.1), tI (nI y3.2.2.2)]), .b false, .b false, .r (aI (.sl 1 (y4.map eI))), .r (aI (bI y5)), .b false, .r (aI (bI y6)), .b false]) [0, 2, 17, 18, 19] [] (ob := [decide (v2_8 ≥ 0) = false, Ok Tryd.prog 53 [tI (nI ((l.getD v0_19.toNat default).kind))] (.tup [tI (nI y3.1), tI (nI y3.2.1), tI (nI y3.2.2.1), tI (nI y3.2.2.2)]), (!v1_5) = false, (!v1_5) = false, (!v1_5) = false, decide (v2_7 > 8) = false, decide (v2_7 > 8) = false, decide (v2_7 > 8) = false, Ok Tryd.prog 54 [tI (.sl 3 (l.map eTN)), tI (nI v0_19)] (aI (.sl 1 (y4.map eI))), decide (v2_7 > 8) = false, decide (v2_7 > 8) = false, decide (v2_7 > 8) = false, decide (v2_7 > 8) = false, Ok Tryd.prog 52 [tI (nI ((y4.map eI).length : Int)), tI (nI y3.1), tI (nI y3.2.1)] (aI (bI y5)), decide (v2_7 > 8) = false, decide (v2_7 > 8) = false, (!y5) = false, (!y5) = false, (!y5) = false, (!y5) = false, (!y5) = false, Ok Tryd.prog 52 [tI (nI ((l.getD v0_19.toNat default).n)), tI (nI y3.2.2.1), tI (nI y3.2.2.2)] (aI (bI y6)), (!y5) = false, (!y5) = false, (!y6) = false]) (σ' := ⟨mkT_ 106 [(0, aI (.sl 3 (l.map eTN))), (2, aI (bI false)), (17, aI (.sl 3 (l.map eTN))), (18, aI (nI ((l.map eTN).length : Int))), (19, aI (nI (IntKind.i64.wrap (v0_19 + 1))))], []⟩) (by kernel_rfl) ⟨c13, (l11Shape.ok N ((l.getD v0_19.toNat default).kind) y3 c15), c16, c16, c16, c17, c17, c17, (l11Parts.ok N l v0_19 y4 c18), c17, c17, c17, c17, (l1In.ok N ((y4.map eI).length : Int) y3.1 y3.2.1 y5 c19), c17, c17, c20, c20, c20, c20, c20, (l1In.ok N ((l.getD v0_19.toNat default).n) y3.2.2.1 y3.2.2.2 y6 c21), c20, c20, c22, trivial⟩ (fun a w hs => hR0 (n0, IntKind.i64.wrap (v0_19 + 1)) a w h (Nat.lt_succ_self _) hs)
            · refine headB_ok (n := 400) (gs := [.b false, .a 1]) [] [] [0, 2, 3, 4, 5, 7, 8, 17, 18, 19] [0] (ob := [decide (v1_6 ≥ 0) = false, decide (v1_6 ≥ 0) = false, decide (v1_6 ≥ 0) = false]) (b := lB (codeOf Tryd.f31) 2) (K' := lK (lB (codeOf Tryd.f31) 0) 1 ++ [.inv R0] ++ lK (codeOf Tryd.f31) 0) (σ' := ⟨mkT_ 106 [(0, aI (.sl 3 (l.map eTN))), (2, aI (bI false)), (3, aI (nI v0_19)), (4, .t (.c (.loc 0 0))), (5, aI (bI v1_5)), (7, aI (nI 0)), (8, aI (nI v0_19)), (17, aI (.sl 3 (l.map eTN))), (18, aI (nI ((l.map eTN).length : Int))), (19, aI (nI v0_19))], [.live (.box 67 [.i (nI ((l.getD v0_19.toNat default).kind)), .i (nI ((l.getD v0_19.toNat default).n)), .i (nI ((l.getD v0_19.toNat default).up))])]⟩) (by kernel_rfl) ⟨c10, c10, c10, trivial⟩ ?_
              refine loop_ok (fun q : Nat × Int × Int => ⟨mkT_ 106 [(0, aI (.sl 3 (l.map eTN))), (2, aI (bI false)), (3, aI (nI v0_19)), (4, .t (.c (.loc 0 0))), (5, aI (bI v1_5)), (7, aI (nI (q.2.1))), (8, aI (nI (q.2.2))), (17, aI (.sl 3 (l.map eTN))), (18, aI (nI ((l.map eTN).length : Int))), (19, aI (nI v0_19))], [.live (.box 67 [.i (nI ((l.getD v0_19.toNat default).kind)), .i (nI ((l.getD v0_19.toNat default).n)), .i (nI ((l.getD v0_19.toNat default).up))])]⟩) (fun q => sGoodType.L2 N l v0_19 v1_5 (sGoodType.L0 N l n0) q.1 q.2.1 q.2.2 = some r) (fun q => q.1) (N, 0, v0_19) h ?_
              clear h
              rintro ⟨n2, v2_7, v2_8⟩ h R2 hR2
              replace h : sGoodType.L2 N l v0_19 v1_5 (sGoodType.L0 N l n0) n2 v2_7 v2_8 = some r := h
              rcases n2 with _ | n2
              · cases h
              unfold sGoodType.L2 at h
              show AX _ _ _ _ _ (⟨mkT_ 106 [(0, aI (.sl 3 (l.map eTN))), (2, aI (bI false)), (3, aI (nI v0_19)), (4, .t (.c (.loc 0 0))), (5, aI (bI v1_5)), (7, aI (nI v2_7)), (8, aI (nI v2_8)), (17, aI (.sl 3 (l.map eTN))), (18, aI (nI ((l.map eTN).length : Int))), (19, aI (nI v0_19))], [.live (.box 67 [.i (nI ((l.getD v0_19.toNat default).kind)), .i (nI ((l.getD v0_19.toNat default).n)), .i (nI ((l.getD v0_19.toNat default).up))])]⟩)
              rcases bif_some h with ⟨c23, h⟩ | ⟨c23, h⟩
              · obtain ⟨c24, h⟩ := chk_some h
                exact inv_ok (n := 400) (gs := [.b true, .ys [nI ((l.getD v2_8.toNat default).kind), nI ((l.getD v2_8.toNat default).n), nI ((l.getD v2_8.toNat default).up)]]) [0, 2, 3, 4, 5, 7, 8, 17, 18, 19] [0] (ob := [decide (v2_8 ≥ 0) = true, 0 ≤ v2_8, (l.map eTN)[v2_8.toNat]? = some [nI ((l.getD v2_8.toNat default).kind), nI ((l.getD v2_8.toNat default).n), nI ((l.getD v2_8.toNat default).up)]]) (σ' := ⟨mkT_ 106 [(0, aI (.sl 3 (l.map eTN))), (2, aI (bI false)), (3, aI (nI v0_19)), (4, .t (.c (.loc 0 0))), (5, aI (bI v1_5)), (7, aI (nI (IntKind.i64.wrap (v2_7 + 1)))), (8, aI (nI ((l.getD v2_8.toNat default).up))), (17, aI (.sl 3 (l.map eTN))), (18, aI (nI ((l.map eTN).length : Int))), (19, aI (nI v0_19))], [.live (.box 67 [.i (nI ((l.getD v0_19.toNat default).kind)), .i (nI ((l.getD v0_19.toNat default).n)), .i (nI ((l.getD v0_19.toNat default).up))])]⟩) (by kernel_rfl) ⟨c23, (inR_lo c24), (el_of eTN rfl c24), trivial⟩ (fun a w hs => hR2 (n2, IntKind.i64.wrap (v2_7 + 1), (l.getD v2_8.toNat default).up) a w h (Nat.lt_succ_self _) hs)
              · obtain ⟨y3, c25, h⟩ := bind_some' h
                rcases bif_some h with ⟨c26, h⟩ | ⟨c26, h⟩
                · obtain rfl := Option.some.inj h
                  exact finW_ok (n := 400) (gs := [.b false, .r (.tup [tI (nI y3.1), tI (nI y3.2.1), tI (nI y3.2.2.1), tI (nI y3.2.2.2)]), .b true, .a 3]) [] (ob := [decide (v2_8 ≥ 0) = false, Ok Tryd.prog 53 [tI (nI ((l.getD v0_19.toNat default).kind))] (.tup [tI (nI y3.1), tI (nI y3.2.1), tI (nI y3.2.2.1), tI (nI y3.2.2.2)]), (!v1_5) = true, (!v1_5) = true, (!v1_5) = true, true = true, true = true, true = true, true = true, true = true, true = true, true = true, true = true, true = true, true = true, true = true, true = true, true = true, true = true]) (r' := aI (bI false)) [] (by kernel_rfl) ⟨c23, (l11Shape.ok N ((l.getD v0_19.toNat default).kind) y3 c25), c26, c26, c26, rfl, rfl, rfl, rfl, rfl, rfl, rfl, rfl, rfl, rfl, rfl, rfl, rfl, rfl, trivial⟩ rfl
                · rcases bif_some h with ⟨c27, h⟩ | ⟨c27, h⟩
                  · obtain rfl := Option.some.inj h
                    exact finW_ok (n := 400) (gs := [.b false, .r (.tup [tI (nI y3.1), tI (nI y3.2.1), tI (nI y3.2.2.1), tI (nI y3.2.2.2)]), .b false, .b true, .a 2]) [] (ob := [decide (v2_8 ≥ 0) = false, Ok Tryd.prog 53 [tI (nI ((l.getD v0_19.toNat default).kind))] (.tup [tI (nI y3.1), tI (nI y3.2.1), tI (nI y3.2.2.1), tI (nI y3.2.2.2)]), (!v1_5) = false, (!v1_5) = false, (!v1_5) = false, decide (v2_7 > 8) = true, decide (v2_7 > 8) = true, decide (v2_7 > 8) = true, decide (v2_7 > 8) = true, decide (v2_7 > 8) = true, decide (v2_7 > 8) = true, decide (v2_7 > 8) = true, decide (v2_7 > 8) = true, decide (v2_7 > 8) = true, true = true, true = true, true = true, true = true, true = true, true = true]) (r' := aI (bI false)) [] (by kernel_rfl) ⟨c23, (l11Shape.ok N ((l.getD v0_19.toNat default).kind) y3 c25), c26, c26, c26, c27, c27, c27, c27, c27, c27, c27, c27, c27, rfl, rfl, rfl, rfl, rfl, rfl, trivial⟩ rfl
                  · obtain ⟨y4, c28, h⟩ := bind_some' h
                    obtain ⟨y5, c29, h⟩ := bind_some' h
                    rcases bif_some h with ⟨c30, h⟩ | ⟨c30, h⟩
                    · obtain rfl := Option.some.inj h
                      exact finW_ok (n := 400) (gs := [.b false, .r (.tup [tI (nI y3.1), tI (nI y3.2.1), tI (nI y3.2.2.1), tI (nI y3.2.2.2)]), .b false, .b false, .r (aI (.sl 1 (y4.map eI))), .r (aI (bI y5)), .b true, .a 1]) [] (ob := [decide (v2_8 ≥ 0) = false, Ok Tryd.prog 53 [tI (nI ((l.getD v0_19.toNat default).kind))] (.tup [tI (nI y3.1), tI (nI y3.2.1), tI (nI y3.2.2.1), tI (nI y3.2.2.2)]), (!v1_5) = false, (!v1_5) = false, (!v1_5) = false, decide (v2_7 > 8) = false, decide (v2_7 > 8) = false, decide (v2_7 > 8) = false, Ok Tryd.prog 54 [tI (.sl 3 (l.map eTN)), tI (nI v0_19)] (aI (.sl 1 (y4.map eI))), decide (v2_7 > 8) = false, decide (v2_7 > 8) = false, decide (v2_7 > 8) = false, decide (v2_7 > 8) = false, Ok Tryd.prog 52 [tI (nI ((y4.map eI).length : Int)), tI (nI y3.1), tI (nI y3.2.1)] (aI (bI y5)), decide (v2_7 > 8) = false, decide (v2_7 > 8) = false, (!y5) = true, (!y5) = true, (!y5) = true, (!y5) = true, (!y5) = true, (!y5) = true, (!y5) = true]) (r' := aI (bI false)) [] (by kernel_rfl) ⟨c23, (l11Shape.ok N ((l.getD v0_19.toNat default).kind) y3 c25), c26, c26, c26, c27, c27, c27, (l11Parts.ok N l v0_19 y4 c28), c27, c27, c27, c27, (l1In.ok N ((y4.map eI).length : Int) y3.1 y3.2.1 y5 c29), c27, c27, c30, c30, c30, c30, c30, c30, c30, trivial⟩ rfl
                    · obtain ⟨y6, c31, h⟩ := bind_some' h
                      rcases bif_some h with ⟨c32, h⟩ | ⟨c32, h⟩
                      · obtain rfl := Option.some.inj h
                        exact finW_ok (n := 400) (gs := [.b false, .r (.tup [tI (nI y3.1), tI (nI y3.2.1), tI (nI y3.2.2.1), tI (nI y3.2.2.2)]), .b false, .b false, .r (aI (.sl 1 (y4.map eI))), .r (aI (bI y5)), .b false, .r (aI (bI y6)), .b true]) [] (ob := [decide (v2_8 ≥ 0) = false, Ok Tryd.prog 53 [tI (nI ((l.getD v0_19.toNat default).kind))] (.tup [tI (nI y3.1), tI (nI y3.2.1), tI (nI y3.2.2.1), tI (nI y3.2.2.2)]), (!v1_5) = false, (!v1_5) = false, (!v1_5) = false, decide (v2_7 > 8) = false, decide (v2_7 > 8) = false, decide (v2_7 > 8) = false, Ok Tryd.prog 54 [tI (.sl 3 (l.map eTN)), tI (nI v0_19)] (aI (.sl 1 (y4.map eI))), decide (v2_7 > 8) = false, decide (v2_7 > 8) = false, decide (v2_7 > 8) = false, decide (v2_7 > 8) = false, Ok Tryd.prog 52 [tI (nI ((y4.map eI).length : Int)), tI (nI y3.1), tI (nI y3.2.1)] (aI (bI y5)), decide (v2_7 > 8) = false, decide (v2_7 > 8) = false, (!y5) = false, (!y5) = false, (!y5) = false, (!y5) = false, (!y5) = false, Ok Tryd.prog 52 [tI (nI ((l.getD v0_19.toNat default).n)), tI (nI y3.2.2.1), tI (nI y3.2.2.2)] (aI (bI y6)), (!y5) = false, (!y5) = false, (!y6) = true]) (r' := aI (bI false)) [] (by kernel_rfl) ⟨c23, (l11Shape.ok N ((l.getD v0_19.toNat default).kind) y3 c25), c26, c26, c26, c27, c27, c27, (l11Parts.ok N l v0_19 y4 c28), c27, c27, c27, c27, (l1In.ok N ((y4.map eI).length : Int) y3.1 y3.2.1 y5 c29), c27, c27, c30, c30, c30, c30, c30, (l1In.ok N ((l.getD v0_19.toNat default).n) y3.2.2.1 y3.2.2.2 y6 c31), c30, c30, c32, trivial⟩ rfl
                      · exact inv_ok (n := 400) (gs := [.b false, .r (.tup [tI (nI y3.1), tI (nI y3.2.1), tI (nI y3.2.2.1), tI (nI y3.2.2.2)]), .b false, .b false, .r (aI (.sl 1 (y4.map eI))), .r (aI (bI y5)), .b false, .r (aI (bI y6)), .b false]) [0, 2, 17, 18, 19] [] (ob := [decide (v2_8 ≥ 0) = false, Ok Tryd.prog 53 [tI (nI ((l.getD v0_19.toNat default).kind))] (.tup [tI (nI y3.1), tI (nI y3.2.1), tI (nI y3.2.2.1), tI (nI y3.2.2.2)]), (!v1_5) = false, (!v1_5) = false, (!v1_5) = false, decide (v2_7 > 8) = false, decide (v2_7 > 8) = false, decide (v2_7 > 8) = false, Ok Tryd.prog 54 [tI (.sl 3 (l.map eTN)), tI (nI v0_19)] (aI (.sl 1 (y4.map eI))), decide (v2_7 > 8) = false, decide (v2_7 > 8) = false, decide (v2_7 > 8) = false, decide (v2_7 > 8) = false, Ok Tryd.prog 52 [tI (nI ((y4.map eI).length : Int)), tI (nI y3.1), tI (nI y3.2.1)] (aI (bI y5)), decide (v2_7 > 8) = false, decide (v2_7 > 8) = false, (!y5) = false, (!y5) = false, (!y5) = false, (!y5) = false, (!y5) = false, Ok Tryd.prog 52 [tI (nI ((l.getD v0_19.toNat default).n)), tI (nI y3.2.2.1), tI (nI y3.2.2.2)] (aI (bI y6)), (!y5) = false, (!y5) = false, (!y6) = false]) (σ' := ⟨mkT_ 106 [(0, aI (.sl 3 (l.map eTN))), (2, aI (bI false)), (17, aI (.sl 3 (l.map eTN))), (18, aI (nI ((l.map eTN).length : Int))), (19, aI (nI (IntKind.i64.wrap (v0_19 + 1))))], []⟩) (by kernel_rfl) ⟨c23, (l11Shape.ok N ((l.getD v0_19.toNat default).kind) y3 c25), c26, c26, c26, c27, c27, c27, (l11Parts.ok N l v0_19 y4 c28), c27, c27, c27, c27, (l1In.ok N ((y4.map eI).length : Int) y3.1 y3.2.1 y5 c29), c27, c27, c30, c30, c30, c30, c30, (l1In.ok N ((l.getD v0_19.toNat default).n) y3.2.2.1 y3.2.2.2 y6 c31), c30, c30, c32, trivial⟩ (fun a w hs => hR0 (n0, IntKind.i64.wrap (v0_19 + 1)) a w h (Nat.lt_succ_self _) hs)
    · obtain rfl := Option.some.inj h
      exact finW_ok (n := 400) (gs := [.b false]) [] (ob := [decide (v0_19 < ((l.map eTN).length : Int)) = false]) (r' := aI (bI true)) [] (by kernel_rfl) ⟨c3, trivial⟩ rfl
def l12Shape.L1 (N : Nat) (l : (List VN)) (v0_9 : Int) (k0 : Int → Option Bool) : Nat → Bool → Int → Option Bool
  | 0, _, _ => none
  | n1 + 1, v1_5, v1_6 =>
    bif decide (v1_6 ≥ 0) then
      bif (!v1_5) then
        bif inR v1_6 l.length then
          l12Shape.L1 N l v0_9 (k0) n1 (v1_6 == ((l.getD v0_9.toNat default).up)) ((l.getD v1_6.toNat default).up)
        else none
      else
        k0 (IntKind.i64.wrap (v0_9 + 1))
    else
      bif (!v1_5) then
        some false
      else
        k0 (IntKind.i64.wrap (v0_9 + 1))
def l12Shape.L0 (N : Nat) (l : (List VN)) : Nat → Int → Option Bool
  | 0, _ => none
  | n0 + 1, v0_9 =>
    bif decide (v0_9 < ((l.map eVN).length : Int)) then
      bif inR v0_9 l.length then
        bif (!((v0_9 == 0) == (((l.getD v0_9.toNat default).up) == (-1)))) then
        some false
      else
        (l1In.sem N ((l.getD v0_9.toNat default).up) (-1) (IntKind.i64.wrap (v0_9 - 1))).bind fun y0 =>
        bif (!y0) then
          some false
        else
          l12Shape.L1 N l v0_9 (l12Shape.L0 N l n0) N (v0_9 == 0) (IntKind.i64.wrap (v0_9 - 1))
      else none
    else
      (l1In.sem N ((l.map eVN).length : Int) 1 100).bind fun y0 =>
      some y0
def l12Shape.sem (N : Nat) (l : (List VN)) : Option Bool :=
    l12Shape.L0 N l N 0
set_option maxHeartbeats 1000000 in
theorem l12Shape.ok (N : Nat) (l : (List VN)) (r : Bool) (h : l12Shape.sem N l = some r) : Ok Tryd.prog 32 [tI (.sl 3 (l.map eVN))] (aI (bI r)) := by
  unfold l12Shape.sem at h
  refine fnW_ok Tryd.func32 (by kernel_rfl) rfl rfl fun F hF => ?_
  refine headB_ok (n := 400) (gs := []) [] [] [0, 2, 7, 8, 9] [] (ob := []) (b := lB (codeOf Tryd.f32) 0) (K' := lK (codeOf Tryd.f32) 0) (σ' := ⟨mkT_ 53 [(0, aI (.sl 3 (l.map eVN))), (2, aI (bI false)), (7, aI (.sl 3 (l.map eVN))), (8, aI (nI ((l.map eVN).length : Int))), (9, aI (nI 0))], []⟩) (by kernel_rfl) trivial ?_
  refine loop_ok (fun q : Nat × Int => ⟨mkT_ 53 [(0, aI (.sl 3 (l.map eVN))), (2, aI (bI false)), (7, aI (.sl 3 (l.map eVN))), (8, aI (nI ((l.map eVN).length : Int))), (9, aI (nI (q.2)))], []⟩) (fun q => l12Shape.L0 N l q.1 q.2 = some r) (fun q => q.1) (N, 0) h ?_
  clear h
  rintro ⟨n0, v0_9⟩ h R0 hR0
  replace h : l12Shape.L0 N l n0 v0_9 = some r := h
  rcases n0 with _ | n0
  · cases h
  unfold l12Shape.L0 at h
  show AX _ _ _ _ _ (⟨mkT_ 53 [(0, aI (.sl 3 (l.map eVN))), (2, aI (bI false)), (7, aI (.sl 3 (l.map eVN))), (8, aI (nI ((l.map eVN).length : Int))), (9, aI (nI v0_9))], []⟩)
  rcases bif_some h with ⟨c1, h⟩ | ⟨c1, h⟩
  · obtain ⟨c2, h⟩ := chk_some h
    rcases bif_some h with ⟨c3, h⟩ | ⟨c3, h⟩
    · obtain rfl := Option.some.inj h
      exact finW_ok (n := 400) (gs := [.b true, .ys [nI ((l.getD v0_9.toNat default).n), sI ((l.getD v0_9.toNat default).text), nI ((l.getD v0_9.toNat default).up)], .b true, .a 1]) [] (ob := [decide (v0_9 < ((l.map eVN).length : Int)) = true, 0 ≤ v0_9, (l.map eVN)[v0_9.toNat]? = some [nI ((l.getD v0_9.toNat default).n), sI ((l.getD v0_9.toNat default).text), nI ((l.getD v0_9.toNat default).up)], (!((v0_9 == 0) == (((l.getD v0_9.toNat default).up) == (-1)))) = true, (!((v0_9 == 0) == (((l.getD v0_9.toNat default).up) == (-1)))) = true, (!((v0_9 == 0) == (((l.getD v0_9.toNat default).up) == (-1)))) = true, (!((v0_9 == 0) == (((l.getD v0_9.toNat default).up) == (-1)))) = true, (!((v0_9 == 0) == (((l.getD v0_9.toNat default).up) == (-1)))) = true, (!((v0_9 == 0) == (((l.getD v0_9.toNat default).up) == (-1)))) = true, (!((v0_9 == 0) == (((l.getD v0_9.toNat default).up) == (-1)))) = true]) (r' := aI (bI false)) [] (by kernel_rfl) ⟨c1, (inR_lo c2), (el_of eVN rfl c2), c3, c3, c3, c3, c3, c3, c3, trivial⟩ rfl
    · obtain ⟨y0, c4, h⟩ := bind_some' h
      rcases bif_some h with ⟨c5, h⟩ | ⟨c5, h⟩
      · obtain rfl := Option.some.inj h
        exact finW_ok (n := 400) (gs := [.b true, .ys [nI ((l.getD v0_9.toNat default).n), sI ((l.getD v0_9.toNat default).text), nI ((l.getD v0_9.toNat default).up)], .b false, .r (aI (bI y0)), .b true]) [] (ob := [decide (v0_9 < ((l.map eVN).length : Int)) = true, 0 ≤ v0_9, (l.map eVN)[v0_9.toNat]? = some [nI ((l.getD v0_9.toNat default).n), sI ((l.getD v0_9.toNat default).text), nI ((l.getD v0_9.toNat default).up)], (!((v0_9 == 0) == (((l.getD v0_9.toNat default).up) == (-1)))) = false, (!((v0_9 == 0) == (((l.getD v0_9.toNat default).up) == (-1)))) = false, (!((v0_9 == 0) == (((l.getD v0_9.toNat default).up) == (-1)))) = false, (!((v0_9 == 0) == (((l.getD v0_9.toNat default).up) == (-1)))) = false, (!((v0_9 == 0) == (((l.getD v0_9.toNat default).up) == (-1)))) = false, Ok Tryd.prog 52 [tI (nI ((l.getD v0_9.toNat default).up)), tI (nI (-1)), tI (nI (IntKind.i64.wrap (v0_9 - 1)))] (aI (bI y0)), (!((v0_9 == 0) == (((l.getD v0_9.toNat default).up) == (-1)))) = false, (!((v0_9 == 0) == (((l.getD v0_9.toNat default).up) == (-1)))) = false, (!y0) = true]) (r' := aI (bI false)) [] (by kernel_rfl) ⟨c1, (inR_lo c2), (el_of eVN rfl c2), c3, c3, c3, c3, c3, (l1In.ok N ((l.getD v0_9.toNat default).up) (-1) (IntKind.i64.wrap (v0_9 - 1)) y0 c4), c3, c3, c5, trivial⟩ rfl
      · refine headB_ok (n := 400) (gs := [.b true, .ys [nI ((l.getD v0_9.toNat default).n), sI ((l.getD v0_9.toNat default).text), nI ((l.getD v0_9.toNat default).up)], .b false, .r (aI (bI y0)), .b false]) [] [] [0, 2, 4, 5, 6, 7, 8, 9] [0] (ob := [decide (v0_9 < ((l.map eVN).length : Int)) = true, 0 ≤ v0_9, (l.map eVN)[v0_9.toNat]? = some [nI ((l.getD v0_9.toNat default).n), sI ((l.getD v0_9.toNat default).text), nI ((l.getD v0_9.toNat default).up)], (!((v0_9 == 0) == (((l.getD v0_9.toNat default).up) == (-1)))) = false, (!((v0_9 == 0) == (((l.getD v0_9.toNat default).up) == (-1)))) = false, (!((v0_9 == 0) == (((l.getD v0_9.toNat default).up) == (-1)))) = false, (!((v0_9 == 0) == (((l.getD v0_9.toNat default).up) == (-1)))) = false, (!((v0_9 == 0) == (((l.getD v0_9.toNat default).up) == (-1)))) = false, Ok Tryd.prog 52 [tI (nI ((l.getD v0_9.toNat default).up)), tI (nI (-1)), tI (nI (IntKind.i64.wrap (v0_9 - 1)))] (aI (bI y0)), (!((v0_9 == 0) == (((l.getD v0_9.toNat default).up) == (-1)))) = false, (!((v0_9 == 0) == (((l.getD v0_9.toNat default).up) == (-1)))) = false, (!y0) = false]) (b := lB (codeOf Tryd.f32) 1) (K' := lK (lB (codeOf Tryd.f32) 0) 0 ++ [.inv R0] ++ lK (codeOf Tryd.f32) 0) (σ' := ⟨mkT_ 53 [(0, aI (.sl 3 (l.map eVN))), (2, aI (bI false)), (4, .t (.c (.loc 0 0))), (5, aI (bI (v0_9 == 0))), (6, aI (nI (IntKind.i64.wrap (v0_9 - 1)))), (7, aI (.sl 3 (l.map eVN))), (8, aI (nI ((l.map eVN).length : Int))), (9, aI (nI v0_9))], [.live (.box 70 [.i (nI ((l.getD v0_9.toNat default).n)), .i (sI ((l.getD v0_9.toNat default).text)), .i (nI ((l.getD v0_9.toNat default).up))])]⟩) (by kernel_rfl) ⟨c1, (inR_lo c2), (el_of eVN rfl c2), c3, c3, c3, c3, c3, (l1In.ok N ((l.getD v0_9.toNat default).up) (-1) (IntKind.i64.wrap (v0_9 - 1)) y0 c4), c3, c3, c5, trivial⟩ ?_
        refine loop_ok (fun q : Nat × Bool × Int => ⟨mkT_ 53 [(0, aI (.sl 3 (l.map eVN))), (2, aI (bI false)), (4, .t (.c (.loc 0 0))), (5, aI (bI (q.2.1))), (6, aI (nI (q.2.2))), (7, aI (.sl 3 (l.map eVN))), (8, aI (nI ((l.map eVN).length : Int))), (9, aI (nI v0_9))], [.live (.box 70 [.i (nI ((l.getD v0_9.toNat default).n)), .i (sI ((l.getD v0_9.toNat default).text)), .i (nI ((l.getD v0_9.toNat default).up))])]⟩) (fun q => l12Shape.L1 N l v0_9 (l12Shape.L0 N l n0) q.1 q.2.1 q.2.2 = some r) (fun q => q.1) (N, (v0_9 == 0), IntKind.i64.wrap (v0_9 - 1)) h ?_
        clear h
        rintro ⟨n1, v1_5, v1_6⟩ h R1 hR1
        replace h : l12Shape.L1 N l v0_9 (l12Shape.L0 N l n0) n1 v1_5 v1_6 = some r := h
        rcases n1 with _ | n1
        · cases h
        unfold l12Shape.L1 at h
        show AX _ _ _ _ _ (⟨mkT_ 53 [(0, aI (.sl 3 (l.map eVN))), (2, aI (bI false)), (4, .t (.c (.loc 0 0))), (5, aI (bI v1_5)), (6, aI (nI v1_6)), (7, aI (.sl 3 (l.map eVN))), (8, aI (nI ((l.map eVN).length : Int))), (9, aI (nI v0_9))], [.live (.box 70 [.i (nI ((l.getD v0_9.toNat default).n)), .i (sI ((l.getD v0_9.toNat default).text)), .i (nI ((l.getD v0_9.toNat default).up))])]⟩)
        rcases bif_some h with ⟨c6, h⟩ | ⟨c6, h⟩
        · rcases bif_some h with ⟨c7, h⟩ | ⟨c7, h⟩
          · obtain ⟨c8, h⟩ := chk_some h
            exact inv_ok (n := 400) (gs := [.b true, .b true, .ys [nI ((l.getD v1_6.toNat default).n), sI ((l.getD v1_6.toNat default).text), nI ((l.getD v1_6.toNat default).up)]]) [0, 2, 4, 5, 6, 7, 8, 9] [0] (ob := [decide (v1_6 ≥ 0) = true, decide (v1_6 ≥ 0) = true, decide (v1_6 ≥ 0) = true, (!v1_5) = true, 0 ≤ v1_6, (l.map eVN)[v1_6.toNat]? = some [nI ((l.getD v1_6.toNat default).n), sI ((l.getD v1_6.toNat default).text), nI ((l.getD v1_6.toNat default).up)]]) (σ' := ⟨mkT_ 53 [(0, aI (.sl 3 (l.map eVN))), (2, aI (bI false)), (4, .t (.c (.loc 0 0))), (5, aI (bI (v1_6 == ((l.getD v0_9.toNat default).up)))), (6, aI (nI ((l.getD v1_6.toNat default).up))), (7, aI (.sl 3 (l.map eVN))), (8, aI (nI ((l.map eVN).length : Int))), (9, aI (nI v0_9))], [.live (.box 70 [.i (nI ((l.getD v0_9.toNat default).n)), .i (sI ((l.getD v0_9.toNat default).text)), .i (nI ((l.getD v0_9.toNat default).up))])]⟩) (by kernel_rfl) ⟨c6, c6, c6, c7, (inR_lo c8), (el_of eVN rfl c8), trivial⟩ (fun a w hs => hR1 (n1, (v1_6 == ((l.getD v0_9.toNat default).up)), (l.getD v1_6.toNat default).up) a w h (Nat.lt_succ_self _) hs)
          · exact inv_ok (n := 400) (gs := [.b true, .b false, .b false]) [0, 2, 7, 8, 9] [] (ob := [decide (v1_6 ≥ 0) = true, decide (v1_6 ≥ 0) = true, decide (v1_6 ≥ 0) = true, (!v1_5) = false, (!v1_5) = false]) (σ' := ⟨mkT_ 53 [(0, aI (.sl 3 (l.map eVN))), (2, aI (bI false)), (7, aI (.sl 3 (l.map eVN))), (8, aI (nI ((l.map eVN).length : Int))), (9, aI (nI (IntKind.i64.wrap (v0_9 + 1))))], []⟩) (by kernel_rfl) ⟨c6, c6, c6, c7, c7, trivial⟩ (fun a w hs => hR0 (n0, IntKind.i64.wrap (v0_9 + 1)) a w h (Nat.lt_succ_self _) hs)
        · rcases bif_some h with ⟨c9, h⟩ | ⟨c9, h⟩
          · obtain rfl := Option.some.inj h
            exact finW_ok (n := 400) (gs := [.b false, .a 1, .b true]) [] (ob := [decide (v1_6 ≥ 0) = false, decide (v1_6 ≥ 0) = false, decide (v1_6 ≥ 0) = false, (!v1_5) = true]) (r' := aI (bI false)) [] (by kernel_rfl) ⟨c6, c6, c6, c9, trivial⟩ rfl
          · exact inv_ok (n := 400) (gs := [.b false, .a 1, .b false]) [0, 2, 7, 8, 9] [] (ob := [decide (v1_6 ≥ 0) = false, decide (v1_6 ≥ 0) = false, decide (v1_6 ≥ 0) = false, (!v1_5) = false]) (σ' := ⟨mkT_ 53 [(0, aI (.sl 3 (l.map eVN))), (2, aI (bI false)), (7, aI (.sl 3 (l.map eVN))), (8, aI (nI ((l.map eVN).length : Int))), (9, aI (nI (IntKind.i64.wrap (v0_9 + 1))))], []⟩) (by kernel_rfl) ⟨c6, c6, c6, c9, trivial⟩ (fun a w hs => hR0 (n0, IntKind.i64.wrap (v0_9 + 1)) a w h (Nat.lt_succ_self _) hs)
  · obtain ⟨y0, c10, h⟩ := bind_some' h
    obtain rfl := Option.some.inj h
    exact finW_ok (n := 400) (gs := [.b false, .r (aI (bI y0))]) [] (ob := [decide (v0_9 < ((l.map eVN).length : Int)) = false, Ok Tryd.prog 52 [tI (nI ((l.map eVN).length : Int)), tI (nI 1), tI (nI 100)] (aI (bI y0))]) (r' := aI (bI y0)) [] (by kernel_rfl) ⟨c1, (l1In.ok N ((l.map eVN).length : Int) 1 100 y0 c10), trivial⟩ rfl
def l11Tree.L0 (N : Nat) (l : (List TN)) (k : Int) (y0 : (List Int)) (self : (List TN) → Int → Option Sh) : Nat → Int → (List Sh) → Option Sh
  | 0, _, _ => none
  | n0 + 1, v0_23, v0_o_2 =>
    bif decide (v0_23 < ((y0.map eI).length : Int)) then
      bif inR v0_23 y0.length then
        (self l (y0.getD v0_23.toNat default)).bind fun y1 =>
        bif okAp (v0_o_2.length + [y1].length) 40 then
          l11Tree.L0 N l k y0 self n0 (IntKind.i64.wrap (v0_23 + 1)) (v0_o_2 ++ [y1])
        else none
      else none
    else
      some (Sh.mk ((l.getD k.toNat default).kind) ((l.getD k.toNat default).n) v0_o_2)
def l11Tree.sem : Nat → (List TN) → Int → Option Sh
  | 0, _, _ => none
  | N + 1, l, k =>
    bif inR k l.length then
      (l11Parts.sem N l k).bind fun y0 =>
    l11Tree.L0 N l k y0 (l11Tree.sem N) N 0 []
    else none
set_option maxHeartbeats 1000000 in
theorem l11Tree.ok : ∀ (N : Nat) (l : (List TN)) (k : Int) (r : Sh), l11Tree.sem N l k = some r → Ok Tryd.prog 34 [tI (.sl 3 (l.map eTN)), tI (nI k)] (.t (.agg [.i (nI r.kind), .i (nI r.n), .i (.sl 3 (r.kids.map eS))])) := by
  intro N
  induction N with
  | zero => intro l k r h; cases h
  | succ N ih =>
    intro l k r h
    unfold l11Tree.sem at h
    refine fnW_ok Tryd.func34 (by kernel_rfl) rfl rfl fun F hF => ?_
    obtain ⟨c1, h⟩ := chk_some h
    refine drw_ok (n := 400) (gs := []) [[], [], [.ys [nI ((l.getD k.toNat default).kind), nI ((l.getD k.toNat default).n), nI ((l.getD k.toNat default).up)]], [], [], [], [], [.ys [nI ((l.getD k.toNat default).kind), nI ((l.getD k.toNat default).n), nI ((l.getD k.toNat default).up)]], [], [], [], [], []] [0, 1, 4, 5] [0, 1] (ob := [0 ≤ k, (l.map eTN)[k.toNat]? = some [nI ((l.getD k.toNat default).kind), nI ((l.getD k.toNat default).n), nI ((l.getD k.toNat default).up)], 0 ≤ k, (l.map eTN)[k.toNat]? = some [nI ((l.getD k.toNat default).kind), nI ((l.getD k.toNat default).n), nI ((l.getD k.toNat default).up)]]) (K' := dK (codeOf Tryd.f34) 0) (σ' := ⟨mkT_ 37 [(0, aI (.sl 3 (l.map eTN))), (1, aI (nI k)), (4, .t (.c (.loc 0 0))), (5, .t (.c (.loc 1 0)))], [.live (.box 60 [.i (nI 0), .i (nI 0), .i (.v (.slice none 0 0))]), .live (.box 60 [.i (nI ((l.getD k.toNat default).kind)), .i (nI ((l.getD k.toNat default).n)), .i (.v (.slice none 0 0))])]⟩) (by kernel_rfl) ⟨(inR_lo c1), (el_of eTN rfl c1), (inR_lo c1), (el_of eTN rfl c1), trivial⟩ ?_
    obtain ⟨y0, c2, h⟩ := bind_some' h
    refine headB_ok (n := 400) (gs := [.r (aI (.sl 1 (y0.map eI)))]) [] [(1, 2, 60, 3)] [0, 4, 5, 21, 22, 23] [0, 1, 2] (ob := [Ok Tryd.prog 54 [tI (.sl 3 (l.map eTN)), tI (nI k)] (aI (.sl 1 (y0.map eI)))]) (b := lB (codeOf Tryd.f34) 0) (K' := lK (codeOf Tryd.f34) 0) (σ' := ⟨mkT_ 37 [(0, aI (.sl 3 (l.map eTN))), (4, .t (.c (.loc 0 0))), (5, .t (.c (.loc 1 0))), (21, aI (.sl 1 (y0.map eI))), (22, aI (nI ((y0.map eI).length : Int))), (23, aI (nI 0))], [.live (.box 60 [.i (nI 0), .i (nI 0), .i (.v (.slice none 0 0))]), .live (.box 60 [.i (nI ((l.getD k.toNat default).kind)), .i (nI ((l.getD k.toNat default).n)), .os 2]), .live (.row 60 3 [])]⟩) (by kernel_rfl) ⟨(l11Parts.ok N l k y0 c2), trivial⟩ ?_
    rw [((by simp [cutC, eS_eq]) : [] = [].map eS)]
    refine loop_ok (fun q : Nat × Int × (List Sh) => ⟨mkT_ 37 [(0, aI (.sl 3 (l.map eTN))), (4, .t (.c (.loc 0 0))), (5, .t (.c (.loc 1 0))), (21, aI (.sl 1 (y0.map eI))), (22, aI (nI ((y0.map eI).length : Int))), (23, aI (nI (q.2.1)))], [.live (.box 60 [.i (nI 0), .i (nI 0), .i (.v (.slice none 0 0))]), .live (.box 60 [.i (nI ((l.getD k.toNat default).kind)), .i (nI ((l.getD k.toNat default).n)), .os 2]), .live (.row 60 3 ((q.2.2).map eS))]⟩) (fun q => l11Tree.L0 N l k y0 (l11Tree.sem N) q.1 q.2.1 q.2.2 = some r) (fun q => q.1) (N, 0, []) h ?_
    clear h
    rintro ⟨n0, v0_23, v0_o_2⟩ h R0 hR0
    replace h : l11Tree.L0 N l k y0 (l11Tree.sem N) n0 v0_23 v0_o_2 = some r := h
    rcases n0 with _ | n0
    · cases h
    unfold l11Tree.L0 at h
    show AX _ _ _ _ _ (⟨mkT_ 37 [(0, aI (.sl 3 (l.map eTN))), (4, .t (.c (.loc 0 0))), (5, .t (.c (.loc 1 0))), (21, aI (.sl 1 (y0.map eI))), (22, aI (nI ((y0.map eI).length : Int))), (23, aI (nI v0_23))], [.live (.box 60 [.i (nI 0), .i (nI 0), .i (.v (.slice none 0 0))]), .live (.box 60 [.i (nI ((l.getD k.toNat default).kind)), .i (nI ((l.getD k.toNat default).n)), .os 2]), .live (.row 60 3 (v0_o_2.map eS))]⟩)
    rcases bif_some h with ⟨c3, h⟩ | ⟨c3, h⟩
    · obtain ⟨c4, h⟩ := chk_some h
      obtain ⟨y1, c5, h⟩ := bind_some' h
      obtain ⟨c6, h⟩ := chk_some h
      refine drx_ok (n := 400) (gs := [.b true, .ys [nI (y0.getD v0_23.toNat default)]]) [[], [], [], [], [.r (.t (.agg [.i (nI y1.kind), .i (nI y1.n), .i (.sl 3 (y1.kids.map eS))]))], [], [], [], []] [0, 4, 5, 21, 22, 23] [0, 1, 4] (ob := [decide (v0_23 < ((y0.map eI).length : Int)) = true, 0 ≤ v0_23, (y0.map eI)[v0_23.toNat]? = some [nI (y0.getD v0_23.toNat default)], Ok Tryd.prog 34 [tI (.sl 3 (l.map eTN)), tI (nI (y0.getD v0_23.toNat default))] (.t (.agg [.i (nI y1.kind), .i (nI y1.n), .i (.sl 3 (y1.kids.map eS))])), ((v0_o_2.map eS).length + ([[nI y1.kind, nI y1.n, .sl 3 (y1.kids.map eS)]] : List (List IV)).length) * 40 ≤ 140737488355328]) (K' := dK (lB (codeOf Tryd.f34) 0) 0 ++ [.inv R0] ++ lK (codeOf Tryd.f34) 0) (σ' := ⟨mkT_ 37 [(0, aI (.sl 3 (l.map eTN))), (4, .t (.c (.loc 0 0))), (5, .t (.c (.loc 1 0))), (21, aI (.sl 1 (y0.map eI))), (22, aI (nI ((y0.map eI).length : Int))), (23, aI (nI v0_23))], [.live (.box 60 [.i (nI 0), .i (nI 0), .i (.v (.slice none 0 0))]), .live (.box 60 [.i (nI ((l.getD k.toNat default).kind)), .i (nI ((l.getD k.toNat default).n)), .os 2]), .live (.row 60 3 ((v0_o_2.map eS) ++ [[nI y1.kind, nI y1.n, .sl 3 (y1.kids.map eS)]]))]⟩) (by kernel_rfl) ⟨c3, (inR_lo c4), (el_of eI rfl c4), (ih l (y0.getD v0_23.toNat default) y1 c5), (okAp_of (by simp) c6), trivial⟩ ?_
      exact inv_ok (n := 400) (gs := []) [0, 4, 5, 21, 22, 23] [0, 1, 2] (ob := []) (σ' := ⟨mkT_ 37 [(0, aI (.sl 3 (l.map eTN))), (4, .t (.c (.loc 0 0))), (5, .t (.c (.loc 1 0))), (21, aI (.sl 1 (y0.map eI))), (22, aI (nI ((y0.map eI).length : Int))), (23, aI (nI (IntKind.i64.wrap (v0_23 + 1))))], [.live (.box 60 [.i (nI 0), .i (nI 0), .i (.v (.slice none 0 0))]), .live (.box 60 [.i (nI ((l.getD k.toNat default).kind)), .i (nI ((l.getD k.toNat default).n)), .os 2]), .live (.row 60 3 ((v0_o_2.map eS) ++ [[nI y1.kind, nI y1.n, .sl 3 (y1.kids.map eS)]]))]⟩) (by kernel_rfl) trivial (fun a w hs => hR0 (n0, IntKind.i64.wrap (v0_23 + 1), v0_o_2 ++ [y1]) a w h (Nat.lt_succ_self _) (by rw [((by simp [cutC, eS_eq]) : (v0_o_2.map eS) ++ [[nI y1.kind, nI y1.n, .sl 3 (y1.kids.map eS)]] = (v0_o_2 ++ [y1]).map eS)] at hs; exact hs))
    · obtain rfl := Option.some.inj h
      exact finW_ok (n := 400) (gs := [.b false]) [.fz 2] (ob := [decide (v0_23 < ((y0.map eI).length : Int)) = false]) (r' := .t (.agg [.i (nI ((l.getD k.toNat default).kind)), .i (nI ((l.getD k.toNat default).n)), .i (.sl 3 (v0_o_2.map eS))])) [] (by kernel_rfl) ⟨c3, trivial⟩ rfl
def l12Tree.L0 (N : Nat) (l : (List VN)) (k : Int) (self : (List VN) → Int → Option Dt) : Nat → Int → (List Dt) → Option Dt
  | 0, _, _ => none
  | n0 + 1, v0_6, v0_o_2 =>
    bif decide (v0_6 < ((l.map eVN).length : Int)) then
      bif inR v0_6 l.length then
        bif (((l.getD v0_6.toNat default).up) == k) then
        (self l v0_6).bind fun y0 =>
        bif okAp (v0_o_2.length + [y0].length) 48 then
          l12Tree.L0 N l k self n0 (IntKind.i64.wrap (v0_6 + 1)) (v0_o_2 ++ [y0])
        else none
      else
        l12Tree.L0 N l k self n0 (IntKind.i64.wrap (v0_6 + 1)) v0_o_2
      else none
    else
      some (Dt.mk ((l.getD k.toNat default).n) ((l.getD k.toNat default).text) v0_o_2)
def l12Tree.sem : Nat → (List VN) → Int → Option Dt
  | 0, _, _ => none
  | N + 1, l, k =>
    bif inR k l.length then
      l12Tree.L0 N l k (l12Tree.sem N) N (IntKind.i64.wrap (k + 1)) []
    else none
set_option maxHeartbeats 1000000 in
theorem l12Tree.ok : ∀ (N : Nat) (l : (List VN)) (k : Int) (r : Dt), l12Tree.sem N l k = some r → Ok Tryd.prog 35 [tI (.sl 3 (l.map eVN)), tI (nI k)] (.t (.agg [.i (nI r.n), .i (sI r.text), .i (.sl 3 (r.kids.map eD))])) := by
  intro N
  induction N with
  | zero => intro l k r h; cases h
  | succ N ih =>
    intro l k r h
    unfold l12Tree.sem at h
    refine fnW_ok Tryd.func35 (by kernel_rfl) rfl rfl fun F hF => ?_
    obtain ⟨c1, h⟩ := chk_some h
    refine drw_ok (n := 400) (gs := []) [[], [], [.ys [nI ((l.getD k.toNat default).n), sI ((l.getD k.toNat default).text), nI ((l.getD k.toNat default).up)]], [], [], [], [], [.ys [nI ((l.getD k.toNat default).n), sI ((l.getD k.toNat default).text), nI ((l.getD k.toNat default).up)]], [], [], [], [], []] [0, 1, 4, 5] [0, 1] (ob := [0 ≤ k, (l.map eVN)[k.toNat]? = some [nI ((l.getD k.toNat default).n), sI ((l.getD k.toNat default).text), nI ((l.getD k.toNat default).up)], 0 ≤ k, (l.map eVN)[k.toNat]? = some [nI ((l.getD k.toNat default).n), sI ((l.getD k.toNat default).text), nI ((l.getD k.toNat default).up)]]) (K' := dK (codeOf Tryd.f35) 0) (σ' := ⟨mkT_ 42 [(0, aI (.sl 3 (l.map eVN))), (1, aI (nI k)), (4, .t (.c (.loc 0 0))), (5, .t (.c (.loc 1 0)))], [.live (.box 64 [.i (nI 0), .i (sI ByteArray.empty), .i (.v (.slice none 0 0))]), .live (.box 64 [.i (nI ((l.getD k.toNat default).n)), .i (sI ((l.getD k.toNat default).text)), .i (.v (.slice none 0 0))])]⟩) (by kernel_rfl) ⟨(inR_lo c1), (el_of eVN rfl c1), (inR_lo c1), (el_of eVN rfl c1), trivial⟩ ?_
    refine headB_ok (n := 400) (gs := []) [] [(1, 2, 64, 3)] [0, 1, 4, 5, 6] [0, 1, 2] (ob := []) (b := lB (codeOf Tryd.f35) 0) (K' := lK (codeOf Tryd.f35) 0) (σ' := ⟨mkT_ 42 [(0, aI (.sl 3 (l.map eVN))), (1, aI (nI k)), (4, .t (.c (.loc 0 0))), (5, .t (.c (.loc 1 0))), (6, aI (nI (IntKind.i64.wrap (k + 1))))], [.live (.box 64 [.i (nI 0), .i (sI ByteArray.empty), .i (.v (.slice none 0 0))]), .live (.box 64 [.i (nI ((l.getD k.toNat default).n)), .i (sI ((l.getD k.toNat default).text)), .os 2]), .live (.row 64 3 [])]⟩) (by kernel_rfl) trivial ?_
    rw [((by simp [cutC, eD_eq]) : [] = [].map eD)]
    refine loop_ok (fun q : Nat × Int × (List Dt) => ⟨mkT_ 42 [(0, aI (.sl 3 (l.map eVN))), (1, aI (nI k)), (4, .t (.c (.loc 0 0))), (5, .t (.c (.loc 1 0))), (6, aI (nI (q.2.1)))], [.live (.box 64 [.i (nI 0), .i (sI ByteArray.empty), .i (.v (.slice none 0 0))]), .live (.box 64 [.i (nI ((l.getD k.toNat default).n)), .i (sI ((l.getD k.toNat default).text)), .os 2]), .live (.row 64 3 ((q.2.2).map eD))]⟩) (fun q => l12Tree.L0 N l k (l12Tree.sem N) q.1 q.2.1 q.2.2 = some r) (fun q => q.1) (N, IntKind.i64.wrap (k + 1), []) h ?_
    clear h
    rintro ⟨n0, v0_6, v0_o_2⟩ h R0 hR0
    replace h : l12Tree.L0 N l k (l12Tree.sem N) n0 v0_6 v0_o_2 = some r := h
    rcases n0 with _ | n0
    · cases h
    unfold l12Tree.L0 at h
    show AX _ _ _ _ _ (⟨mkT_ 42 [(0, aI (.sl 3 (l.map eVN))), (1, aI (nI k)), (4, .t (.c (.loc 0 0))), (5, .t (.c (.loc 1 0))), (6, aI (nI v0_6))], [.live (.box 64 [.i (nI 0), .i (sI ByteArray.empty), .i (.v (.slice none 0 0))]), .live (.box 64 [.i (nI ((l.getD k.toNat default).n)), .i (sI ((l.getD k.toNat default).text)), .os 2]), .live (.row 64 3 (v0_o_2.map eD))]⟩)
    rcases bif_some h with ⟨c2, h⟩ | ⟨c2, h⟩
    · obtain ⟨c3, h⟩ := chk_some h
      rcases bif_some h with ⟨c4, h⟩ | ⟨c4, h⟩
      · obtain ⟨y0, c5, h⟩ := bind_some' h
        obtain ⟨c6, h⟩ := chk_some h
        refine drx_ok (n := 400) (gs := [.b true, .ys [nI ((l.getD v0_6.toNat default).n), sI ((l.getD v0_6.toNat default).text), nI ((l.getD v0_6.toNat default).up)], .b true]) [[], [], [], [], [.r (.t (.agg [.i (nI y0.n), .i (sI y0.text), .i (.sl 3 (y0.kids.map eD))]))], [], [], [], []] [0, 1, 4, 5, 6] [0, 1, 4] (ob := [decide (v0_6 < ((l.map eVN).length : Int)) = true, 0 ≤ v0_6, (l.map eVN)[v0_6.toNat]? = some [nI ((l.getD v0_6.toNat default).n), sI ((l.getD v0_6.toNat default).text), nI ((l.getD v0_6.toNat default).up)], (((l.getD v0_6.toNat default).up) == k) = true, Ok Tryd.prog 35 [tI (.sl 3 (l.map eVN)), tI (nI v0_6)] (.t (.agg [.i (nI y0.n), .i (sI y0.text), .i (.sl 3 (y0.kids.map eD))])), ((v0_o_2.map eD).length + ([[nI y0.n, sI y0.text, .sl 3 (y0.kids.map eD)]] : List (List IV)).length) * 48 ≤ 140737488355328]) (K' := dK (lB (codeOf Tryd.f35) 0) 0 ++ [.inv R0] ++ lK (codeOf Tryd.f35) 0) (σ' := ⟨mkT_ 42 [(0, aI (.sl 3 (l.map eVN))), (1, aI (nI k)), (4, .t (.c (.loc 0 0))), (5, .t (.c (.loc 1 0))), (6, aI (nI v0_6))], [.live (.box 64 [.i (nI 0), .i (sI ByteArray.empty), .i (.v (.slice none 0 0))]), .live (.box 64 [.i (nI ((l.getD k.toNat default).n)), .i (sI ((l.getD k.toNat default).text)), .os 2]), .live (.row 64 3 ((v0_o_2.map eD) ++ [[nI y0.n, sI y0.text, .sl 3 (y0.kids.map eD)]]))]⟩) (by kernel_rfl) ⟨c2, (inR_lo c3), (el_of eVN rfl c3), c4, (ih l v0_6 y0 c5), (okAp_of (by simp) c6), trivial⟩ ?_
        exact inv_ok (n := 400) (gs := []) [0, 1, 4, 5, 6] [0, 1, 2] (ob := []) (σ' := ⟨mkT_ 42 [(0, aI (.sl 3 (l.map eVN))), (1, aI (nI k)), (4, .t (.c (.loc 0 0))), (5, .t (.c (.loc 1 0))), (6, aI (nI (IntKind.i64.wrap (v0_6 + 1))))], [.live (.box 64 [.i (nI 0), .i (sI ByteArray.empty), .i (.v (.slice none 0 0))]), .live (.box 64 [.i (nI ((l.getD k.toNat default).n)), .i (sI ((l.getD k.toNat default).text)), .os 2]), .live (.row 64 3 ((v0_o_2.map eD) ++ [[nI y0.n, sI y0.text, .sl 3 (y0.kids.map eD)]]))]⟩) (by kernel_rfl) trivial (fun a w hs => hR0 (n0, IntKind.i64.wrap (v0_6 + 1), v0_o_2 ++ [y0]) a w h (Nat.lt_succ_self _) (by rw [((by simp [cutC, eD_eq]) : (v0_o_2.map eD) ++ [[nI y0.n, sI y0.text, .sl 3 (y0.kids.map eD)]] = (v0_o_2 ++ [y0]).map eD)] at hs; exact hs))
      · exact inv_ok (n := 400) (gs := [.b true, .ys [nI ((l.getD v0_6.toNat default).n), sI ((l.getD v0_6.toNat default).text), nI ((l.getD v0_6.toNat default).up)], .b false]) [0, 1, 4, 5, 6] [0, 1, 2] (ob := [decide (v0_6 < ((l.map eVN).length : Int)) = true, 0 ≤ v0_6, (l.map eVN)[v0_6.toNat]? = some [nI ((l.getD v0_6.toNat default).n), sI ((l.getD v0_6.toNat default).text), nI ((l.getD v0_6.toNat default).up)], (((l.getD v0_6.toNat default).up) == k) = false]) (σ' := ⟨mkT_ 42 [(0, aI (.sl 3 (l.map eVN))), (1, aI (nI k)), (4, .t (.c (.loc 0 0))), (5, .t (.c (.loc 1 0))), (6, aI (nI (IntKind.i64.wrap (v0_6 + 1))))], [.live (.box 64 [.i (nI 0), .i (sI ByteArray.empty), .i (.v (.slice none 0 0))]), .live (.box 64 [.i (nI ((l.getD k.toNat default).n)), .i (sI ((l.getD k.toNat default).text)), .os 2]), .live (.row 64 3 (v0_o_2.map eD))]⟩) (by kernel_rfl) ⟨c2, (inR_lo c3), (el_of eVN rfl c3), c4, trivial⟩ (fun a w hs => hR0 (n0, IntKind.i64.wrap (v0_6 + 1), v0_o_2) a w h (Nat.lt_succ_self _) hs)
    · obtain rfl := Option.some.inj h
      exact finW_ok (n := 400) (gs := [.b false]) [.fz 2] (ob := [decide (v0_6 < ((l.map eVN).length : Int)) = false]) (r' := .t (.agg [.i (nI ((l.getD k.toNat default).n)), .i (sI ((l.getD k.toNat default).text)), .i (.sl 3 (v0_o_2.map eD))])) [] (by kernel_rfl) ⟨c2, trivial⟩ rfl
def l4Kind.sem (N : Nat) (f : Int) : Option (K4 × Bool) :=
    bif (f == 16) then
      some ((K4.mk 5 10), true)
    else
      bif (f == 32) then
        some ((K4.mk 8 23), true)
      else
        some ((K4.mk 0 0), false)
set_option maxHeartbeats 1000000 in
theorem l4Kind.ok (N : Nat) (f : Int) (r : (K4 × Bool)) (h : l4Kind.sem N f = some r) : Ok Tryd.prog 77 [tI (nI f)] (.tup [.agg [.i (.v (.int .u64 r.1.x)), .i (.v (.int .u64 r.1.p))], tI (bI r.2)]) := by
  unfold l4Kind.sem at h
  refine fnW_ok Tryd.func77 (by kernel_rfl) rfl rfl fun F hF => ?_
  rcases bif_some h with ⟨c1, h⟩ | ⟨c1, h⟩
  · obtain rfl := Option.some.inj h
    exact finW_ok (n := 400) (gs := [.b true]) [] (ob := [(f == 16) = true]) (r' := .tup [.agg [.i (.v (.int .u64 5)), .i (.v (.int .u64 10))], tI (bI true)]) [] (by kernel_rfl) ⟨c1, trivial⟩ rfl
  · rcases bif_some h with ⟨c2, h⟩ | ⟨c2, h⟩
    · obtain rfl := Option.some.inj h
      exact finW_ok (n := 400) (gs := [.b false, .b true]) [] (ob := [(f == 16) = false, (f == 32) = true]) (r' := .tup [.agg [.i (.v (.int .u64 8)), .i (.v (.int .u64 23))], tI (bI true)]) [] (by kernel_rfl) ⟨c1, c2, trivial⟩ rfl
    · obtain rfl := Option.some.inj h
      exact finW_ok (n := 400) (gs := [.b false, .b false]) [] (ob := [(f == 16) = false, (f == 32) = false]) (r' := .tup [.agg [.i (.v (.int .u64 0)), .i (.v (.int .u64 0))], tI (bI false)]) [] (by kernel_rfl) ⟨c1, c2, trivial⟩ rfl
def k4mask.sem (N : Nat) (k : K4) : Option Int :=
    some (IntKind.u32.wrap ((shlV .u32 1 (IntKind.u64.wrap ((IntKind.u64.wrap (k.x + k.p)) + 1))) - 1))
set_option maxHeartbeats 1000000 in
theorem k4mask.ok (N : Nat) (k : K4) (r : Int) (h : k4mask.sem N k = some r) : Ok Tryd.prog 99 [.agg [.i (.v (.int .u64 k.x)), .i (.v (.int .u64 k.p))]] (aI (.v (.int .u32 r))) := by
  unfold k4mask.sem at h
  refine fnW_ok Tryd.func99 (by kernel_rfl) rfl rfl fun F hF => ?_
  obtain rfl := Option.some.inj h
  exact finW_ok (n := 400) (gs := []) [] (ob := [0 ≤ (IntKind.u64.wrap ((IntKind.u64.wrap (k.x + k.p)) + 1) : Int)]) (r' := aI (.v (.int .u32 (IntKind.u32.wrap ((shlV .u32 1 (IntKind.u64.wrap ((IntKind.u64.wrap (k.x + k.p)) + 1))) - 1))))) [] (by kernel_rfl) ⟨(wrap_u_nonneg' _), trivial⟩ rfl
def k4least.sem (N : Nat) (k : K4) : Option Int :=
    some (IntKind.i64.wrap ((IntKind.i64.wrap (2 - (shlV .i64 1 (IntKind.u64.wrap (k.x - 1))))) - (IntKind.i64.wrap (k.p))))
set_option maxHeartbeats 1000000 in
theorem k4least.ok (N : Nat) (k : K4) (r : Int) (h : k4least.sem N k = some r) : Ok Tryd.prog 100 [.agg [.i (.v (.int .u64 k.x)), .i (.v (.int .u64 k.p))]] (aI (nI r)) := by
  unfold k4least.sem at h
  refine fnW_ok Tryd.func100 (by kernel_rfl) rfl rfl fun F hF => ?_
  obtain rfl := Option.some.inj h
  exact finW_ok (n := 400) (gs := []) [] (ob := [0 ≤ (IntKind.u64.wrap (k.x - 1) : Int)]) (r' := aI (nI (IntKind.i64.wrap ((IntKind.i64.wrap (2 - (shlV .i64 1 (IntKind.u64.wrap (k.x - 1))))) - (IntKind.i64.wrap (k.p)))))) [] (by kernel_rfl) ⟨(wrap_u_nonneg' _), trivial⟩ rfl
def k4nan.sem (N : Nat) (k : K4) : Option Int :=
    bif decide (0 ≤ (k.x : Int)) then
      bif decide (0 ≤ (k.p : Int)) then
        some (IntKind.u32.wrap (((BitVec.ofInt 32 (shlV .u32 (IntKind.u32.wrap ((shlV .u32 1 k.x) - 1)) k.p) ||| BitVec.ofInt 32 (shlV .u32 1 (IntKind.u64.wrap (k.p - 1)))).toNat : Int)))
      else none
    else none
set_option maxHeartbeats 1000000 in
theorem k4nan.ok (N : Nat) (k : K4) (r : Int) (h : k4nan.sem N k = some r) : Ok Tryd.prog 79 [.agg [.i (.v (.int .u64 k.x)), .i (.v (.int .u64 k.p))]] (aI (.v (.int .u32 r))) := by
  unfold k4nan.sem at h
  refine fnW_ok Tryd.func79 (by kernel_rfl) rfl rfl fun F hF => ?_
  obtain ⟨c1, h⟩ := chk_some h
  obtain ⟨c2, h⟩ := chk_some h
  obtain rfl := Option.some.inj h
  exact finW_ok (n := 400) (gs := []) [] (ob := [0 ≤ (k.x : Int), 0 ≤ (k.p : Int), 0 ≤ (IntKind.u64.wrap (k.p - 1) : Int)]) (r' := aI (.v (.int .u32 (IntKind.u32.wrap (((BitVec.ofInt 32 (shlV .u32 (IntKind.u32.wrap ((shlV .u32 1 k.x) - 1)) k.p) ||| BitVec.ofInt 32 (shlV .u32 1 (IntKind.u64.wrap (k.p - 1)))).toNat : Int)))))) [] (by kernel_rfl) ⟨(of_decide_eq_true c1), (of_decide_eq_true c2), (wrap_u_nonneg' _), trivial⟩ rfl
def k4open.sem (N : Nat) (k : K4) (a : Int) : Option F4 :=
    (k4mask.sem N k).bind fun y0 =>
    bif decide (0 ≤ (k.p : Int)) then
      bif decide (0 ≤ (k.x : Int)) then
        bif ((IntKind.u32.wrap (((BitVec.ofInt 32 (shrV .u32 (IntKind.u32.wrap (((BitVec.ofInt 32 a &&& BitVec.ofInt 32 y0).toNat : Int))) k.p) &&& BitVec.ofInt 32 (IntKind.u32.wrap ((shlV .u32 1 k.x) - 1))).toNat : Int))) == (IntKind.u32.wrap ((shlV .u32 1 k.x) - 1))) then
      some (F4.mk ((shrV .u32 (IntKind.u32.wrap (((BitVec.ofInt 32 a &&& BitVec.ofInt 32 y0).toNat : Int))) (IntKind.u64.wrap (k.x + k.p))) == 1) ((IntKind.u32.wrap (((BitVec.ofInt 32 (IntKind.u32.wrap (((BitVec.ofInt 32 a &&& BitVec.ofInt 32 y0).toNat : Int))) &&& BitVec.ofInt 32 (IntKind.u32.wrap ((shlV .u32 1 k.p) - 1))).toNat : Int))) == 0) ((IntKind.u32.wrap (((BitVec.ofInt 32 (IntKind.u32.wrap (((BitVec.ofInt 32 a &&& BitVec.ofInt 32 y0).toNat : Int))) &&& BitVec.ofInt 32 (IntKind.u32.wrap ((shlV .u32 1 k.p) - 1))).toNat : Int))) != 0) 0 0)
    else
      bif ((IntKind.u32.wrap (((BitVec.ofInt 32 (shrV .u32 (IntKind.u32.wrap (((BitVec.ofInt 32 a &&& BitVec.ofInt 32 y0).toNat : Int))) k.p) &&& BitVec.ofInt 32 (IntKind.u32.wrap ((shlV .u32 1 k.x) - 1))).toNat : Int))) == 0) then
        (k4least.sem N k).bind fun y1 =>
        some (F4.mk ((shrV .u32 (IntKind.u32.wrap (((BitVec.ofInt 32 a &&& BitVec.ofInt 32 y0).toNat : Int))) (IntKind.u64.wrap (k.x + k.p))) == 1) false false (IntKind.u64.wrap (IntKind.u32.wrap (((BitVec.ofInt 32 (IntKind.u32.wrap (((BitVec.ofInt 32 a &&& BitVec.ofInt 32 y0).toNat : Int))) &&& BitVec.ofInt 32 (IntKind.u32.wrap ((shlV .u32 1 k.p) - 1))).toNat : Int)))) y1)
      else
        (k4least.sem N k).bind fun y1 =>
        some (F4.mk ((shrV .u32 (IntKind.u32.wrap (((BitVec.ofInt 32 a &&& BitVec.ofInt 32 y0).toNat : Int))) (IntKind.u64.wrap (k.x + k.p))) == 1) false false (IntKind.u64.wrap (IntKind.u32.wrap (((BitVec.ofInt 32 (IntKind.u32.wrap (((BitVec.ofInt 32 (IntKind.u32.wrap (((BitVec.ofInt 32 a &&& BitVec.ofInt 32 y0).toNat : Int))) &&& BitVec.ofInt 32 (IntKind.u32.wrap ((shlV .u32 1 k.p) - 1))).toNat : Int))) ||| BitVec.ofInt 32 (shlV .u32 1 k.p)).toNat : Int)))) (IntKind.i64.wrap ((IntKind.i64.wrap (y1 + (IntKind.i64.wrap (IntKind.u32.wrap (((BitVec.ofInt 32 (shrV .u32 (IntKind.u32.wrap (((BitVec.ofInt 32 a &&& BitVec.ofInt 32 y0).toNat : Int))) k.p) &&& BitVec.ofInt 32 (IntKind.u32.wrap ((shlV .u32 1 k.x) - 1))).toNat : Int)))))) - 1)))
      else none
    else none
set_option maxHeartbeats 1000000 in
theorem k4open.ok (N : Nat) (k : K4) (a : Int) (r : F4) (h : k4open.sem N k a = some r) : Ok Tryd.prog 78 [.agg [.i (.v (.int .u64 k.x)), .i (.v (.int .u64 k.p))], tI (.v (.int .u32 a))] (.t (.agg [.i (bI r.neg), .i (bI r.inf), .i (bI r.nan), .i (.v (.int .u64 r.m)), .i (nI r.e)])) := by
  unfold k4open.sem at h
  refine fnW_ok Tryd.func78 (by kernel_rfl) rfl rfl fun F hF => ?_
  obtain ⟨y0, c1, h⟩ := bind_some' h
  obtain ⟨c2, h⟩ := chk_some h
  obtain ⟨c3, h⟩ := chk_some h
  rcases bif_some h with ⟨c4, h⟩ | ⟨c4, h⟩
  · obtain rfl := Option.some.inj h
    exact finW_ok (n := 400) (gs := [.r (aI (.v (.int .u32 y0))), .b true]) [] (ob := [Ok Tryd.prog 99 [.agg [.i (.v (.int .u64 k.x)), .i (.v (.int .u64 k.p))]] (aI (.v (.int .u32 y0))), 0 ≤ (k.p : Int), 0 ≤ (k.p : Int), 0 ≤ (k.x : Int), 0 ≤ (IntKind.u64.wrap (k.x + k.p) : Int), 0 ≤ (k.x : Int), ((IntKind.u32.wrap (((BitVec.ofInt 32 (shrV .u32 (IntKind.u32.wrap (((BitVec.ofInt 32 a &&& BitVec.ofInt 32 y0).toNat : Int))) k.p) &&& BitVec.ofInt 32 (IntKind.u32.wrap ((shlV .u32 1 k.x) - 1))).toNat : Int))) == (IntKind.u32.wrap ((shlV .u32 1 k.x) - 1))) = true]) (r' := .t (.agg [.i (bI ((shrV .u32 (IntKind.u32.wrap (((BitVec.ofInt 32 a &&& BitVec.ofInt 32 y0).toNat : Int))) (IntKind.u64.wrap (k.x + k.p))) == 1)), .i (bI ((IntKind.u32.wrap (((BitVec.ofInt 32 (IntKind.u32.wrap (((BitVec.ofInt 32 a &&& BitVec.ofInt 32 y0).toNat : Int))) &&& BitVec.ofInt 32 (IntKind.u32.wrap ((shlV .u32 1 k.p) - 1))).toNat : Int))) == 0)), .i (bI ((IntKind.u32.wrap (((BitVec.ofInt 32 (IntKind.u32.wrap (((BitVec.ofInt 32 a &&& BitVec.ofInt 32 y0).toNat : Int))) &&& BitVec.ofInt 32 (IntKind.u32.wrap ((shlV .u32 1 k.p) - 1))).toNat : Int))) != 0)), .i (.v (.int .u64 0)), .i (nI 0)])) [] (by kernel_rfl) ⟨(k4mask.ok N k y0 c1), (of_decide_eq_true c2), (of_decide_eq_true c2), (of_decide_eq_true c3), (wrap_u_nonneg' _), (of_decide_eq_true c3), c4, trivial⟩ rfl
  · rcases bif_some h with ⟨c5, h⟩ | ⟨c5, h⟩
    · obtain ⟨y1, c6, h⟩ := bind_some' h
      obtain rfl := Option.some.inj h
      exact finW_ok (n := 400) (gs := [.r (aI (.v (.int .u32 y0))), .b false, .b true, .r (aI (nI y1))]) [] (ob := [Ok Tryd.prog 99 [.agg [.i (.v (.int .u64 k.x)), .i (.v (.int .u64 k.p))]] (aI (.v (.int .u32 y0))), 0 ≤ (k.p : Int), 0 ≤ (k.p : Int), 0 ≤ (k.x : Int), 0 ≤ (IntKind.u64.wrap (k.x + k.p) : Int), 0 ≤ (k.x : Int), ((IntKind.u32.wrap (((BitVec.ofInt 32 (shrV .u32 (IntKind.u32.wrap (((BitVec.ofInt 32 a &&& BitVec.ofInt 32 y0).toNat : Int))) k.p) &&& BitVec.ofInt 32 (IntKind.u32.wrap ((shlV .u32 1 k.x) - 1))).toNat : Int))) == (IntKind.u32.wrap ((shlV .u32 1 k.x) - 1))) = false, ((IntKind.u32.wrap (((BitVec.ofInt 32 (shrV .u32 (IntKind.u32.wrap (((BitVec.ofInt 32 a &&& BitVec.ofInt 32 y0).toNat : Int))) k.p) &&& BitVec.ofInt 32 (IntKind.u32.wrap ((shlV .u32 1 k.x) - 1))).toNat : Int))) == 0) = true, Ok Tryd.prog 100 [.agg [.i (.v (.int .u64 k.x)), .i (.v (.int .u64 k.p))]] (aI (nI y1))]) (r' := .t (.agg [.i (bI ((shrV .u32 (IntKind.u32.wrap (((BitVec.ofInt 32 a &&& BitVec.ofInt 32 y0).toNat : Int))) (IntKind.u64.wrap (k.x + k.p))) == 1)), .i (bI false), .i (bI false), .i (.v (.int .u64 (IntKind.u64.wrap (IntKind.u32.wrap (((BitVec.ofInt 32 (IntKind.u32.wrap (((BitVec.ofInt 32 a &&& BitVec.ofInt 32 y0).toNat : Int))) &&& BitVec.ofInt 32 (IntKind.u32.wrap ((shlV .u32 1 k.p) - 1))).toNat : Int)))))), .i (nI y1)])) [] (by kernel_rfl) ⟨(k4mask.ok N k y0 c1), (of_decide_eq_true c2), (of_decide_eq_true c2), (of_decide_eq_true c3), (wrap_u_nonneg' _), (of_decide_eq_true c3), c4, c5, (k4least.ok N k y1 c6), trivial⟩ rfl
    · obtain ⟨y1, c7, h⟩ := bind_some' h
      obtain rfl := Option.some.inj h
      exact finW_ok (n := 400) (gs := [.r (aI (.v (.int .u32 y0))), .b false, .b false, .r (aI (nI y1))]) [] (ob := [Ok Tryd.prog 99 [.agg [.i (.v (.int .u64 k.x)), .i (.v (.int .u64 k.p))]] (aI (.v (.int .u32 y0))), 0 ≤ (k.p : Int), 0 ≤ (k.p : Int), 0 ≤ (k.x : Int), 0 ≤ (IntKind.u64.wrap (k.x + k.p) : Int), 0 ≤ (k.x : Int), ((IntKind.u32.wrap (((BitVec.ofInt 32 (shrV .u32 (IntKind.u32.wrap (((BitVec.ofInt 32 a &&& BitVec.ofInt 32 y0).toNat : Int))) k.p) &&& BitVec.ofInt 32 (IntKind.u32.wrap ((shlV .u32 1 k.x) - 1))).toNat : Int))) == (IntKind.u32.wrap ((shlV .u32 1 k.x) - 1))) = false, ((IntKind.u32.wrap (((BitVec.ofInt 32 (shrV .u32 (IntKind.u32.wrap (((BitVec.ofInt 32 a &&& BitVec.ofInt 32 y0).toNat : Int))) k.p) &&& BitVec.ofInt 32 (IntKind.u32.wrap ((shlV .u32 1 k.x) - 1))).toNat : Int))) == 0) = false, 0 ≤ (k.p : Int), Ok Tryd.prog 100 [.agg [.i (.v (.int .u64 k.x)), .i (.v (.int .u64 k.p))]] (aI (nI y1))]) (r' := .t (.agg [.i (bI ((shrV .u32 (IntKind.u32.wrap (((BitVec.ofInt 32 a &&& BitVec.ofInt 32 y0).toNat : Int))) (IntKind.u64.wrap (k.x + k.p))) == 1)), .i (bI false), .i (bI false), .i (.v (.int .u64 (IntKind.u64.wrap (IntKind.u32.wrap (((BitVec.ofInt 32 (IntKind.u32.wrap (((BitVec.ofInt 32 (IntKind.u32.wrap (((BitVec.ofInt 32 a &&& BitVec.ofInt 32 y0).toNat : Int))) &&& BitVec.ofInt 32 (IntKind.u32.wrap ((shlV .u32 1 k.p) - 1))).toNat : Int))) ||| BitVec.ofInt 32 (shlV .u32 1 k.p)).toNat : Int)))))), .i (nI (IntKind.i64.wrap ((IntKind.i64.wrap (y1 + (IntKind.i64.wrap (IntKind.u32.wrap (((BitVec.ofInt 32 (shrV .u32 (IntKind.u32.wrap (((BitVec.ofInt 32 a &&& BitVec.ofInt 32 y0).toNat : Int))) k.p) &&& BitVec.ofInt 32 (IntKind.u32.wrap ((shlV .u32 1 k.x) - 1))).toNat : Int)))))) - 1)))])) [] (by kernel_rfl) ⟨(k4mask.ok N k y0 c1), (of_decide_eq_true c2), (of_decide_eq_true c2), (of_decide_eq_true c3), (wrap_u_nonneg' _), (of_decide_eq_true c3), c4, c5, (of_decide_eq_true c2), (k4least.ok N k y1 c7), trivial⟩ rfl
def l12Canon.sem (N : Nat) (n : Int) : Option Bool :=
    (l4Kind.sem N 32).bind fun y0 =>
    (k4open.sem N y0.1 (IntKind.u32.wrap (n))).bind fun y1 =>
    bif (!y1.nan) then
      some true
    else
      (k4nan.sem N y0.1).bind fun y2 =>
      some ((IntKind.u32.wrap (n)) == y2)
set_option maxHeartbeats 1000000 in
theorem l12Canon.ok (N : Nat) (n : Int) (r : Bool) (h : l12Canon.sem N n = some r) : Ok Tryd.prog 56 [tI (nI n)] (aI (bI r)) := by
  unfold l12Canon.sem at h
  refine fnW_ok Tryd.func56 (by kernel_rfl) rfl rfl fun F hF => ?_
  obtain ⟨y0, c1, h⟩ := bind_some' h
  obtain ⟨y1, c2, h⟩ := bind_some' h
  rcases bif_some h with ⟨c3, h⟩ | ⟨c3, h⟩
  · obtain rfl := Option.some.inj h
    exact finW_ok (n := 400) (gs := [.r (.tup [.agg [.i (.v (.int .u64 y0.1.x)), .i (.v (.int .u64 y0.1.p))], tI (bI y0.2)]), .r (.t (.agg [.i (bI y1.neg), .i (bI y1.inf), .i (bI y1.nan), .i (.v (.int .u64 y1.m)), .i (nI y1.e)])), .b true]) [] (ob := [Ok Tryd.prog 77 [tI (nI 32)] (.tup [.agg [.i (.v (.int .u64 y0.1.x)), .i (.v (.int .u64 y0.1.p))], tI (bI y0.2)]), Ok Tryd.prog 78 [.agg [.i (.v (.int .u64 y0.1.x)), .i (.v (.int .u64 y0.1.p))], tI (.v (.int .u32 (IntKind.u32.wrap (n))))] (.t (.agg [.i (bI y1.neg), .i (bI y1.inf), .i (bI y1.nan), .i (.v (.int .u64 y1.m)), .i (nI y1.e)])), (!y1.nan) = true, (!y1.nan) = true, (!y1.nan) = true, (!y1.nan) = true, (!y1.nan) = true, (!y1.nan) = true]) (r' := aI (bI true)) [] (by kernel_rfl) ⟨(l4Kind.ok N 32 y0 c1), (k4open.ok N y0.1 (IntKind.u32.wrap (n)) y1 c2), c3, c3, c3, c3, c3, c3, trivial⟩ rfl
  · obtain ⟨y2, c4, h⟩ := bind_some' h
    obtain rfl := Option.some.inj h
    exact finW_ok (n := 400) (gs := [.r (.tup [.agg [.i (.v (.int .u64 y0.1.x)), .i (.v (.int .u64 y0.1.p))], tI (bI y0.2)]), .r (.t (.agg [.i (bI y1.neg), .i (bI y1.inf), .i (bI y1.nan), .i (.v (.int .u64 y1.m)), .i (nI y1.e)])), .b false, .r (aI (.v (.int .u32 y2)))]) [] (ob := [Ok Tryd.prog 77 [tI (nI 32)] (.tup [.agg [.i (.v (.int .u64 y0.1.x)), .i (.v (.int .u64 y0.1.p))], tI (bI y0.2)]), Ok Tryd.prog 78 [.agg [.i (.v (.int .u64 y0.1.x)), .i (.v (.int .u64 y0.1.p))], tI (.v (.int .u32 (IntKind.u32.wrap (n))))] (.t (.agg [.i (bI y1.neg), .i (bI y1.inf), .i (bI y1.nan), .i (.v (.int .u64 y1.m)), .i (nI y1.e)])), (!y1.nan) = false, (!y1.nan) = false, (!y1.nan) = false, (!y1.nan) = false, Ok Tryd.prog 79 [.agg [.i (.v (.int .u64 y0.1.x)), .i (.v (.int .u64 y0.1.p))]] (aI (.v (.int .u32 y2))), (!y1.nan) = false, (!y1.nan) = false]) (r' := aI (bI ((IntKind.u32.wrap (n)) == y2))) [] (by kernel_rfl) ⟨(l4Kind.ok N 32 y0 c1), (k4open.ok N y0.1 (IntKind.u32.wrap (n)) y1 c2), c3, c3, c3, c3, (k4nan.ok N y0.1 y2 c4), c3, c3, trivial⟩ rfl
def l12Bounds.sem (N : Nat) (t : Sh) : Option (Int × Int) :=
    bif (t.kind == 1) then
      some (0, 1)
    else
      bif (t.kind == 17) then
        some (0, 1)
      else
        bif (t.kind == 18) then
          some (0, 1)
        else
          bif (t.kind == 2) then
            some (0, 255)
          else
            bif (t.kind == 3) then
              some (-128, 127)
            else
              bif (t.kind == 4) then
                some (0, 65535)
              else
                bif (t.kind == 5) then
                  some (-32768, 32767)
                else
                  bif (t.kind == 6) then
                    some (0, 4294967295)
                  else
                    bif (t.kind == 10) then
                      some (0, 4294967295)
                    else
                      bif (t.kind == 7) then
                        some (-2147483648, 2147483647)
                      else
                        bif (t.kind == 8) then
                          some (-9223372036854775808, 9223372036854775807)
                        else
                          bif (t.kind == 9) then
                            some (-9223372036854775808, 9223372036854775807)
                          else
                            bif (t.kind == 11) then
                              some (0, 1114111)
                            else
                              bif (t.kind == 15) then
                                some (0, IntKind.i64.wrap (((t.kids.map eS).length : Int) - 1))
                              else
                                bif (t.kind == 16) then
                                  some (0, IntKind.i64.wrap ((shlV .i64 1 (IntKind.u64.wrap (t.n))) - 1))
                                else
                                  bif (t.kind == 19) then
                                    some (0, IntKind.i64.wrap (t.n - 1))
                                  else
                                    bif (t.kind == 20) then
                                      some (0, 100000)
                                    else
                                      bif (t.kind == 21) then
                                        some (0, 100000)
                                      else
                                        some (0, 0)
set_option maxHeartbeats 1000000 in
theorem l12Bounds.ok (N : Nat) (t : Sh) (r : (Int × Int)) (h : l12Bounds.sem N t = some r) : Ok Tryd.prog 55 [.agg [.i (nI t.kind), .i (nI t.n), .i (.sl 3 (t.kids.map eS))]] (.tup [tI (nI r.1), tI (nI r.2)]) := by
  unfold l12Bounds.sem at h
  refine fnW_ok Tryd.func55 (by kernel_rfl) rfl rfl fun F hF => ?_
  rcases bif_some h with ⟨c1, h⟩ | ⟨c1, h⟩
  · obtain rfl := Option.some.inj h
    exact finW_ok (n := 400) (gs := [.b true, .b true]) [] (ob := [(t.kind == 1) = true, (t.kind == 1) = true]) (r' := .tup [tI (nI 0), tI (nI 1)]) [] (by kernel_rfl) ⟨c1, c1, trivial⟩ rfl
  · rcases bif_some h with ⟨c2, h⟩ | ⟨c2, h⟩
    · obtain rfl := Option.some.inj h
      exact finW_ok (n := 400) (gs := [.b false, .b true, .b true]) [] (ob := [(t.kind == 1) = false, (t.kind == 17) = true, (t.kind == 17) = true]) (r' := .tup [tI (nI 0), tI (nI 1)]) [] (by kernel_rfl) ⟨c1, c2, c2, trivial⟩ rfl
    · rcases bif_some h with ⟨c3, h⟩ | ⟨c3, h⟩
      · obtain rfl := Option.some.inj h
        exact finW_ok (n := 400) (gs := [.b false, .b false, .b true]) [] (ob := [(t.kind == 1) = false, (t.kind == 17) = false, (t.kind == 18) = true]) (r' := .tup [tI (nI 0), tI (nI 1)]) [] (by kernel_rfl) ⟨c1, c2, c3, trivial⟩ rfl
      · rcases bif_some h with ⟨c4, h⟩ | ⟨c4, h⟩
        · obtain rfl := Option.some.inj h
          exact finW_ok (n := 400) (gs := [.b false, .b false, .b false, .b true]) [] (ob := [(t.kind == 1) = false, (t.kind == 17) = false, (t.kind == 18) = false, (t.kind == 2) = true]) (r' := .tup [tI (nI 0), tI (nI 255)]) [] (by kernel_rfl) ⟨c1, c2, c3, c4, trivial⟩ rfl
        · rcases bif_some h with ⟨c5, h⟩ | ⟨c5, h⟩
          · obtain rfl := Option.some.inj h
            exact finW_ok (n := 400) (gs := [.b false, .b false, .b false, .b false, .b true]) [] (ob := [(t.kind == 1) = false, (t.kind == 17) = false, (t.kind == 18) = false, (t.kind == 2) = false, (t.kind == 3) = true]) (r' := .tup [tI (nI (-128)), tI (nI 127)]) [] (by kernel_rfl) ⟨c1, c2, c3, c4, c5, trivial⟩ rfl
          · rcases bif_some h with ⟨c6, h⟩ | ⟨c6, h⟩
            · obtain rfl := Option.some.inj h
              exact finW_ok (n := 400) (gs := [.b false, .b false, .b false, .b false, .b false, .b true]) [] (ob := [(t.kind == 1) = false, (t.kind == 17) = false, (t.kind == 18) = false, (t.kind == 2) = false, (t.kind == 3) = false, (t.kind == 4) = true]) (r' := .tup [tI (nI 0), tI (nI 65535)]) [] (by kernel_rfl) ⟨c1, c2, c3, c4, c5, c6, trivial⟩ rfl
            · rcases bif_some h with ⟨c7, h⟩ | ⟨c7, h⟩
              · obtain rfl := Option.some.inj h
                exact finW_ok (n := 400) (gs := [.b false, .b false, .b false, .b false, .b false, .b false, .b true]) [] (ob := [(t.kind == 1) = false, (t.kind == 17) = false, (t.kind == 18) = false, (t.kind == 2) = false, (t.kind == 3) = false, (t.kind == 4) = false, (t.kind == 5) = true]) (r' := .tup [tI (nI (-32768)), tI (nI 32767)]) [] (by kernel_rfl) ⟨c1, c2, c3, c4, c5, c6, c7, trivial⟩ rfl
              · rcases bif_some h with ⟨c8, h⟩ | ⟨c8, h⟩
                · obtain rfl := Option.some.inj h
                  exact finW_ok (n := 400) (gs := [.b false, .b false, .b false, .b false, .b false, .b false, .b false, .b true, .b true]) [] (ob := [(t.kind == 1) = false, (t.kind == 17) = false, (t.kind == 18) = false, (t.kind == 2) = false, (t.kind == 3) = false, (t.kind == 4) = false, (t.kind == 5) = false, (t.kind == 6) = true, (t.kind == 6) = true]) (r' := .tup [tI (nI 0), tI (nI 4294967295)]) [] (by kernel_rfl) ⟨c1, c2, c3, c4, c5, c6, c7, c8, c8, trivial⟩ rfl
                · rcases bif_some h with ⟨c9, h⟩ | ⟨c9, h⟩
                  · obtain rfl := Option.some.inj h
                    exact finW_ok (n := 400) (gs := [.b false, .b false, .b false, .b false, .b false, .b false, .b false, .b false, .b true]) [] (ob := [(t.kind == 1) = false, (t.kind == 17) = false, (t.kind == 18) = false, (t.kind == 2) = false, (t.kind == 3) = false, (t.kind == 4) = false, (t.kind == 5) = false, (t.kind == 6) = false, (t.kind == 10) = true]) (r' := .tup [tI (nI 0), tI (nI 4294967295)]) [] (by kernel_rfl) ⟨c1, c2, c3, c4, c5, c6, c7, c8, c9, trivial⟩ rfl
                  · rcases bif_some h with ⟨c10, h⟩ | ⟨c10, h⟩
                    · obtain rfl := Option.some.inj h
                      exact finW_ok (n := 400) (gs := [.b false, .b false, .b false, .b false, .b false, .b false, .b false, .b false, .b false, .b true]) [] (ob := [(t.kind == 1) = false, (t.kind == 17) = false, (t.kind == 18) = false, (t.kind == 2) = false, (t.kind == 3) = false, (t.kind == 4) = false, (t.kind == 5) = false, (t.kind == 6) = false, (t.kind == 10) = false, (t.kind == 7) = true]) (r' := .tup [tI (nI (-2147483648)), tI (nI 2147483647)]) [] (by kernel_rfl) ⟨c1, c2, c3, c4, c5, c6, c7, c8, c9, c10, trivial⟩ rfl
                    · rcases bif_some h with ⟨c11, h⟩ | ⟨c11, h⟩
                      · obtain rfl := Option.some.inj h
                        exact finW_ok (n := 400) (gs := [.b false, .b false, .b false, .b false, .b false, .b false, .b false, .b false, .b false, .b false, .b true, .b true]) [] (ob := [(t.kind == 1) = false, (t.kind == 17) = false, (t.kind == 18) = false, (t.kind == 2) = false, (t.kind == 3) = false, (t.kind == 4) = false, (t.kind == 5) = false, (t.kind == 6) = false, (t.kind == 10) = false, (t.kind == 7) = false, (t.kind == 8) = true, (t.kind == 8) = true]) (r' := .tup [tI (nI (-9223372036854775808)), tI (nI 9223372036854775807)]) [] (by kernel_rfl) ⟨c1, c2, c3, c4, c5, c6, c7, c8, c9, c10, c11, c11, trivial⟩ rfl
                      · rcases bif_some h with ⟨c12, h⟩ | ⟨c12, h⟩
                        · obtain rfl := Option.some.inj h
                          exact finW_ok (n := 400) (gs := [.b false, .b false, .b false, .b false, .b false, .b false, .b false, .b false, .b false, .b false, .b false, .b true]) [] (ob := [(t.kind == 1) = false, (t.kind == 17) = false, (t.kind == 18) = false, (t.kind == 2) = false, (t.kind == 3) = false, (t.kind == 4) = false, (t.kind == 5) = false, (t.kind == 6) = false, (t.kind == 10) = false, (t.kind == 7) = false, (t.kind == 8) = false, (t.kind == 9) = true]) (r' := .tup [tI (nI (-9223372036854775808)), tI (nI 9223372036854775807)]) [] (by kernel_rfl) ⟨c1, c2, c3, c4, c5, c6, c7, c8, c9, c10, c11, c12, trivial⟩ rfl
                        · rcases bif_some h with ⟨c13, h⟩ | ⟨c13, h⟩
                          · obtain rfl := Option.some.inj h
                            exact finW_ok (n := 400) (gs := [.b false, .b false, .b false, .b false, .b false, .b false, .b false, .b false, .b false, .b false, .b false, .b false, .b true]) [] (ob := [(t.kind == 1) = false, (t.kind == 17) = false, (t.kind == 18) = false, (t.kind == 2) = false, (t.kind == 3) = false, (t.kind == 4) = false, (t.kind == 5) = false, (t.kind == 6) = false, (t.kind == 10) = false, (t.kind == 7) = false, (t.kind == 8) = false, (t.kind == 9) = false, (t.kind == 11) = true]) (r' := .tup [tI (nI 0), tI (nI 1114111)]) [] (by kernel_rfl) ⟨c1, c2, c3, c4, c5, c6, c7, c8, c9, c10, c11, c12, c13, trivial⟩ rfl
                          · rcases bif_some h with ⟨c14, h⟩ | ⟨c14, h⟩
                            · refine drx_ok (n := 400) (gs := [.b false, .b false, .b false, .b false, .b false, .b false, .b false, .b false, .b false, .b false, .b false, .b false, .b false, .b true]) [[], [], [], [], [], []] [2, 3] [] (ob := [(t.kind == 1) = false, (t.kind == 17) = false, (t.kind == 18) = false, (t.kind == 2) = false, (t.kind == 3) = false, (t.kind == 4) = false, (t.kind == 5) = false, (t.kind == 6) = false, (t.kind == 10) = false, (t.kind == 7) = false, (t.kind == 8) = false, (t.kind == 9) = false, (t.kind == 11) = false, (t.kind == 15) = true]) (K' := dK (codeOf Tryd.f55) 0) (σ' := ⟨mkT_ 49 [(2, aI (nI 0)), (3, aI (nI (IntKind.i64.wrap (((t.kids.map eS).length : Int) - 1))))], []⟩) (by kernel_rfl) ⟨c1, c2, c3, c4, c5, c6, c7, c8, c9, c10, c11, c12, c13, c14, trivial⟩ ?_
                              obtain rfl := Option.some.inj h
                              exact finW_ok (n := 400) (gs := []) [] (ob := []) (r' := .tup [tI (nI 0), tI (nI (IntKind.i64.wrap (((t.kids.map eS).length : Int) - 1)))]) [] (by kernel_rfl) trivial rfl
                            · rcases bif_some h with ⟨c15, h⟩ | ⟨c15, h⟩
                              · refine drx_ok (n := 400) (gs := [.b false, .b false, .b false, .b false, .b false, .b false, .b false, .b false, .b false, .b false, .b false, .b false, .b false, .b false, .b true]) [[], [], [], [], [], [], []] [2, 3] [] (ob := [(t.kind == 1) = false, (t.kind == 17) = false, (t.kind == 18) = false, (t.kind == 2) = false, (t.kind == 3) = false, (t.kind == 4) = false, (t.kind == 5) = false, (t.kind == 6) = false, (t.kind == 10) = false, (t.kind == 7) = false, (t.kind == 8) = false, (t.kind == 9) = false, (t.kind == 11) = false, (t.kind == 15) = false, (t.kind == 16) = true, 0 ≤ (IntKind.u64.wrap (t.n) : Int)]) (K' := dK (codeOf Tryd.f55) 1) (σ' := ⟨mkT_ 49 [(2, aI (nI 0)), (3, aI (nI (IntKind.i64.wrap ((shlV .i64 1 (IntKind.u64.wrap (t.n))) - 1))))], []⟩) (by kernel_rfl) ⟨c1, c2, c3, c4, c5, c6, c7, c8, c9, c10, c11, c12, c13, c14, c15, (wrap_u_nonneg' _), trivial⟩ ?_
                                obtain rfl := Option.some.inj h
                                exact finW_ok (n := 400) (gs := []) [] (ob := []) (r' := .tup [tI (nI 0), tI (nI (IntKind.i64.wrap ((shlV .i64 1 (IntKind.u64.wrap (t.n))) - 1)))]) [] (by kernel_rfl) trivial rfl
                              · rcases bif_some h with ⟨c16, h⟩ | ⟨c16, h⟩
                                · refine drx_ok (n := 400) (gs := [.b false, .b false, .b false, .b false, .b false, .b false, .b false, .b false, .b false, .b false, .b false, .b false, .b false, .b false, .b false, .b true]) [[], [], [], [], []] [2, 3] [] (ob := [(t.kind == 1) = false, (t.kind == 17) = false, (t.kind == 18) = false, (t.kind == 2) = false, (t.kind == 3) = false, (t.kind == 4) = false, (t.kind == 5) = false, (t.kind == 6) = false, (t.kind == 10) = false, (t.kind == 7) = false, (t.kind == 8) = false, (t.kind == 9) = false, (t.kind == 11) = false, (t.kind == 15) = false, (t.kind == 16) = false, (t.kind == 19) = true]) (K' := dK (codeOf Tryd.f55) 2) (σ' := ⟨mkT_ 49 [(2, aI (nI 0)), (3, aI (nI (IntKind.i64.wrap (t.n - 1))))], []⟩) (by kernel_rfl) ⟨c1, c2, c3, c4, c5, c6, c7, c8, c9, c10, c11, c12, c13, c14, c15, c16, trivial⟩ ?_
                                  obtain rfl := Option.some.inj h
                                  exact finW_ok (n := 400) (gs := []) [] (ob := []) (r' := .tup [tI (nI 0), tI (nI (IntKind.i64.wrap (t.n - 1)))]) [] (by kernel_rfl) trivial rfl
                                · rcases bif_some h with ⟨c17, h⟩ | ⟨c17, h⟩
                                  · obtain rfl := Option.some.inj h
                                    exact finW_ok (n := 400) (gs := [.b false, .b false, .b false, .b false, .b false, .b false, .b false, .b false, .b false, .b false, .b false, .b false, .b false, .b false, .b false, .b false, .b true, .b true]) [] (ob := [(t.kind == 1) = false, (t.kind == 17) = false, (t.kind == 18) = false, (t.kind == 2) = false, (t.kind == 3) = false, (t.kind == 4) = false, (t.kind == 5) = false, (t.kind == 6) = false, (t.kind == 10) = false, (t.kind == 7) = false, (t.kind == 8) = false, (t.kind == 9) = false, (t.kind == 11) = false, (t.kind == 15) = false, (t.kind == 16) = false, (t.kind == 19) = false, (t.kind == 20) = true, (t.kind == 20) = true]) (r' := .tup [tI (nI 0), tI (nI 100000)]) [] (by kernel_rfl) ⟨c1, c2, c3, c4, c5, c6, c7, c8, c9, c10, c11, c12, c13, c14, c15, c16, c17, c17, trivial⟩ rfl
                                  · rcases bif_some h with ⟨c18, h⟩ | ⟨c18, h⟩
                                    · obtain rfl := Option.some.inj h
                                      exact finW_ok (n := 400) (gs := [.b false, .b false, .b false, .b false, .b false, .b false, .b false, .b false, .b false, .b false, .b false, .b false, .b false, .b false, .b false, .b false, .b false, .b true]) [] (ob := [(t.kind == 1) = false, (t.kind == 17) = false, (t.kind == 18) = false, (t.kind == 2) = false, (t.kind == 3) = false, (t.kind == 4) = false, (t.kind == 5) = false, (t.kind == 6) = false, (t.kind == 10) = false, (t.kind == 7) = false, (t.kind == 8) = false, (t.kind == 9) = false, (t.kind == 11) = false, (t.kind == 15) = false, (t.kind == 16) = false, (t.kind == 19) = false, (t.kind == 20) = false, (t.kind == 21) = true]) (r' := .tup [tI (nI 0), tI (nI 100000)]) [] (by kernel_rfl) ⟨c1, c2, c3, c4, c5, c6, c7, c8, c9, c10, c11, c12, c13, c14, c15, c16, c17, c18, trivial⟩ rfl
                                    · obtain rfl := Option.some.inj h
                                      exact finW_ok (n := 400) (gs := [.b false, .b false, .b false, .b false, .b false, .b false, .b false, .b false, .b false, .b false, .b false, .b false, .b false, .b false, .b false, .b false, .b false, .b false]) [] (ob := [(t.kind == 1) = false, (t.kind == 17) = false, (t.kind == 18) = false, (t.kind == 2) = false, (t.kind == 3) = false, (t.kind == 4) = false, (t.kind == 5) = false, (t.kind == 6) = false, (t.kind == 10) = false, (t.kind == 7) = false, (t.kind == 8) = false, (t.kind == 9) = false, (t.kind == 11) = false, (t.kind == 15) = false, (t.kind == 16) = false, (t.kind == 19) = false, (t.kind == 20) = false, (t.kind == 21) = false]) (r' := .tup [tI (nI 0), tI (nI 0)]) [] (by kernel_rfl) ⟨c1, c2, c3, c4, c5, c6, c7, c8, c9, c10, c11, c12, c13, c14, c15, c16, c17, c18, trivial⟩ rfl
def l12Kids.L0 (N : Nat) (t : Sh) (v : Dt) : Nat → Int → (List Sh) → Option (List Sh)
  | 0, _, _ => none
  | n0 + 1, v0_13, v0_o_1 =>
    bif decide (v0_13 < ((v.kids.map eD).length : Int)) then
      bif inR (0 : Int) t.kids.length then
        bif okAp (v0_o_1.length + [(t.kids.getD (0 : Int).toNat default)].length) 40 then
          l12Kids.L0 N t v n0 (IntKind.i64.wrap (v0_13 + 1)) (v0_o_1 ++ [(t.kids.getD (0 : Int).toNat default)])
        else none
      else none
    else
      some v0_o_1
def l12Kids.sem (N : Nat) (t : Sh) (v : Dt) : Option (List Sh) :=
    bif (t.kind == 13) then
      l12Kids.L0 N t v N 0 []
    else
      bif (t.kind == 14) then
        some t.kids
      else
        bif (t.kind == 15) then
          bif inC (v.n : Int) (IntKind.i64.wrap (v.n + 1) : Int) t.kids.length then
            some (cutC t.kids (v.n : Int).toNat ((IntKind.i64.wrap (v.n + 1) : Int).toNat - (v.n : Int).toNat))
          else none
        else
          bif (t.kind == 18) then
            bif inC (v.n : Int) (IntKind.i64.wrap (v.n + 1) : Int) t.kids.length then
              some (cutC t.kids (v.n : Int).toNat ((IntKind.i64.wrap (v.n + 1) : Int).toNat - (v.n : Int).toNat))
            else none
          else
            bif (t.kind == 17) then
              bif inC (0 : Int) (v.n : Int) t.kids.length then
                some (cutC t.kids (0 : Int).toNat ((v.n : Int).toNat - (0 : Int).toNat))
              else none
            else
              some []
set_option maxHeartbeats 1000000 in
theorem l12Kids.ok (N : Nat) (t : Sh) (v : Dt) (r : (List Sh)) (h : l12Kids.sem N t v = some r) : Ok Tryd.prog 58 [.agg [.i (nI t.kind), .i (nI t.n), .i (.sl 3 (t.kids.map eS))], .agg [.i (nI v.n), .i (sI v.text), .i (.sl 3 (v.kids.map eD))]] (aI (.sl 3 (r.map eS))) := by
  unfold l12Kids.sem at h
  refine fnW_ok Tryd.func58 (by kernel_rfl) rfl rfl fun F hF => ?_
  rcases bif_some h with ⟨c1, h⟩ | ⟨c1, h⟩
  · refine headB_ok (n := 400) (gs := [.b true]) [(5, 60, 3)] [] [2, 4, 5, 12, 13] [0, 2] (ob := [(t.kind == 13) = true]) (b := lB (codeOf Tryd.f58) 0) (K' := lK (codeOf Tryd.f58) 0) (σ' := ⟨mkT_ 46 [(2, .t (.c (.loc 0 0))), (4, aI (.v (.slice none 0 0))), (5, .t (.c (.os 1))), (12, aI (nI ((v.kids.map eD).length : Int))), (13, aI (nI 0))], [.live (.box 60 [.i (nI t.kind), .i (nI t.n), .i (.sl 3 (t.kids.map eS))]), .live (.row 60 3 [])]⟩) (by kernel_rfl) ⟨c1, trivial⟩ ?_
    rw [((by simp [cutC, eS_eq]) : [] = [].map eS)]
    refine loop_ok (fun q : Nat × Int × (List Sh) => ⟨mkT_ 46 [(2, .t (.c (.loc 0 0))), (4, aI (.v (.slice none 0 0))), (5, .t (.c (.os 1))), (12, aI (nI ((v.kids.map eD).length : Int))), (13, aI (nI (q.2.1)))], [.live (.box 60 [.i (nI t.kind), .i (nI t.n), .i (.sl 3 (t.kids.map eS))]), .live (.row 60 3 ((q.2.2).map eS))]⟩) (fun q => l12Kids.L0 N t v q.1 q.2.1 q.2.2 = some r) (fun q => q.1) (N, 0, []) h ?_
    clear h
    rintro ⟨n0, v0_13, v0_o_1⟩ h R0 hR0
    replace h : l12Kids.L0 N t v n0 v0_13 v0_o_1 = some r := h
    rcases n0 with _ | n0
    · cases h
    unfold l12Kids.L0 at h
    show AX _ _ _ _ _ (⟨mkT_ 46 [(2, .t (.c (.loc 0 0))), (4, aI (.v (.slice none 0 0))), (5, .t (.c (.os 1))), (12, aI (nI ((v.kids.map eD).length : Int))), (13, aI (nI v0_13))], [.live (.box 60 [.i (nI t.kind), .i (nI t.n), .i (.sl 3 (t.kids.map eS))]), .live (.row 60 3 (v0_o_1.map eS))]⟩)
    rcases bif_some h with ⟨c2, h⟩ | ⟨c2, h⟩
    · obtain ⟨c3, h⟩ := chk_some h
      obtain ⟨c4, h⟩ := chk_some h
      exact inv_ok (n := 400) (gs := [.b true, .ys [nI ((t.kids.getD (0 : Int).toNat default).kind), nI ((t.kids.getD (0 : Int).toNat default).n), .sl 3 (((t.kids.getD (0 : Int).toNat default).kids).map eS)]]) [2, 4, 5, 12, 13] [0, 3] (ob := [decide (v0_13 < ((v.kids.map eD).length : Int)) = true, 0 ≤ (0 : Int), (t.kids.map eS)[(0 : Int).toNat]? = some [nI ((t.kids.getD (0 : Int).toNat default).kind), nI ((t.kids.getD (0 : Int).toNat default).n), .sl 3 (((t.kids.getD (0 : Int).toNat default).kids).map eS)], ((v0_o_1.map eS).length + ([[nI ((t.kids.getD (0 : Int).toNat default).kind), nI ((t.kids.getD (0 : Int).toNat default).n), .sl 3 (((t.kids.getD (0 : Int).toNat default).kids).map eS)]] : List (List IV)).length) * 40 ≤ 140737488355328]) (σ' := ⟨mkT_ 46 [(2, .t (.c (.loc 0 0))), (4, aI (.v (.slice none 0 0))), (5, .t (.c (.os 1))), (12, aI (nI ((v.kids.map eD).length : Int))), (13, aI (nI (IntKind.i64.wrap (v0_13 + 1))))], [.live (.box 60 [.i (nI t.kind), .i (nI t.n), .i (.sl 3 (t.kids.map eS))]), .live (.row 60 3 ((v0_o_1.map eS) ++ [[nI ((t.kids.getD (0 : Int).toNat default).kind), nI ((t.kids.getD (0 : Int).toNat default).n), .sl 3 (((t.kids.getD (0 : Int).toNat default).kids).map eS)]]))]⟩) (by kernel_rfl) ⟨c2, (inR_lo c3), (eS_el rfl c3), (okAp_of (by simp) c4), trivial⟩ (fun a w hs => hR0 (n0, IntKind.i64.wrap (v0_13 + 1), v0_o_1 ++ [(t.kids.getD (0 : Int).toNat default)]) a w h (Nat.lt_succ_self _) (by rw [((by simp [cutC, eS_eq]) : (v0_o_1.map eS) ++ [[nI ((t.kids.getD (0 : Int).toNat default).kind), nI ((t.kids.getD (0 : Int).toNat default).n), .sl 3 (((t.kids.getD (0 : Int).toNat default).kids).map eS)]] = (v0_o_1 ++ [(t.kids.getD (0 : Int).toNat default)]).map eS)] at hs; exact hs))
    · obtain rfl := Option.some.inj h
      exact finW_ok (n := 400) (gs := [.b false]) [.fz 1] (ob := [decide (v0_13 < ((v.kids.map eD).length : Int)) = false]) (r' := aI (.sl 3 (v0_o_1.map eS))) [] (by kernel_rfl) ⟨c2, trivial⟩ rfl
  · rcases bif_some h with ⟨c5, h⟩ | ⟨c5, h⟩
    · obtain rfl := Option.some.inj h
      exact finW_ok (n := 400) (gs := [.b false, .b true]) [] (ob := [(t.kind == 13) = false, (t.kind == 14) = true]) (r' := aI (.sl 3 (t.kids.map eS))) [] (by kernel_rfl) ⟨c1, c5, trivial⟩ rfl
    · rcases bif_some h with ⟨c6, h⟩ | ⟨c6, h⟩
      · obtain ⟨c7, h⟩ := chk_some h
        obtain rfl := Option.some.inj h
        exact finW_ok (n := 400) (gs := [.b false, .b false, .b true, .b true]) [] (ob := [(t.kind == 13) = false, (t.kind == 14) = false, (t.kind == 15) = true, (t.kind == 15) = true, 0 ≤ (v.n : Int), (v.n : Int) ≤ IntKind.i64.wrap (v.n + 1), (IntKind.i64.wrap (v.n + 1) : Int) ≤ ((t.kids.map eS).length : Int)]) (r' := aI (.sl 3 (cutC (t.kids.map eS) (v.n : Int).toNat ((IntKind.i64.wrap (v.n + 1) : Int).toNat - (v.n : Int).toNat)))) [] (by kernel_rfl) ⟨c1, c5, c6, c6, (inC_1 c7), (inC_2 c7), (inC_3 (by simp [cutC]) c7), trivial⟩ (by rw [((by simp [cutC, eS_eq]) : cutC (t.kids.map eS) (v.n : Int).toNat ((IntKind.i64.wrap (v.n + 1) : Int).toNat - (v.n : Int).toNat) = (cutC t.kids (v.n : Int).toNat ((IntKind.i64.wrap (v.n + 1) : Int).toNat - (v.n : Int).toNat)).map eS)]; rfl)
      · rcases bif_some h with ⟨c8, h⟩ | ⟨c8, h⟩
        · obtain ⟨c9, h⟩ := chk_some h
          obtain rfl := Option.some.inj h
          exact finW_ok (n := 400) (gs := [.b false, .b false, .b false, .b true]) [] (ob := [(t.kind == 13) = false, (t.kind == 14) = false, (t.kind == 15) = false, (t.kind == 18) = true, 0 ≤ (v.n : Int), (v.n : Int) ≤ IntKind.i64.wrap (v.n + 1), (IntKind.i64.wrap (v.n + 1) : Int) ≤ ((t.kids.map eS).length : Int)]) (r' := aI (.sl 3 (cutC (t.kids.map eS) (v.n : Int).toNat ((IntKind.i64.wrap (v.n + 1) : Int).toNat - (v.n : Int).toNat)))) [] (by kernel_rfl) ⟨c1, c5, c6, c8, (inC_1 c9), (inC_2 c9), (inC_3 (by simp [cutC]) c9), trivial⟩ (by rw [((by simp [cutC, eS_eq]) : cutC (t.kids.map eS) (v.n : Int).toNat ((IntKind.i64.wrap (v.n + 1) : Int).toNat - (v.n : Int).toNat) = (cutC t.kids (v.n : Int).toNat ((IntKind.i64.wrap (v.n + 1) : Int).toNat - (v.n : Int).toNat)).map eS)]; rfl)
        · rcases bif_some h with ⟨c10, h⟩ | ⟨c10, h⟩
          · obtain ⟨c11, h⟩ := chk_some h
            obtain rfl := Option.some.inj h
            exact finW_ok (n := 400) (gs := [.b false, .b false, .b false, .b false, .b true]) [] (ob := [(t.kind == 13) = false, (t.kind == 14) = false, (t.kind == 15) = false, (t.kind == 18) = false, (t.kind == 17) = true, 0 ≤ (0 : Int), (0 : Int) ≤ v.n, (v.n : Int) ≤ ((t.kids.map eS).length : Int)]) (r' := aI (.sl 3 (cutC (t.kids.map eS) (0 : Int).toNat ((v.n : Int).toNat - (0 : Int).toNat)))) [] (by kernel_rfl) ⟨c1, c5, c6, c8, c10, (inC_1 c11), (inC_2 c11), (inC_3 (by simp [cutC]) c11), trivial⟩ (by rw [((by simp [cutC, eS_eq]) : cutC (t.kids.map eS) (0 : Int).toNat ((v.n : Int).toNat - (0 : Int).toNat) = (cutC t.kids (0 : Int).toNat ((v.n : Int).toNat - (0 : Int).toNat)).map eS)]; rfl)
          · obtain rfl := Option.some.inj h
            exact finW_ok (n := 400) (gs := [.b false, .b false, .b false, .b false, .b false]) [] (ob := [(t.kind == 13) = false, (t.kind == 14) = false, (t.kind == 15) = false, (t.kind == 18) = false, (t.kind == 17) = false]) (r' := aI (.v (.slice none 0 0))) [[some 3]] (by kernel_rfl) ⟨c1, c5, c6, c8, c10, trivial⟩ rfl
def l2Utf8.sem (N : Nat) (p : Int) : Option (List Int) :=
    bif decide (p < 128) then
      some [IntKind.u8.wrap (p)]
    else
      bif decide (p < 2048) then
        some [IntKind.u8.wrap (IntKind.i64.wrap (((BitVec.ofInt 64 192 ||| BitVec.ofInt 64 (shrV .i64 p 6)).toNat : Int))), IntKind.u8.wrap (IntKind.i64.wrap (((BitVec.ofInt 64 128 ||| BitVec.ofInt 64 (IntKind.i64.wrap (((BitVec.ofInt 64 p &&& BitVec.ofInt 64 63).toNat : Int)))).toNat : Int)))]
      else
        bif decide (p < 65536) then
          some [IntKind.u8.wrap (IntKind.i64.wrap (((BitVec.ofInt 64 224 ||| BitVec.ofInt 64 (shrV .i64 p 12)).toNat : Int))), IntKind.u8.wrap (IntKind.i64.wrap (((BitVec.ofInt 64 128 ||| BitVec.ofInt 64 (IntKind.i64.wrap (((BitVec.ofInt 64 (shrV .i64 p 6) &&& BitVec.ofInt 64 63).toNat : Int)))).toNat : Int))), IntKind.u8.wrap (IntKind.i64.wrap (((BitVec.ofInt 64 128 ||| BitVec.ofInt 64 (IntKind.i64.wrap (((BitVec.ofInt 64 p &&& BitVec.ofInt 64 63).toNat : Int)))).toNat : Int)))]
        else
          some [IntKind.u8.wrap (IntKind.i64.wrap (((BitVec.ofInt 64 240 ||| BitVec.ofInt 64 (shrV .i64 p 18)).toNat : Int))), IntKind.u8.wrap (IntKind.i64.wrap (((BitVec.ofInt 64 128 ||| BitVec.ofInt 64 (IntKind.i64.wrap (((BitVec.ofInt 64 (shrV .i64 p 12) &&& BitVec.ofInt 64 63).toNat : Int)))).toNat : Int))), IntKind.u8.wrap (IntKind.i64.wrap (((BitVec.ofInt 64 128 ||| BitVec.ofInt 64 (IntKind.i64.wrap (((BitVec.ofInt 64 (shrV .i64 p 6) &&& BitVec.ofInt 64 63).toNat : Int)))).toNat : Int))), IntKind.u8.wrap (IntKind.i64.wrap (((BitVec.ofInt 64 128 ||| BitVec.ofInt 64 (IntKind.i64.wrap (((BitVec.ofInt 64 p &&& BitVec.ofInt 64 63).toNat : Int)))).toNat : Int)))]
set_option maxHeartbeats 1000000 in
theorem l2Utf8.ok (N : Nat) (p : Int) (r : (List Int)) (h : l2Utf8.sem N p = some r) : Ok Tryd.prog 101 [tI (nI p)] (aI (.sl 1 (r.map eB))) := by
  unfold l2Utf8.sem at h
  refine fnW_ok Tryd.func101 (by kernel_rfl) rfl rfl fun F hF => ?_
  rcases bif_some h with ⟨c1, h⟩ | ⟨c1, h⟩
  · obtain rfl := Option.some.inj h
    exact finW_ok (n := 400) (gs := [.b true]) [.fz 0] (ob := [decide (p < 128) = true]) (r' := aI (.sl 1 [[.v (.int .u8 (IntKind.u8.wrap (p)))]])) [] (by kernel_rfl) ⟨c1, trivial⟩ (by rw [((by simp [cutC, eB]) : [[.v (.int .u8 (IntKind.u8.wrap (p)))]] = [IntKind.u8.wrap (p)].map eB)]; rfl)
  · rcases bif_some h with ⟨c2, h⟩ | ⟨c2, h⟩
    · obtain rfl := Option.some.inj h
      exact finW_ok (n := 400) (gs := [.b false, .b true]) [.fz 0] (ob := [decide (p < 128) = false, decide (p < 2048) = true, 0 ≤ (6 : Int)]) (r' := aI (.sl 1 [[.v (.int .u8 (IntKind.u8.wrap (IntKind.i64.wrap (((BitVec.ofInt 64 192 ||| BitVec.ofInt 64 (shrV .i64 p 6)).toNat : Int)))))], [.v (.int .u8 (IntKind.u8.wrap (IntKind.i64.wrap (((BitVec.ofInt 64 128 ||| BitVec.ofInt 64 (IntKind.i64.wrap (((BitVec.ofInt 64 p &&& BitVec.ofInt 64 63).toNat : Int)))).toNat : Int)))))]])) [] (by kernel_rfl) ⟨c1, c2, (by decide), trivial⟩ (by rw [((by simp [cutC, eB]) : [[.v (.int .u8 (IntKind.u8.wrap (IntKind.i64.wrap (((BitVec.ofInt 64 192 ||| BitVec.ofInt 64 (shrV .i64 p 6)).toNat : Int)))))], [.v (.int .u8 (IntKind.u8.wrap (IntKind.i64.wrap (((BitVec.ofInt 64 128 ||| BitVec.ofInt 64 (IntKind.i64.wrap (((BitVec.ofInt 64 p &&& BitVec.ofInt 64 63).toNat : Int)))).toNat : Int)))))]] = [IntKind.u8.wrap (IntKind.i64.wrap (((BitVec.ofInt 64 192 ||| BitVec.ofInt 64 (shrV .i64 p 6)).toNat : Int))), IntKind.u8.wrap (IntKind.i64.wrap (((BitVec.ofInt 64 128 ||| BitVec.ofInt 64 (IntKind.i64.wrap (((BitVec.ofInt 64 p &&& BitVec.ofInt 64 63).toNat : Int)))).toNat : Int)))].map eB)]; rfl)
    · rcases bif_some h with ⟨c3, h⟩ | ⟨c3, h⟩
      · obtain rfl := Option.some.inj h
        exact finW_ok (n := 400) (gs := [.b false, .b false, .b true]) [.fz 0] (ob := [decide (p < 128) = false, decide (p < 2048) = false, decide (p < 65536) = true, 0 ≤ (12 : Int), 0 ≤ (6 : Int)]) (r' := aI (.sl 1 [[.v (.int .u8 (IntKind.u8.wrap (IntKind.i64.wrap (((BitVec.ofInt 64 224 ||| BitVec.ofInt 64 (shrV .i64 p 12)).toNat : Int)))))], [.v (.int .u8 (IntKind.u8.wrap (IntKind.i64.wrap (((BitVec.ofInt 64 128 ||| BitVec.ofInt 64 (IntKind.i64.wrap (((BitVec.ofInt 64 (shrV .i64 p 6) &&& BitVec.ofInt 64 63).toNat : Int)))).toNat : Int)))))], [.v (.int .u8 (IntKind.u8.wrap (IntKind.i64.wrap (((BitVec.ofInt 64 128 ||| BitVec.ofInt 64 (IntKind.i64.wrap (((BitVec.ofInt 64 p &&& BitVec.ofInt 64 63).toNat : Int)))).toNat : Int)))))]])) [] (by kernel_rfl) ⟨c1, c2, c3, (by decide), (by decide), trivial⟩ (by rw [((by simp [cutC, eB]) : [[.v (.int .u8 (IntKind.u8.wrap (IntKind.i64.wrap (((BitVec.ofInt 64 224 ||| BitVec.ofInt 64 (shrV .i64 p 12)).toNat : Int)))))], [.v (.int .u8 (IntKind.u8.wrap (IntKind.i64.wrap (((BitVec.ofInt 64 128 ||| BitVec.ofInt 64 (IntKind.i64.wrap (((BitVec.ofInt 64 (shrV .i64 p 6) &&& BitVec.ofInt 64 63).toNat : Int)))).toNat : Int)))))], [.v (.int .u8 (IntKind.u8.wrap (IntKind.i64.wrap (((BitVec.ofInt 64 128 ||| BitVec.ofInt 64 (IntKind.i64.wrap (((BitVec.ofInt 64 p &&& BitVec.ofInt 64 63).toNat : Int)))).toNat : Int)))))]] = [IntKind.u8.wrap (IntKind.i64.wrap (((BitVec.ofInt 64 224 ||| BitVec.ofInt 64 (shrV .i64 p 12)).toNat : Int))), IntKind.u8.wrap (IntKind.i64.wrap (((BitVec.ofInt 64 128 ||| BitVec.ofInt 64 (IntKind.i64.wrap (((BitVec.ofInt 64 (shrV .i64 p 6) &&& BitVec.ofInt 64 63).toNat : Int)))).toNat : Int))), IntKind.u8.wrap (IntKind.i64.wrap (((BitVec.ofInt 64 128 ||| BitVec.ofInt 64 (IntKind.i64.wrap (((BitVec.ofInt 64 p &&& BitVec.ofInt 64 63).toNat : Int)))).toNat : Int)))].map eB)]; rfl)
      · obtain rfl := Option.some.inj h
        exact finW_ok (n := 400) (gs := [.b false, .b false, .b false]) [.fz 0] (ob := [decide (p < 128) = false, decide (p < 2048) = false, decide (p < 65536) = false, 0 ≤ (18 : Int), 0 ≤ (12 : Int), 0 ≤ (6 : Int)]) (r' := aI (.sl 1 [[.v (.int .u8 (IntKind.u8.wrap (IntKind.i64.wrap (((BitVec.ofInt 64 240 ||| BitVec.ofInt 64 (shrV .i64 p 18)).toNat : Int)))))], [.v (.int .u8 (IntKind.u8.wrap (IntKind.i64.wrap (((BitVec.ofInt 64 128 ||| BitVec.ofInt 64 (IntKind.i64.wrap (((BitVec.ofInt 64 (shrV .i64 p 12) &&& BitVec.ofInt 64 63).toNat : Int)))).toNat : Int)))))], [.v (.int .u8 (IntKind.u8.wrap (IntKind.i64.wrap (((BitVec.ofInt 64 128 ||| BitVec.ofInt 64 (IntKind.i64.wrap (((BitVec.ofInt 64 (shrV .i64 p 6) &&& BitVec.ofInt 64 63).toNat : Int)))).toNat : Int)))))], [.v (.int .u8 (IntKind.u8.wrap (IntKind.i64.wrap (((BitVec.ofInt 64 128 ||| BitVec.ofInt 64 (IntKind.i64.wrap (((BitVec.ofInt 64 p &&& BitVec.ofInt 64 63).toNat : Int)))).toNat : Int)))))]])) [] (by kernel_rfl) ⟨c1, c2, c3, (by decide), (by decide), (by decide), trivial⟩ (by rw [((by simp [cutC, eB]) : [[.v (.int .u8 (IntKind.u8.wrap (IntKind.i64.wrap (((BitVec.ofInt 64 240 ||| BitVec.ofInt 64 (shrV .i64 p 18)).toNat : Int)))))], [.v (.int .u8 (IntKind.u8.wrap (IntKind.i64.wrap (((BitVec.ofInt 64 128 ||| BitVec.ofInt 64 (IntKind.i64.wrap (((BitVec.ofInt 64 (shrV .i64 p 12) &&& BitVec.ofInt 64 63).toNat : Int)))).toNat : Int)))))], [.v (.int .u8 (IntKind.u8.wrap (IntKind.i64.wrap (((BitVec.ofInt 64 128 ||| BitVec.ofInt 64 (IntKind.i64.wrap (((BitVec.ofInt 64 (shrV .i64 p 6) &&& BitVec.ofInt 64 63).toNat : Int)))).toNat : Int)))))], [.v (.int .u8 (IntKind.u8.wrap (IntKind.i64.wrap (((BitVec.ofInt 64 128 ||| BitVec.ofInt 64 (IntKind.i64.wrap (((BitVec.ofInt 64 p &&& BitVec.ofInt 64 63).toNat : Int)))).toNat : Int)))))]] = [IntKind.u8.wrap (IntKind.i64.wrap (((BitVec.ofInt 64 240 ||| BitVec.ofInt 64 (shrV .i64 p 18)).toNat : Int))), IntKind.u8.wrap (IntKind.i64.wrap (((BitVec.ofInt 64 128 ||| BitVec.ofInt 64 (IntKind.i64.wrap (((BitVec.ofInt 64 (shrV .i64 p 12) &&& BitVec.ofInt 64 63).toNat : Int)))).toNat : Int))), IntKind.u8.wrap (IntKind.i64.wrap (((BitVec.ofInt 64 128 ||| BitVec.ofInt 64 (IntKind.i64.wrap (((BitVec.ofInt 64 (shrV .i64 p 6) &&& BitVec.ofInt 64 63).toNat : Int)))).toNat : Int))), IntKind.u8.wrap (IntKind.i64.wrap (((BitVec.ofInt 64 128 ||| BitVec.ofInt 64 (IntKind.i64.wrap (((BitVec.ofInt 64 p &&& BitVec.ofInt 64 63).toNat : Int)))).toNat : Int)))].map eB)]; rfl)
def l2One.L0 (N : Nat) (s : ByteArray) : Nat → Int → Int → Int → Option (Int × Int)
  | 0, _, _, _ => none
  | n0 + 1, v0_4, v0_5, v0_6 =>
    bif decide (v0_6 < v0_4) then
      bif inR v0_6 s.size then
        l2One.L0 N s n0 v0_4 (IntKind.i64.wrap (((BitVec.ofInt 64 (shlV .i64 v0_5 6) ||| BitVec.ofInt 64 (IntKind.i64.wrap (IntKind.u8.wrap (((BitVec.ofInt 8 (byteAt s v0_6) &&& BitVec.ofInt 8 63).toNat : Int))))).toNat : Int))) (IntKind.i64.wrap (v0_6 + 1))
      else none
    else
      (l2Utf8.sem N v0_5).bind fun y0 =>
      bif inC (0 : Int) (v0_4 : Int) s.size then
        bif (!((bytesC (y0.map eB)).toList == (s.extract (0 : Int).toNat (v0_4 : Int).toNat).toList)) then
        some (0, 0)
      else
        some (v0_5, v0_4)
      else none
def l2One.sem (N : Nat) (s : ByteArray) : Option (Int × Int) :=
    bif inR (0 : Int) s.size then
      bif decide ((byteAt s (0 : Int)) ≥ 240) then
      bif decide ((s.size : Int) < 4) then
        some (0, 0)
      else
        l2One.L0 N s N 4 (IntKind.i64.wrap (((BitVec.ofInt 64 (IntKind.i64.wrap (byteAt s (0 : Int))) &&& BitVec.ofInt 64 7).toNat : Int))) 1
    else
      bif decide ((byteAt s (0 : Int)) ≥ 224) then
        bif decide ((s.size : Int) < 3) then
          some (0, 0)
        else
          l2One.L0 N s N 3 (IntKind.i64.wrap (((BitVec.ofInt 64 (IntKind.i64.wrap (byteAt s (0 : Int))) &&& BitVec.ofInt 64 15).toNat : Int))) 1
      else
        bif decide ((byteAt s (0 : Int)) ≥ 192) then
          bif decide ((s.size : Int) < 2) then
            some (0, 0)
          else
            l2One.L0 N s N 2 (IntKind.i64.wrap (((BitVec.ofInt 64 (IntKind.i64.wrap (byteAt s (0 : Int))) &&& BitVec.ofInt 64 31).toNat : Int))) 1
        else
          bif decide ((s.size : Int) < 1) then
            some (0, 0)
          else
            l2One.L0 N s N 1 (IntKind.i64.wrap (byteAt s (0 : Int))) 1
    else none
set_option maxHeartbeats 1000000 in
theorem l2One.ok (N : Nat) (s : ByteArray) (r : (Int × Int)) (h : l2One.sem N s = some r) : Ok Tryd.prog 80 [tI (sI s)] (.tup [tI (nI r.1), tI (nI r.2)]) := by
  unfold l2One.sem at h
  refine fnW_ok Tryd.func80 (by kernel_rfl) rfl rfl fun F hF => ?_
  obtain ⟨c1, h⟩ := chk_some h
  rcases bif_some h with ⟨c2, h⟩ | ⟨c2, h⟩
  · rcases bif_some h with ⟨c3, h⟩ | ⟨c3, h⟩
    · obtain rfl := Option.some.inj h
      exact finW_ok (n := 400) (gs := [.b true, .b true]) [] (ob := [0 ≤ (0 : Int), (0 : Int) < (s.size : Int), 0 ≤ (0 : Int), (0 : Int) < (s.size : Int), decide ((byteAt s (0 : Int)) ≥ 240) = true, decide ((s.size : Int) < 4) = true]) (r' := .tup [tI (nI 0), tI (nI 0)]) [] (by kernel_rfl) ⟨(inR_lo c1), (inR_hi rfl c1), (inR_lo c1), (inR_hi rfl c1), c2, c3, trivial⟩ rfl
    · refine headB_ok (n := 400) (gs := [.b true, .b false]) [] [] [0, 2, 3, 4, 5, 6] [] (ob := [0 ≤ (0 : Int), (0 : Int) < (s.size : Int), 0 ≤ (0 : Int), (0 : Int) < (s.size : Int), decide ((byteAt s (0 : Int)) ≥ 240) = true, decide ((s.size : Int) < 4) = false]) (b := lB (codeOf Tryd.f80) 0) (K' := lK (codeOf Tryd.f80) 0) (σ' := ⟨mkT_ 54 [(0, aI (sI s)), (2, aI (nI 0)), (3, aI (nI 0)), (4, aI (nI 4)), (5, aI (nI (IntKind.i64.wrap (((BitVec.ofInt 64 (IntKind.i64.wrap (byteAt s (0 : Int))) &&& BitVec.ofInt 64 7).toNat : Int))))), (6, aI (nI 1))], []⟩) (by kernel_rfl) ⟨(inR_lo c1), (inR_hi rfl c1), (inR_lo c1), (inR_hi rfl c1), c2, c3, trivial⟩ ?_
      refine loop_ok (fun q : Nat × Int × Int × Int => ⟨mkT_ 54 [(0, aI (sI s)), (2, aI (nI 0)), (3, aI (nI 0)), (4, aI (nI (q.2.1))), (5, aI (nI (q.2.2.1))), (6, aI (nI (q.2.2.2)))], []⟩) (fun q => l2One.L0 N s q.1 q.2.1 q.2.2.1 q.2.2.2 = some r) (fun q => q.1) (N, 4, IntKind.i64.wrap (((BitVec.ofInt 64 (IntKind.i64.wrap (byteAt s (0 : Int))) &&& BitVec.ofInt 64 7).toNat : Int)), 1) h ?_
      clear h
      rintro ⟨n0, v0_4, v0_5, v0_6⟩ h R0 hR0
      replace h : l2One.L0 N s n0 v0_4 v0_5 v0_6 = some r := h
      rcases n0 with _ | n0
      · cases h
      unfold l2One.L0 at h
      show AX _ _ _ _ _ (⟨mkT_ 54 [(0, aI (sI s)), (2, aI (nI 0)), (3, aI (nI 0)), (4, aI (nI v0_4)), (5, aI (nI v0_5)), (6, aI (nI v0_6))], []⟩)
      rcases bif_some h with ⟨c4, h⟩ | ⟨c4, h⟩
      · obtain ⟨c5, h⟩ := chk_some h
        exact inv_ok (n := 400) (gs := [.b true]) [0, 2, 3, 4, 5, 6] [] (ob := [decide (v0_6 < v0_4) = true, 0 ≤ (6 : Int), 0 ≤ v0_6, v0_6 < (s.size : Int)]) (σ' := ⟨mkT_ 54 [(0, aI (sI s)), (2, aI (nI 0)), (3, aI (nI 0)), (4, aI (nI v0_4)), (5, aI (nI (IntKind.i64.wrap (((BitVec.ofInt 64 (shlV .i64 v0_5 6) ||| BitVec.ofInt 64 (IntKind.i64.wrap (IntKind.u8.wrap (((BitVec.ofInt 8 (byteAt s v0_6) &&& BitVec.ofInt 8 63).toNat : Int))))).toNat : Int))))), (6, aI (nI (IntKind.i64.wrap (v0_6 + 1))))], []⟩) (by kernel_rfl) ⟨c4, (by decide), (inR_lo c5), (inR_hi rfl c5), trivial⟩ (fun a w hs => hR0 (n0, v0_4, IntKind.i64.wrap (((BitVec.ofInt 64 (shlV .i64 v0_5 6) ||| BitVec.ofInt 64 (IntKind.i64.wrap (IntKind.u8.wrap (((BitVec.ofInt 8 (byteAt s v0_6) &&& BitVec.ofInt 8 63).toNat : Int))))).toNat : Int)), IntKind.i64.wrap (v0_6 + 1)) a w h (Nat.lt_succ_self _) hs)
      · obtain ⟨y0, c6, h⟩ := bind_some' h
        obtain ⟨c7, h⟩ := chk_some h
        refine drw_ok (n := 400) (gs := [.b false]) [[], [.r (aI (.sl 1 (y0.map eB)))], [], [], [], [], []] [2, 3, 4, 5, 51] [] (ob := [decide (v0_6 < v0_4) = false, Ok Tryd.prog 101 [tI (nI v0_5)] (aI (.sl 1 (y0.map eB))), bytesOk (y0.map eB), 0 ≤ (0 : Int), (0 : Int) ≤ v0_4, (v0_4 : Int) ≤ (s.size : Int)]) (K' := dK (codeOf Tryd.f80) 0) (σ' := ⟨mkT_ 54 [(2, aI (nI 0)), (3, aI (nI 0)), (4, aI (nI v0_4)), (5, aI (nI v0_5)), (51, aI (bI (!((bytesC (y0.map eB)).toList == (s.extract (0 : Int).toNat (v0_4 : Int).toNat).toList))))], []⟩) (by kernel_rfl) ⟨c4, (l2Utf8.ok N v0_5 y0 c6), bytesOk_map, (inC_1 c7), (inC_2 c7), (inC_3 rfl c7), trivial⟩ ?_
        rcases bif_some h with ⟨c8, h⟩ | ⟨c8, h⟩
        · obtain rfl := Option.some.inj h
          exact finW_ok (n := 400) (gs := [.b true]) [] (ob := [(!((bytesC (y0.map eB)).toList == (s.extract (0 : Int).toNat (v0_4 : Int).toNat).toList)) = true]) (r' := .tup [tI (nI 0), tI (nI 0)]) [] (by kernel_rfl) ⟨c8, trivial⟩ rfl
        · obtain rfl := Option.some.inj h
          exact finW_ok (n := 400) (gs := [.b false]) [] (ob := [(!((bytesC (y0.map eB)).toList == (s.extract (0 : Int).toNat (v0_4 : Int).toNat).toList)) = false]) (r' := .tup [tI (nI v0_5), tI (nI v0_4)]) [] (by kernel_rfl) ⟨c8, trivial⟩ rfl
  · rcases bif_some h with ⟨c9, h⟩ | ⟨c9, h⟩
    · rcases bif_some h with ⟨c10, h⟩ | ⟨c10, h⟩
      · obtain rfl := Option.some.inj h
        exact finW_ok (n := 400) (gs := [.b false, .b true, .b true]) [] (ob := [0 ≤ (0 : Int), (0 : Int) < (s.size : Int), 0 ≤ (0 : Int), (0 : Int) < (s.size : Int), decide ((byteAt s (0 : Int)) ≥ 240) = false, 0 ≤ (0 : Int), (0 : Int) < (s.size : Int), decide ((byteAt s (0 : Int)) ≥ 224) = true, decide ((s.size : Int) < 3) = true]) (r' := .tup [tI (nI 0), tI (nI 0)]) [] (by kernel_rfl) ⟨(inR_lo c1), (inR_hi rfl c1), (inR_lo c1), (inR_hi rfl c1), c2, (inR_lo c1), (inR_hi rfl c1), c9, c10, trivial⟩ rfl
      · refine headB_ok (n := 400) (gs := [.b false, .b true, .b false]) [] [] [0, 2, 3, 4, 5, 6] [] (ob := [0 ≤ (0 : Int), (0 : Int) < (s.size : Int), 0 ≤ (0 : Int), (0 : Int) < (s.size : Int), decide ((byteAt s (0 : Int)) ≥ 240) = false, 0 ≤ (0 : Int), (0 : Int) < (s.size : Int), decide ((byteAt s (0 : Int)) ≥ 224) = true, decide ((s.size : Int) < 3) = false]) (b := lB (codeOf Tryd.f80) 0) (K' := lK (codeOf Tryd.f80) 0) (σ' := ⟨mkT_ 54 [(0, aI (sI s)), (2, aI (nI 0)), (3, aI (nI 0)), (4, aI (nI 3)), (5, aI (nI (IntKind.i64.wrap (((BitVec.ofInt 64 (IntKind.i64.wrap (byteAt s (0 : Int))) &&& BitVec.ofInt 64 15).toNat : Int))))), (6, aI (nI 1))], []⟩) (by kernel_rfl) ⟨(inR_lo c1), (inR_hi rfl c1), (inR_lo c1), (inR_hi rfl c1), c2, (inR_lo c1), (inR_hi rfl c1), c9, c10, trivial⟩ ?_
        refine loop_ok (fun q : Nat × Int × Int × Int => ⟨mkT_ 54 [(0, aI (sI s)), (2, aI (nI 0)), (3, aI (nI 0)), (4, aI (nI (q.2.1))), (5, aI (nI (q.2.2.1))), (6, aI (nI (q.2.2.2)))], []⟩) (fun q => l2One.L0 N s q.1 q.2.1 q.2.2.1 q.2.2.2 = some r) (fun q => q.1) (N, 3, IntKind.i64.wrap (((BitVec.ofInt 64 (IntKind.i64.wrap (byteAt s (0 : Int))) &&& BitVec.ofInt 64 15).toNat : Int)), 1) h ?_
        clear h
        rintro ⟨n0, v0_4, v0_5, v0_6⟩ h R0 hR0
        replace h : l2One.L0 N s n0 v0_4 v0_5 v0_6 = some r := h
        rcases n0 with _ | n0
        · cases h
        unfold l2One.L0 at h
        show AX _ _ _ _ _ (⟨mkT_ 54 [(0, aI (sI s)), (2, aI (nI 0)), (3, aI (nI 0)), (4, aI (nI v0_4)), (5, aI (nI v0_5)), (6, aI (nI v0_6))], []⟩)
        rcases bif_some h with ⟨c11, h⟩ | ⟨c11, h⟩
        · obtain ⟨c12, h⟩ := chk_some h
          exact inv_ok (n := 400) (gs := [.b true]) [0, 2, 3, 4, 5, 6] [] (ob := [decide (v0_6 < v0_4) = true, 0 ≤ (6 : Int), 0 ≤ v0_6, v0_6 < (s.size : Int)]) (σ' := ⟨mkT_ 54 [(0, aI (sI s)), (2, aI (nI 0)), (3, aI (nI 0)), (4, aI (nI v0_4)), (5, aI (nI (IntKind.i64.wrap (((BitVec.ofInt 64 (shlV .i64 v0_5 6) ||| BitVec.ofInt 64 (IntKind.i64.wrap (IntKind.u8.wrap (((BitVec.ofInt 8 (byteAt s v0_6) &&& BitVec.ofInt 8 63).toNat : Int))))).toNat : Int))))), (6, aI (nI (IntKind.i64.wrap (v0_6 + 1))))], []⟩) (by kernel_rfl) ⟨c11, (by decide), (inR_lo c12), (inR_hi rfl c12), trivial⟩ (fun a w hs => hR0 (n0, v0_4, IntKind.i64.wrap (((BitVec.ofInt 64 (shlV .i64 v0_5 6) ||| BitVec.ofInt 64 (IntKind.i64.wrap (IntKind.u8.wrap (((BitVec.ofInt 8 (byteAt s v0_6) &&& BitVec.ofInt 8 63).toNat : Int))))).toNat : Int)), IntKind.i64.wrap (v0_6 + 1)) a w h (Nat.lt_succ_self _) hs)
        · obtain ⟨y0, c13, h⟩ := bind_some' h
          obtain ⟨c14, h⟩ := chk_some h
          refine drw_ok (n := 400) (gs := [.b false]) [[], [.r (aI (.sl 1 (y0.map eB)))], [], [], [], [], []] [2, 3, 4, 5, 51] [] (ob := [decide (v0_6 < v0_4) = false, Ok Tryd.prog 101 [tI (nI v0_5)] (aI (.sl 1 (y0.map eB))), bytesOk (y0.map eB), 0 ≤ (0 : Int), (0 : Int) ≤ v0_4, (v0_4 : Int) ≤ (s.size : Int)]) (K' := dK (codeOf Tryd.f80) 0) (σ' := ⟨mkT_ 54 [(2, aI (nI 0)), (3, aI (nI 0)), (4, aI (nI v0_4)), (5, aI (nI v0_5)), (51, aI (bI (!((bytesC (y0.map eB)).toList == (s.extract (0 : Int).toNat (v0_4 : Int).toNat).toList))))], []⟩) (by kernel_rfl) ⟨c11, (l2Utf8.ok N v0_5 y0 c13), bytesOk_map, (inC_1 c14), (inC_2 c14), (inC_3 rfl c14), trivial⟩ ?_
          rcases bif_some h with ⟨c15, h⟩ | ⟨c15, h⟩
          · obtain rfl := Option.some.inj h
            exact finW_ok (n := 400) (gs := [.b true]) [] (ob := [(!((bytesC (y0.map eB)).toList == (s.extract (0 : Int).toNat (v0_4 : Int).toNat).toList)) = true]) (r' := .tup [tI (nI 0), tI (nI 0)]) [] (by kernel_rfl) ⟨c15, trivial⟩ rfl
          · obtain rfl := Option.some.inj h
            exact finW_ok (n := 400) (gs := [.b false]) [] (ob := [(!((bytesC (y0.map eB)).toList == (s.extract (0 : Int).toNat (v0_4 : Int).toNat).toList)) = false]) (r' := .tup [tI (nI v0_5), tI (nI v0_4)]) [] (by kernel_rfl) ⟨c15, trivial⟩ rfl
    · rcases bif_some h with ⟨c16, h⟩ | ⟨c16, h⟩
      · rcases bif_some h with ⟨c17, h⟩ | ⟨c17, h⟩
        · obtain rfl := Option.some.inj h
          exact finW_ok (n := 400) (gs := [.b false, .b false, .b true, .b true]) [] (ob := [0 ≤ (0 : Int), (0 : Int) < (s.size : Int), 0 ≤ (0 : Int), (0 : Int) < (s.size : Int), decide ((byteAt s (0 : Int)) ≥ 240) = false, 0 ≤ (0 : Int), (0 : Int) < (s.size : Int), decide ((byteAt s (0 : Int)) ≥ 224) = false, 0 ≤ (0 : Int), (0 : Int) < (s.size : Int), decide ((byteAt s (0 : Int)) ≥ 192) = true, decide ((s.size : Int) < 2) = true]) (r' := .tup [tI (nI 0), tI (nI 0)]) [] (by kernel_rfl) ⟨(inR_lo c1), (inR_hi rfl c1), (inR_lo c1), (inR_hi rfl c1), c2, (inR_lo c1), (inR_hi rfl c1), c9, (inR_lo c1), (inR_hi rfl c1), c16, c17, trivial⟩ rfl
        · refine headB_ok (n := 400) (gs := [.b false, .b false, .b true, .b false]) [] [] [0, 2, 3, 4, 5, 6] [] (ob := [0 ≤ (0 : Int), (0 : Int) < (s.size : Int), 0 ≤ (0 : Int), (0 : Int) < (s.size : Int), decide ((byteAt s (0 : Int)) ≥ 240) = false, 0 ≤ (0 : Int), (0 : Int) < (s.size : Int), decide ((byteAt s (0 : Int)) ≥ 224) = false, 0 ≤ (0 : Int), (0 : Int) < (s.size : Int), decide ((byteAt s (0 : Int)) ≥ 192) = true, decide ((s.size : Int) < 2) = false]) (b := lB (codeOf Tryd.f80) 0) (K' := lK (codeOf Tryd.f80) 0) (σ' := ⟨mkT_ 54 [(0, aI (sI s)), (2, aI (nI 0)), (3, aI (nI 0)), (4, aI (nI 2)), (5, aI (nI (IntKind.i64.wrap (((BitVec.ofInt 64 (IntKind.i64.wrap (byteAt s (0 : Int))) &&& BitVec.ofInt 64 31).toNat : Int))))), (6, aI (nI 1))], []⟩) (by kernel_rfl) ⟨(inR_lo c1), (inR_hi rfl c1), (inR_lo c1), (inR_hi rfl c1), c2, (inR_lo c1), (inR_hi rfl c1), c9, (inR_lo c1), (inR_hi rfl c1), c16, c17, trivial⟩ ?_
          refine loop_ok (fun q : Nat × Int × Int × Int => ⟨mkT_ 54 [(0, aI (sI s)), (2, aI (nI 0)), (3, aI (nI 0)), (4, aI (nI (q.2.1))), (5, aI (nI (q.2.2.1))), (6, aI (nI (q.2.2.2)))], []⟩) (fun q => l2One.L0 N s q.1 q.2.1 q.2.2.1 q.2.2.2 = some r) (fun q => q.1) (N, 2, IntKind.i64.wrap (((BitVec.ofInt 64 (IntKind.i64.wrap (byteAt s (0 : Int))) &&& BitVec.ofInt 64 31).toNat : Int)), 1) h ?_
          clear h
          rintro ⟨n0, v0_4, v0_5, v0_6⟩ h R0 hR0
          replace h : l2One.L0 N s n0 v0_4 v0_5 v0_6 = some r := h
          rcases n0 with _ | n0
          · cases h
          unfold l2One.L0 at h
          show AX _ _ _ _ _ (⟨mkT_ 54 [(0, aI (sI s)), (2, aI (nI 0)), (3, aI (nI 0)), (4, aI (nI v0_4)), (5, aI (nI v0_5)), (6, aI (nI v0_6))], []⟩)
          rcases bif_some h with ⟨c18, h⟩ | ⟨c18, h⟩
          · obtain ⟨c19, h⟩ := chk_some h
            exact inv_ok (n := 400) (gs := [.b true]) [0, 2, 3, 4, 5, 6] [] (ob := [decide (v0_6 < v0_4) = true, 0 ≤ (6 : Int), 0 ≤ v0_6, v0_6 < (s.size : Int)]) (σ' := ⟨mkT_ 54 [(0, aI (sI s)), (2, aI (nI 0)), (3, aI (nI 0)), (4, aI (nI v0_4)), (5, aI (nI (IntKind.i64.wrap (((BitVec.ofInt 64 (shlV .i64 v0_5 6) ||| BitVec.ofInt 64 (IntKind.i64.wrap (IntKind.u8.wrap (((BitVec.ofInt 8 (byteAt s v0_6) &&& BitVec.ofInt 8 63).toNat : Int))))).toNat : Int))))), (6, aI (nI (IntKind.i64.wrap (v0_6 + 1))))], []⟩) (by kernel_rfl) ⟨c18, (by decide), (inR_lo c19), (inR_hi rfl c19), trivial⟩ (fun a w hs => hR0 (n0, v0_4, IntKind.i64.wrap (((BitVec.ofInt 64 (shlV .i64 v0_5 6) ||| BitVec.ofInt 64 (IntKind.i64.wrap (IntKind.u8.wrap (((BitVec.ofInt 8 (byteAt s v0_6) &&& BitVec.ofInt 8 63).toNat : Int))))).toNat : Int)), IntKind.i64.wrap (v0_6 + 1)) a w h (Nat.lt_succ_self _) hs)
          · obtain ⟨y0, c20, h⟩ := bind_some' h
            obtain ⟨c21, h⟩ := chk_some h
            refine drw_ok (n := 400) (gs := [.b false]) [[], [.r (aI (.sl 1 (y0.map eB)))], [], [], [], [], []] [2, 3, 4, 5, 51] [] (ob := [decide (v0_6 < v0_4) = false, Ok Tryd.prog 101 [tI (nI v0_5)] (aI (.sl 1 (y0.map eB))), bytesOk (y0.map eB), 0 ≤ (0 : Int), (0 : Int) ≤ v0_4, (v0_4 : Int) ≤ (s.size : Int)]) (K' := dK (codeOf Tryd.f80) 0) (σ' := ⟨mkT_ 54 [(2, aI (nI 0)), (3, aI (nI 0)), (4, aI (nI v0_4)), (5, aI (nI v0_5)), (51, aI (bI (!((bytesC (y0.map eB)).toList == (s.extract (0 : Int).toNat (v0_4 : Int).toNat).toList))))], []⟩) (by kernel_rfl) ⟨c18, (l2Utf8.ok N v0_5 y0 c20), bytesOk_map, (inC_1 c21), (inC_2 c21), (inC_3 rfl c21), trivial⟩ ?_
            rcases bif_some h with ⟨c22, h⟩ | ⟨c22, h⟩
            · obtain rfl := Option.some.inj h
              exact finW_ok (n := 400) (gs := [.b true]) [] (ob := [(!((bytesC (y0.map eB)).toList == (s.extract (0 : Int).toNat (v0_4 : Int).toNat).toList)) = true]) (r' := .tup [tI (nI 0), tI (nI 0)]) [] (by kernel_rfl) ⟨c22, trivial⟩ rfl
            · obtain rfl := Option.some.inj h
              exact finW_ok (n := 400) (gs := [.b false]) [] (ob := [(!((bytesC (y0.map eB)).toList == (s.extract (0 : Int).toNat (v0_4 : Int).toNat).toList)) = false]) (r' := .tup [tI (nI v0_5), tI (nI v0_4)]) [] (by kernel_rfl) ⟨c22, trivial⟩ rfl
      · rcases bif_some h with ⟨c23, h⟩ | ⟨c23, h⟩
        · obtain rfl := Option.some.inj h
          exact finW_ok (n := 400) (gs := [.b false, .b false, .b false, .b true]) [] (ob := [0 ≤ (0 : Int), (0 : Int) < (s.size : Int), 0 ≤ (0 : Int), (0 : Int) < (s.size : Int), decide ((byteAt s (0 : Int)) ≥ 240) = false, 0 ≤ (0 : Int), (0 : Int) < (s.size : Int), decide ((byteAt s (0 : Int)) ≥ 224) = false, 0 ≤ (0 : Int), (0 : Int) < (s.size : Int), decide ((byteAt s (0 : Int)) ≥ 192) = false, decide ((s.size : Int) < 1) = true]) (r' := .tup [tI (nI 0), tI (nI 0)]) [] (by kernel_rfl) ⟨(inR_lo c1), (inR_hi rfl c1), (inR_lo c1), (inR_hi rfl c1), c2, (inR_lo c1), (inR_hi rfl c1), c9, (inR_lo c1), (inR_hi rfl c1), c16, c23, trivial⟩ rfl
        · refine headB_ok (n := 400) (gs := [.b false, .b false, .b false, .b false]) [] [] [0, 2, 3, 4, 5, 6] [] (ob := [0 ≤ (0 : Int), (0 : Int) < (s.size : Int), 0 ≤ (0 : Int), (0 : Int) < (s.size : Int), decide ((byteAt s (0 : Int)) ≥ 240) = false, 0 ≤ (0 : Int), (0 : Int) < (s.size : Int), decide ((byteAt s (0 : Int)) ≥ 224) = false, 0 ≤ (0 : Int), (0 : Int) < (s.size : Int), decide ((byteAt s (0 : Int)) ≥ 192) = false, decide ((s.size : Int) < 1) = false]) (b := lB (codeOf Tryd.f80) 0) (K' := lK (codeOf Tryd.f80) 0) (σ' := ⟨mkT_ 54 [(0, aI (sI s)), (2, aI (nI 0)), (3, aI (nI 0)), (4, aI (nI 1)), (5, aI (nI (IntKind.i64.wrap (byteAt s (0 : Int))))), (6, aI (nI 1))], []⟩) (by kernel_rfl) ⟨(inR_lo c1), (inR_hi rfl c1), (inR_lo c1), (inR_hi rfl c1), c2, (inR_lo c1), (inR_hi rfl c1), c9, (inR_lo c1), (inR_hi rfl c1), c16, c23, trivial⟩ ?_
          refine loop_ok (fun q : Nat × Int × Int × Int => ⟨mkT_ 54 [(0, aI (sI s)), (2, aI (nI 0)), (3, aI (nI 0)), (4, aI (nI (q.2.1))), (5, aI (nI (q.2.2.1))), (6, aI (nI (q.2.2.2)))], []⟩) (fun q => l2One.L0 N s q.1 q.2.1 q.2.2.1 q.2.2.2 = some r) (fun q => q.1) (N, 1, IntKind.i64.wrap (byteAt s (0 : Int)), 1) h ?_
          clear h
          rintro ⟨n0, v0_4, v0_5, v0_6⟩ h R0 hR0
          replace h : l2One.L0 N s n0 v0_4 v0_5 v0_6 = some r := h
          rcases n0 with _ | n0
          · cases h
          unfold l2One.L0 at h
          show AX _ _ _ _ _ (⟨mkT_ 54 [(0, aI (sI s)), (2, aI (nI 0)), (3, aI (nI 0)), (4, aI (nI v0_4)), (5, aI (nI v0_5)), (6, aI (nI v0_6))], []⟩)
          rcases bif_some h with ⟨c24, h⟩ | ⟨c24, h⟩
          · obtain ⟨c25, h⟩ := chk_some h
            exact inv_ok (n := 400) (gs := [.b true]) [0, 2, 3, 4, 5, 6] [] (ob := [decide (v0_6 < v0_4) = true, 0 ≤ (6 : Int), 0 ≤ v0_6, v0_6 < (s.size : Int)]) (σ' := ⟨mkT_ 54 [(0, aI (sI s)), (2, aI (nI 0)), (3, aI (nI 0)), (4, aI (nI v0_4)), (5, aI (nI (IntKind.i64.wrap (((BitVec.ofInt 64 (shlV .i64 v0_5 6) ||| BitVec.ofInt 64 (IntKind.i64.wrap (IntKind.u8.wrap (((BitVec.ofInt 8 (byteAt s v0_6) &&& BitVec.ofInt 8 63).toNat : Int))))).toNat : Int))))), (6, aI (nI (IntKind.i64.wrap (v0_6 + 1))))], []⟩) (by kernel_rfl) ⟨c24, (by decide), (inR_lo c25), (inR_hi rfl c25), trivial⟩ (fun a w hs => hR0 (n0, v0_4, IntKind.i64.wrap (((BitVec.ofInt 64 (shlV .i64 v0_5 6) ||| BitVec.ofInt 64 (IntKind.i64.wrap (IntKind.u8.wrap (((BitVec.ofInt 8 (byteAt s v0_6) &&& BitVec.ofInt 8 63).toNat : Int))))).toNat : Int)), IntKind.i64.wrap (v0_6 + 1)) a w h (Nat.lt_succ_self _) hs)
          · obtain ⟨y0, c26, h⟩ := bind_some' h
            obtain ⟨c27, h⟩ := chk_some h
            refine drw_ok (n := 400) (gs := [.b false]) [[], [.r (aI (.sl 1 (y0.map eB)))], [], [], [], [], []] [2, 3, 4, 5, 51] [] (ob := [decide (v0_6 < v0_4) = false, Ok Tryd.prog 101 [tI (nI v0_5)] (aI (.sl 1 (y0.map eB))), bytesOk (y0.map eB), 0 ≤ (0 : Int), (0 : Int) ≤ v0_4, (v0_4 : Int) ≤ (s.size : Int)]) (K' := dK (codeOf Tryd.f80) 0) (σ' := ⟨mkT_ 54 [(2, aI (nI 0)), (3, aI (nI 0)), (4, aI (nI v0_4)), (5, aI (nI v0_5)), (51, aI (bI (!((bytesC (y0.map eB)).toList == (s.extract (0 : Int).toNat (v0_4 : Int).toNat).toList))))], []⟩) (by kernel_rfl) ⟨c24, (l2Utf8.ok N v0_5 y0 c26), bytesOk_map, (inC_1 c27), (inC_2 c27), (inC_3 rfl c27), trivial⟩ ?_
            rcases bif_some h with ⟨c28, h⟩ | ⟨c28, h⟩
            · obtain rfl := Option.some.inj h
              exact finW_ok (n := 400) (gs := [.b true]) [] (ob := [(!((bytesC (y0.map eB)).toList == (s.extract (0 : Int).toNat (v0_4 : Int).toNat).toList)) = true]) (r' := .tup [tI (nI 0), tI (nI 0)]) [] (by kernel_rfl) ⟨c28, trivial⟩ rfl
            · obtain rfl := Option.some.inj h
              exact finW_ok (n := 400) (gs := [.b false]) [] (ob := [(!((bytesC (y0.map eB)).toList == (s.extract (0 : Int).toNat (v0_4 : Int).toNat).toList)) = false]) (r' := .tup [tI (nI v0_5), tI (nI v0_4)]) [] (by kernel_rfl) ⟨c28, trivial⟩ rfl
def l2Points.L0 (N : Nat) (l : (List Int)) : Nat → Int → Option Bool
  | 0, _ => none
  | n0 + 1, v0_7 =>
    bif decide (v0_7 < ((l.map eI).length : Int)) then
      bif inR v0_7 l.length then
        (l1In.sem N (l.getD v0_7.toNat default) 0 1114111).bind fun y0 =>
        bif (!y0) then
        some false
      else
        (l1In.sem N (l.getD v0_7.toNat default) 55296 57343).bind fun y1 =>
        bif y1 then
          some false
        else
          l2Points.L0 N l n0 (IntKind.i64.wrap (v0_7 + 1))
      else none
    else
      some (decide (((l.map eI).length : Int) ≤ 300))
def l2Points.sem (N : Nat) (l : (List Int)) : Option Bool :=
    l2Points.L0 N l N 0
set_option maxHeartbeats 1000000 in
theorem l2Points.ok (N : Nat) (l : (List Int)) (r : Bool) (h : l2Points.sem N l = some r) : Ok Tryd.prog 81 [tI (.sl 1 (l.map eI))] (aI (bI r)) := by
  unfold l2Points.sem at h
  refine fnW_ok Tryd.func81 (by kernel_rfl) rfl rfl fun F hF => ?_
  refine headB_ok (n := 400) (gs := []) [] [] [0, 2, 5, 6, 7] [] (ob := []) (b := lB (codeOf Tryd.f81) 0) (K' := lK (codeOf Tryd.f81) 0) (σ' := ⟨mkT_ 22 [(0, aI (.sl 1 (l.map eI))), (2, aI (bI false)), (5, aI (.sl 1 (l.map eI))), (6, aI (nI ((l.map eI).length : Int))), (7, aI (nI 0))], []⟩) (by kernel_rfl) trivial ?_
  refine loop_ok (fun q : Nat × Int => ⟨mkT_ 22 [(0, aI (.sl 1 (l.map eI))), (2, aI (bI false)), (5, aI (.sl 1 (l.map eI))), (6, aI (nI ((l.map eI).length : Int))), (7, aI (nI (q.2)))], []⟩) (fun q => l2Points.L0 N l q.1 q.2 = some r) (fun q => q.1) (N, 0) h ?_
  clear h
  rintro ⟨n0, v0_7⟩ h R0 hR0
  replace h : l2Points.L0 N l n0 v0_7 = some r := h
  rcases n0 with _ | n0
  · cases h
  unfold l2Points.L0 at h
  show AX _ _ _ _ _ (⟨mkT_ 22 [(0, aI (.sl 1 (l.map eI))), (2, aI (bI false)), (5, aI (.sl 1 (l.map eI))), (6, aI (nI ((l.map eI).length : Int))), (7, aI (nI v0_7))], []⟩)
  rcases bif_some h with ⟨c1, h⟩ | ⟨c1, h⟩
  · obtain ⟨c2, h⟩ := chk_some h
    obtain ⟨y0, c3, h⟩ := bind_some' h
    rcases bif_some h with ⟨c4, h⟩ | ⟨c4, h⟩
    · obtain rfl := Option.some.inj h
      exact finW_ok (n := 400) (gs := [.b true, .ys [nI (l.getD v0_7.toNat default)], .r (aI (bI y0)), .b true, .a 1]) [] (ob := [decide (v0_7 < ((l.map eI).length : Int)) = true, 0 ≤ v0_7, (l.map eI)[v0_7.toNat]? = some [nI (l.getD v0_7.toNat default)], Ok Tryd.prog 52 [tI (nI (l.getD v0_7.toNat default)), tI (nI 0), tI (nI 1114111)] (aI (bI y0)), (!y0) = true, (!y0) = true, (!y0) = true]) (r' := aI (bI false)) [] (by kernel_rfl) ⟨c1, (inR_lo c2), (el_of eI rfl c2), (l1In.ok N (l.getD v0_7.toNat default) 0 1114111 y0 c3), c4, c4, c4, trivial⟩ rfl
    · obtain ⟨y1, c5, h⟩ := bind_some' h
      rcases bif_some h with ⟨c6, h⟩ | ⟨c6, h⟩
      · obtain rfl := Option.some.inj h
        exact finW_ok (n := 400) (gs := [.b true, .ys [nI (l.getD v0_7.toNat default)], .r (aI (bI y0)), .b false, .r (aI (bI y1)), .b true]) [] (ob := [decide (v0_7 < ((l.map eI).length : Int)) = true, 0 ≤ v0_7, (l.map eI)[v0_7.toNat]? = some [nI (l.getD v0_7.toNat default)], Ok Tryd.prog 52 [tI (nI (l.getD v0_7.toNat default)), tI (nI 0), tI (nI 1114111)] (aI (bI y0)), (!y0) = false, (!y0) = false, Ok Tryd.prog 52 [tI (nI (l.getD v0_7.toNat default)), tI (nI 55296), tI (nI 57343)] (aI (bI y1)), (!y0) = false, y1 = true]) (r' := aI (bI false)) [] (by kernel_rfl) ⟨c1, (inR_lo c2), (el_of eI rfl c2), (l1In.ok N (l.getD v0_7.toNat default) 0 1114111 y0 c3), c4, c4, (l1In.ok N (l.getD v0_7.toNat default) 55296 57343 y1 c5), c4, c6, trivial⟩ rfl
      · exact inv_ok (n := 400) (gs := [.b true, .ys [nI (l.getD v0_7.toNat default)], .r (aI (bI y0)), .b false, .r (aI (bI y1)), .b false]) [0, 2, 5, 6, 7] [] (ob := [decide (v0_7 < ((l.map eI).length : Int)) = true, 0 ≤ v0_7, (l.map eI)[v0_7.toNat]? = some [nI (l.getD v0_7.toNat default)], Ok Tryd.prog 52 [tI (nI (l.getD v0_7.toNat default)), tI (nI 0), tI (nI 1114111)] (aI (bI y0)), (!y0) = false, (!y0) = false, Ok Tryd.prog 52 [tI (nI (l.getD v0_7.toNat default)), tI (nI 55296), tI (nI 57343)] (aI (bI y1)), (!y0) = false, y1 = false]) (σ' := ⟨mkT_ 22 [(0, aI (.sl 1 (l.map eI))), (2, aI (bI false)), (5, aI (.sl 1 (l.map eI))), (6, aI (nI ((l.map eI).length : Int))), (7, aI (nI (IntKind.i64.wrap (v0_7 + 1))))], []⟩) (by kernel_rfl) ⟨c1, (inR_lo c2), (el_of eI rfl c2), (l1In.ok N (l.getD v0_7.toNat default) 0 1114111 y0 c3), c4, c4, (l1In.ok N (l.getD v0_7.toNat default) 55296 57343 y1 c5), c4, c6, trivial⟩ (fun a w hs => hR0 (n0, IntKind.i64.wrap (v0_7 + 1)) a w h (Nat.lt_succ_self _) hs)
  · obtain rfl := Option.some.inj h
    exact finW_ok (n := 400) (gs := [.b false]) [] (ob := [decide (v0_7 < ((l.map eI).length : Int)) = false]) (r' := aI (bI (decide (((l.map eI).length : Int) ≤ 300)))) [] (by kernel_rfl) ⟨c1, trivial⟩ rfl
end Go.Proofs.YtljdidlkiknknaaDoor.AB
