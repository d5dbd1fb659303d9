/-
  What a call does, told without addresses: a state, steps, and that the code follows them.
-/
import Derived.Test.YtljdidlkiknknaaDoorC26Abh1x2
namespace Go.Proofs.YtljdidlkiknknaaDoor.AB
open Go Go.RowKit Go.Proofs.YtljdidlkiknknaaDoorW.PrintWords Go.Proofs.YtljdidlkiknknaaDoorW.PrintMore
set_option linter.unusedSimpArgs false
set_option linter.unusedVariables false
def eqTN.L0 (N : Nat) (a : (List TN)) (b : (List TN)) : Nat → Int → Option Bool
  | 0, _ => none
  | n0 + 1, v0_5 =>
    bif decide (v0_5 < ((a.map eTN).length : Int)) then
      bif inR v0_5 a.length then
        bif inR v0_5 b.length then
          (eqTN1.sem N (a.getD v0_5.toNat default) (b.getD v0_5.toNat default)).bind fun y0 =>
          bif (!y0) then
        some false
      else
        eqTN.L0 N a b n0 (IntKind.i64.wrap (v0_5 + 1))
        else none
      else none
    else
      some true
def eqTN.sem (N : Nat) (a : (List TN)) (b : (List TN)) : Option Bool :=
    bif (((a.map eTN).length : Int) != ((b.map eTN).length : Int)) then
      some false
    else
      eqTN.L0 N a b N 0
set_option maxHeartbeats 1000000 in
theorem eqTN.ok (N : Nat) (a : (List TN)) (b : (List TN)) (r : Bool) (h : eqTN.sem N a b = some r) : Ok Tryd.prog 15 [tI (.sl 3 (a.map eTN)), tI (.sl 3 (b.map eTN))] (aI (bI r)) := by
  unfold eqTN.sem at h
  refine fnW_ok Tryd.func15 (by kernel_rfl) rfl rfl fun F hF => ?_
  rcases bif_some h with ⟨c1, h⟩ | ⟨c1, h⟩
  · obtain rfl := Option.some.inj h
    exact finW_ok (n := 400) (gs := [.b true]) [] (ob := [(((a.map eTN).length : Int) != ((b.map eTN).length : Int)) = true]) (r' := aI (bI false)) [] (by kernel_rfl) ⟨c1, trivial⟩ rfl
  · refine headB_ok (n := 400) (gs := [.b false]) [] [] [0, 1, 4, 5] [] (ob := [(((a.map eTN).length : Int) != ((b.map eTN).length : Int)) = false]) (b := lB (codeOf Tryd.f15) 0) (K' := lK (codeOf Tryd.f15) 0) (σ' := ⟨mkT_ 27 [(0, aI (.sl 3 (a.map eTN))), (1, aI (.sl 3 (b.map eTN))), (4, aI (bI false)), (5, aI (nI 0))], []⟩) (by kernel_rfl) ⟨c1, trivial⟩ ?_
    refine loop_ok (fun q : Nat × Int => ⟨mkT_ 27 [(0, aI (.sl 3 (a.map eTN))), (1, aI (.sl 3 (b.map eTN))), (4, aI (bI false)), (5, aI (nI (q.2)))], []⟩) (fun q => eqTN.L0 N a b q.1 q.2 = some r) (fun q => q.1) (N, 0) h ?_
    clear h
    rintro ⟨n0, v0_5⟩ h R0 hR0
    replace h : eqTN.L0 N a b n0 v0_5 = some r := h
    rcases n0 with _ | n0
    · cases h
    unfold eqTN.L0 at h
    show AX _ _ _ _ _ (⟨mkT_ 27 [(0, aI (.sl 3 (a.map eTN))), (1, aI (.sl 3 (b.map eTN))), (4, aI (bI false)), (5, aI (nI v0_5))], []⟩)
    rcases bif_some h with ⟨c2, h⟩ | ⟨c2, h⟩
    · obtain ⟨c3, h⟩ := chk_some h
      obtain ⟨c4, h⟩ := chk_some h
      obtain ⟨y0, c5, h⟩ := bind_some' h
      refine drx_ok (n := 400) (gs := [.b true]) [[], [], [.ys [nI ((a.getD v0_5.toNat default).kind), nI ((a.getD v0_5.toNat default).n), nI ((a.getD v0_5.toNat default).up)]], [], [], [], [.ys [nI ((b.getD v0_5.toNat default).kind), nI ((b.getD v0_5.toNat default).n), nI ((b.getD v0_5.toNat default).up)]], [], [.r (aI (bI y0))], []] [0, 1, 4, 5, 26] [] (ob := [decide (v0_5 < ((a.map eTN).length : Int)) = true, 0 ≤ v0_5, (a.map eTN)[v0_5.toNat]? = some [nI ((a.getD v0_5.toNat default).kind), nI ((a.getD v0_5.toNat default).n), nI ((a.getD v0_5.toNat default).up)], 0 ≤ v0_5, (b.map eTN)[v0_5.toNat]? = some [nI ((b.getD v0_5.toNat default).kind), nI ((b.getD v0_5.toNat default).n), nI ((b.getD v0_5.toNat default).up)], Ok Tryd.prog 39 [.agg [.i (nI ((a.getD v0_5.toNat default).kind)), .i (nI ((a.getD v0_5.toNat default).n)), .i (nI ((a.getD v0_5.toNat default).up))], .agg [.i (nI ((b.getD v0_5.toNat default).kind)), .i (nI ((b.getD v0_5.toNat default).n)), .i (nI ((b.getD v0_5.toNat default).up))]] (aI (bI y0))]) (K' := dK (lB (codeOf Tryd.f15) 0) 0 ++ [.inv R0] ++ lK (codeOf Tryd.f15) 0) (σ' := ⟨mkT_ 27 [(0, aI (.sl 3 (a.map eTN))), (1, aI (.sl 3 (b.map eTN))), (4, aI (bI false)), (5, aI (nI v0_5)), (26, aI (bI (!y0)))], []⟩) (by kernel_rfl) ⟨c2, (inR_lo c3), (el_of eTN rfl c3), (inR_lo c4), (el_of eTN rfl c4), (eqTN1.ok N (a.getD v0_5.toNat default) (b.getD v0_5.toNat default) y0 c5), trivial⟩ ?_
      rcases bif_some h with ⟨c6, h⟩ | ⟨c6, h⟩
      · obtain rfl := Option.some.inj h
        exact finW_ok (n := 400) (gs := [.b true]) [] (ob := [(!y0) = true]) (r' := aI (bI false)) [] (by kernel_rfl) ⟨c6, trivial⟩ rfl
      · exact inv_ok (n := 400) (gs := [.b false]) [0, 1, 4, 5] [] (ob := [(!y0) = false]) (σ' := ⟨mkT_ 27 [(0, aI (.sl 3 (a.map eTN))), (1, aI (.sl 3 (b.map eTN))), (4, aI (bI false)), (5, aI (nI (IntKind.i64.wrap (v0_5 + 1))))], []⟩) (by kernel_rfl) ⟨c6, trivial⟩ (fun a w hs => hR0 (n0, IntKind.i64.wrap (v0_5 + 1)) a w h (Nat.lt_succ_self _) hs)
    · obtain rfl := Option.some.inj h
      exact finW_ok (n := 400) (gs := [.b false]) [] (ob := [decide (v0_5 < ((a.map eTN).length : Int)) = false]) (r' := aI (bI true)) [] (by kernel_rfl) ⟨c2, trivial⟩ rfl
def eqVN.L0 (N : Nat) (a : (List VN)) (b : (List VN)) : Nat → Int → Option Bool
  | 0, _ => none
  | n0 + 1, v0_5 =>
    bif decide (v0_5 < ((a.map eVN).length : Int)) then
      bif inR v0_5 a.length then
        bif inR v0_5 b.length then
          (eqVN1.sem N (a.getD v0_5.toNat default) (b.getD v0_5.toNat default)).bind fun y0 =>
          bif (!y0) then
        some false
      else
        eqVN.L0 N a b n0 (IntKind.i64.wrap (v0_5 + 1))
        else none
      else none
    else
      some true
def eqVN.sem (N : Nat) (a : (List VN)) (b : (List VN)) : Option Bool :=
    bif (((a.map eVN).length : Int) != ((b.map eVN).length : Int)) then
      some false
    else
      eqVN.L0 N a b N 0
set_option maxHeartbeats 1000000 in
theorem eqVN.ok (N : Nat) (a : (List VN)) (b : (List VN)) (r : Bool) (h : eqVN.sem N a b = some r) : Ok Tryd.prog 16 [tI (.sl 3 (a.map eVN)), tI (.sl 3 (b.map eVN))] (aI (bI r)) := by
  unfold eqVN.sem at h
  refine fnW_ok Tryd.func16 (by kernel_rfl) rfl rfl fun F hF => ?_
  rcases bif_some h with ⟨c1, h⟩ | ⟨c1, h⟩
  · obtain rfl := Option.some.inj h
    exact finW_ok (n := 400) (gs := [.b true]) [] (ob := [(((a.map eVN).length : Int) != ((b.map eVN).length : Int)) = true]) (r' := aI (bI false)) [] (by kernel_rfl) ⟨c1, trivial⟩ rfl
  · refine headB_ok (n := 400) (gs := [.b false]) [] [] [0, 1, 4, 5] [] (ob := [(((a.map eVN).length : Int) != ((b.map eVN).length : Int)) = false]) (b := lB (codeOf Tryd.f16) 0) (K' := lK (codeOf Tryd.f16) 0) (σ' := ⟨mkT_ 27 [(0, aI (.sl 3 (a.map eVN))), (1, aI (.sl 3 (b.map eVN))), (4, aI (bI false)), (5, aI (nI 0))], []⟩) (by kernel_rfl) ⟨c1, trivial⟩ ?_
    refine loop_ok (fun q : Nat × Int => ⟨mkT_ 27 [(0, aI (.sl 3 (a.map eVN))), (1, aI (.sl 3 (b.map eVN))), (4, aI (bI false)), (5, aI (nI (q.2)))], []⟩) (fun q => eqVN.L0 N a b q.1 q.2 = some r) (fun q => q.1) (N, 0) h ?_
    clear h
    rintro ⟨n0, v0_5⟩ h R0 hR0
    replace h : eqVN.L0 N a b n0 v0_5 = some r := h
    rcases n0 with _ | n0
    · cases h
    unfold eqVN.L0 at h
    show AX _ _ _ _ _ (⟨mkT_ 27 [(0, aI (.sl 3 (a.map eVN))), (1, aI (.sl 3 (b.map eVN))), (4, aI (bI false)), (5, aI (nI v0_5))], []⟩)
    rcases bif_some h with ⟨c2, h⟩ | ⟨c2, h⟩
    · obtain ⟨c3, h⟩ := chk_some h
      obtain ⟨c4, h⟩ := chk_some h
      obtain ⟨y0, c5, h⟩ := bind_some' h
      refine drx_ok (n := 400) (gs := [.b true]) [[], [], [.ys [nI ((a.getD v0_5.toNat default).n), sI ((a.getD v0_5.toNat default).text), nI ((a.getD v0_5.toNat default).up)]], [], [], [], [.ys [nI ((b.getD v0_5.toNat default).n), sI ((b.getD v0_5.toNat default).text), nI ((b.getD v0_5.toNat default).up)]], [], [.r (aI (bI y0))], []] [0, 1, 4, 5, 26] [] (ob := [decide (v0_5 < ((a.map eVN).length : Int)) = true, 0 ≤ v0_5, (a.map eVN)[v0_5.toNat]? = some [nI ((a.getD v0_5.toNat default).n), sI ((a.getD v0_5.toNat default).text), nI ((a.getD v0_5.toNat default).up)], 0 ≤ v0_5, (b.map eVN)[v0_5.toNat]? = some [nI ((b.getD v0_5.toNat default).n), sI ((b.getD v0_5.toNat default).text), nI ((b.getD v0_5.toNat default).up)], Ok Tryd.prog 40 [.agg [.i (nI ((a.getD v0_5.toNat default).n)), .i (sI ((a.getD v0_5.toNat default).text)), .i (nI ((a.getD v0_5.toNat default).up))], .agg [.i (nI ((b.getD v0_5.toNat default).n)), .i (sI ((b.getD v0_5.toNat default).text)), .i (nI ((b.getD v0_5.toNat default).up))]] (aI (bI y0))]) (K' := dK (lB (codeOf Tryd.f16) 0) 0 ++ [.inv R0] ++ lK (codeOf Tryd.f16) 0) (σ' := ⟨mkT_ 27 [(0, aI (.sl 3 (a.map eVN))), (1, aI (.sl 3 (b.map eVN))), (4, aI (bI false)), (5, aI (nI v0_5)), (26, aI (bI (!y0)))], []⟩) (by kernel_rfl) ⟨c2, (inR_lo c3), (el_of eVN rfl c3), (inR_lo c4), (el_of eVN rfl c4), (eqVN1.ok N (a.getD v0_5.toNat default) (b.getD v0_5.toNat default) y0 c5), trivial⟩ ?_
      rcases bif_some h with ⟨c6, h⟩ | ⟨c6, h⟩
      · obtain rfl := Option.some.inj h
        exact finW_ok (n := 400) (gs := [.b true]) [] (ob := [(!y0) = true]) (r' := aI (bI false)) [] (by kernel_rfl) ⟨c6, trivial⟩ rfl
      · exact inv_ok (n := 400) (gs := [.b false]) [0, 1, 4, 5] [] (ob := [(!y0) = false]) (σ' := ⟨mkT_ 27 [(0, aI (.sl 3 (a.map eVN))), (1, aI (.sl 3 (b.map eVN))), (4, aI (bI false)), (5, aI (nI (IntKind.i64.wrap (v0_5 + 1))))], []⟩) (by kernel_rfl) ⟨c6, trivial⟩ (fun a w hs => hR0 (n0, IntKind.i64.wrap (v0_5 + 1)) a w h (Nat.lt_succ_self _) hs)
    · obtain rfl := Option.some.inj h
      exact finW_ok (n := 400) (gs := [.b false]) [] (ob := [decide (v0_5 < ((a.map eVN).length : Int)) = false]) (r' := aI (bI true)) [] (by kernel_rfl) ⟨c2, trivial⟩ rfl
end Go.Proofs.YtljdidlkiknknaaDoor.AB
