/-
  What a call does, told without addresses: a state, steps, and that the code follows them.
-/
import Derived.Test.YtljdidlkiknknaaDoorC26Abh2
namespace Go.Proofs.YtljdidlkiknknaaDoor.AB
open Go Go.RowKit Go.Proofs.YtljdidlkiknknaaDoorW.PrintWords Go.Proofs.YtljdidlkiknknaaDoorW.PrintMore
set_option linter.unusedSimpArgs false
set_option linter.unusedVariables false
def slEq.L0 (N : Nat) (a : (List VN)) (b : (List VN)) : Nat → Int → Option Bool
  | 0, _ => none
  | n0 + 1, v0_13 =>
    bif decide (v0_13 < ((a.map eVN).length : Int)) then
      bif inR v0_13 a.length then
        bif inR v0_13 b.length then
          bif (!((((a.getD v0_13.toNat default).n) == ((b.getD v0_13.toNat default).n)) && ((((a.getD v0_13.toNat default).text).toList == ((b.getD v0_13.toNat default).text).toList) && ((((a.getD v0_13.toNat default).up) == ((b.getD v0_13.toNat default).up)) && true)))) then
        some false
      else
        slEq.L0 N a b n0 (IntKind.i64.wrap (v0_13 + 1))
        else none
      else none
    else
      some true
def slEq.sem (N : Nat) (a : (List VN)) (b : (List VN)) : Option Bool :=
    bif (((a.map eVN).length : Int) != ((b.map eVN).length : Int)) then
      some false
    else
      slEq.L0 N a b N 0
set_option maxHeartbeats 1000000 in
theorem slEq.ok (N : Nat) (a : (List VN)) (b : (List VN)) (r : Bool) (h : slEq.sem N a b = some r) : Ok Tryd.prog 41 [tI (.sl 3 (a.map eVN)), tI (.sl 3 (b.map eVN))] (aI (bI r)) := by
  unfold slEq.sem at h
  refine fnW_ok Tryd.func41 (by kernel_rfl) rfl rfl fun F hF => ?_
  rcases bif_some h with ⟨c1, h⟩ | ⟨c1, h⟩
  · obtain rfl := Option.some.inj h
    exact finW_ok (n := 400) (gs := [.b true]) [] (ob := [(((a.map eVN).length : Int) != ((b.map eVN).length : Int)) = true]) (r' := aI (bI false)) [] (by kernel_rfl) ⟨c1, trivial⟩ rfl
  · refine headB_ok (n := 400) (gs := [.b false]) [] [] [0, 1, 4, 12, 13] [] (ob := [(((a.map eVN).length : Int) != ((b.map eVN).length : Int)) = false]) (b := lB (codeOf Tryd.f41) 0) (K' := lK (codeOf Tryd.f41) 0) (σ' := ⟨mkT_ 26 [(0, aI (.sl 3 (a.map eVN))), (1, aI (.sl 3 (b.map eVN))), (4, aI (bI false)), (12, aI (nI ((a.map eVN).length : Int))), (13, aI (nI 0))], []⟩) (by kernel_rfl) ⟨c1, trivial⟩ ?_
    refine loop_ok (fun q : Nat × Int => ⟨mkT_ 26 [(0, aI (.sl 3 (a.map eVN))), (1, aI (.sl 3 (b.map eVN))), (4, aI (bI false)), (12, aI (nI ((a.map eVN).length : Int))), (13, aI (nI (q.2)))], []⟩) (fun q => slEq.L0 N a b q.1 q.2 = some r) (fun q => q.1) (N, 0) h ?_
    clear h
    rintro ⟨n0, v0_13⟩ h R0 hR0
    replace h : slEq.L0 N a b n0 v0_13 = some r := h
    rcases n0 with _ | n0
    · cases h
    unfold slEq.L0 at h
    show AX _ _ _ _ _ (⟨mkT_ 26 [(0, aI (.sl 3 (a.map eVN))), (1, aI (.sl 3 (b.map eVN))), (4, aI (bI false)), (12, aI (nI ((a.map eVN).length : Int))), (13, aI (nI v0_13))], []⟩)
    rcases bif_some h with ⟨c2, h⟩ | ⟨c2, h⟩
    · obtain ⟨c3, h⟩ := chk_some h
      obtain ⟨c4, h⟩ := chk_some h
      refine drx_ok (n := 400) (gs := [.b true]) [[], [], [.ys [nI ((a.getD v0_13.toNat default).n), sI ((a.getD v0_13.toNat default).text), nI ((a.getD v0_13.toNat default).up)]], [], [], [], [.ys [nI ((b.getD v0_13.toNat default).n), sI ((b.getD v0_13.toNat default).text), nI ((b.getD v0_13.toNat default).up)]], [], []] [0, 1, 4, 12, 13, 24] [] (ob := [decide (v0_13 < ((a.map eVN).length : Int)) = true, 0 ≤ v0_13, (a.map eVN)[v0_13.toNat]? = some [nI ((a.getD v0_13.toNat default).n), sI ((a.getD v0_13.toNat default).text), nI ((a.getD v0_13.toNat default).up)], 0 ≤ v0_13, (b.map eVN)[v0_13.toNat]? = some [nI ((b.getD v0_13.toNat default).n), sI ((b.getD v0_13.toNat default).text), nI ((b.getD v0_13.toNat default).up)]]) (K' := dK (lB (codeOf Tryd.f41) 0) 0 ++ [.inv R0] ++ lK (codeOf Tryd.f41) 0) (σ' := ⟨mkT_ 26 [(0, aI (.sl 3 (a.map eVN))), (1, aI (.sl 3 (b.map eVN))), (4, aI (bI false)), (12, aI (nI ((a.map eVN).length : Int))), (13, aI (nI v0_13)), (24, aI (bI (!((((a.getD v0_13.toNat default).n) == ((b.getD v0_13.toNat default).n)) && ((((a.getD v0_13.toNat default).text).toList == ((b.getD v0_13.toNat default).text).toList) && ((((a.getD v0_13.toNat default).up) == ((b.getD v0_13.toNat default).up)) && true))))))], []⟩) (by kernel_rfl) ⟨c2, (inR_lo c3), (el_of eVN rfl c3), (inR_lo c4), (el_of eVN rfl c4), trivial⟩ ?_
      rcases bif_some h with ⟨c5, h⟩ | ⟨c5, h⟩
      · obtain rfl := Option.some.inj h
        exact finW_ok (n := 400) (gs := [.b true]) [] (ob := [(!((((a.getD v0_13.toNat default).n) == ((b.getD v0_13.toNat default).n)) && ((((a.getD v0_13.toNat default).text).toList == ((b.getD v0_13.toNat default).text).toList) && ((((a.getD v0_13.toNat default).up) == ((b.getD v0_13.toNat default).up)) && true)))) = true]) (r' := aI (bI false)) [] (by kernel_rfl) ⟨c5, trivial⟩ rfl
      · exact inv_ok (n := 400) (gs := [.b false]) [0, 1, 4, 12, 13] [] (ob := [(!((((a.getD v0_13.toNat default).n) == ((b.getD v0_13.toNat default).n)) && ((((a.getD v0_13.toNat default).text).toList == ((b.getD v0_13.toNat default).text).toList) && ((((a.getD v0_13.toNat default).up) == ((b.getD v0_13.toNat default).up)) && true)))) = false]) (σ' := ⟨mkT_ 26 [(0, aI (.sl 3 (a.map eVN))), (1, aI (.sl 3 (b.map eVN))), (4, aI (bI false)), (12, aI (nI ((a.map eVN).length : Int))), (13, aI (nI (IntKind.i64.wrap (v0_13 + 1))))], []⟩) (by kernel_rfl) ⟨c5, trivial⟩ (fun a w hs => hR0 (n0, IntKind.i64.wrap (v0_13 + 1)) a w h (Nat.lt_succ_self _) hs)
    · obtain rfl := Option.some.inj h
      exact finW_ok (n := 400) (gs := [.b false]) [] (ob := [decide (v0_13 < ((a.map eVN).length : Int)) = false]) (r' := aI (bI true)) [] (by kernel_rfl) ⟨c2, trivial⟩ rfl
def sSame.L0 (N : Nat) (t : (List TN)) (a : (List VN)) (b : (List VN)) : Nat → Int → Option (Bool × Bool)
  | 0, _ => none
  | n0 + 1, v0_26 =>
    bif decide (v0_26 < ((a.map eVN).length : Int)) then
      bif inR v0_26 a.length then
        bif inR v0_26 b.length then
          bif (!((((a.getD v0_26.toNat default).n) == ((b.getD v0_26.toNat default).n)) && ((((a.getD v0_26.toNat default).text).toList == ((b.getD v0_26.toNat default).text).toList) && ((((a.getD v0_26.toNat default).up) == ((b.getD v0_26.toNat default).up)) && true)))) then
        some (false, true)
      else
        sSame.L0 N t a b n0 (IntKind.i64.wrap (v0_26 + 1))
        else none
      else none
    else
      some (true, true)
def sSame.sem (N : Nat) (t : (List TN)) (a : (List VN)) (b : (List VN)) : Option (Bool × Bool) :=
    (sFits.sem N t a).bind fun y0 =>
    bif (!y0) then
      some (false, false)
    else
      (sFits.sem N t b).bind fun y1 =>
      bif (!y1) then
        some (false, false)
      else
        bif (((a.map eVN).length : Int) != ((b.map eVN).length : Int)) then
          some (false, true)
        else
          sSame.L0 N t a b N 0
set_option maxHeartbeats 1000000 in
theorem sSame.ok (N : Nat) (t : (List TN)) (a : (List VN)) (b : (List VN)) (r : (Bool × Bool)) (h : sSame.sem N t a b = some r) : Ok Tryd.prog 19 [tI (.sl 3 (t.map eTN)), tI (.sl 3 (a.map eVN)), tI (.sl 3 (b.map eVN))] (.tup [tI (bI r.1), tI (bI r.2)]) := by
  unfold sSame.sem at h
  refine fnW_ok Tryd.func19 (by kernel_rfl) rfl rfl fun F hF => ?_
  obtain ⟨y0, c1, h⟩ := bind_some' h
  rcases bif_some h with ⟨c2, h⟩ | ⟨c2, h⟩
  · obtain rfl := Option.some.inj h
    exact finW_ok (n := 400) (gs := [.r (aI (bI y0)), .b true, .a 1]) [] (ob := [Ok Tryd.prog 11 [tI (.sl 3 (t.map eTN)), tI (.sl 3 (a.map eVN))] (aI (bI y0)), (!y0) = true, (!y0) = true, (!y0) = true, (!y0) = true, (!y0) = true]) (r' := .tup [tI (bI false), tI (bI false)]) [] (by kernel_rfl) ⟨(sFits.ok N t a y0 c1), c2, c2, c2, c2, c2, trivial⟩ rfl
  · obtain ⟨y1, c3, h⟩ := bind_some' h
    rcases bif_some h with ⟨c4, h⟩ | ⟨c4, h⟩
    · obtain rfl := Option.some.inj h
      exact finW_ok (n := 400) (gs := [.r (aI (bI y0)), .b false, .r (aI (bI y1)), .b true]) [] (ob := [Ok Tryd.prog 11 [tI (.sl 3 (t.map eTN)), tI (.sl 3 (a.map eVN))] (aI (bI y0)), (!y0) = false, (!y0) = false, (!y0) = false, Ok Tryd.prog 11 [tI (.sl 3 (t.map eTN)), tI (.sl 3 (b.map eVN))] (aI (bI y1)), (!y0) = false, (!y0) = false, (!y1) = true]) (r' := .tup [tI (bI false), tI (bI false)]) [] (by kernel_rfl) ⟨(sFits.ok N t a y0 c1), c2, c2, c2, (sFits.ok N t b y1 c3), c2, c2, c4, trivial⟩ rfl
    · rcases bif_some h with ⟨c5, h⟩ | ⟨c5, h⟩
      · obtain rfl := Option.some.inj h
        exact finW_ok (n := 400) (gs := [.r (aI (bI y0)), .b false, .r (aI (bI y1)), .b false, .b true]) [] (ob := [Ok Tryd.prog 11 [tI (.sl 3 (t.map eTN)), tI (.sl 3 (a.map eVN))] (aI (bI y0)), (!y0) = false, (!y0) = false, (!y0) = false, Ok Tryd.prog 11 [tI (.sl 3 (t.map eTN)), tI (.sl 3 (b.map eVN))] (aI (bI y1)), (!y0) = false, (!y0) = false, (!y1) = false, (((a.map eVN).length : Int) != ((b.map eVN).length : Int)) = true]) (r' := .tup [tI (bI false), tI (bI true)]) [] (by kernel_rfl) ⟨(sFits.ok N t a y0 c1), c2, c2, c2, (sFits.ok N t b y1 c3), c2, c2, c4, c5, trivial⟩ rfl
      · refine headB_ok (n := 400) (gs := [.r (aI (bI y0)), .b false, .r (aI (bI y1)), .b false, .b false]) [] [] [1, 2, 6, 7, 25, 26] [] (ob := [Ok Tryd.prog 11 [tI (.sl 3 (t.map eTN)), tI (.sl 3 (a.map eVN))] (aI (bI y0)), (!y0) = false, (!y0) = false, (!y0) = false, Ok Tryd.prog 11 [tI (.sl 3 (t.map eTN)), tI (.sl 3 (b.map eVN))] (aI (bI y1)), (!y0) = false, (!y0) = false, (!y1) = false, (((a.map eVN).length : Int) != ((b.map eVN).length : Int)) = false]) (b := lB (codeOf Tryd.f19) 0) (K' := lK (codeOf Tryd.f19) 0) (σ' := ⟨mkT_ 39 [(1, aI (.sl 3 (a.map eVN))), (2, aI (.sl 3 (b.map eVN))), (6, aI (bI false)), (7, aI (bI false)), (25, aI (nI ((a.map eVN).length : Int))), (26, aI (nI 0))], []⟩) (by kernel_rfl) ⟨(sFits.ok N t a y0 c1), c2, c2, c2, (sFits.ok N t b y1 c3), c2, c2, c4, c5, trivial⟩ ?_
        refine loop_ok (fun q : Nat × Int => ⟨mkT_ 39 [(1, aI (.sl 3 (a.map eVN))), (2, aI (.sl 3 (b.map eVN))), (6, aI (bI false)), (7, aI (bI false)), (25, aI (nI ((a.map eVN).length : Int))), (26, aI (nI (q.2)))], []⟩) (fun q => sSame.L0 N t a b q.1 q.2 = some r) (fun q => q.1) (N, 0) h ?_
        clear h
        rintro ⟨n0, v0_26⟩ h R0 hR0
        replace h : sSame.L0 N t a b n0 v0_26 = some r := h
        rcases n0 with _ | n0
        · cases h
        unfold sSame.L0 at h
        show AX _ _ _ _ _ (⟨mkT_ 39 [(1, aI (.sl 3 (a.map eVN))), (2, aI (.sl 3 (b.map eVN))), (6, aI (bI false)), (7, aI (bI false)), (25, aI (nI ((a.map eVN).length : Int))), (26, aI (nI v0_26))], []⟩)
        rcases bif_some h with ⟨c6, h⟩ | ⟨c6, h⟩
        · obtain ⟨c7, h⟩ := chk_some h
          obtain ⟨c8, h⟩ := chk_some h
          refine drx_ok (n := 400) (gs := [.b true]) [[], [], [.ys [nI ((a.getD v0_26.toNat default).n), sI ((a.getD v0_26.toNat default).text), nI ((a.getD v0_26.toNat default).up)]], [], [], [], [.ys [nI ((b.getD v0_26.toNat default).n), sI ((b.getD v0_26.toNat default).text), nI ((b.getD v0_26.toNat default).up)]], [], []] [1, 2, 6, 7, 25, 26, 37] [] (ob := [decide (v0_26 < ((a.map eVN).length : Int)) = true, 0 ≤ v0_26, (a.map eVN)[v0_26.toNat]? = some [nI ((a.getD v0_26.toNat default).n), sI ((a.getD v0_26.toNat default).text), nI ((a.getD v0_26.toNat default).up)], 0 ≤ v0_26, (b.map eVN)[v0_26.toNat]? = some [nI ((b.getD v0_26.toNat default).n), sI ((b.getD v0_26.toNat default).text), nI ((b.getD v0_26.toNat default).up)]]) (K' := dK (lB (codeOf Tryd.f19) 0) 0 ++ [.inv R0] ++ lK (codeOf Tryd.f19) 0) (σ' := ⟨mkT_ 39 [(1, aI (.sl 3 (a.map eVN))), (2, aI (.sl 3 (b.map eVN))), (6, aI (bI false)), (7, aI (bI false)), (25, aI (nI ((a.map eVN).length : Int))), (26, aI (nI v0_26)), (37, aI (bI (!((((a.getD v0_26.toNat default).n) == ((b.getD v0_26.toNat default).n)) && ((((a.getD v0_26.toNat default).text).toList == ((b.getD v0_26.toNat default).text).toList) && ((((a.getD v0_26.toNat default).up) == ((b.getD v0_26.toNat default).up)) && true))))))], []⟩) (by kernel_rfl) ⟨c6, (inR_lo c7), (el_of eVN rfl c7), (inR_lo c8), (el_of eVN rfl c8), trivial⟩ ?_
          rcases bif_some h with ⟨c9, h⟩ | ⟨c9, h⟩
          · obtain rfl := Option.some.inj h
            exact finW_ok (n := 400) (gs := [.b true]) [] (ob := [(!((((a.getD v0_26.toNat default).n) == ((b.getD v0_26.toNat default).n)) && ((((a.getD v0_26.toNat default).text).toList == ((b.getD v0_26.toNat default).text).toList) && ((((a.getD v0_26.toNat default).up) == ((b.getD v0_26.toNat default).up)) && true)))) = true]) (r' := .tup [tI (bI false), tI (bI true)]) [] (by kernel_rfl) ⟨c9, trivial⟩ rfl
          · exact inv_ok (n := 400) (gs := [.b false]) [1, 2, 6, 7, 25, 26] [] (ob := [(!((((a.getD v0_26.toNat default).n) == ((b.getD v0_26.toNat default).n)) && ((((a.getD v0_26.toNat default).text).toList == ((b.getD v0_26.toNat default).text).toList) && ((((a.getD v0_26.toNat default).up) == ((b.getD v0_26.toNat default).up)) && true)))) = false]) (σ' := ⟨mkT_ 39 [(1, aI (.sl 3 (a.map eVN))), (2, aI (.sl 3 (b.map eVN))), (6, aI (bI false)), (7, aI (bI false)), (25, aI (nI ((a.map eVN).length : Int))), (26, aI (nI (IntKind.i64.wrap (v0_26 + 1))))], []⟩) (by kernel_rfl) ⟨c9, trivial⟩ (fun a w hs => hR0 (n0, IntKind.i64.wrap (v0_26 + 1)) a w h (Nat.lt_succ_self _) hs)
        · obtain rfl := Option.some.inj h
          exact finW_ok (n := 400) (gs := [.b false]) [] (ob := [decide (v0_26 < ((a.map eVN).length : Int)) = false]) (r' := .tup [tI (bI true), tI (bI true)]) [] (by kernel_rfl) ⟨c6, trivial⟩ rfl
def iSame.sem (N : Nat) (t : (List TN)) (a : (List VN)) (b : (List VN)) : Option (Bool × Bool) :=
    (iFits.sem N t a).bind fun y0 =>
    bif (!y0) then
      some (false, false)
    else
      (iFits.sem N t b).bind fun y1 =>
      bif (!y1) then
        some (false, false)
      else
        (slEq.sem N a b).bind fun y2 =>
        some (y2, true)
set_option maxHeartbeats 1000000 in
theorem iSame.ok (N : Nat) (t : (List TN)) (a : (List VN)) (b : (List VN)) (r : (Bool × Bool)) (h : iSame.sem N t a b = some r) : Ok Tryd.prog 20 [tI (.sl 3 (t.map eTN)), tI (.sl 3 (a.map eVN)), tI (.sl 3 (b.map eVN))] (.tup [tI (bI r.1), tI (bI r.2)]) := by
  unfold iSame.sem at h
  refine fnW_ok Tryd.func20 (by kernel_rfl) rfl rfl fun F hF => ?_
  obtain ⟨y0, c1, h⟩ := bind_some' h
  rcases bif_some h with ⟨c2, h⟩ | ⟨c2, h⟩
  · obtain rfl := Option.some.inj h
    exact finW_ok (n := 400) (gs := [.r (aI (bI y0)), .b true, .a 1]) [] (ob := [Ok Tryd.prog 14 [tI (.sl 3 (t.map eTN)), tI (.sl 3 (a.map eVN))] (aI (bI y0)), (!y0) = true, (!y0) = true, (!y0) = true, (!y0) = true, (!y0) = true]) (r' := .tup [tI (bI false), tI (bI false)]) [] (by kernel_rfl) ⟨(iFits.ok N t a y0 c1), c2, c2, c2, c2, c2, trivial⟩ rfl
  · obtain ⟨y1, c3, h⟩ := bind_some' h
    rcases bif_some h with ⟨c4, h⟩ | ⟨c4, h⟩
    · obtain rfl := Option.some.inj h
      exact finW_ok (n := 400) (gs := [.r (aI (bI y0)), .b false, .r (aI (bI y1)), .b true]) [] (ob := [Ok Tryd.prog 14 [tI (.sl 3 (t.map eTN)), tI (.sl 3 (a.map eVN))] (aI (bI y0)), (!y0) = false, (!y0) = false, (!y0) = false, Ok Tryd.prog 14 [tI (.sl 3 (t.map eTN)), tI (.sl 3 (b.map eVN))] (aI (bI y1)), (!y0) = false, (!y0) = false, (!y1) = true]) (r' := .tup [tI (bI false), tI (bI false)]) [] (by kernel_rfl) ⟨(iFits.ok N t a y0 c1), c2, c2, c2, (iFits.ok N t b y1 c3), c2, c2, c4, trivial⟩ rfl
    · obtain ⟨y2, c5, h⟩ := bind_some' h
      obtain rfl := Option.some.inj h
      exact finW_ok (n := 400) (gs := [.r (aI (bI y0)), .b false, .r (aI (bI y1)), .b false, .r (aI (bI y2))]) [] (ob := [Ok Tryd.prog 14 [tI (.sl 3 (t.map eTN)), tI (.sl 3 (a.map eVN))] (aI (bI y0)), (!y0) = false, (!y0) = false, (!y0) = false, Ok Tryd.prog 14 [tI (.sl 3 (t.map eTN)), tI (.sl 3 (b.map eVN))] (aI (bI y1)), (!y0) = false, (!y0) = false, (!y1) = false, Ok Tryd.prog 41 [tI (.sl 3 (a.map eVN)), tI (.sl 3 (b.map eVN))] (aI (bI y2))]) (r' := .tup [tI (bI y2), tI (bI true)]) [] (by kernel_rfl) ⟨(iFits.ok N t a y0 c1), c2, c2, c2, (iFits.ok N t b y1 c3), c2, c2, c4, (slEq.ok N a b y2 c5), trivial⟩ rfl
def lawSame.sem (N : Nat) (t : (List TN)) (a : (List VN)) (b : (List VN)) : Option Bool :=
    (szTN.sem N t 1048576).bind fun y0 =>
    bif decide (y0 < 0) then
      some true
    else
      (szVN.sem N a y0).bind fun y1 =>
      bif decide (y1 < 0) then
        some true
      else
        (szVN.sem N b y1).bind fun y2 =>
        bif decide (y2 < 0) then
          some true
        else
          (toTN.sem N t).bind fun y3 =>
          (toVN.sem N a).bind fun y4 =>
          (toVN.sem N b).bind fun y5 =>
          (sSame.sem N y3 y4 y5).bind fun y6 =>
          (toTN.sem N t).bind fun y7 =>
          (toVN.sem N a).bind fun y8 =>
          (toVN.sem N b).bind fun y9 =>
          (iSame.sem N y7 y8 y9).bind fun y10 =>
          bif (!(y10.1 == y6.1)) then
            some false
          else
            bif (!(y10.2 == y6.2)) then
              some false
            else
              (toTN.sem N t).bind fun y11 =>
              (eqTN.sem N y7 y11).bind fun y12 =>
              bif (!y12) then
                some false
              else
                (toVN.sem N a).bind fun y13 =>
                (eqVN.sem N y8 y13).bind fun y14 =>
                bif (!y14) then
                  some false
                else
                  (toVN.sem N b).bind fun y15 =>
                  (eqVN.sem N y9 y15).bind fun y16 =>
                  bif (!y16) then
                    some false
                  else
                    some true
set_option maxHeartbeats 1000000 in
theorem lawSame.ok (N : Nat) (t : (List TN)) (a : (List VN)) (b : (List VN)) (r : Bool) (h : lawSame.sem N t a b = some r) : Ok Tryd.prog 5 [tI (.sl 3 (t.map eTN)), tI (.sl 3 (a.map eVN)), tI (.sl 3 (b.map eVN))] (aI (bI r)) := by
  unfold lawSame.sem at h
  refine fnW_ok Tryd.func5 (by kernel_rfl) rfl rfl fun F hF => ?_
  obtain ⟨y0, c1, h⟩ := bind_some' h
  rcases bif_some h with ⟨c2, h⟩ | ⟨c2, h⟩
  · obtain rfl := Option.some.inj h
    exact finW_ok (n := 400) (gs := [.r (aI (nI y0)), .b true]) [] (ob := [Ok Tryd.prog 9 [tI (.sl 3 (t.map eTN)), tI (nI 1048576)] (aI (nI y0)), decide (y0 < 0) = true]) (r' := aI (bI true)) [] (by kernel_rfl) ⟨(szTN.ok N t 1048576 y0 c1), c2, trivial⟩ rfl
  · obtain ⟨y1, c3, h⟩ := bind_some' h
    rcases bif_some h with ⟨c4, h⟩ | ⟨c4, h⟩
    · obtain rfl := Option.some.inj h
      exact finW_ok (n := 400) (gs := [.r (aI (nI y0)), .b false, .r (aI (nI y1)), .b true]) [] (ob := [Ok Tryd.prog 9 [tI (.sl 3 (t.map eTN)), tI (nI 1048576)] (aI (nI y0)), decide (y0 < 0) = false, Ok Tryd.prog 10 [tI (.sl 3 (a.map eVN)), tI (nI y0)] (aI (nI y1)), decide (y1 < 0) = true]) (r' := aI (bI true)) [] (by kernel_rfl) ⟨(szTN.ok N t 1048576 y0 c1), c2, (szVN.ok N a y0 y1 c3), c4, trivial⟩ rfl
    · obtain ⟨y2, c5, h⟩ := bind_some' h
      rcases bif_some h with ⟨c6, h⟩ | ⟨c6, h⟩
      · obtain rfl := Option.some.inj h
        exact finW_ok (n := 400) (gs := [.r (aI (nI y0)), .b false, .r (aI (nI y1)), .b false, .r (aI (nI y2)), .b true]) [] (ob := [Ok Tryd.prog 9 [tI (.sl 3 (t.map eTN)), tI (nI 1048576)] (aI (nI y0)), decide (y0 < 0) = false, Ok Tryd.prog 10 [tI (.sl 3 (a.map eVN)), tI (nI y0)] (aI (nI y1)), decide (y1 < 0) = false, Ok Tryd.prog 10 [tI (.sl 3 (b.map eVN)), tI (nI y1)] (aI (nI y2)), decide (y2 < 0) = true]) (r' := aI (bI true)) [] (by kernel_rfl) ⟨(szTN.ok N t 1048576 y0 c1), c2, (szVN.ok N a y0 y1 c3), c4, (szVN.ok N b y1 y2 c5), c6, trivial⟩ rfl
      · obtain ⟨y3, c7, h⟩ := bind_some' h
        obtain ⟨y4, c8, h⟩ := bind_some' h
        obtain ⟨y5, c9, h⟩ := bind_some' h
        obtain ⟨y6, c10, h⟩ := bind_some' h
        obtain ⟨y7, c11, h⟩ := bind_some' h
        obtain ⟨y8, c12, h⟩ := bind_some' h
        obtain ⟨y9, c13, h⟩ := bind_some' h
        obtain ⟨y10, c14, h⟩ := bind_some' h
        rcases bif_some h with ⟨c15, h⟩ | ⟨c15, h⟩
        · obtain rfl := Option.some.inj h
          exact finW_ok (n := 400) (gs := [.r (aI (nI y0)), .b false, .r (aI (nI y1)), .b false, .r (aI (nI y2)), .b false, .r (aI (.sl 3 (y3.map eTN))), .r (aI (.sl 3 (y4.map eVN))), .r (aI (.sl 3 (y5.map eVN))), .r (.tup [tI (bI y6.1), tI (bI y6.2)]), .r (aI (.sl 3 (y7.map eTN))), .r (aI (.sl 3 (y8.map eVN))), .r (aI (.sl 3 (y9.map eVN))), .r (.tup [tI (bI y10.1), tI (bI y10.2)]), .b true, .a 1]) [] (ob := [Ok Tryd.prog 9 [tI (.sl 3 (t.map eTN)), tI (nI 1048576)] (aI (nI y0)), decide (y0 < 0) = false, Ok Tryd.prog 10 [tI (.sl 3 (a.map eVN)), tI (nI y0)] (aI (nI y1)), decide (y1 < 0) = false, Ok Tryd.prog 10 [tI (.sl 3 (b.map eVN)), tI (nI y1)] (aI (nI y2)), decide (y2 < 0) = false, Ok Tryd.prog 12 [tI (.sl 3 (t.map eTN))] (aI (.sl 3 (y3.map eTN))), Ok Tryd.prog 13 [tI (.sl 3 (a.map eVN))] (aI (.sl 3 (y4.map eVN))), Ok Tryd.prog 13 [tI (.sl 3 (b.map eVN))] (aI (.sl 3 (y5.map eVN))), Ok Tryd.prog 19 [tI (.sl 3 (y3.map eTN)), tI (.sl 3 (y4.map eVN)), tI (.sl 3 (y5.map eVN))] (.tup [tI (bI y6.1), tI (bI y6.2)]), Ok Tryd.prog 12 [tI (.sl 3 (t.map eTN))] (aI (.sl 3 (y7.map eTN))), Ok Tryd.prog 13 [tI (.sl 3 (a.map eVN))] (aI (.sl 3 (y8.map eVN))), Ok Tryd.prog 13 [tI (.sl 3 (b.map eVN))] (aI (.sl 3 (y9.map eVN))), Ok Tryd.prog 20 [tI (.sl 3 (y7.map eTN)), tI (.sl 3 (y8.map eVN)), tI (.sl 3 (y9.map eVN))] (.tup [tI (bI y10.1), tI (bI y10.2)]), (!(y10.1 == y6.1)) = true, (!(y10.1 == y6.1)) = true, (!(y10.1 == y6.1)) = true, (!(y10.1 == y6.1)) = true]) (r' := aI (bI false)) [] (by kernel_rfl) ⟨(szTN.ok N t 1048576 y0 c1), c2, (szVN.ok N a y0 y1 c3), c4, (szVN.ok N b y1 y2 c5), c6, (toTN.ok N t y3 c7), (toVN.ok N a y4 c8), (toVN.ok N b y5 c9), (sSame.ok N y3 y4 y5 y6 c10), (toTN.ok N t y7 c11), (toVN.ok N a y8 c12), (toVN.ok N b y9 c13), (iSame.ok N y7 y8 y9 y10 c14), c15, c15, c15, c15, trivial⟩ rfl
        · rcases bif_some h with ⟨c16, h⟩ | ⟨c16, h⟩
          · obtain rfl := Option.some.inj h
            exact finW_ok (n := 400) (gs := [.r (aI (nI y0)), .b false, .r (aI (nI y1)), .b false, .r (aI (nI y2)), .b false, .r (aI (.sl 3 (y3.map eTN))), .r (aI (.sl 3 (y4.map eVN))), .r (aI (.sl 3 (y5.map eVN))), .r (.tup [tI (bI y6.1), tI (bI y6.2)]), .r (aI (.sl 3 (y7.map eTN))), .r (aI (.sl 3 (y8.map eVN))), .r (aI (.sl 3 (y9.map eVN))), .r (.tup [tI (bI y10.1), tI (bI y10.2)]), .b false, .b true]) [] (ob := [Ok Tryd.prog 9 [tI (.sl 3 (t.map eTN)), tI (nI 1048576)] (aI (nI y0)), decide (y0 < 0) = false, Ok Tryd.prog 10 [tI (.sl 3 (a.map eVN)), tI (nI y0)] (aI (nI y1)), decide (y1 < 0) = false, Ok Tryd.prog 10 [tI (.sl 3 (b.map eVN)), tI (nI y1)] (aI (nI y2)), decide (y2 < 0) = false, Ok Tryd.prog 12 [tI (.sl 3 (t.map eTN))] (aI (.sl 3 (y3.map eTN))), Ok Tryd.prog 13 [tI (.sl 3 (a.map eVN))] (aI (.sl 3 (y4.map eVN))), Ok Tryd.prog 13 [tI (.sl 3 (b.map eVN))] (aI (.sl 3 (y5.map eVN))), Ok Tryd.prog 19 [tI (.sl 3 (y3.map eTN)), tI (.sl 3 (y4.map eVN)), tI (.sl 3 (y5.map eVN))] (.tup [tI (bI y6.1), tI (bI y6.2)]), Ok Tryd.prog 12 [tI (.sl 3 (t.map eTN))] (aI (.sl 3 (y7.map eTN))), Ok Tryd.prog 13 [tI (.sl 3 (a.map eVN))] (aI (.sl 3 (y8.map eVN))), Ok Tryd.prog 13 [tI (.sl 3 (b.map eVN))] (aI (.sl 3 (y9.map eVN))), Ok Tryd.prog 20 [tI (.sl 3 (y7.map eTN)), tI (.sl 3 (y8.map eVN)), tI (.sl 3 (y9.map eVN))] (.tup [tI (bI y10.1), tI (bI y10.2)]), (!(y10.1 == y6.1)) = false, (!(y10.1 == y6.1)) = false, (!(y10.1 == y6.1)) = false, (!(y10.1 == y6.1)) = false, (!(y10.2 == y6.2)) = true]) (r' := aI (bI false)) [] (by kernel_rfl) ⟨(szTN.ok N t 1048576 y0 c1), c2, (szVN.ok N a y0 y1 c3), c4, (szVN.ok N b y1 y2 c5), c6, (toTN.ok N t y3 c7), (toVN.ok N a y4 c8), (toVN.ok N b y5 c9), (sSame.ok N y3 y4 y5 y6 c10), (toTN.ok N t y7 c11), (toVN.ok N a y8 c12), (toVN.ok N b y9 c13), (iSame.ok N y7 y8 y9 y10 c14), c15, c15, c15, c15, c16, trivial⟩ rfl
          · obtain ⟨y11, c17, h⟩ := bind_some' h
            obtain ⟨y12, c18, h⟩ := bind_some' h
            rcases bif_some h with ⟨c19, h⟩ | ⟨c19, h⟩
            · obtain rfl := Option.some.inj h
              exact finW_ok (n := 400) (gs := [.r (aI (nI y0)), .b false, .r (aI (nI y1)), .b false, .r (aI (nI y2)), .b false, .r (aI (.sl 3 (y3.map eTN))), .r (aI (.sl 3 (y4.map eVN))), .r (aI (.sl 3 (y5.map eVN))), .r (.tup [tI (bI y6.1), tI (bI y6.2)]), .r (aI (.sl 3 (y7.map eTN))), .r (aI (.sl 3 (y8.map eVN))), .r (aI (.sl 3 (y9.map eVN))), .r (.tup [tI (bI y10.1), tI (bI y10.2)]), .b false, .b false, .r (aI (.sl 3 (y11.map eTN))), .r (aI (bI y12)), .b true]) [] (ob := [Ok Tryd.prog 9 [tI (.sl 3 (t.map eTN)), tI (nI 1048576)] (aI (nI y0)), decide (y0 < 0) = false, Ok Tryd.prog 10 [tI (.sl 3 (a.map eVN)), tI (nI y0)] (aI (nI y1)), decide (y1 < 0) = false, Ok Tryd.prog 10 [tI (.sl 3 (b.map eVN)), tI (nI y1)] (aI (nI y2)), decide (y2 < 0) = false, Ok Tryd.prog 12 [tI (.sl 3 (t.map eTN))] (aI (.sl 3 (y3.map eTN))), Ok Tryd.prog 13 [tI (.sl 3 (a.map eVN))] (aI (.sl 3 (y4.map eVN))), Ok Tryd.prog 13 [tI (.sl 3 (b.map eVN))] (aI (.sl 3 (y5.map eVN))), Ok Tryd.prog 19 [tI (.sl 3 (y3.map eTN)), tI (.sl 3 (y4.map eVN)), tI (.sl 3 (y5.map eVN))] (.tup [tI (bI y6.1), tI (bI y6.2)]), Ok Tryd.prog 12 [tI (.sl 3 (t.map eTN))] (aI (.sl 3 (y7.map eTN))), Ok Tryd.prog 13 [tI (.sl 3 (a.map eVN))] (aI (.sl 3 (y8.map eVN))), Ok Tryd.prog 13 [tI (.sl 3 (b.map eVN))] (aI (.sl 3 (y9.map eVN))), Ok Tryd.prog 20 [tI (.sl 3 (y7.map eTN)), tI (.sl 3 (y8.map eVN)), tI (.sl 3 (y9.map eVN))] (.tup [tI (bI y10.1), tI (bI y10.2)]), (!(y10.1 == y6.1)) = false, (!(y10.1 == y6.1)) = false, (!(y10.1 == y6.1)) = false, (!(y10.1 == y6.1)) = false, (!(y10.2 == y6.2)) = false, Ok Tryd.prog 12 [tI (.sl 3 (t.map eTN))] (aI (.sl 3 (y11.map eTN))), Ok Tryd.prog 15 [tI (.sl 3 (y7.map eTN)), tI (.sl 3 (y11.map eTN))] (aI (bI y12)), (!y12) = true]) (r' := aI (bI false)) [] (by kernel_rfl) ⟨(szTN.ok N t 1048576 y0 c1), c2, (szVN.ok N a y0 y1 c3), c4, (szVN.ok N b y1 y2 c5), c6, (toTN.ok N t y3 c7), (toVN.ok N a y4 c8), (toVN.ok N b y5 c9), (sSame.ok N y3 y4 y5 y6 c10), (toTN.ok N t y7 c11), (toVN.ok N a y8 c12), (toVN.ok N b y9 c13), (iSame.ok N y7 y8 y9 y10 c14), c15, c15, c15, c15, c16, (toTN.ok N t y11 c17), (eqTN.ok N y7 y11 y12 c18), c19, trivial⟩ rfl
            · obtain ⟨y13, c20, h⟩ := bind_some' h
              obtain ⟨y14, c21, h⟩ := bind_some' h
              rcases bif_some h with ⟨c22, h⟩ | ⟨c22, h⟩
              · obtain rfl := Option.some.inj h
                exact finW_ok (n := 400) (gs := [.r (aI (nI y0)), .b false, .r (aI (nI y1)), .b false, .r (aI (nI y2)), .b false, .r (aI (.sl 3 (y3.map eTN))), .r (aI (.sl 3 (y4.map eVN))), .r (aI (.sl 3 (y5.map eVN))), .r (.tup [tI (bI y6.1), tI (bI y6.2)]), .r (aI (.sl 3 (y7.map eTN))), .r (aI (.sl 3 (y8.map eVN))), .r (aI (.sl 3 (y9.map eVN))), .r (.tup [tI (bI y10.1), tI (bI y10.2)]), .b false, .b false, .r (aI (.sl 3 (y11.map eTN))), .r (aI (bI y12)), .b false, .r (aI (.sl 3 (y13.map eVN))), .r (aI (bI y14)), .b true]) [] (ob := [Ok Tryd.prog 9 [tI (.sl 3 (t.map eTN)), tI (nI 1048576)] (aI (nI y0)), decide (y0 < 0) = false, Ok Tryd.prog 10 [tI (.sl 3 (a.map eVN)), tI (nI y0)] (aI (nI y1)), decide (y1 < 0) = false, Ok Tryd.prog 10 [tI (.sl 3 (b.map eVN)), tI (nI y1)] (aI (nI y2)), decide (y2 < 0) = false, Ok Tryd.prog 12 [tI (.sl 3 (t.map eTN))] (aI (.sl 3 (y3.map eTN))), Ok Tryd.prog 13 [tI (.sl 3 (a.map eVN))] (aI (.sl 3 (y4.map eVN))), Ok Tryd.prog 13 [tI (.sl 3 (b.map eVN))] (aI (.sl 3 (y5.map eVN))), Ok Tryd.prog 19 [tI (.sl 3 (y3.map eTN)), tI (.sl 3 (y4.map eVN)), tI (.sl 3 (y5.map eVN))] (.tup [tI (bI y6.1), tI (bI y6.2)]), Ok Tryd.prog 12 [tI (.sl 3 (t.map eTN))] (aI (.sl 3 (y7.map eTN))), Ok Tryd.prog 13 [tI (.sl 3 (a.map eVN))] (aI (.sl 3 (y8.map eVN))), Ok Tryd.prog 13 [tI (.sl 3 (b.map eVN))] (aI (.sl 3 (y9.map eVN))), Ok Tryd.prog 20 [tI (.sl 3 (y7.map eTN)), tI (.sl 3 (y8.map eVN)), tI (.sl 3 (y9.map eVN))] (.tup [tI (bI y10.1), tI (bI y10.2)]), (!(y10.1 == y6.1)) = false, (!(y10.1 == y6.1)) = false, (!(y10.1 == y6.1)) = false, (!(y10.1 == y6.1)) = false, (!(y10.2 == y6.2)) = false, Ok Tryd.prog 12 [tI (.sl 3 (t.map eTN))] (aI (.sl 3 (y11.map eTN))), Ok Tryd.prog 15 [tI (.sl 3 (y7.map eTN)), tI (.sl 3 (y11.map eTN))] (aI (bI y12)), (!y12) = false, Ok Tryd.prog 13 [tI (.sl 3 (a.map eVN))] (aI (.sl 3 (y13.map eVN))), Ok Tryd.prog 16 [tI (.sl 3 (y8.map eVN)), tI (.sl 3 (y13.map eVN))] (aI (bI y14)), (!y14) = true]) (r' := aI (bI false)) [] (by kernel_rfl) ⟨(szTN.ok N t 1048576 y0 c1), c2, (szVN.ok N a y0 y1 c3), c4, (szVN.ok N b y1 y2 c5), c6, (toTN.ok N t y3 c7), (toVN.ok N a y4 c8), (toVN.ok N b y5 c9), (sSame.ok N y3 y4 y5 y6 c10), (toTN.ok N t y7 c11), (toVN.ok N a y8 c12), (toVN.ok N b y9 c13), (iSame.ok N y7 y8 y9 y10 c14), c15, c15, c15, c15, c16, (toTN.ok N t y11 c17), (eqTN.ok N y7 y11 y12 c18), c19, (toVN.ok N a y13 c20), (eqVN.ok N y8 y13 y14 c21), c22, trivial⟩ rfl
              · obtain ⟨y15, c23, h⟩ := bind_some' h
                obtain ⟨y16, c24, h⟩ := bind_some' h
                rcases bif_some h with ⟨c25, h⟩ | ⟨c25, h⟩
                · obtain rfl := Option.some.inj h
                  exact finW_ok (n := 400) (gs := [.r (aI (nI y0)), .b false, .r (aI (nI y1)), .b false, .r (aI (nI y2)), .b false, .r (aI (.sl 3 (y3.map eTN))), .r (aI (.sl 3 (y4.map eVN))), .r (aI (.sl 3 (y5.map eVN))), .r (.tup [tI (bI y6.1), tI (bI y6.2)]), .r (aI (.sl 3 (y7.map eTN))), .r (aI (.sl 3 (y8.map eVN))), .r (aI (.sl 3 (y9.map eVN))), .r (.tup [tI (bI y10.1), tI (bI y10.2)]), .b false, .b false, .r (aI (.sl 3 (y11.map eTN))), .r (aI (bI y12)), .b false, .r (aI (.sl 3 (y13.map eVN))), .r (aI (bI y14)), .b false, .r (aI (.sl 3 (y15.map eVN))), .r (aI (bI y16)), .b true]) [] (ob := [Ok Tryd.prog 9 [tI (.sl 3 (t.map eTN)), tI (nI 1048576)] (aI (nI y0)), decide (y0 < 0) = false, Ok Tryd.prog 10 [tI (.sl 3 (a.map eVN)), tI (nI y0)] (aI (nI y1)), decide (y1 < 0) = false, Ok Tryd.prog 10 [tI (.sl 3 (b.map eVN)), tI (nI y1)] (aI (nI y2)), decide (y2 < 0) = false, Ok Tryd.prog 12 [tI (.sl 3 (t.map eTN))] (aI (.sl 3 (y3.map eTN))), Ok Tryd.prog 13 [tI (.sl 3 (a.map eVN))] (aI (.sl 3 (y4.map eVN))), Ok Tryd.prog 13 [tI (.sl 3 (b.map eVN))] (aI (.sl 3 (y5.map eVN))), Ok Tryd.prog 19 [tI (.sl 3 (y3.map eTN)), tI (.sl 3 (y4.map eVN)), tI (.sl 3 (y5.map eVN))] (.tup [tI (bI y6.1), tI (bI y6.2)]), Ok Tryd.prog 12 [tI (.sl 3 (t.map eTN))] (aI (.sl 3 (y7.map eTN))), Ok Tryd.prog 13 [tI (.sl 3 (a.map eVN))] (aI (.sl 3 (y8.map eVN))), Ok Tryd.prog 13 [tI (.sl 3 (b.map eVN))] (aI (.sl 3 (y9.map eVN))), Ok Tryd.prog 20 [tI (.sl 3 (y7.map eTN)), tI (.sl 3 (y8.map eVN)), tI (.sl 3 (y9.map eVN))] (.tup [tI (bI y10.1), tI (bI y10.2)]), (!(y10.1 == y6.1)) = false, (!(y10.1 == y6.1)) = false, (!(y10.1 == y6.1)) = false, (!(y10.1 == y6.1)) = false, (!(y10.2 == y6.2)) = false, Ok Tryd.prog 12 [tI (.sl 3 (t.map eTN))] (aI (.sl 3 (y11.map eTN))), Ok Tryd.prog 15 [tI (.sl 3 (y7.map eTN)), tI (.sl 3 (y11.map eTN))] (aI (bI y12)), (!y12) = false, Ok Tryd.prog 13 [tI (.sl 3 (a.map eVN))] (aI (.sl 3 (y13.map eVN))), Ok Tryd.prog 16 [tI (.sl 3 (y8.map eVN)), tI (.sl 3 (y13.map eVN))] (aI (bI y14)), (!y14) = false, Ok Tryd.prog 13 [tI (.sl 3 (b.map eVN))] (aI (.sl 3 (y15.map eVN))), Ok Tryd.prog 16 [tI (.sl 3 (y9.map eVN)), tI (.sl 3 (y15.map eVN))] (aI (bI y16)), (!y16) = true]) (r' := aI (bI false)) [] (by kernel_rfl) ⟨(szTN.ok N t 1048576 y0 c1), c2, (szVN.ok N a y0 y1 c3), c4, (szVN.ok N b y1 y2 c5), c6, (toTN.ok N t y3 c7), (toVN.ok N a y4 c8), (toVN.ok N b y5 c9), (sSame.ok N y3 y4 y5 y6 c10), (toTN.ok N t y7 c11), (toVN.ok N a y8 c12), (toVN.ok N b y9 c13), (iSame.ok N y7 y8 y9 y10 c14), c15, c15, c15, c15, c16, (toTN.ok N t y11 c17), (eqTN.ok N y7 y11 y12 c18), c19, (toVN.ok N a y13 c20), (eqVN.ok N y8 y13 y14 c21), c22, (toVN.ok N b y15 c23), (eqVN.ok N y9 y15 y16 c24), c25, trivial⟩ rfl
                · obtain rfl := Option.some.inj h
                  exact finW_ok (n := 400) (gs := [.r (aI (nI y0)), .b false, .r (aI (nI y1)), .b false, .r (aI (nI y2)), .b false, .r (aI (.sl 3 (y3.map eTN))), .r (aI (.sl 3 (y4.map eVN))), .r (aI (.sl 3 (y5.map eVN))), .r (.tup [tI (bI y6.1), tI (bI y6.2)]), .r (aI (.sl 3 (y7.map eTN))), .r (aI (.sl 3 (y8.map eVN))), .r (aI (.sl 3 (y9.map eVN))), .r (.tup [tI (bI y10.1), tI (bI y10.2)]), .b false, .b false, .r (aI (.sl 3 (y11.map eTN))), .r (aI (bI y12)), .b false, .r (aI (.sl 3 (y13.map eVN))), .r (aI (bI y14)), .b false, .r (aI (.sl 3 (y15.map eVN))), .r (aI (bI y16)), .b false]) [] (ob := [Ok Tryd.prog 9 [tI (.sl 3 (t.map eTN)), tI (nI 1048576)] (aI (nI y0)), decide (y0 < 0) = false, Ok Tryd.prog 10 [tI (.sl 3 (a.map eVN)), tI (nI y0)] (aI (nI y1)), decide (y1 < 0) = false, Ok Tryd.prog 10 [tI (.sl 3 (b.map eVN)), tI (nI y1)] (aI (nI y2)), decide (y2 < 0) = false, Ok Tryd.prog 12 [tI (.sl 3 (t.map eTN))] (aI (.sl 3 (y3.map eTN))), Ok Tryd.prog 13 [tI (.sl 3 (a.map eVN))] (aI (.sl 3 (y4.map eVN))), Ok Tryd.prog 13 [tI (.sl 3 (b.map eVN))] (aI (.sl 3 (y5.map eVN))), Ok Tryd.prog 19 [tI (.sl 3 (y3.map eTN)), tI (.sl 3 (y4.map eVN)), tI (.sl 3 (y5.map eVN))] (.tup [tI (bI y6.1), tI (bI y6.2)]), Ok Tryd.prog 12 [tI (.sl 3 (t.map eTN))] (aI (.sl 3 (y7.map eTN))), Ok Tryd.prog 13 [tI (.sl 3 (a.map eVN))] (aI (.sl 3 (y8.map eVN))), Ok Tryd.prog 13 [tI (.sl 3 (b.map eVN))] (aI (.sl 3 (y9.map eVN))), Ok Tryd.prog 20 [tI (.sl 3 (y7.map eTN)), tI (.sl 3 (y8.map eVN)), tI (.sl 3 (y9.map eVN))] (.tup [tI (bI y10.1), tI (bI y10.2)]), (!(y10.1 == y6.1)) = false, (!(y10.1 == y6.1)) = false, (!(y10.1 == y6.1)) = false, (!(y10.1 == y6.1)) = false, (!(y10.2 == y6.2)) = false, Ok Tryd.prog 12 [tI (.sl 3 (t.map eTN))] (aI (.sl 3 (y11.map eTN))), Ok Tryd.prog 15 [tI (.sl 3 (y7.map eTN)), tI (.sl 3 (y11.map eTN))] (aI (bI y12)), (!y12) = false, Ok Tryd.prog 13 [tI (.sl 3 (a.map eVN))] (aI (.sl 3 (y13.map eVN))), Ok Tryd.prog 16 [tI (.sl 3 (y8.map eVN)), tI (.sl 3 (y13.map eVN))] (aI (bI y14)), (!y14) = false, Ok Tryd.prog 13 [tI (.sl 3 (b.map eVN))] (aI (.sl 3 (y15.map eVN))), Ok Tryd.prog 16 [tI (.sl 3 (y9.map eVN)), tI (.sl 3 (y15.map eVN))] (aI (bI y16)), (!y16) = false]) (r' := aI (bI true)) [] (by kernel_rfl) ⟨(szTN.ok N t 1048576 y0 c1), c2, (szVN.ok N a y0 y1 c3), c4, (szVN.ok N b y1 y2 c5), c6, (toTN.ok N t y3 c7), (toVN.ok N a y4 c8), (toVN.ok N b y5 c9), (sSame.ok N y3 y4 y5 y6 c10), (toTN.ok N t y7 c11), (toVN.ok N a y8 c12), (toVN.ok N b y9 c13), (iSame.ok N y7 y8 y9 y10 c14), c15, c15, c15, c15, c16, (toTN.ok N t y11 c17), (eqTN.ok N y7 y11 y12 c18), c19, (toVN.ok N a y13 c20), (eqVN.ok N y8 y13 y14 c21), c22, (toVN.ok N b y15 c23), (eqVN.ok N y9 y15 y16 c24), c25, trivial⟩ rfl
end Go.Proofs.YtljdidlkiknknaaDoor.AB
