/-
  What a call does, told without addresses: a state, steps, and that the code follows them.
-/
import Derived.Test.YtljdidlkiknknaaDoorC24Abh2
namespace Go.Proofs.YtljdidlkiknknaaDoor.AB
open Go Go.RowKit Go.Proofs.YtljdidlkiknknaaDoorW.PrintWords Go.Proofs.YtljdidlkiknknaaDoorW.PrintMore
set_option linter.unusedSimpArgs false
set_option linter.unusedVariables false
def sCount.sem (N : Nat) (t : (List TN)) (v : (List VN)) : Option (Int × Bool) :=
    (sFits.sem N t v).bind fun y0 =>
    bif (!y0) then
      some (0, false)
    else
      some (((v.map eVN).length : Int), true)
set_option maxHeartbeats 1000000 in
theorem sCount.ok (N : Nat) (t : (List TN)) (v : (List VN)) (r : (Int × Bool)) (h : sCount.sem N t v = some r) : Ok Tryd.prog 17 [tI (.sl 3 (t.map eTN)), tI (.sl 3 (v.map eVN))] (.tup [tI (nI r.1), tI (bI r.2)]) := by
  unfold sCount.sem at h
  refine fnW_ok Tryd.func17 (by kernel_rfl) rfl rfl fun F hF => ?_
  obtain ⟨y0, c1, h⟩ := bind_some' h
  rcases bif_some h with ⟨c2, h⟩ | ⟨c2, h⟩
  · obtain rfl := Option.some.inj h
    exact finW_ok (n := 400) (gs := [.r (aI (bI y0)), .b true]) [] (ob := [Ok Tryd.prog 11 [tI (.sl 3 (t.map eTN)), tI (.sl 3 (v.map eVN))] (aI (bI y0)), (!y0) = true]) (r' := .tup [tI (nI 0), tI (bI false)]) [] (by kernel_rfl) ⟨(sFits.ok N t v y0 c1), c2, trivial⟩ rfl
  · obtain rfl := Option.some.inj h
    exact finW_ok (n := 400) (gs := [.r (aI (bI y0)), .b false]) [] (ob := [Ok Tryd.prog 11 [tI (.sl 3 (t.map eTN)), tI (.sl 3 (v.map eVN))] (aI (bI y0)), (!y0) = false]) (r' := .tup [tI (nI ((v.map eVN).length : Int)), tI (bI true)]) [] (by kernel_rfl) ⟨(sFits.ok N t v y0 c1), c2, trivial⟩ rfl
def iCount.sem (N : Nat) (t : (List TN)) (v : (List VN)) : Option (Int × Bool) :=
    (iFits.sem N t v).bind fun y0 =>
    bif (!y0) then
      some (0, false)
    else
      some (((v.map eVN).length : Int), true)
set_option maxHeartbeats 1000000 in
theorem iCount.ok (N : Nat) (t : (List TN)) (v : (List VN)) (r : (Int × Bool)) (h : iCount.sem N t v = some r) : Ok Tryd.prog 18 [tI (.sl 3 (t.map eTN)), tI (.sl 3 (v.map eVN))] (.tup [tI (nI r.1), tI (bI r.2)]) := by
  unfold iCount.sem at h
  refine fnW_ok Tryd.func18 (by kernel_rfl) rfl rfl fun F hF => ?_
  obtain ⟨y0, c1, h⟩ := bind_some' h
  rcases bif_some h with ⟨c2, h⟩ | ⟨c2, h⟩
  · obtain rfl := Option.some.inj h
    exact finW_ok (n := 400) (gs := [.r (aI (bI y0)), .b true]) [] (ob := [Ok Tryd.prog 14 [tI (.sl 3 (t.map eTN)), tI (.sl 3 (v.map eVN))] (aI (bI y0)), (!y0) = true]) (r' := .tup [tI (nI 0), tI (bI false)]) [] (by kernel_rfl) ⟨(iFits.ok N t v y0 c1), c2, trivial⟩ rfl
  · obtain rfl := Option.some.inj h
    exact finW_ok (n := 400) (gs := [.r (aI (bI y0)), .b false]) [] (ob := [Ok Tryd.prog 14 [tI (.sl 3 (t.map eTN)), tI (.sl 3 (v.map eVN))] (aI (bI y0)), (!y0) = false]) (r' := .tup [tI (nI ((v.map eVN).length : Int)), tI (bI true)]) [] (by kernel_rfl) ⟨(iFits.ok N t v y0 c1), c2, trivial⟩ rfl
def lawCount.sem (N : Nat) (t : (List TN)) (v : (List VN)) : Option Bool :=
    (szTN.sem N t 1048576).bind fun y0 =>
    bif decide (y0 < 0) then
      some true
    else
      (szVN.sem N v y0).bind fun y1 =>
      bif decide (y1 < 0) then
        some true
      else
        (toTN.sem N t).bind fun y2 =>
        (toVN.sem N v).bind fun y3 =>
        (sCount.sem N y2 y3).bind fun y4 =>
        (toTN.sem N t).bind fun y5 =>
        (toVN.sem N v).bind fun y6 =>
        (iCount.sem N y5 y6).bind fun y7 =>
        bif (y7.1 != y4.1) then
          some false
        else
          bif (!(y7.2 == y4.2)) then
            some false
          else
            (toTN.sem N t).bind fun y8 =>
            (eqTN.sem N y5 y8).bind fun y9 =>
            bif (!y9) then
              some false
            else
              (toVN.sem N v).bind fun y10 =>
              (eqVN.sem N y6 y10).bind fun y11 =>
              bif (!y11) then
                some false
              else
                some true
set_option maxHeartbeats 1000000 in
theorem lawCount.ok (N : Nat) (t : (List TN)) (v : (List VN)) (r : Bool) (h : lawCount.sem N t v = some r) : Ok Tryd.prog 4 [tI (.sl 3 (t.map eTN)), tI (.sl 3 (v.map eVN))] (aI (bI r)) := by
  unfold lawCount.sem at h
  refine fnW_ok Tryd.func4 (by kernel_rfl) rfl rfl fun F hF => ?_
  obtain ⟨y0, c1, h⟩ := bind_some' h
  rcases bif_some h with ⟨c2, h⟩ | ⟨c2, h⟩
  · obtain rfl := Option.some.inj h
    exact finW_ok (n := 400) (gs := [.r (aI (nI y0)), .b true]) [] (ob := [Ok Tryd.prog 9 [tI (.sl 3 (t.map eTN)), tI (nI 1048576)] (aI (nI y0)), decide (y0 < 0) = true]) (r' := aI (bI true)) [] (by kernel_rfl) ⟨(szTN.ok N t 1048576 y0 c1), c2, trivial⟩ rfl
  · obtain ⟨y1, c3, h⟩ := bind_some' h
    rcases bif_some h with ⟨c4, h⟩ | ⟨c4, h⟩
    · obtain rfl := Option.some.inj h
      exact finW_ok (n := 400) (gs := [.r (aI (nI y0)), .b false, .r (aI (nI y1)), .b true]) [] (ob := [Ok Tryd.prog 9 [tI (.sl 3 (t.map eTN)), tI (nI 1048576)] (aI (nI y0)), decide (y0 < 0) = false, Ok Tryd.prog 10 [tI (.sl 3 (v.map eVN)), tI (nI y0)] (aI (nI y1)), decide (y1 < 0) = true]) (r' := aI (bI true)) [] (by kernel_rfl) ⟨(szTN.ok N t 1048576 y0 c1), c2, (szVN.ok N v y0 y1 c3), c4, trivial⟩ rfl
    · obtain ⟨y2, c5, h⟩ := bind_some' h
      obtain ⟨y3, c6, h⟩ := bind_some' h
      obtain ⟨y4, c7, h⟩ := bind_some' h
      obtain ⟨y5, c8, h⟩ := bind_some' h
      obtain ⟨y6, c9, h⟩ := bind_some' h
      obtain ⟨y7, c10, h⟩ := bind_some' h
      rcases bif_some h with ⟨c11, h⟩ | ⟨c11, h⟩
      · obtain rfl := Option.some.inj h
        exact finW_ok (n := 400) (gs := [.r (aI (nI y0)), .b false, .r (aI (nI y1)), .b false, .r (aI (.sl 3 (y2.map eTN))), .r (aI (.sl 3 (y3.map eVN))), .r (.tup [tI (nI y4.1), tI (bI y4.2)]), .r (aI (.sl 3 (y5.map eTN))), .r (aI (.sl 3 (y6.map eVN))), .r (.tup [tI (nI y7.1), tI (bI y7.2)]), .b true, .a 1]) [] (ob := [Ok Tryd.prog 9 [tI (.sl 3 (t.map eTN)), tI (nI 1048576)] (aI (nI y0)), decide (y0 < 0) = false, Ok Tryd.prog 10 [tI (.sl 3 (v.map eVN)), tI (nI y0)] (aI (nI y1)), decide (y1 < 0) = false, Ok Tryd.prog 12 [tI (.sl 3 (t.map eTN))] (aI (.sl 3 (y2.map eTN))), Ok Tryd.prog 13 [tI (.sl 3 (v.map eVN))] (aI (.sl 3 (y3.map eVN))), Ok Tryd.prog 17 [tI (.sl 3 (y2.map eTN)), tI (.sl 3 (y3.map eVN))] (.tup [tI (nI y4.1), tI (bI y4.2)]), Ok Tryd.prog 12 [tI (.sl 3 (t.map eTN))] (aI (.sl 3 (y5.map eTN))), Ok Tryd.prog 13 [tI (.sl 3 (v.map eVN))] (aI (.sl 3 (y6.map eVN))), Ok Tryd.prog 18 [tI (.sl 3 (y5.map eTN)), tI (.sl 3 (y6.map eVN))] (.tup [tI (nI y7.1), tI (bI y7.2)]), (y7.1 != y4.1) = true, (y7.1 != y4.1) = true, (y7.1 != y4.1) = true, (y7.1 != y4.1) = true]) (r' := aI (bI false)) [] (by kernel_rfl) ⟨(szTN.ok N t 1048576 y0 c1), c2, (szVN.ok N v y0 y1 c3), c4, (toTN.ok N t y2 c5), (toVN.ok N v y3 c6), (sCount.ok N y2 y3 y4 c7), (toTN.ok N t y5 c8), (toVN.ok N v y6 c9), (iCount.ok N y5 y6 y7 c10), c11, c11, c11, c11, trivial⟩ rfl
      · rcases bif_some h with ⟨c12, h⟩ | ⟨c12, h⟩
        · obtain rfl := Option.some.inj h
          exact finW_ok (n := 400) (gs := [.r (aI (nI y0)), .b false, .r (aI (nI y1)), .b false, .r (aI (.sl 3 (y2.map eTN))), .r (aI (.sl 3 (y3.map eVN))), .r (.tup [tI (nI y4.1), tI (bI y4.2)]), .r (aI (.sl 3 (y5.map eTN))), .r (aI (.sl 3 (y6.map eVN))), .r (.tup [tI (nI y7.1), tI (bI y7.2)]), .b false, .b true]) [] (ob := [Ok Tryd.prog 9 [tI (.sl 3 (t.map eTN)), tI (nI 1048576)] (aI (nI y0)), decide (y0 < 0) = false, Ok Tryd.prog 10 [tI (.sl 3 (v.map eVN)), tI (nI y0)] (aI (nI y1)), decide (y1 < 0) = false, Ok Tryd.prog 12 [tI (.sl 3 (t.map eTN))] (aI (.sl 3 (y2.map eTN))), Ok Tryd.prog 13 [tI (.sl 3 (v.map eVN))] (aI (.sl 3 (y3.map eVN))), Ok Tryd.prog 17 [tI (.sl 3 (y2.map eTN)), tI (.sl 3 (y3.map eVN))] (.tup [tI (nI y4.1), tI (bI y4.2)]), Ok Tryd.prog 12 [tI (.sl 3 (t.map eTN))] (aI (.sl 3 (y5.map eTN))), Ok Tryd.prog 13 [tI (.sl 3 (v.map eVN))] (aI (.sl 3 (y6.map eVN))), Ok Tryd.prog 18 [tI (.sl 3 (y5.map eTN)), tI (.sl 3 (y6.map eVN))] (.tup [tI (nI y7.1), tI (bI y7.2)]), (y7.1 != y4.1) = false, (y7.1 != y4.1) = false, (y7.1 != y4.1) = false, (y7.1 != y4.1) = false, (!(y7.2 == y4.2)) = true]) (r' := aI (bI false)) [] (by kernel_rfl) ⟨(szTN.ok N t 1048576 y0 c1), c2, (szVN.ok N v y0 y1 c3), c4, (toTN.ok N t y2 c5), (toVN.ok N v y3 c6), (sCount.ok N y2 y3 y4 c7), (toTN.ok N t y5 c8), (toVN.ok N v y6 c9), (iCount.ok N y5 y6 y7 c10), c11, c11, c11, c11, c12, trivial⟩ rfl
        · obtain ⟨y8, c13, h⟩ := bind_some' h
          obtain ⟨y9, c14, h⟩ := bind_some' h
          rcases bif_some h with ⟨c15, h⟩ | ⟨c15, h⟩
          · obtain rfl := Option.some.inj h
            exact finW_ok (n := 400) (gs := [.r (aI (nI y0)), .b false, .r (aI (nI y1)), .b false, .r (aI (.sl 3 (y2.map eTN))), .r (aI (.sl 3 (y3.map eVN))), .r (.tup [tI (nI y4.1), tI (bI y4.2)]), .r (aI (.sl 3 (y5.map eTN))), .r (aI (.sl 3 (y6.map eVN))), .r (.tup [tI (nI y7.1), tI (bI y7.2)]), .b false, .b false, .r (aI (.sl 3 (y8.map eTN))), .r (aI (bI y9)), .b true]) [] (ob := [Ok Tryd.prog 9 [tI (.sl 3 (t.map eTN)), tI (nI 1048576)] (aI (nI y0)), decide (y0 < 0) = false, Ok Tryd.prog 10 [tI (.sl 3 (v.map eVN)), tI (nI y0)] (aI (nI y1)), decide (y1 < 0) = false, Ok Tryd.prog 12 [tI (.sl 3 (t.map eTN))] (aI (.sl 3 (y2.map eTN))), Ok Tryd.prog 13 [tI (.sl 3 (v.map eVN))] (aI (.sl 3 (y3.map eVN))), Ok Tryd.prog 17 [tI (.sl 3 (y2.map eTN)), tI (.sl 3 (y3.map eVN))] (.tup [tI (nI y4.1), tI (bI y4.2)]), Ok Tryd.prog 12 [tI (.sl 3 (t.map eTN))] (aI (.sl 3 (y5.map eTN))), Ok Tryd.prog 13 [tI (.sl 3 (v.map eVN))] (aI (.sl 3 (y6.map eVN))), Ok Tryd.prog 18 [tI (.sl 3 (y5.map eTN)), tI (.sl 3 (y6.map eVN))] (.tup [tI (nI y7.1), tI (bI y7.2)]), (y7.1 != y4.1) = false, (y7.1 != y4.1) = false, (y7.1 != y4.1) = false, (y7.1 != y4.1) = false, (!(y7.2 == y4.2)) = false, Ok Tryd.prog 12 [tI (.sl 3 (t.map eTN))] (aI (.sl 3 (y8.map eTN))), Ok Tryd.prog 15 [tI (.sl 3 (y5.map eTN)), tI (.sl 3 (y8.map eTN))] (aI (bI y9)), (!y9) = true]) (r' := aI (bI false)) [] (by kernel_rfl) ⟨(szTN.ok N t 1048576 y0 c1), c2, (szVN.ok N v y0 y1 c3), c4, (toTN.ok N t y2 c5), (toVN.ok N v y3 c6), (sCount.ok N y2 y3 y4 c7), (toTN.ok N t y5 c8), (toVN.ok N v y6 c9), (iCount.ok N y5 y6 y7 c10), c11, c11, c11, c11, c12, (toTN.ok N t y8 c13), (eqTN.ok N y5 y8 y9 c14), c15, trivial⟩ rfl
          · obtain ⟨y10, c16, h⟩ := bind_some' h
            obtain ⟨y11, c17, h⟩ := bind_some' h
            rcases bif_some h with ⟨c18, h⟩ | ⟨c18, h⟩
            · obtain rfl := Option.some.inj h
              exact finW_ok (n := 400) (gs := [.r (aI (nI y0)), .b false, .r (aI (nI y1)), .b false, .r (aI (.sl 3 (y2.map eTN))), .r (aI (.sl 3 (y3.map eVN))), .r (.tup [tI (nI y4.1), tI (bI y4.2)]), .r (aI (.sl 3 (y5.map eTN))), .r (aI (.sl 3 (y6.map eVN))), .r (.tup [tI (nI y7.1), tI (bI y7.2)]), .b false, .b false, .r (aI (.sl 3 (y8.map eTN))), .r (aI (bI y9)), .b false, .r (aI (.sl 3 (y10.map eVN))), .r (aI (bI y11)), .b true]) [] (ob := [Ok Tryd.prog 9 [tI (.sl 3 (t.map eTN)), tI (nI 1048576)] (aI (nI y0)), decide (y0 < 0) = false, Ok Tryd.prog 10 [tI (.sl 3 (v.map eVN)), tI (nI y0)] (aI (nI y1)), decide (y1 < 0) = false, Ok Tryd.prog 12 [tI (.sl 3 (t.map eTN))] (aI (.sl 3 (y2.map eTN))), Ok Tryd.prog 13 [tI (.sl 3 (v.map eVN))] (aI (.sl 3 (y3.map eVN))), Ok Tryd.prog 17 [tI (.sl 3 (y2.map eTN)), tI (.sl 3 (y3.map eVN))] (.tup [tI (nI y4.1), tI (bI y4.2)]), Ok Tryd.prog 12 [tI (.sl 3 (t.map eTN))] (aI (.sl 3 (y5.map eTN))), Ok Tryd.prog 13 [tI (.sl 3 (v.map eVN))] (aI (.sl 3 (y6.map eVN))), Ok Tryd.prog 18 [tI (.sl 3 (y5.map eTN)), tI (.sl 3 (y6.map eVN))] (.tup [tI (nI y7.1), tI (bI y7.2)]), (y7.1 != y4.1) = false, (y7.1 != y4.1) = false, (y7.1 != y4.1) = false, (y7.1 != y4.1) = false, (!(y7.2 == y4.2)) = false, Ok Tryd.prog 12 [tI (.sl 3 (t.map eTN))] (aI (.sl 3 (y8.map eTN))), Ok Tryd.prog 15 [tI (.sl 3 (y5.map eTN)), tI (.sl 3 (y8.map eTN))] (aI (bI y9)), (!y9) = false, Ok Tryd.prog 13 [tI (.sl 3 (v.map eVN))] (aI (.sl 3 (y10.map eVN))), Ok Tryd.prog 16 [tI (.sl 3 (y6.map eVN)), tI (.sl 3 (y10.map eVN))] (aI (bI y11)), (!y11) = true]) (r' := aI (bI false)) [] (by kernel_rfl) ⟨(szTN.ok N t 1048576 y0 c1), c2, (szVN.ok N v y0 y1 c3), c4, (toTN.ok N t y2 c5), (toVN.ok N v y3 c6), (sCount.ok N y2 y3 y4 c7), (toTN.ok N t y5 c8), (toVN.ok N v y6 c9), (iCount.ok N y5 y6 y7 c10), c11, c11, c11, c11, c12, (toTN.ok N t y8 c13), (eqTN.ok N y5 y8 y9 c14), c15, (toVN.ok N v y10 c16), (eqVN.ok N y6 y10 y11 c17), c18, trivial⟩ rfl
            · obtain rfl := Option.some.inj h
              exact finW_ok (n := 400) (gs := [.r (aI (nI y0)), .b false, .r (aI (nI y1)), .b false, .r (aI (.sl 3 (y2.map eTN))), .r (aI (.sl 3 (y3.map eVN))), .r (.tup [tI (nI y4.1), tI (bI y4.2)]), .r (aI (.sl 3 (y5.map eTN))), .r (aI (.sl 3 (y6.map eVN))), .r (.tup [tI (nI y7.1), tI (bI y7.2)]), .b false, .b false, .r (aI (.sl 3 (y8.map eTN))), .r (aI (bI y9)), .b false, .r (aI (.sl 3 (y10.map eVN))), .r (aI (bI y11)), .b false]) [] (ob := [Ok Tryd.prog 9 [tI (.sl 3 (t.map eTN)), tI (nI 1048576)] (aI (nI y0)), decide (y0 < 0) = false, Ok Tryd.prog 10 [tI (.sl 3 (v.map eVN)), tI (nI y0)] (aI (nI y1)), decide (y1 < 0) = false, Ok Tryd.prog 12 [tI (.sl 3 (t.map eTN))] (aI (.sl 3 (y2.map eTN))), Ok Tryd.prog 13 [tI (.sl 3 (v.map eVN))] (aI (.sl 3 (y3.map eVN))), Ok Tryd.prog 17 [tI (.sl 3 (y2.map eTN)), tI (.sl 3 (y3.map eVN))] (.tup [tI (nI y4.1), tI (bI y4.2)]), Ok Tryd.prog 12 [tI (.sl 3 (t.map eTN))] (aI (.sl 3 (y5.map eTN))), Ok Tryd.prog 13 [tI (.sl 3 (v.map eVN))] (aI (.sl 3 (y6.map eVN))), Ok Tryd.prog 18 [tI (.sl 3 (y5.map eTN)), tI (.sl 3 (y6.map eVN))] (.tup [tI (nI y7.1), tI (bI y7.2)]), (y7.1 != y4.1) = false, (y7.1 != y4.1) = false, (y7.1 != y4.1) = false, (y7.1 != y4.1) = false, (!(y7.2 == y4.2)) = false, Ok Tryd.prog 12 [tI (.sl 3 (t.map eTN))] (aI (.sl 3 (y8.map eTN))), Ok Tryd.prog 15 [tI (.sl 3 (y5.map eTN)), tI (.sl 3 (y8.map eTN))] (aI (bI y9)), (!y9) = false, Ok Tryd.prog 13 [tI (.sl 3 (v.map eVN))] (aI (.sl 3 (y10.map eVN))), Ok Tryd.prog 16 [tI (.sl 3 (y6.map eVN)), tI (.sl 3 (y10.map eVN))] (aI (bI y11)), (!y11) = false]) (r' := aI (bI true)) [] (by kernel_rfl) ⟨(szTN.ok N t 1048576 y0 c1), c2, (szVN.ok N v y0 y1 c3), c4, (toTN.ok N t y2 c5), (toVN.ok N v y3 c6), (sCount.ok N y2 y3 y4 c7), (toTN.ok N t y5 c8), (toVN.ok N v y6 c9), (iCount.ok N y5 y6 y7 c10), c11, c11, c11, c11, c12, (toTN.ok N t y8 c13), (eqTN.ok N y5 y8 y9 c14), c15, (toVN.ok N v y10 c16), (eqVN.ok N y6 y10 y11 c17), c18, trivial⟩ rfl
end Go.Proofs.YtljdidlkiknknaaDoor.AB
