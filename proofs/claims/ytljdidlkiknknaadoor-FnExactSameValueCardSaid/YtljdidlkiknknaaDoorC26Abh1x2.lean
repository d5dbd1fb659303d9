/-
  What a call does, told without addresses: a state, steps, and that the code follows them.
-/
import Derived.Test.YtljdidlkiknknaaDoorC26Abh1x1
namespace Go.Proofs.YtljdidlkiknknaaDoor.AB
open Go Go.RowKit Go.Proofs.YtljdidlkiknknaaDoorW.PrintWords Go.Proofs.YtljdidlkiknknaaDoorW.PrintMore
set_option linter.unusedSimpArgs false
set_option linter.unusedVariables false
def numberOk.sem (N : Nat) (t : Sh) (n : Int) : Option Bool :=
    bif (t.kind == 1) then
      bif (n == 0) then
        some true
      else
        some (n == 1)
    else
      bif (t.kind == 2) then
        bif decide (n ≥ 0) then
          some (decide (n ≤ 255))
        else
          some false
      else
        bif (t.kind == 3) then
          bif decide (n ≥ (-128)) then
            some (decide (n ≤ 127))
          else
            some false
        else
          bif (t.kind == 4) then
            bif decide (n ≥ 0) then
              some (decide (n ≤ 65535))
            else
              some false
          else
            bif (t.kind == 5) then
              bif decide (n ≥ (-32768)) then
                some (decide (n ≤ 32767))
              else
                some false
            else
              bif (t.kind == 6) then
                bif decide (n ≥ 0) then
                  some (decide (n < 4294967296))
                else
                  some false
              else
                bif (t.kind == 7) then
                  bif decide (n ≥ (-2147483648)) then
                    some (decide (n < 2147483648))
                  else
                    some false
                else
                  bif (t.kind == 8) then
                    some true
                  else
                    bif (t.kind == 9) then
                      some true
                    else
                      bif (t.kind == 10) then
                        bif decide (n ≥ 0) then
                          bif decide (n < 4294967296) then
                            (canonical.sem N (IntKind.u32.wrap (n))).bind fun y0 =>
                            some (y0 == (IntKind.u32.wrap (n)))
                          else
                            some false
                        else
                          some false
                      else
                        bif (t.kind == 11) then
                          (goodPoint.sem N n).bind fun y0 =>
                          some y0
                        else
                          bif (t.kind == 16) then
                            bif decide (n ≥ 0) then
                              bif decide (0 ≤ (t.n : Int)) then
                                some (decide (n < (shlV .i64 1 t.n)))
                              else none
                            else
                              some false
                          else
                            bif (t.kind == 19) then
                              bif decide (n ≥ 0) then
                                some (decide (n < t.n))
                              else
                                some false
                            else
                              bif (t.kind == 20) then
                                bif decide (n ≥ 0) then
                                  some (decide (n ≤ 100000))
                                else
                                  some false
                              else
                                bif (t.kind == 21) then
                                  bif decide (n ≥ 0) then
                                    some (decide (n ≤ 100000))
                                  else
                                    some false
                                else
                                  some (n == 0)
set_option maxHeartbeats 1000000 in
theorem numberOk.ok (N : Nat) (t : Sh) (n : Int) (r : Bool) (h : numberOk.sem N t n = some r) : Ok Tryd.prog 89 [tI (.pt [nI t.kind, nI t.n, .sl 1 (t.kids.map eP)]), tI (nI n)] (aI (bI r)) := by
  unfold numberOk.sem at h
  refine fnW_ok Tryd.func89 (by kernel_rfl) rfl rfl fun F hF => ?_
  rcases bif_some h with ⟨c1, h⟩ | ⟨c1, h⟩
  · rcases bif_some h with ⟨c2, h⟩ | ⟨c2, h⟩
    · obtain rfl := Option.some.inj h
      exact finW_ok (n := 400) (gs := [.b true, .b true]) [] (ob := [(t.kind == 1) = true, (n == 0) = true, (n == 0) = true, (n == 0) = true]) (r' := aI (bI true)) [] (by kernel_rfl) ⟨c1, c2, c2, c2, trivial⟩ rfl
    · obtain rfl := Option.some.inj h
      exact finW_ok (n := 400) (gs := [.b true, .b false]) [] (ob := [(t.kind == 1) = true, (n == 0) = false, (n == 0) = false, (n == 0) = false]) (r' := aI (bI (n == 1))) [] (by kernel_rfl) ⟨c1, c2, c2, c2, trivial⟩ rfl
  · rcases bif_some h with ⟨c3, h⟩ | ⟨c3, h⟩
    · rcases bif_some h with ⟨c4, h⟩ | ⟨c4, h⟩
      · obtain rfl := Option.some.inj h
        exact finW_ok (n := 400) (gs := [.b false, .b true, .b true]) [] (ob := [(t.kind == 1) = false, (t.kind == 2) = true, decide (n ≥ 0) = true, decide (n ≥ 0) = true, decide (n ≥ 0) = true]) (r' := aI (bI (decide (n ≤ 255)))) [] (by kernel_rfl) ⟨c1, c3, c4, c4, c4, trivial⟩ rfl
      · obtain rfl := Option.some.inj h
        exact finW_ok (n := 400) (gs := [.b false, .b true, .b false]) [] (ob := [(t.kind == 1) = false, (t.kind == 2) = true, decide (n ≥ 0) = false, decide (n ≥ 0) = false, decide (n ≥ 0) = false]) (r' := aI (bI false)) [] (by kernel_rfl) ⟨c1, c3, c4, c4, c4, trivial⟩ rfl
    · rcases bif_some h with ⟨c5, h⟩ | ⟨c5, h⟩
      · rcases bif_some h with ⟨c6, h⟩ | ⟨c6, h⟩
        · obtain rfl := Option.some.inj h
          exact finW_ok (n := 400) (gs := [.b false, .b false, .b true, .b true]) [] (ob := [(t.kind == 1) = false, (t.kind == 2) = false, (t.kind == 3) = true, decide (n ≥ (-128)) = true, decide (n ≥ (-128)) = true, decide (n ≥ (-128)) = true]) (r' := aI (bI (decide (n ≤ 127)))) [] (by kernel_rfl) ⟨c1, c3, c5, c6, c6, c6, trivial⟩ rfl
        · obtain rfl := Option.some.inj h
          exact finW_ok (n := 400) (gs := [.b false, .b false, .b true, .b false]) [] (ob := [(t.kind == 1) = false, (t.kind == 2) = false, (t.kind == 3) = true, decide (n ≥ (-128)) = false, decide (n ≥ (-128)) = false, decide (n ≥ (-128)) = false]) (r' := aI (bI false)) [] (by kernel_rfl) ⟨c1, c3, c5, c6, c6, c6, trivial⟩ rfl
      · rcases bif_some h with ⟨c7, h⟩ | ⟨c7, h⟩
        · rcases bif_some h with ⟨c8, h⟩ | ⟨c8, h⟩
          · obtain rfl := Option.some.inj h
            exact finW_ok (n := 400) (gs := [.b false, .b false, .b false, .b true, .b true]) [] (ob := [(t.kind == 1) = false, (t.kind == 2) = false, (t.kind == 3) = false, (t.kind == 4) = true, decide (n ≥ 0) = true, decide (n ≥ 0) = true, decide (n ≥ 0) = true]) (r' := aI (bI (decide (n ≤ 65535)))) [] (by kernel_rfl) ⟨c1, c3, c5, c7, c8, c8, c8, trivial⟩ rfl
          · obtain rfl := Option.some.inj h
            exact finW_ok (n := 400) (gs := [.b false, .b false, .b false, .b true, .b false]) [] (ob := [(t.kind == 1) = false, (t.kind == 2) = false, (t.kind == 3) = false, (t.kind == 4) = true, decide (n ≥ 0) = false, decide (n ≥ 0) = false, decide (n ≥ 0) = false]) (r' := aI (bI false)) [] (by kernel_rfl) ⟨c1, c3, c5, c7, c8, c8, c8, trivial⟩ rfl
        · rcases bif_some h with ⟨c9, h⟩ | ⟨c9, h⟩
          · rcases bif_some h with ⟨c10, h⟩ | ⟨c10, h⟩
            · obtain rfl := Option.some.inj h
              exact finW_ok (n := 400) (gs := [.b false, .b false, .b false, .b false, .b true, .b true]) [] (ob := [(t.kind == 1) = false, (t.kind == 2) = false, (t.kind == 3) = false, (t.kind == 4) = false, (t.kind == 5) = true, decide (n ≥ (-32768)) = true, decide (n ≥ (-32768)) = true, decide (n ≥ (-32768)) = true]) (r' := aI (bI (decide (n ≤ 32767)))) [] (by kernel_rfl) ⟨c1, c3, c5, c7, c9, c10, c10, c10, trivial⟩ rfl
            · obtain rfl := Option.some.inj h
              exact finW_ok (n := 400) (gs := [.b false, .b false, .b false, .b false, .b true, .b false]) [] (ob := [(t.kind == 1) = false, (t.kind == 2) = false, (t.kind == 3) = false, (t.kind == 4) = false, (t.kind == 5) = true, decide (n ≥ (-32768)) = false, decide (n ≥ (-32768)) = false, decide (n ≥ (-32768)) = false]) (r' := aI (bI false)) [] (by kernel_rfl) ⟨c1, c3, c5, c7, c9, c10, c10, c10, trivial⟩ rfl
          · rcases bif_some h with ⟨c11, h⟩ | ⟨c11, h⟩
            · rcases bif_some h with ⟨c12, h⟩ | ⟨c12, h⟩
              · obtain rfl := Option.some.inj h
                exact finW_ok (n := 400) (gs := [.b false, .b false, .b false, .b false, .b false, .b true, .b true]) [] (ob := [(t.kind == 1) = false, (t.kind == 2) = false, (t.kind == 3) = false, (t.kind == 4) = false, (t.kind == 5) = false, (t.kind == 6) = true, decide (n ≥ 0) = true, decide (n ≥ 0) = true, decide (n ≥ 0) = true]) (r' := aI (bI (decide (n < 4294967296)))) [] (by kernel_rfl) ⟨c1, c3, c5, c7, c9, c11, c12, c12, c12, trivial⟩ rfl
              · obtain rfl := Option.some.inj h
                exact finW_ok (n := 400) (gs := [.b false, .b false, .b false, .b false, .b false, .b true, .b false]) [] (ob := [(t.kind == 1) = false, (t.kind == 2) = false, (t.kind == 3) = false, (t.kind == 4) = false, (t.kind == 5) = false, (t.kind == 6) = true, decide (n ≥ 0) = false, decide (n ≥ 0) = false, decide (n ≥ 0) = false]) (r' := aI (bI false)) [] (by kernel_rfl) ⟨c1, c3, c5, c7, c9, c11, c12, c12, c12, trivial⟩ rfl
            · rcases bif_some h with ⟨c13, h⟩ | ⟨c13, h⟩
              · rcases bif_some h with ⟨c14, h⟩ | ⟨c14, h⟩
                · obtain rfl := Option.some.inj h
                  exact finW_ok (n := 400) (gs := [.b false, .b false, .b false, .b false, .b false, .b false, .b true, .b true]) [] (ob := [(t.kind == 1) = false, (t.kind == 2) = false, (t.kind == 3) = false, (t.kind == 4) = false, (t.kind == 5) = false, (t.kind == 6) = false, (t.kind == 7) = true, decide (n ≥ (-2147483648)) = true, decide (n ≥ (-2147483648)) = true, decide (n ≥ (-2147483648)) = true]) (r' := aI (bI (decide (n < 2147483648)))) [] (by kernel_rfl) ⟨c1, c3, c5, c7, c9, c11, c13, c14, c14, c14, trivial⟩ rfl
                · obtain rfl := Option.some.inj h
                  exact finW_ok (n := 400) (gs := [.b false, .b false, .b false, .b false, .b false, .b false, .b true, .b false]) [] (ob := [(t.kind == 1) = false, (t.kind == 2) = false, (t.kind == 3) = false, (t.kind == 4) = false, (t.kind == 5) = false, (t.kind == 6) = false, (t.kind == 7) = true, decide (n ≥ (-2147483648)) = false, decide (n ≥ (-2147483648)) = false, decide (n ≥ (-2147483648)) = false]) (r' := aI (bI false)) [] (by kernel_rfl) ⟨c1, c3, c5, c7, c9, c11, c13, c14, c14, c14, trivial⟩ rfl
              · rcases bif_some h with ⟨c15, h⟩ | ⟨c15, h⟩
                · obtain rfl := Option.some.inj h
                  exact finW_ok (n := 400) (gs := [.b false, .b false, .b false, .b false, .b false, .b false, .b false, .b true, .b true]) [] (ob := [(t.kind == 1) = false, (t.kind == 2) = false, (t.kind == 3) = false, (t.kind == 4) = false, (t.kind == 5) = false, (t.kind == 6) = false, (t.kind == 7) = false, (t.kind == 8) = true, (t.kind == 8) = true]) (r' := aI (bI true)) [] (by kernel_rfl) ⟨c1, c3, c5, c7, c9, c11, c13, c15, c15, trivial⟩ rfl
                · rcases bif_some h with ⟨c16, h⟩ | ⟨c16, h⟩
                  · obtain rfl := Option.some.inj h
                    exact finW_ok (n := 400) (gs := [.b false, .b false, .b false, .b false, .b false, .b false, .b false, .b false, .b true]) [] (ob := [(t.kind == 1) = false, (t.kind == 2) = false, (t.kind == 3) = false, (t.kind == 4) = false, (t.kind == 5) = false, (t.kind == 6) = false, (t.kind == 7) = false, (t.kind == 8) = false, (t.kind == 9) = true]) (r' := aI (bI true)) [] (by kernel_rfl) ⟨c1, c3, c5, c7, c9, c11, c13, c15, c16, trivial⟩ rfl
                  · rcases bif_some h with ⟨c17, h⟩ | ⟨c17, h⟩
                    · rcases bif_some h with ⟨c18, h⟩ | ⟨c18, h⟩
                      · rcases bif_some h with ⟨c19, h⟩ | ⟨c19, h⟩
                        · obtain ⟨y0, c20, h⟩ := bind_some' h
                          obtain rfl := Option.some.inj h
                          exact finW_ok (n := 400) (gs := [.b false, .b false, .b false, .b false, .b false, .b false, .b false, .b false, .b false, .b true, .b true, .b true, .r (aI (.v (.int .u32 y0)))]) [] (ob := [(t.kind == 1) = false, (t.kind == 2) = false, (t.kind == 3) = false, (t.kind == 4) = false, (t.kind == 5) = false, (t.kind == 6) = false, (t.kind == 7) = false, (t.kind == 8) = false, (t.kind == 9) = false, (t.kind == 10) = true, decide (n ≥ 0) = true, decide (n ≥ 0) = true, decide (n ≥ 0) = true, decide (n < 4294967296) = true, decide (n < 4294967296) = true, decide (n < 4294967296) = true, Ok Tryd.prog 104 [tI (.v (.int .u32 (IntKind.u32.wrap (n))))] (aI (.v (.int .u32 y0))), decide (n < 4294967296) = true, decide (n < 4294967296) = true, decide (n < 4294967296) = true, decide (n < 4294967296) = true]) (r' := aI (bI (y0 == (IntKind.u32.wrap (n))))) [] (by kernel_rfl) ⟨c1, c3, c5, c7, c9, c11, c13, c15, c16, c17, c18, c18, c18, c19, c19, c19, (canonical.ok N (IntKind.u32.wrap (n)) y0 c20), c19, c19, c19, c19, trivial⟩ rfl
                        · obtain rfl := Option.some.inj h
                          exact finW_ok (n := 400) (gs := [.b false, .b false, .b false, .b false, .b false, .b false, .b false, .b false, .b false, .b true, .b true, .b false]) [] (ob := [(t.kind == 1) = false, (t.kind == 2) = false, (t.kind == 3) = false, (t.kind == 4) = false, (t.kind == 5) = false, (t.kind == 6) = false, (t.kind == 7) = false, (t.kind == 8) = false, (t.kind == 9) = false, (t.kind == 10) = true, decide (n ≥ 0) = true, decide (n ≥ 0) = true, decide (n ≥ 0) = true, decide (n < 4294967296) = false, decide (n < 4294967296) = false, decide (n < 4294967296) = false, decide (n < 4294967296) = false, decide (n < 4294967296) = false, decide (n < 4294967296) = false, decide (n < 4294967296) = false]) (r' := aI (bI false)) [] (by kernel_rfl) ⟨c1, c3, c5, c7, c9, c11, c13, c15, c16, c17, c18, c18, c18, c19, c19, c19, c19, c19, c19, c19, trivial⟩ rfl
                      · obtain rfl := Option.some.inj h
                        exact finW_ok (n := 400) (gs := [.b false, .b false, .b false, .b false, .b false, .b false, .b false, .b false, .b false, .b true, .b false, .a 1]) [] (ob := [(t.kind == 1) = false, (t.kind == 2) = false, (t.kind == 3) = false, (t.kind == 4) = false, (t.kind == 5) = false, (t.kind == 6) = false, (t.kind == 7) = false, (t.kind == 8) = false, (t.kind == 9) = false, (t.kind == 10) = true, decide (n ≥ 0) = false, decide (n ≥ 0) = false, decide (n ≥ 0) = false, false = false, false = false, false = false, false = false, false = false, false = false]) (r' := aI (bI false)) [] (by kernel_rfl) ⟨c1, c3, c5, c7, c9, c11, c13, c15, c16, c17, c18, c18, c18, rfl, rfl, rfl, rfl, rfl, rfl, trivial⟩ rfl
                    · rcases bif_some h with ⟨c21, h⟩ | ⟨c21, h⟩
                      · obtain ⟨y0, c22, h⟩ := bind_some' h
                        obtain rfl := Option.some.inj h
                        exact finW_ok (n := 400) (gs := [.b false, .b false, .b false, .b false, .b false, .b false, .b false, .b false, .b false, .b false, .b true, .r (aI (bI y0))]) [] (ob := [(t.kind == 1) = false, (t.kind == 2) = false, (t.kind == 3) = false, (t.kind == 4) = false, (t.kind == 5) = false, (t.kind == 6) = false, (t.kind == 7) = false, (t.kind == 8) = false, (t.kind == 9) = false, (t.kind == 10) = false, (t.kind == 11) = true, Ok Tryd.prog 105 [tI (nI n)] (aI (bI y0))]) (r' := aI (bI y0)) [] (by kernel_rfl) ⟨c1, c3, c5, c7, c9, c11, c13, c15, c16, c17, c21, (goodPoint.ok N n y0 c22), trivial⟩ rfl
                      · rcases bif_some h with ⟨c23, h⟩ | ⟨c23, h⟩
                        · rcases bif_some h with ⟨c24, h⟩ | ⟨c24, h⟩
                          · obtain ⟨c25, h⟩ := chk_some h
                            obtain rfl := Option.some.inj h
                            exact finW_ok (n := 400) (gs := [.b false, .b false, .b false, .b false, .b false, .b false, .b false, .b false, .b false, .b false, .b false, .b true, .b true]) [] (ob := [(t.kind == 1) = false, (t.kind == 2) = false, (t.kind == 3) = false, (t.kind == 4) = false, (t.kind == 5) = false, (t.kind == 6) = false, (t.kind == 7) = false, (t.kind == 8) = false, (t.kind == 9) = false, (t.kind == 10) = false, (t.kind == 11) = false, (t.kind == 16) = true, decide (n ≥ 0) = true, decide (n ≥ 0) = true, decide (n ≥ 0) = true, decide (n ≥ 0) = true, decide (n ≥ 0) = true, decide (n ≥ 0) = true, 0 ≤ (t.n : Int), decide (n ≥ 0) = true, decide (n ≥ 0) = true]) (r' := aI (bI (decide (n < (shlV .i64 1 t.n))))) [] (by kernel_rfl) ⟨c1, c3, c5, c7, c9, c11, c13, c15, c16, c17, c21, c23, c24, c24, c24, c24, c24, c24, (of_decide_eq_true c25), c24, c24, trivial⟩ rfl
                          · obtain rfl := Option.some.inj h
                            exact finW_ok (n := 400) (gs := [.b false, .b false, .b false, .b false, .b false, .b false, .b false, .b false, .b false, .b false, .b false, .b true, .b false]) [] (ob := [(t.kind == 1) = false, (t.kind == 2) = false, (t.kind == 3) = false, (t.kind == 4) = false, (t.kind == 5) = false, (t.kind == 6) = false, (t.kind == 7) = false, (t.kind == 8) = false, (t.kind == 9) = false, (t.kind == 10) = false, (t.kind == 11) = false, (t.kind == 16) = true, decide (n ≥ 0) = false, decide (n ≥ 0) = false, decide (n ≥ 0) = false, decide (n ≥ 0) = false, decide (n ≥ 0) = false, decide (n ≥ 0) = false, decide (n ≥ 0) = false, decide (n ≥ 0) = false]) (r' := aI (bI false)) [] (by kernel_rfl) ⟨c1, c3, c5, c7, c9, c11, c13, c15, c16, c17, c21, c23, c24, c24, c24, c24, c24, c24, c24, c24, trivial⟩ rfl
                        · rcases bif_some h with ⟨c26, h⟩ | ⟨c26, h⟩
                          · rcases bif_some h with ⟨c27, h⟩ | ⟨c27, h⟩
                            · obtain rfl := Option.some.inj h
                              exact finW_ok (n := 400) (gs := [.b false, .b false, .b false, .b false, .b false, .b false, .b false, .b false, .b false, .b false, .b false, .b false, .b true, .b true]) [] (ob := [(t.kind == 1) = false, (t.kind == 2) = false, (t.kind == 3) = false, (t.kind == 4) = false, (t.kind == 5) = false, (t.kind == 6) = false, (t.kind == 7) = false, (t.kind == 8) = false, (t.kind == 9) = false, (t.kind == 10) = false, (t.kind == 11) = false, (t.kind == 16) = false, (t.kind == 19) = true, decide (n ≥ 0) = true, decide (n ≥ 0) = true, decide (n ≥ 0) = true, decide (n ≥ 0) = true, decide (n ≥ 0) = true, decide (n ≥ 0) = true, decide (n ≥ 0) = true]) (r' := aI (bI (decide (n < t.n)))) [] (by kernel_rfl) ⟨c1, c3, c5, c7, c9, c11, c13, c15, c16, c17, c21, c23, c26, c27, c27, c27, c27, c27, c27, c27, trivial⟩ rfl
                            · obtain rfl := Option.some.inj h
                              exact finW_ok (n := 400) (gs := [.b false, .b false, .b false, .b false, .b false, .b false, .b false, .b false, .b false, .b false, .b false, .b false, .b true, .b false]) [] (ob := [(t.kind == 1) = false, (t.kind == 2) = false, (t.kind == 3) = false, (t.kind == 4) = false, (t.kind == 5) = false, (t.kind == 6) = false, (t.kind == 7) = false, (t.kind == 8) = false, (t.kind == 9) = false, (t.kind == 10) = false, (t.kind == 11) = false, (t.kind == 16) = false, (t.kind == 19) = true, decide (n ≥ 0) = false, decide (n ≥ 0) = false, decide (n ≥ 0) = false, decide (n ≥ 0) = false, decide (n ≥ 0) = false, decide (n ≥ 0) = false, decide (n ≥ 0) = false]) (r' := aI (bI false)) [] (by kernel_rfl) ⟨c1, c3, c5, c7, c9, c11, c13, c15, c16, c17, c21, c23, c26, c27, c27, c27, c27, c27, c27, c27, trivial⟩ rfl
                          · rcases bif_some h with ⟨c28, h⟩ | ⟨c28, h⟩
                            · rcases bif_some h with ⟨c29, h⟩ | ⟨c29, h⟩
                              · obtain rfl := Option.some.inj h
                                exact finW_ok (n := 400) (gs := [.b false, .b false, .b false, .b false, .b false, .b false, .b false, .b false, .b false, .b false, .b false, .b false, .b false, .b true, .b true, .b true]) [] (ob := [(t.kind == 1) = false, (t.kind == 2) = false, (t.kind == 3) = false, (t.kind == 4) = false, (t.kind == 5) = false, (t.kind == 6) = false, (t.kind == 7) = false, (t.kind == 8) = false, (t.kind == 9) = false, (t.kind == 10) = false, (t.kind == 11) = false, (t.kind == 16) = false, (t.kind == 19) = false, (t.kind == 20) = true, (t.kind == 20) = true, decide (n ≥ 0) = true, decide (n ≥ 0) = true, decide (n ≥ 0) = true]) (r' := aI (bI (decide (n ≤ 100000)))) [] (by kernel_rfl) ⟨c1, c3, c5, c7, c9, c11, c13, c15, c16, c17, c21, c23, c26, c28, c28, c29, c29, c29, trivial⟩ rfl
                              · obtain rfl := Option.some.inj h
                                exact finW_ok (n := 400) (gs := [.b false, .b false, .b false, .b false, .b false, .b false, .b false, .b false, .b false, .b false, .b false, .b false, .b false, .b true, .b true, .b false]) [] (ob := [(t.kind == 1) = false, (t.kind == 2) = false, (t.kind == 3) = false, (t.kind == 4) = false, (t.kind == 5) = false, (t.kind == 6) = false, (t.kind == 7) = false, (t.kind == 8) = false, (t.kind == 9) = false, (t.kind == 10) = false, (t.kind == 11) = false, (t.kind == 16) = false, (t.kind == 19) = false, (t.kind == 20) = true, (t.kind == 20) = true, decide (n ≥ 0) = false, decide (n ≥ 0) = false, decide (n ≥ 0) = false]) (r' := aI (bI false)) [] (by kernel_rfl) ⟨c1, c3, c5, c7, c9, c11, c13, c15, c16, c17, c21, c23, c26, c28, c28, c29, c29, c29, trivial⟩ rfl
                            · rcases bif_some h with ⟨c30, h⟩ | ⟨c30, h⟩
                              · rcases bif_some h with ⟨c31, h⟩ | ⟨c31, h⟩
                                · obtain rfl := Option.some.inj h
                                  exact finW_ok (n := 400) (gs := [.b false, .b false, .b false, .b false, .b false, .b false, .b false, .b false, .b false, .b false, .b false, .b false, .b false, .b false, .b true, .b true]) [] (ob := [(t.kind == 1) = false, (t.kind == 2) = false, (t.kind == 3) = false, (t.kind == 4) = false, (t.kind == 5) = false, (t.kind == 6) = false, (t.kind == 7) = false, (t.kind == 8) = false, (t.kind == 9) = false, (t.kind == 10) = false, (t.kind == 11) = false, (t.kind == 16) = false, (t.kind == 19) = false, (t.kind == 20) = false, (t.kind == 21) = true, decide (n ≥ 0) = true, decide (n ≥ 0) = true, decide (n ≥ 0) = true]) (r' := aI (bI (decide (n ≤ 100000)))) [] (by kernel_rfl) ⟨c1, c3, c5, c7, c9, c11, c13, c15, c16, c17, c21, c23, c26, c28, c30, c31, c31, c31, trivial⟩ rfl
                                · obtain rfl := Option.some.inj h
                                  exact finW_ok (n := 400) (gs := [.b false, .b false, .b false, .b false, .b false, .b false, .b false, .b false, .b false, .b false, .b false, .b false, .b false, .b false, .b true, .b false]) [] (ob := [(t.kind == 1) = false, (t.kind == 2) = false, (t.kind == 3) = false, (t.kind == 4) = false, (t.kind == 5) = false, (t.kind == 6) = false, (t.kind == 7) = false, (t.kind == 8) = false, (t.kind == 9) = false, (t.kind == 10) = false, (t.kind == 11) = false, (t.kind == 16) = false, (t.kind == 19) = false, (t.kind == 20) = false, (t.kind == 21) = true, decide (n ≥ 0) = false, decide (n ≥ 0) = false, decide (n ≥ 0) = false]) (r' := aI (bI false)) [] (by kernel_rfl) ⟨c1, c3, c5, c7, c9, c11, c13, c15, c16, c17, c21, c23, c26, c28, c30, c31, c31, c31, trivial⟩ rfl
                              · obtain rfl := Option.some.inj h
                                exact finW_ok (n := 400) (gs := [.b false, .b false, .b false, .b false, .b false, .b false, .b false, .b false, .b false, .b false, .b false, .b false, .b false, .b false, .b false]) [] (ob := [(t.kind == 1) = false, (t.kind == 2) = false, (t.kind == 3) = false, (t.kind == 4) = false, (t.kind == 5) = false, (t.kind == 6) = false, (t.kind == 7) = false, (t.kind == 8) = false, (t.kind == 9) = false, (t.kind == 10) = false, (t.kind == 11) = false, (t.kind == 16) = false, (t.kind == 19) = false, (t.kind == 20) = false, (t.kind == 21) = false]) (r' := aI (bI (n == 0))) [] (by kernel_rfl) ⟨c1, c3, c5, c7, c9, c11, c13, c15, c16, c17, c21, c23, c26, c28, c30, trivial⟩ rfl
def decSlow.sem (N : Nat) (s : ByteArray) : Option (Int × Int) :=
    bif decide ((s.size : Int) < 1) then
      some (65533, 0)
    else
      bif inR (0 : Int) s.size then
        bif inR (byteAt s (0 : Int)) tab6.length then
          bif decide ((tab6.getD (byteAt s (0 : Int)).toNat default) ≥ 240) then
        some (IntKind.i32.wrap (((BitVec.ofInt 32 (IntKind.i32.wrap (((BitVec.ofInt 32 (IntKind.i32.wrap (byteAt s (0 : Int))) &&& ~~~(BitVec.ofInt 32 (shrV .i32 (shlV .i32 (IntKind.i32.wrap ((tab6.getD (byteAt s (0 : Int)).toNat default))) 31) 31))).toNat : Int))) ||| BitVec.ofInt 32 (IntKind.i32.wrap (((BitVec.ofInt 32 65533 &&& BitVec.ofInt 32 (shrV .i32 (shlV .i32 (IntKind.i32.wrap ((tab6.getD (byteAt s (0 : Int)).toNat default))) 31) 31)).toNat : Int)))).toNat : Int)), 1)
      else
        bif inR (shrV .u8 (tab6.getD (byteAt s (0 : Int)).toNat default) 4) tab7.length then
          bif decide ((s.size : Int) < (IntKind.i64.wrap (IntKind.u8.wrap (((BitVec.ofInt 8 (tab6.getD (byteAt s (0 : Int)).toNat default) &&& BitVec.ofInt 8 7).toNat : Int))))) then
          some (65533, 1)
        else
          bif inR (1 : Int) s.size then
            bif decide ((byteAt s (1 : Int)) < ((tab7.getD (shrV .u8 (tab6.getD (byteAt s (0 : Int)).toNat default) 4).toNat default).1)) then
            some (65533, 1)
          else
            bif decide (((tab7.getD (shrV .u8 (tab6.getD (byteAt s (0 : Int)).toNat default) 4).toNat default).2) < (byteAt s (1 : Int))) then
              some (65533, 1)
            else
              bif decide ((IntKind.i64.wrap (IntKind.u8.wrap (((BitVec.ofInt 8 (tab6.getD (byteAt s (0 : Int)).toNat default) &&& BitVec.ofInt 8 7).toNat : Int)))) ≤ 2) then
                some (IntKind.i32.wrap (((BitVec.ofInt 32 (shlV .i32 (IntKind.i32.wrap (IntKind.u8.wrap (((BitVec.ofInt 8 (byteAt s (0 : Int)) &&& BitVec.ofInt 8 31).toNat : Int)))) 6) ||| BitVec.ofInt 32 (IntKind.i32.wrap (IntKind.u8.wrap (((BitVec.ofInt 8 (byteAt s (1 : Int)) &&& BitVec.ofInt 8 63).toNat : Int))))).toNat : Int)), 2)
              else
                bif inR (2 : Int) s.size then
                  bif decide ((byteAt s (2 : Int)) < 128) then
                  some (65533, 1)
                else
                  bif decide (191 < (byteAt s (2 : Int))) then
                    some (65533, 1)
                  else
                    bif decide ((IntKind.i64.wrap (IntKind.u8.wrap (((BitVec.ofInt 8 (tab6.getD (byteAt s (0 : Int)).toNat default) &&& BitVec.ofInt 8 7).toNat : Int)))) ≤ 3) then
                      some (IntKind.i32.wrap (((BitVec.ofInt 32 (IntKind.i32.wrap (((BitVec.ofInt 32 (shlV .i32 (IntKind.i32.wrap (IntKind.u8.wrap (((BitVec.ofInt 8 (byteAt s (0 : Int)) &&& BitVec.ofInt 8 15).toNat : Int)))) 12) ||| BitVec.ofInt 32 (shlV .i32 (IntKind.i32.wrap (IntKind.u8.wrap (((BitVec.ofInt 8 (byteAt s (1 : Int)) &&& BitVec.ofInt 8 63).toNat : Int)))) 6)).toNat : Int))) ||| BitVec.ofInt 32 (IntKind.i32.wrap (IntKind.u8.wrap (((BitVec.ofInt 8 (byteAt s (2 : Int)) &&& BitVec.ofInt 8 63).toNat : Int))))).toNat : Int)), 3)
                    else
                      bif inR (3 : Int) s.size then
                        bif decide ((byteAt s (3 : Int)) < 128) then
                        some (65533, 1)
                      else
                        bif decide (191 < (byteAt s (3 : Int))) then
                          some (65533, 1)
                        else
                          some (IntKind.i32.wrap (((BitVec.ofInt 32 (IntKind.i32.wrap (((BitVec.ofInt 32 (IntKind.i32.wrap (((BitVec.ofInt 32 (shlV .i32 (IntKind.i32.wrap (IntKind.u8.wrap (((BitVec.ofInt 8 (byteAt s (0 : Int)) &&& BitVec.ofInt 8 7).toNat : Int)))) 18) ||| BitVec.ofInt 32 (shlV .i32 (IntKind.i32.wrap (IntKind.u8.wrap (((BitVec.ofInt 8 (byteAt s (1 : Int)) &&& BitVec.ofInt 8 63).toNat : Int)))) 12)).toNat : Int))) ||| BitVec.ofInt 32 (shlV .i32 (IntKind.i32.wrap (IntKind.u8.wrap (((BitVec.ofInt 8 (byteAt s (2 : Int)) &&& BitVec.ofInt 8 63).toNat : Int)))) 6)).toNat : Int))) ||| BitVec.ofInt 32 (IntKind.i32.wrap (IntKind.u8.wrap (((BitVec.ofInt 8 (byteAt s (3 : Int)) &&& BitVec.ofInt 8 63).toNat : Int))))).toNat : Int)), 4)
                      else none
                else none
          else none
        else none
        else none
      else none
set_option maxHeartbeats 1000000 in
theorem decSlow.ok (N : Nat) (s : ByteArray) (r : (Int × Int)) (h : decSlow.sem N s = some r) : Ok Tryd.prog 165 [tI (sI s)] (.tup [tI (.v (.int .i32 r.1)), tI (nI r.2)]) := by
  unfold decSlow.sem at h
  refine fnW_ok Tryd.func165 (by kernel_rfl) rfl rfl fun F hF => ?_
  rcases bif_some h with ⟨c1, h⟩ | ⟨c1, h⟩
  · obtain rfl := Option.some.inj h
    exact finW_ok (n := 400) (gs := [.b true]) [] (ob := [decide ((s.size : Int) < 1) = true]) (r' := .tup [tI (.v (.int .i32 65533)), tI (nI 0)]) [] (by kernel_rfl) ⟨c1, trivial⟩ rfl
  · obtain ⟨c2, h⟩ := chk_some h
    obtain ⟨c3, h⟩ := chk_some h
    rcases bif_some h with ⟨c4, h⟩ | ⟨c4, h⟩
    · obtain rfl := Option.some.inj h
      exact finW_ok (n := 400) (gs := [.b false, .ys [.v (.int .u8 (tab6.getD (byteAt s (0 : Int)).toNat default))], .b true]) [] (ob := [decide ((s.size : Int) < 1) = false, 0 ≤ (0 : Int), (0 : Int) < (s.size : Int), 0 ≤ (byteAt s (0 : Int)), (byteAt s (0 : Int)) < (256 : Int), cutC (tab6c.map IV.v) ((byteAt s (0 : Int)).toNat * 1) 1 = [.v (.int .u8 (tab6.getD (byteAt s (0 : Int)).toNat default))], decide ((tab6.getD (byteAt s (0 : Int)).toNat default) ≥ 240) = true, 0 ≤ (31 : Int), 0 ≤ (31 : Int), 0 ≤ (0 : Int), (0 : Int) < (s.size : Int)]) (r' := .tup [tI (.v (.int .i32 (IntKind.i32.wrap (((BitVec.ofInt 32 (IntKind.i32.wrap (((BitVec.ofInt 32 (IntKind.i32.wrap (byteAt s (0 : Int))) &&& ~~~(BitVec.ofInt 32 (shrV .i32 (shlV .i32 (IntKind.i32.wrap ((tab6.getD (byteAt s (0 : Int)).toNat default))) 31) 31))).toNat : Int))) ||| BitVec.ofInt 32 (IntKind.i32.wrap (((BitVec.ofInt 32 65533 &&& BitVec.ofInt 32 (shrV .i32 (shlV .i32 (IntKind.i32.wrap ((tab6.getD (byteAt s (0 : Int)).toNat default))) 31) 31)).toNat : Int)))).toNat : Int))))), tI (nI 1)]) [] (by kernel_rfl) ⟨c1, (inR_lo c2), (inR_hi rfl c2), (inR_lo c3), (inR_hi tab6_len c3), (tab_el eB tab6_raw (fun _ => rfl) c3), c4, (by decide), (by decide), (inR_lo c2), (inR_hi rfl c2), trivial⟩ rfl
    · obtain ⟨c5, h⟩ := chk_some h
      rcases bif_some h with ⟨c6, h⟩ | ⟨c6, h⟩
      · obtain rfl := Option.some.inj h
        exact finW_ok (n := 400) (gs := [.b false, .ys [.v (.int .u8 (tab6.getD (byteAt s (0 : Int)).toNat default))], .b false, .ys [.v (.int .u8 ((tab7.getD (shrV .u8 (tab6.getD (byteAt s (0 : Int)).toNat default) 4).toNat default).1)), .v (.int .u8 ((tab7.getD (shrV .u8 (tab6.getD (byteAt s (0 : Int)).toNat default) 4).toNat default).2))], .b true]) [] (ob := [decide ((s.size : Int) < 1) = false, 0 ≤ (0 : Int), (0 : Int) < (s.size : Int), 0 ≤ (byteAt s (0 : Int)), (byteAt s (0 : Int)) < (256 : Int), cutC (tab6c.map IV.v) ((byteAt s (0 : Int)).toNat * 1) 1 = [.v (.int .u8 (tab6.getD (byteAt s (0 : Int)).toNat default))], decide ((tab6.getD (byteAt s (0 : Int)).toNat default) ≥ 240) = false, 0 ≤ (4 : Int), 0 ≤ (shrV .u8 (tab6.getD (byteAt s (0 : Int)).toNat default) 4), (shrV .u8 (tab6.getD (byteAt s (0 : Int)).toNat default) 4) < (16 : Int), cutC (tab7c.map IV.v) ((shrV .u8 (tab6.getD (byteAt s (0 : Int)).toNat default) 4).toNat * 2) 2 = [.v (.int .u8 ((tab7.getD (shrV .u8 (tab6.getD (byteAt s (0 : Int)).toNat default) 4).toNat default).1)), .v (.int .u8 ((tab7.getD (shrV .u8 (tab6.getD (byteAt s (0 : Int)).toNat default) 4).toNat default).2))], decide ((s.size : Int) < (IntKind.i64.wrap (IntKind.u8.wrap (((BitVec.ofInt 8 (tab6.getD (byteAt s (0 : Int)).toNat default) &&& BitVec.ofInt 8 7).toNat : Int))))) = true]) (r' := .tup [tI (.v (.int .i32 65533)), tI (nI 1)]) [] (by kernel_rfl) ⟨c1, (inR_lo c2), (inR_hi rfl c2), (inR_lo c3), (inR_hi tab6_len c3), (tab_el eB tab6_raw (fun _ => rfl) c3), c4, (by decide), (inR_lo c5), (inR_hi tab7_len c5), (tab_el eAR tab7_raw (fun _ => rfl) c5), c6, trivial⟩ rfl
      · obtain ⟨c7, h⟩ := chk_some h
        rcases bif_some h with ⟨c8, h⟩ | ⟨c8, h⟩
        · obtain rfl := Option.some.inj h
          exact finW_ok (n := 400) (gs := [.b false, .ys [.v (.int .u8 (tab6.getD (byteAt s (0 : Int)).toNat default))], .b false, .ys [.v (.int .u8 ((tab7.getD (shrV .u8 (tab6.getD (byteAt s (0 : Int)).toNat default) 4).toNat default).1)), .v (.int .u8 ((tab7.getD (shrV .u8 (tab6.getD (byteAt s (0 : Int)).toNat default) 4).toNat default).2))], .b false, .b true, .a 1]) [] (ob := [decide ((s.size : Int) < 1) = false, 0 ≤ (0 : Int), (0 : Int) < (s.size : Int), 0 ≤ (byteAt s (0 : Int)), (byteAt s (0 : Int)) < (256 : Int), cutC (tab6c.map IV.v) ((byteAt s (0 : Int)).toNat * 1) 1 = [.v (.int .u8 (tab6.getD (byteAt s (0 : Int)).toNat default))], decide ((tab6.getD (byteAt s (0 : Int)).toNat default) ≥ 240) = false, 0 ≤ (4 : Int), 0 ≤ (shrV .u8 (tab6.getD (byteAt s (0 : Int)).toNat default) 4), (shrV .u8 (tab6.getD (byteAt s (0 : Int)).toNat default) 4) < (16 : Int), cutC (tab7c.map IV.v) ((shrV .u8 (tab6.getD (byteAt s (0 : Int)).toNat default) 4).toNat * 2) 2 = [.v (.int .u8 ((tab7.getD (shrV .u8 (tab6.getD (byteAt s (0 : Int)).toNat default) 4).toNat default).1)), .v (.int .u8 ((tab7.getD (shrV .u8 (tab6.getD (byteAt s (0 : Int)).toNat default) 4).toNat default).2))], decide ((s.size : Int) < (IntKind.i64.wrap (IntKind.u8.wrap (((BitVec.ofInt 8 (tab6.getD (byteAt s (0 : Int)).toNat default) &&& BitVec.ofInt 8 7).toNat : Int))))) = false, 0 ≤ (1 : Int), (1 : Int) < (s.size : Int), decide ((byteAt s (1 : Int)) < ((tab7.getD (shrV .u8 (tab6.getD (byteAt s (0 : Int)).toNat default) 4).toNat default).1)) = true, decide ((byteAt s (1 : Int)) < ((tab7.getD (shrV .u8 (tab6.getD (byteAt s (0 : Int)).toNat default) 4).toNat default).1)) = true, decide ((byteAt s (1 : Int)) < ((tab7.getD (shrV .u8 (tab6.getD (byteAt s (0 : Int)).toNat default) 4).toNat default).1)) = true, decide ((byteAt s (1 : Int)) < ((tab7.getD (shrV .u8 (tab6.getD (byteAt s (0 : Int)).toNat default) 4).toNat default).1)) = true, decide ((byteAt s (1 : Int)) < ((tab7.getD (shrV .u8 (tab6.getD (byteAt s (0 : Int)).toNat default) 4).toNat default).1)) = true]) (r' := .tup [tI (.v (.int .i32 65533)), tI (nI 1)]) [] (by kernel_rfl) ⟨c1, (inR_lo c2), (inR_hi rfl c2), (inR_lo c3), (inR_hi tab6_len c3), (tab_el eB tab6_raw (fun _ => rfl) c3), c4, (by decide), (inR_lo c5), (inR_hi tab7_len c5), (tab_el eAR tab7_raw (fun _ => rfl) c5), c6, (inR_lo c7), (inR_hi rfl c7), c8, c8, c8, c8, c8, trivial⟩ rfl
        · rcases bif_some h with ⟨c9, h⟩ | ⟨c9, h⟩
          · obtain rfl := Option.some.inj h
            exact finW_ok (n := 400) (gs := [.b false, .ys [.v (.int .u8 (tab6.getD (byteAt s (0 : Int)).toNat default))], .b false, .ys [.v (.int .u8 ((tab7.getD (shrV .u8 (tab6.getD (byteAt s (0 : Int)).toNat default) 4).toNat default).1)), .v (.int .u8 ((tab7.getD (shrV .u8 (tab6.getD (byteAt s (0 : Int)).toNat default) 4).toNat default).2))], .b false, .b false, .b true]) [] (ob := [decide ((s.size : Int) < 1) = false, 0 ≤ (0 : Int), (0 : Int) < (s.size : Int), 0 ≤ (byteAt s (0 : Int)), (byteAt s (0 : Int)) < (256 : Int), cutC (tab6c.map IV.v) ((byteAt s (0 : Int)).toNat * 1) 1 = [.v (.int .u8 (tab6.getD (byteAt s (0 : Int)).toNat default))], decide ((tab6.getD (byteAt s (0 : Int)).toNat default) ≥ 240) = false, 0 ≤ (4 : Int), 0 ≤ (shrV .u8 (tab6.getD (byteAt s (0 : Int)).toNat default) 4), (shrV .u8 (tab6.getD (byteAt s (0 : Int)).toNat default) 4) < (16 : Int), cutC (tab7c.map IV.v) ((shrV .u8 (tab6.getD (byteAt s (0 : Int)).toNat default) 4).toNat * 2) 2 = [.v (.int .u8 ((tab7.getD (shrV .u8 (tab6.getD (byteAt s (0 : Int)).toNat default) 4).toNat default).1)), .v (.int .u8 ((tab7.getD (shrV .u8 (tab6.getD (byteAt s (0 : Int)).toNat default) 4).toNat default).2))], decide ((s.size : Int) < (IntKind.i64.wrap (IntKind.u8.wrap (((BitVec.ofInt 8 (tab6.getD (byteAt s (0 : Int)).toNat default) &&& BitVec.ofInt 8 7).toNat : Int))))) = false, 0 ≤ (1 : Int), (1 : Int) < (s.size : Int), decide ((byteAt s (1 : Int)) < ((tab7.getD (shrV .u8 (tab6.getD (byteAt s (0 : Int)).toNat default) 4).toNat default).1)) = false, decide ((byteAt s (1 : Int)) < ((tab7.getD (shrV .u8 (tab6.getD (byteAt s (0 : Int)).toNat default) 4).toNat default).1)) = false, decide ((byteAt s (1 : Int)) < ((tab7.getD (shrV .u8 (tab6.getD (byteAt s (0 : Int)).toNat default) 4).toNat default).1)) = false, decide ((byteAt s (1 : Int)) < ((tab7.getD (shrV .u8 (tab6.getD (byteAt s (0 : Int)).toNat default) 4).toNat default).1)) = false, decide ((byteAt s (1 : Int)) < ((tab7.getD (shrV .u8 (tab6.getD (byteAt s (0 : Int)).toNat default) 4).toNat default).1)) = false, decide (((tab7.getD (shrV .u8 (tab6.getD (byteAt s (0 : Int)).toNat default) 4).toNat default).2) < (byteAt s (1 : Int))) = true]) (r' := .tup [tI (.v (.int .i32 65533)), tI (nI 1)]) [] (by kernel_rfl) ⟨c1, (inR_lo c2), (inR_hi rfl c2), (inR_lo c3), (inR_hi tab6_len c3), (tab_el eB tab6_raw (fun _ => rfl) c3), c4, (by decide), (inR_lo c5), (inR_hi tab7_len c5), (tab_el eAR tab7_raw (fun _ => rfl) c5), c6, (inR_lo c7), (inR_hi rfl c7), c8, c8, c8, c8, c8, c9, trivial⟩ rfl
          · rcases bif_some h with ⟨c10, h⟩ | ⟨c10, h⟩
            · obtain rfl := Option.some.inj h
              exact finW_ok (n := 400) (gs := [.b false, .ys [.v (.int .u8 (tab6.getD (byteAt s (0 : Int)).toNat default))], .b false, .ys [.v (.int .u8 ((tab7.getD (shrV .u8 (tab6.getD (byteAt s (0 : Int)).toNat default) 4).toNat default).1)), .v (.int .u8 ((tab7.getD (shrV .u8 (tab6.getD (byteAt s (0 : Int)).toNat default) 4).toNat default).2))], .b false, .b false, .b false, .b true]) [] (ob := [decide ((s.size : Int) < 1) = false, 0 ≤ (0 : Int), (0 : Int) < (s.size : Int), 0 ≤ (byteAt s (0 : Int)), (byteAt s (0 : Int)) < (256 : Int), cutC (tab6c.map IV.v) ((byteAt s (0 : Int)).toNat * 1) 1 = [.v (.int .u8 (tab6.getD (byteAt s (0 : Int)).toNat default))], decide ((tab6.getD (byteAt s (0 : Int)).toNat default) ≥ 240) = false, 0 ≤ (4 : Int), 0 ≤ (shrV .u8 (tab6.getD (byteAt s (0 : Int)).toNat default) 4), (shrV .u8 (tab6.getD (byteAt s (0 : Int)).toNat default) 4) < (16 : Int), cutC (tab7c.map IV.v) ((shrV .u8 (tab6.getD (byteAt s (0 : Int)).toNat default) 4).toNat * 2) 2 = [.v (.int .u8 ((tab7.getD (shrV .u8 (tab6.getD (byteAt s (0 : Int)).toNat default) 4).toNat default).1)), .v (.int .u8 ((tab7.getD (shrV .u8 (tab6.getD (byteAt s (0 : Int)).toNat default) 4).toNat default).2))], decide ((s.size : Int) < (IntKind.i64.wrap (IntKind.u8.wrap (((BitVec.ofInt 8 (tab6.getD (byteAt s (0 : Int)).toNat default) &&& BitVec.ofInt 8 7).toNat : Int))))) = false, 0 ≤ (1 : Int), (1 : Int) < (s.size : Int), decide ((byteAt s (1 : Int)) < ((tab7.getD (shrV .u8 (tab6.getD (byteAt s (0 : Int)).toNat default) 4).toNat default).1)) = false, decide ((byteAt s (1 : Int)) < ((tab7.getD (shrV .u8 (tab6.getD (byteAt s (0 : Int)).toNat default) 4).toNat default).1)) = false, decide ((byteAt s (1 : Int)) < ((tab7.getD (shrV .u8 (tab6.getD (byteAt s (0 : Int)).toNat default) 4).toNat default).1)) = false, decide ((byteAt s (1 : Int)) < ((tab7.getD (shrV .u8 (tab6.getD (byteAt s (0 : Int)).toNat default) 4).toNat default).1)) = false, decide ((byteAt s (1 : Int)) < ((tab7.getD (shrV .u8 (tab6.getD (byteAt s (0 : Int)).toNat default) 4).toNat default).1)) = false, decide (((tab7.getD (shrV .u8 (tab6.getD (byteAt s (0 : Int)).toNat default) 4).toNat default).2) < (byteAt s (1 : Int))) = false, decide ((IntKind.i64.wrap (IntKind.u8.wrap (((BitVec.ofInt 8 (tab6.getD (byteAt s (0 : Int)).toNat default) &&& BitVec.ofInt 8 7).toNat : Int)))) ≤ 2) = true, 0 ≤ (6 : Int)]) (r' := .tup [tI (.v (.int .i32 (IntKind.i32.wrap (((BitVec.ofInt 32 (shlV .i32 (IntKind.i32.wrap (IntKind.u8.wrap (((BitVec.ofInt 8 (byteAt s (0 : Int)) &&& BitVec.ofInt 8 31).toNat : Int)))) 6) ||| BitVec.ofInt 32 (IntKind.i32.wrap (IntKind.u8.wrap (((BitVec.ofInt 8 (byteAt s (1 : Int)) &&& BitVec.ofInt 8 63).toNat : Int))))).toNat : Int))))), tI (nI 2)]) [] (by kernel_rfl) ⟨c1, (inR_lo c2), (inR_hi rfl c2), (inR_lo c3), (inR_hi tab6_len c3), (tab_el eB tab6_raw (fun _ => rfl) c3), c4, (by decide), (inR_lo c5), (inR_hi tab7_len c5), (tab_el eAR tab7_raw (fun _ => rfl) c5), c6, (inR_lo c7), (inR_hi rfl c7), c8, c8, c8, c8, c8, c9, c10, (by decide), trivial⟩ rfl
            · obtain ⟨c11, h⟩ := chk_some h
              rcases bif_some h with ⟨c12, h⟩ | ⟨c12, h⟩
              · obtain rfl := Option.some.inj h
                exact finW_ok (n := 400) (gs := [.b false, .ys [.v (.int .u8 (tab6.getD (byteAt s (0 : Int)).toNat default))], .b false, .ys [.v (.int .u8 ((tab7.getD (shrV .u8 (tab6.getD (byteAt s (0 : Int)).toNat default) 4).toNat default).1)), .v (.int .u8 ((tab7.getD (shrV .u8 (tab6.getD (byteAt s (0 : Int)).toNat default) 4).toNat default).2))], .b false, .b false, .b false, .b false, .b true, .a 1]) [] (ob := [decide ((s.size : Int) < 1) = false, 0 ≤ (0 : Int), (0 : Int) < (s.size : Int), 0 ≤ (byteAt s (0 : Int)), (byteAt s (0 : Int)) < (256 : Int), cutC (tab6c.map IV.v) ((byteAt s (0 : Int)).toNat * 1) 1 = [.v (.int .u8 (tab6.getD (byteAt s (0 : Int)).toNat default))], decide ((tab6.getD (byteAt s (0 : Int)).toNat default) ≥ 240) = false, 0 ≤ (4 : Int), 0 ≤ (shrV .u8 (tab6.getD (byteAt s (0 : Int)).toNat default) 4), (shrV .u8 (tab6.getD (byteAt s (0 : Int)).toNat default) 4) < (16 : Int), cutC (tab7c.map IV.v) ((shrV .u8 (tab6.getD (byteAt s (0 : Int)).toNat default) 4).toNat * 2) 2 = [.v (.int .u8 ((tab7.getD (shrV .u8 (tab6.getD (byteAt s (0 : Int)).toNat default) 4).toNat default).1)), .v (.int .u8 ((tab7.getD (shrV .u8 (tab6.getD (byteAt s (0 : Int)).toNat default) 4).toNat default).2))], decide ((s.size : Int) < (IntKind.i64.wrap (IntKind.u8.wrap (((BitVec.ofInt 8 (tab6.getD (byteAt s (0 : Int)).toNat default) &&& BitVec.ofInt 8 7).toNat : Int))))) = false, 0 ≤ (1 : Int), (1 : Int) < (s.size : Int), decide ((byteAt s (1 : Int)) < ((tab7.getD (shrV .u8 (tab6.getD (byteAt s (0 : Int)).toNat default) 4).toNat default).1)) = false, decide ((byteAt s (1 : Int)) < ((tab7.getD (shrV .u8 (tab6.getD (byteAt s (0 : Int)).toNat default) 4).toNat default).1)) = false, decide ((byteAt s (1 : Int)) < ((tab7.getD (shrV .u8 (tab6.getD (byteAt s (0 : Int)).toNat default) 4).toNat default).1)) = false, decide ((byteAt s (1 : Int)) < ((tab7.getD (shrV .u8 (tab6.getD (byteAt s (0 : Int)).toNat default) 4).toNat default).1)) = false, decide ((byteAt s (1 : Int)) < ((tab7.getD (shrV .u8 (tab6.getD (byteAt s (0 : Int)).toNat default) 4).toNat default).1)) = false, decide (((tab7.getD (shrV .u8 (tab6.getD (byteAt s (0 : Int)).toNat default) 4).toNat default).2) < (byteAt s (1 : Int))) = false, decide ((IntKind.i64.wrap (IntKind.u8.wrap (((BitVec.ofInt 8 (tab6.getD (byteAt s (0 : Int)).toNat default) &&& BitVec.ofInt 8 7).toNat : Int)))) ≤ 2) = false, 0 ≤ (2 : Int), (2 : Int) < (s.size : Int), decide ((byteAt s (2 : Int)) < 128) = true, decide ((byteAt s (2 : Int)) < 128) = true, decide ((byteAt s (2 : Int)) < 128) = true]) (r' := .tup [tI (.v (.int .i32 65533)), tI (nI 1)]) [] (by kernel_rfl) ⟨c1, (inR_lo c2), (inR_hi rfl c2), (inR_lo c3), (inR_hi tab6_len c3), (tab_el eB tab6_raw (fun _ => rfl) c3), c4, (by decide), (inR_lo c5), (inR_hi tab7_len c5), (tab_el eAR tab7_raw (fun _ => rfl) c5), c6, (inR_lo c7), (inR_hi rfl c7), c8, c8, c8, c8, c8, c9, c10, (inR_lo c11), (inR_hi rfl c11), c12, c12, c12, trivial⟩ rfl
              · rcases bif_some h with ⟨c13, h⟩ | ⟨c13, h⟩
                · obtain rfl := Option.some.inj h
                  exact finW_ok (n := 400) (gs := [.b false, .ys [.v (.int .u8 (tab6.getD (byteAt s (0 : Int)).toNat default))], .b false, .ys [.v (.int .u8 ((tab7.getD (shrV .u8 (tab6.getD (byteAt s (0 : Int)).toNat default) 4).toNat default).1)), .v (.int .u8 ((tab7.getD (shrV .u8 (tab6.getD (byteAt s (0 : Int)).toNat default) 4).toNat default).2))], .b false, .b false, .b false, .b false, .b false, .b true]) [] (ob := [decide ((s.size : Int) < 1) = false, 0 ≤ (0 : Int), (0 : Int) < (s.size : Int), 0 ≤ (byteAt s (0 : Int)), (byteAt s (0 : Int)) < (256 : Int), cutC (tab6c.map IV.v) ((byteAt s (0 : Int)).toNat * 1) 1 = [.v (.int .u8 (tab6.getD (byteAt s (0 : Int)).toNat default))], decide ((tab6.getD (byteAt s (0 : Int)).toNat default) ≥ 240) = false, 0 ≤ (4 : Int), 0 ≤ (shrV .u8 (tab6.getD (byteAt s (0 : Int)).toNat default) 4), (shrV .u8 (tab6.getD (byteAt s (0 : Int)).toNat default) 4) < (16 : Int), cutC (tab7c.map IV.v) ((shrV .u8 (tab6.getD (byteAt s (0 : Int)).toNat default) 4).toNat * 2) 2 = [.v (.int .u8 ((tab7.getD (shrV .u8 (tab6.getD (byteAt s (0 : Int)).toNat default) 4).toNat default).1)), .v (.int .u8 ((tab7.getD (shrV .u8 (tab6.getD (byteAt s (0 : Int)).toNat default) 4).toNat default).2))], decide ((s.size : Int) < (IntKind.i64.wrap (IntKind.u8.wrap (((BitVec.ofInt 8 (tab6.getD (byteAt s (0 : Int)).toNat default) &&& BitVec.ofInt 8 7).toNat : Int))))) = false, 0 ≤ (1 : Int), (1 : Int) < (s.size : Int), decide ((byteAt s (1 : Int)) < ((tab7.getD (shrV .u8 (tab6.getD (byteAt s (0 : Int)).toNat default) 4).toNat default).1)) = false, decide ((byteAt s (1 : Int)) < ((tab7.getD (shrV .u8 (tab6.getD (byteAt s (0 : Int)).toNat default) 4).toNat default).1)) = false, decide ((byteAt s (1 : Int)) < ((tab7.getD (shrV .u8 (tab6.getD (byteAt s (0 : Int)).toNat default) 4).toNat default).1)) = false, decide ((byteAt s (1 : Int)) < ((tab7.getD (shrV .u8 (tab6.getD (byteAt s (0 : Int)).toNat default) 4).toNat default).1)) = false, decide ((byteAt s (1 : Int)) < ((tab7.getD (shrV .u8 (tab6.getD (byteAt s (0 : Int)).toNat default) 4).toNat default).1)) = false, decide (((tab7.getD (shrV .u8 (tab6.getD (byteAt s (0 : Int)).toNat default) 4).toNat default).2) < (byteAt s (1 : Int))) = false, decide ((IntKind.i64.wrap (IntKind.u8.wrap (((BitVec.ofInt 8 (tab6.getD (byteAt s (0 : Int)).toNat default) &&& BitVec.ofInt 8 7).toNat : Int)))) ≤ 2) = false, 0 ≤ (2 : Int), (2 : Int) < (s.size : Int), decide ((byteAt s (2 : Int)) < 128) = false, decide ((byteAt s (2 : Int)) < 128) = false, decide ((byteAt s (2 : Int)) < 128) = false, decide (191 < (byteAt s (2 : Int))) = true]) (r' := .tup [tI (.v (.int .i32 65533)), tI (nI 1)]) [] (by kernel_rfl) ⟨c1, (inR_lo c2), (inR_hi rfl c2), (inR_lo c3), (inR_hi tab6_len c3), (tab_el eB tab6_raw (fun _ => rfl) c3), c4, (by decide), (inR_lo c5), (inR_hi tab7_len c5), (tab_el eAR tab7_raw (fun _ => rfl) c5), c6, (inR_lo c7), (inR_hi rfl c7), c8, c8, c8, c8, c8, c9, c10, (inR_lo c11), (inR_hi rfl c11), c12, c12, c12, c13, trivial⟩ rfl
                · rcases bif_some h with ⟨c14, h⟩ | ⟨c14, h⟩
                  · obtain rfl := Option.some.inj h
                    exact finW_ok (n := 400) (gs := [.b false, .ys [.v (.int .u8 (tab6.getD (byteAt s (0 : Int)).toNat default))], .b false, .ys [.v (.int .u8 ((tab7.getD (shrV .u8 (tab6.getD (byteAt s (0 : Int)).toNat default) 4).toNat default).1)), .v (.int .u8 ((tab7.getD (shrV .u8 (tab6.getD (byteAt s (0 : Int)).toNat default) 4).toNat default).2))], .b false, .b false, .b false, .b false, .b false, .b false, .b true]) [] (ob := [decide ((s.size : Int) < 1) = false, 0 ≤ (0 : Int), (0 : Int) < (s.size : Int), 0 ≤ (byteAt s (0 : Int)), (byteAt s (0 : Int)) < (256 : Int), cutC (tab6c.map IV.v) ((byteAt s (0 : Int)).toNat * 1) 1 = [.v (.int .u8 (tab6.getD (byteAt s (0 : Int)).toNat default))], decide ((tab6.getD (byteAt s (0 : Int)).toNat default) ≥ 240) = false, 0 ≤ (4 : Int), 0 ≤ (shrV .u8 (tab6.getD (byteAt s (0 : Int)).toNat default) 4), (shrV .u8 (tab6.getD (byteAt s (0 : Int)).toNat default) 4) < (16 : Int), cutC (tab7c.map IV.v) ((shrV .u8 (tab6.getD (byteAt s (0 : Int)).toNat default) 4).toNat * 2) 2 = [.v (.int .u8 ((tab7.getD (shrV .u8 (tab6.getD (byteAt s (0 : Int)).toNat default) 4).toNat default).1)), .v (.int .u8 ((tab7.getD (shrV .u8 (tab6.getD (byteAt s (0 : Int)).toNat default) 4).toNat default).2))], decide ((s.size : Int) < (IntKind.i64.wrap (IntKind.u8.wrap (((BitVec.ofInt 8 (tab6.getD (byteAt s (0 : Int)).toNat default) &&& BitVec.ofInt 8 7).toNat : Int))))) = false, 0 ≤ (1 : Int), (1 : Int) < (s.size : Int), decide ((byteAt s (1 : Int)) < ((tab7.getD (shrV .u8 (tab6.getD (byteAt s (0 : Int)).toNat default) 4).toNat default).1)) = false, decide ((byteAt s (1 : Int)) < ((tab7.getD (shrV .u8 (tab6.getD (byteAt s (0 : Int)).toNat default) 4).toNat default).1)) = false, decide ((byteAt s (1 : Int)) < ((tab7.getD (shrV .u8 (tab6.getD (byteAt s (0 : Int)).toNat default) 4).toNat default).1)) = false, decide ((byteAt s (1 : Int)) < ((tab7.getD (shrV .u8 (tab6.getD (byteAt s (0 : Int)).toNat default) 4).toNat default).1)) = false, decide ((byteAt s (1 : Int)) < ((tab7.getD (shrV .u8 (tab6.getD (byteAt s (0 : Int)).toNat default) 4).toNat default).1)) = false, decide (((tab7.getD (shrV .u8 (tab6.getD (byteAt s (0 : Int)).toNat default) 4).toNat default).2) < (byteAt s (1 : Int))) = false, decide ((IntKind.i64.wrap (IntKind.u8.wrap (((BitVec.ofInt 8 (tab6.getD (byteAt s (0 : Int)).toNat default) &&& BitVec.ofInt 8 7).toNat : Int)))) ≤ 2) = false, 0 ≤ (2 : Int), (2 : Int) < (s.size : Int), decide ((byteAt s (2 : Int)) < 128) = false, decide ((byteAt s (2 : Int)) < 128) = false, decide ((byteAt s (2 : Int)) < 128) = false, decide (191 < (byteAt s (2 : Int))) = false, decide ((IntKind.i64.wrap (IntKind.u8.wrap (((BitVec.ofInt 8 (tab6.getD (byteAt s (0 : Int)).toNat default) &&& BitVec.ofInt 8 7).toNat : Int)))) ≤ 3) = true, 0 ≤ (12 : Int), 0 ≤ (6 : Int)]) (r' := .tup [tI (.v (.int .i32 (IntKind.i32.wrap (((BitVec.ofInt 32 (IntKind.i32.wrap (((BitVec.ofInt 32 (shlV .i32 (IntKind.i32.wrap (IntKind.u8.wrap (((BitVec.ofInt 8 (byteAt s (0 : Int)) &&& BitVec.ofInt 8 15).toNat : Int)))) 12) ||| BitVec.ofInt 32 (shlV .i32 (IntKind.i32.wrap (IntKind.u8.wrap (((BitVec.ofInt 8 (byteAt s (1 : Int)) &&& BitVec.ofInt 8 63).toNat : Int)))) 6)).toNat : Int))) ||| BitVec.ofInt 32 (IntKind.i32.wrap (IntKind.u8.wrap (((BitVec.ofInt 8 (byteAt s (2 : Int)) &&& BitVec.ofInt 8 63).toNat : Int))))).toNat : Int))))), tI (nI 3)]) [] (by kernel_rfl) ⟨c1, (inR_lo c2), (inR_hi rfl c2), (inR_lo c3), (inR_hi tab6_len c3), (tab_el eB tab6_raw (fun _ => rfl) c3), c4, (by decide), (inR_lo c5), (inR_hi tab7_len c5), (tab_el eAR tab7_raw (fun _ => rfl) c5), c6, (inR_lo c7), (inR_hi rfl c7), c8, c8, c8, c8, c8, c9, c10, (inR_lo c11), (inR_hi rfl c11), c12, c12, c12, c13, c14, (by decide), (by decide), trivial⟩ rfl
                  · obtain ⟨c15, h⟩ := chk_some h
                    rcases bif_some h with ⟨c16, h⟩ | ⟨c16, h⟩
                    · obtain rfl := Option.some.inj h
                      exact finW_ok (n := 400) (gs := [.b false, .ys [.v (.int .u8 (tab6.getD (byteAt s (0 : Int)).toNat default))], .b false, .ys [.v (.int .u8 ((tab7.getD (shrV .u8 (tab6.getD (byteAt s (0 : Int)).toNat default) 4).toNat default).1)), .v (.int .u8 ((tab7.getD (shrV .u8 (tab6.getD (byteAt s (0 : Int)).toNat default) 4).toNat default).2))], .b false, .b false, .b false, .b false, .b false, .b false, .b false, .b true, .a 1]) [] (ob := [decide ((s.size : Int) < 1) = false, 0 ≤ (0 : Int), (0 : Int) < (s.size : Int), 0 ≤ (byteAt s (0 : Int)), (byteAt s (0 : Int)) < (256 : Int), cutC (tab6c.map IV.v) ((byteAt s (0 : Int)).toNat * 1) 1 = [.v (.int .u8 (tab6.getD (byteAt s (0 : Int)).toNat default))], decide ((tab6.getD (byteAt s (0 : Int)).toNat default) ≥ 240) = false, 0 ≤ (4 : Int), 0 ≤ (shrV .u8 (tab6.getD (byteAt s (0 : Int)).toNat default) 4), (shrV .u8 (tab6.getD (byteAt s (0 : Int)).toNat default) 4) < (16 : Int), cutC (tab7c.map IV.v) ((shrV .u8 (tab6.getD (byteAt s (0 : Int)).toNat default) 4).toNat * 2) 2 = [.v (.int .u8 ((tab7.getD (shrV .u8 (tab6.getD (byteAt s (0 : Int)).toNat default) 4).toNat default).1)), .v (.int .u8 ((tab7.getD (shrV .u8 (tab6.getD (byteAt s (0 : Int)).toNat default) 4).toNat default).2))], decide ((s.size : Int) < (IntKind.i64.wrap (IntKind.u8.wrap (((BitVec.ofInt 8 (tab6.getD (byteAt s (0 : Int)).toNat default) &&& BitVec.ofInt 8 7).toNat : Int))))) = false, 0 ≤ (1 : Int), (1 : Int) < (s.size : Int), decide ((byteAt s (1 : Int)) < ((tab7.getD (shrV .u8 (tab6.getD (byteAt s (0 : Int)).toNat default) 4).toNat default).1)) = false, decide ((byteAt s (1 : Int)) < ((tab7.getD (shrV .u8 (tab6.getD (byteAt s (0 : Int)).toNat default) 4).toNat default).1)) = false, decide ((byteAt s (1 : Int)) < ((tab7.getD (shrV .u8 (tab6.getD (byteAt s (0 : Int)).toNat default) 4).toNat default).1)) = false, decide ((byteAt s (1 : Int)) < ((tab7.getD (shrV .u8 (tab6.getD (byteAt s (0 : Int)).toNat default) 4).toNat default).1)) = false, decide ((byteAt s (1 : Int)) < ((tab7.getD (shrV .u8 (tab6.getD (byteAt s (0 : Int)).toNat default) 4).toNat default).1)) = false, decide (((tab7.getD (shrV .u8 (tab6.getD (byteAt s (0 : Int)).toNat default) 4).toNat default).2) < (byteAt s (1 : Int))) = false, decide ((IntKind.i64.wrap (IntKind.u8.wrap (((BitVec.ofInt 8 (tab6.getD (byteAt s (0 : Int)).toNat default) &&& BitVec.ofInt 8 7).toNat : Int)))) ≤ 2) = false, 0 ≤ (2 : Int), (2 : Int) < (s.size : Int), decide ((byteAt s (2 : Int)) < 128) = false, decide ((byteAt s (2 : Int)) < 128) = false, decide ((byteAt s (2 : Int)) < 128) = false, decide (191 < (byteAt s (2 : Int))) = false, decide ((IntKind.i64.wrap (IntKind.u8.wrap (((BitVec.ofInt 8 (tab6.getD (byteAt s (0 : Int)).toNat default) &&& BitVec.ofInt 8 7).toNat : Int)))) ≤ 3) = false, 0 ≤ (3 : Int), (3 : Int) < (s.size : Int), decide ((byteAt s (3 : Int)) < 128) = true, decide ((byteAt s (3 : Int)) < 128) = true, decide ((byteAt s (3 : Int)) < 128) = true]) (r' := .tup [tI (.v (.int .i32 65533)), tI (nI 1)]) [] (by kernel_rfl) ⟨c1, (inR_lo c2), (inR_hi rfl c2), (inR_lo c3), (inR_hi tab6_len c3), (tab_el eB tab6_raw (fun _ => rfl) c3), c4, (by decide), (inR_lo c5), (inR_hi tab7_len c5), (tab_el eAR tab7_raw (fun _ => rfl) c5), c6, (inR_lo c7), (inR_hi rfl c7), c8, c8, c8, c8, c8, c9, c10, (inR_lo c11), (inR_hi rfl c11), c12, c12, c12, c13, c14, (inR_lo c15), (inR_hi rfl c15), c16, c16, c16, trivial⟩ rfl
                    · rcases bif_some h with ⟨c17, h⟩ | ⟨c17, h⟩
                      · obtain rfl := Option.some.inj h
                        exact finW_ok (n := 400) (gs := [.b false, .ys [.v (.int .u8 (tab6.getD (byteAt s (0 : Int)).toNat default))], .b false, .ys [.v (.int .u8 ((tab7.getD (shrV .u8 (tab6.getD (byteAt s (0 : Int)).toNat default) 4).toNat default).1)), .v (.int .u8 ((tab7.getD (shrV .u8 (tab6.getD (byteAt s (0 : Int)).toNat default) 4).toNat default).2))], .b false, .b false, .b false, .b false, .b false, .b false, .b false, .b false, .b true]) [] (ob := [decide ((s.size : Int) < 1) = false, 0 ≤ (0 : Int), (0 : Int) < (s.size : Int), 0 ≤ (byteAt s (0 : Int)), (byteAt s (0 : Int)) < (256 : Int), cutC (tab6c.map IV.v) ((byteAt s (0 : Int)).toNat * 1) 1 = [.v (.int .u8 (tab6.getD (byteAt s (0 : Int)).toNat default))], decide ((tab6.getD (byteAt s (0 : Int)).toNat default) ≥ 240) = false, 0 ≤ (4 : Int), 0 ≤ (shrV .u8 (tab6.getD (byteAt s (0 : Int)).toNat default) 4), (shrV .u8 (tab6.getD (byteAt s (0 : Int)).toNat default) 4) < (16 : Int), cutC (tab7c.map IV.v) ((shrV .u8 (tab6.getD (byteAt s (0 : Int)).toNat default) 4).toNat * 2) 2 = [.v (.int .u8 ((tab7.getD (shrV .u8 (tab6.getD (byteAt s (0 : Int)).toNat default) 4).toNat default).1)), .v (.int .u8 ((tab7.getD (shrV .u8 (tab6.getD (byteAt s (0 : Int)).toNat default) 4).toNat default).2))], decide ((s.size : Int) < (IntKind.i64.wrap (IntKind.u8.wrap (((BitVec.ofInt 8 (tab6.getD (byteAt s (0 : Int)).toNat default) &&& BitVec.ofInt 8 7).toNat : Int))))) = false, 0 ≤ (1 : Int), (1 : Int) < (s.size : Int), decide ((byteAt s (1 : Int)) < ((tab7.getD (shrV .u8 (tab6.getD (byteAt s (0 : Int)).toNat default) 4).toNat default).1)) = false, decide ((byteAt s (1 : Int)) < ((tab7.getD (shrV .u8 (tab6.getD (byteAt s (0 : Int)).toNat default) 4).toNat default).1)) = false, decide ((byteAt s (1 : Int)) < ((tab7.getD (shrV .u8 (tab6.getD (byteAt s (0 : Int)).toNat default) 4).toNat default).1)) = false, decide ((byteAt s (1 : Int)) < ((tab7.getD (shrV .u8 (tab6.getD (byteAt s (0 : Int)).toNat default) 4).toNat default).1)) = false, decide ((byteAt s (1 : Int)) < ((tab7.getD (shrV .u8 (tab6.getD (byteAt s (0 : Int)).toNat default) 4).toNat default).1)) = false, decide (((tab7.getD (shrV .u8 (tab6.getD (byteAt s (0 : Int)).toNat default) 4).toNat default).2) < (byteAt s (1 : Int))) = false, decide ((IntKind.i64.wrap (IntKind.u8.wrap (((BitVec.ofInt 8 (tab6.getD (byteAt s (0 : Int)).toNat default) &&& BitVec.ofInt 8 7).toNat : Int)))) ≤ 2) = false, 0 ≤ (2 : Int), (2 : Int) < (s.size : Int), decide ((byteAt s (2 : Int)) < 128) = false, decide ((byteAt s (2 : Int)) < 128) = false, decide ((byteAt s (2 : Int)) < 128) = false, decide (191 < (byteAt s (2 : Int))) = false, decide ((IntKind.i64.wrap (IntKind.u8.wrap (((BitVec.ofInt 8 (tab6.getD (byteAt s (0 : Int)).toNat default) &&& BitVec.ofInt 8 7).toNat : Int)))) ≤ 3) = false, 0 ≤ (3 : Int), (3 : Int) < (s.size : Int), decide ((byteAt s (3 : Int)) < 128) = false, decide ((byteAt s (3 : Int)) < 128) = false, decide ((byteAt s (3 : Int)) < 128) = false, decide (191 < (byteAt s (3 : Int))) = true]) (r' := .tup [tI (.v (.int .i32 65533)), tI (nI 1)]) [] (by kernel_rfl) ⟨c1, (inR_lo c2), (inR_hi rfl c2), (inR_lo c3), (inR_hi tab6_len c3), (tab_el eB tab6_raw (fun _ => rfl) c3), c4, (by decide), (inR_lo c5), (inR_hi tab7_len c5), (tab_el eAR tab7_raw (fun _ => rfl) c5), c6, (inR_lo c7), (inR_hi rfl c7), c8, c8, c8, c8, c8, c9, c10, (inR_lo c11), (inR_hi rfl c11), c12, c12, c12, c13, c14, (inR_lo c15), (inR_hi rfl c15), c16, c16, c16, c17, trivial⟩ rfl
                      · obtain rfl := Option.some.inj h
                        exact finW_ok (n := 400) (gs := [.b false, .ys [.v (.int .u8 (tab6.getD (byteAt s (0 : Int)).toNat default))], .b false, .ys [.v (.int .u8 ((tab7.getD (shrV .u8 (tab6.getD (byteAt s (0 : Int)).toNat default) 4).toNat default).1)), .v (.int .u8 ((tab7.getD (shrV .u8 (tab6.getD (byteAt s (0 : Int)).toNat default) 4).toNat default).2))], .b false, .b false, .b false, .b false, .b false, .b false, .b false, .b false, .b false]) [] (ob := [decide ((s.size : Int) < 1) = false, 0 ≤ (0 : Int), (0 : Int) < (s.size : Int), 0 ≤ (byteAt s (0 : Int)), (byteAt s (0 : Int)) < (256 : Int), cutC (tab6c.map IV.v) ((byteAt s (0 : Int)).toNat * 1) 1 = [.v (.int .u8 (tab6.getD (byteAt s (0 : Int)).toNat default))], decide ((tab6.getD (byteAt s (0 : Int)).toNat default) ≥ 240) = false, 0 ≤ (4 : Int), 0 ≤ (shrV .u8 (tab6.getD (byteAt s (0 : Int)).toNat default) 4), (shrV .u8 (tab6.getD (byteAt s (0 : Int)).toNat default) 4) < (16 : Int), cutC (tab7c.map IV.v) ((shrV .u8 (tab6.getD (byteAt s (0 : Int)).toNat default) 4).toNat * 2) 2 = [.v (.int .u8 ((tab7.getD (shrV .u8 (tab6.getD (byteAt s (0 : Int)).toNat default) 4).toNat default).1)), .v (.int .u8 ((tab7.getD (shrV .u8 (tab6.getD (byteAt s (0 : Int)).toNat default) 4).toNat default).2))], decide ((s.size : Int) < (IntKind.i64.wrap (IntKind.u8.wrap (((BitVec.ofInt 8 (tab6.getD (byteAt s (0 : Int)).toNat default) &&& BitVec.ofInt 8 7).toNat : Int))))) = false, 0 ≤ (1 : Int), (1 : Int) < (s.size : Int), decide ((byteAt s (1 : Int)) < ((tab7.getD (shrV .u8 (tab6.getD (byteAt s (0 : Int)).toNat default) 4).toNat default).1)) = false, decide ((byteAt s (1 : Int)) < ((tab7.getD (shrV .u8 (tab6.getD (byteAt s (0 : Int)).toNat default) 4).toNat default).1)) = false, decide ((byteAt s (1 : Int)) < ((tab7.getD (shrV .u8 (tab6.getD (byteAt s (0 : Int)).toNat default) 4).toNat default).1)) = false, decide ((byteAt s (1 : Int)) < ((tab7.getD (shrV .u8 (tab6.getD (byteAt s (0 : Int)).toNat default) 4).toNat default).1)) = false, decide ((byteAt s (1 : Int)) < ((tab7.getD (shrV .u8 (tab6.getD (byteAt s (0 : Int)).toNat default) 4).toNat default).1)) = false, decide (((tab7.getD (shrV .u8 (tab6.getD (byteAt s (0 : Int)).toNat default) 4).toNat default).2) < (byteAt s (1 : Int))) = false, decide ((IntKind.i64.wrap (IntKind.u8.wrap (((BitVec.ofInt 8 (tab6.getD (byteAt s (0 : Int)).toNat default) &&& BitVec.ofInt 8 7).toNat : Int)))) ≤ 2) = false, 0 ≤ (2 : Int), (2 : Int) < (s.size : Int), decide ((byteAt s (2 : Int)) < 128) = false, decide ((byteAt s (2 : Int)) < 128) = false, decide ((byteAt s (2 : Int)) < 128) = false, decide (191 < (byteAt s (2 : Int))) = false, decide ((IntKind.i64.wrap (IntKind.u8.wrap (((BitVec.ofInt 8 (tab6.getD (byteAt s (0 : Int)).toNat default) &&& BitVec.ofInt 8 7).toNat : Int)))) ≤ 3) = false, 0 ≤ (3 : Int), (3 : Int) < (s.size : Int), decide ((byteAt s (3 : Int)) < 128) = false, decide ((byteAt s (3 : Int)) < 128) = false, decide ((byteAt s (3 : Int)) < 128) = false, decide (191 < (byteAt s (3 : Int))) = false, 0 ≤ (18 : Int), 0 ≤ (12 : Int), 0 ≤ (6 : Int)]) (r' := .tup [tI (.v (.int .i32 (IntKind.i32.wrap (((BitVec.ofInt 32 (IntKind.i32.wrap (((BitVec.ofInt 32 (IntKind.i32.wrap (((BitVec.ofInt 32 (shlV .i32 (IntKind.i32.wrap (IntKind.u8.wrap (((BitVec.ofInt 8 (byteAt s (0 : Int)) &&& BitVec.ofInt 8 7).toNat : Int)))) 18) ||| BitVec.ofInt 32 (shlV .i32 (IntKind.i32.wrap (IntKind.u8.wrap (((BitVec.ofInt 8 (byteAt s (1 : Int)) &&& BitVec.ofInt 8 63).toNat : Int)))) 12)).toNat : Int))) ||| BitVec.ofInt 32 (shlV .i32 (IntKind.i32.wrap (IntKind.u8.wrap (((BitVec.ofInt 8 (byteAt s (2 : Int)) &&& BitVec.ofInt 8 63).toNat : Int)))) 6)).toNat : Int))) ||| BitVec.ofInt 32 (IntKind.i32.wrap (IntKind.u8.wrap (((BitVec.ofInt 8 (byteAt s (3 : Int)) &&& BitVec.ofInt 8 63).toNat : Int))))).toNat : Int))))), tI (nI 4)]) [] (by kernel_rfl) ⟨c1, (inR_lo c2), (inR_hi rfl c2), (inR_lo c3), (inR_hi tab6_len c3), (tab_el eB tab6_raw (fun _ => rfl) c3), c4, (by decide), (inR_lo c5), (inR_hi tab7_len c5), (tab_el eAR tab7_raw (fun _ => rfl) c5), c6, (inR_lo c7), (inR_hi rfl c7), c8, c8, c8, c8, c8, c9, c10, (inR_lo c11), (inR_hi rfl c11), c12, c12, c12, c13, c14, (inR_lo c15), (inR_hi rfl c15), c16, c16, c16, c17, (by decide), (by decide), (by decide), trivial⟩ rfl
def decRune.sem (N : Nat) (s : ByteArray) : Option (Int × Int) :=
    bif (!(s.toList == (⟨#[]⟩ : ByteArray).toList)) then
      bif inR (0 : Int) s.size then
        bif decide ((byteAt s (0 : Int)) < 128) then
        some (IntKind.i32.wrap (byteAt s (0 : Int)), 1)
      else
        (decSlow.sem N s).bind fun y0 =>
        some (y0.1, y0.2)
      else none
    else
      (decSlow.sem N s).bind fun y0 =>
      some (y0.1, y0.2)
set_option maxHeartbeats 1000000 in
theorem decRune.ok (N : Nat) (s : ByteArray) (r : (Int × Int)) (h : decRune.sem N s = some r) : Ok Tryd.prog 154 [tI (sI s)] (.tup [tI (.v (.int .i32 r.1)), tI (nI r.2)]) := by
  unfold decRune.sem at h
  refine fnW_ok Tryd.func154 (by kernel_rfl) rfl rfl fun F hF => ?_
  rcases bif_some h with ⟨c1, h⟩ | ⟨c1, h⟩
  · obtain ⟨c2, h⟩ := chk_some h
    rcases bif_some h with ⟨c3, h⟩ | ⟨c3, h⟩
    · obtain rfl := Option.some.inj h
      exact finW_ok (n := 400) (gs := [.b true, .b true]) [] (ob := [(!(s.toList == (⟨#[]⟩ : ByteArray).toList)) = true, (!(s.toList == (⟨#[]⟩ : ByteArray).toList)) = true, 0 ≤ (0 : Int), (0 : Int) < (s.size : Int), (!(s.toList == (⟨#[]⟩ : ByteArray).toList)) = true, (!(s.toList == (⟨#[]⟩ : ByteArray).toList)) = true, decide ((byteAt s (0 : Int)) < 128) = true, 0 ≤ (0 : Int), (0 : Int) < (s.size : Int)]) (r' := .tup [tI (.v (.int .i32 (IntKind.i32.wrap (byteAt s (0 : Int))))), tI (nI 1)]) [] (by kernel_rfl) ⟨c1, c1, (inR_lo c2), (inR_hi rfl c2), c1, c1, c3, (inR_lo c2), (inR_hi rfl c2), trivial⟩ rfl
    · obtain ⟨y0, c4, h⟩ := bind_some' h
      obtain rfl := Option.some.inj h
      exact finW_ok (n := 400) (gs := [.b true, .b false, .r (.tup [tI (.v (.int .i32 y0.1)), tI (nI y0.2)])]) [] (ob := [(!(s.toList == (⟨#[]⟩ : ByteArray).toList)) = true, (!(s.toList == (⟨#[]⟩ : ByteArray).toList)) = true, 0 ≤ (0 : Int), (0 : Int) < (s.size : Int), (!(s.toList == (⟨#[]⟩ : ByteArray).toList)) = true, (!(s.toList == (⟨#[]⟩ : ByteArray).toList)) = true, decide ((byteAt s (0 : Int)) < 128) = false, Ok Tryd.prog 165 [tI (sI s)] (.tup [tI (.v (.int .i32 y0.1)), tI (nI y0.2)])]) (r' := .tup [tI (.v (.int .i32 y0.1)), tI (nI y0.2)]) [] (by kernel_rfl) ⟨c1, c1, (inR_lo c2), (inR_hi rfl c2), c1, c1, c3, (decSlow.ok N s y0 c4), trivial⟩ rfl
  · obtain ⟨y0, c5, h⟩ := bind_some' h
    obtain rfl := Option.some.inj h
    exact finW_ok (n := 400) (gs := [.b false, .a 1, .r (.tup [tI (.v (.int .i32 y0.1)), tI (nI y0.2)])]) [] (ob := [(!(s.toList == (⟨#[]⟩ : ByteArray).toList)) = false, (!(s.toList == (⟨#[]⟩ : ByteArray).toList)) = false, (!(s.toList == (⟨#[]⟩ : ByteArray).toList)) = false, (!(s.toList == (⟨#[]⟩ : ByteArray).toList)) = false, Ok Tryd.prog 165 [tI (sI s)] (.tup [tI (.v (.int .i32 y0.1)), tI (nI y0.2)])]) (r' := .tup [tI (.v (.int .i32 y0.1)), tI (nI y0.2)]) [] (by kernel_rfl) ⟨c1, c1, c1, c1, (decSlow.ok N s y0 c5), trivial⟩ rfl
def take16.sem (N : Nat) (s : ByteArray) : Option (Int × Int) :=
    bif decide ((s.size : Int) < 2) then
      some (0, 0)
    else
      bif inR (0 : Int) s.size then
        bif inR (1 : Int) s.size then
          bif decide ((IntKind.i64.wrap (((BitVec.ofInt 64 (IntKind.i64.wrap (byteAt s (0 : Int))) ||| BitVec.ofInt 64 (shlV .i64 (IntKind.i64.wrap (byteAt s (1 : Int))) 8)).toNat : Int))) < 55296) then
        some (IntKind.i64.wrap (((BitVec.ofInt 64 (IntKind.i64.wrap (byteAt s (0 : Int))) ||| BitVec.ofInt 64 (shlV .i64 (IntKind.i64.wrap (byteAt s (1 : Int))) 8)).toNat : Int)), 2)
      else
        bif decide ((IntKind.i64.wrap (((BitVec.ofInt 64 (IntKind.i64.wrap (byteAt s (0 : Int))) ||| BitVec.ofInt 64 (shlV .i64 (IntKind.i64.wrap (byteAt s (1 : Int))) 8)).toNat : Int))) > 57343) then
          some (IntKind.i64.wrap (((BitVec.ofInt 64 (IntKind.i64.wrap (byteAt s (0 : Int))) ||| BitVec.ofInt 64 (shlV .i64 (IntKind.i64.wrap (byteAt s (1 : Int))) 8)).toNat : Int)), 2)
        else
          bif decide ((IntKind.i64.wrap (((BitVec.ofInt 64 (IntKind.i64.wrap (byteAt s (0 : Int))) ||| BitVec.ofInt 64 (shlV .i64 (IntKind.i64.wrap (byteAt s (1 : Int))) 8)).toNat : Int))) ≥ 56320) then
            some (0, 0)
          else
            bif decide ((s.size : Int) < 4) then
              some (0, 0)
            else
              bif inR (2 : Int) s.size then
                bif inR (3 : Int) s.size then
                  bif decide ((IntKind.i64.wrap (((BitVec.ofInt 64 (IntKind.i64.wrap (byteAt s (2 : Int))) ||| BitVec.ofInt 64 (shlV .i64 (IntKind.i64.wrap (byteAt s (3 : Int))) 8)).toNat : Int))) < 56320) then
                some (0, 0)
              else
                bif decide ((IntKind.i64.wrap (((BitVec.ofInt 64 (IntKind.i64.wrap (byteAt s (2 : Int))) ||| BitVec.ofInt 64 (shlV .i64 (IntKind.i64.wrap (byteAt s (3 : Int))) 8)).toNat : Int))) > 57343) then
                  some (0, 0)
                else
                  some (IntKind.i64.wrap ((IntKind.i64.wrap ((IntKind.i64.wrap (65536 + (shlV .i64 (IntKind.i64.wrap ((IntKind.i64.wrap (((BitVec.ofInt 64 (IntKind.i64.wrap (byteAt s (0 : Int))) ||| BitVec.ofInt 64 (shlV .i64 (IntKind.i64.wrap (byteAt s (1 : Int))) 8)).toNat : Int))) - 55296)) 10))) + (IntKind.i64.wrap (((BitVec.ofInt 64 (IntKind.i64.wrap (byteAt s (2 : Int))) ||| BitVec.ofInt 64 (shlV .i64 (IntKind.i64.wrap (byteAt s (3 : Int))) 8)).toNat : Int))))) - 56320), 4)
                else none
              else none
        else none
      else none
set_option maxHeartbeats 1000000 in
theorem take16.ok (N : Nat) (s : ByteArray) (r : (Int × Int)) (h : take16.sem N s = some r) : Ok Tryd.prog 155 [tI (sI s)] (.tup [tI (nI r.1), tI (nI r.2)]) := by
  unfold take16.sem at h
  refine fnW_ok Tryd.func155 (by kernel_rfl) rfl rfl fun F hF => ?_
  rcases bif_some h with ⟨c1, h⟩ | ⟨c1, h⟩
  · obtain rfl := Option.some.inj h
    exact finW_ok (n := 400) (gs := [.b true]) [] (ob := [decide ((s.size : Int) < 2) = true]) (r' := .tup [tI (nI 0), tI (nI 0)]) [] (by kernel_rfl) ⟨c1, trivial⟩ rfl
  · obtain ⟨c2, h⟩ := chk_some h
    obtain ⟨c3, h⟩ := chk_some h
    refine drx_ok (n := 400) (gs := [.b false]) [[], [], [], [], [], [], [], [], []] [0, 2, 3, 4] [] (ob := [decide ((s.size : Int) < 2) = false, 0 ≤ (0 : Int), (0 : Int) < (s.size : Int), 0 ≤ (1 : Int), (1 : Int) < (s.size : Int), 0 ≤ (8 : Int)]) (K' := dK (codeOf Tryd.f155) 0) (σ' := ⟨mkT_ 52 [(0, aI (sI s)), (2, aI (nI 0)), (3, aI (nI 0)), (4, aI (nI (IntKind.i64.wrap (((BitVec.ofInt 64 (IntKind.i64.wrap (byteAt s (0 : Int))) ||| BitVec.ofInt 64 (shlV .i64 (IntKind.i64.wrap (byteAt s (1 : Int))) 8)).toNat : Int)))))], []⟩) (by kernel_rfl) ⟨c1, (inR_lo c2), (inR_hi rfl c2), (inR_lo c3), (inR_hi rfl c3), (by decide), trivial⟩ ?_
    rcases bif_some h with ⟨c4, h⟩ | ⟨c4, h⟩
    · obtain rfl := Option.some.inj h
      exact finW_ok (n := 400) (gs := [.b true, .a 1]) [] (ob := [decide ((IntKind.i64.wrap (((BitVec.ofInt 64 (IntKind.i64.wrap (byteAt s (0 : Int))) ||| BitVec.ofInt 64 (shlV .i64 (IntKind.i64.wrap (byteAt s (1 : Int))) 8)).toNat : Int))) < 55296) = true, decide ((IntKind.i64.wrap (((BitVec.ofInt 64 (IntKind.i64.wrap (byteAt s (0 : Int))) ||| BitVec.ofInt 64 (shlV .i64 (IntKind.i64.wrap (byteAt s (1 : Int))) 8)).toNat : Int))) < 55296) = true, decide ((IntKind.i64.wrap (((BitVec.ofInt 64 (IntKind.i64.wrap (byteAt s (0 : Int))) ||| BitVec.ofInt 64 (shlV .i64 (IntKind.i64.wrap (byteAt s (1 : Int))) 8)).toNat : Int))) < 55296) = true]) (r' := .tup [tI (nI (IntKind.i64.wrap (((BitVec.ofInt 64 (IntKind.i64.wrap (byteAt s (0 : Int))) ||| BitVec.ofInt 64 (shlV .i64 (IntKind.i64.wrap (byteAt s (1 : Int))) 8)).toNat : Int)))), tI (nI 2)]) [] (by kernel_rfl) ⟨c4, c4, c4, trivial⟩ rfl
    · rcases bif_some h with ⟨c5, h⟩ | ⟨c5, h⟩
      · obtain rfl := Option.some.inj h
        exact finW_ok (n := 400) (gs := [.b false, .b true]) [] (ob := [decide ((IntKind.i64.wrap (((BitVec.ofInt 64 (IntKind.i64.wrap (byteAt s (0 : Int))) ||| BitVec.ofInt 64 (shlV .i64 (IntKind.i64.wrap (byteAt s (1 : Int))) 8)).toNat : Int))) < 55296) = false, decide ((IntKind.i64.wrap (((BitVec.ofInt 64 (IntKind.i64.wrap (byteAt s (0 : Int))) ||| BitVec.ofInt 64 (shlV .i64 (IntKind.i64.wrap (byteAt s (1 : Int))) 8)).toNat : Int))) < 55296) = false, decide ((IntKind.i64.wrap (((BitVec.ofInt 64 (IntKind.i64.wrap (byteAt s (0 : Int))) ||| BitVec.ofInt 64 (shlV .i64 (IntKind.i64.wrap (byteAt s (1 : Int))) 8)).toNat : Int))) < 55296) = false, decide ((IntKind.i64.wrap (((BitVec.ofInt 64 (IntKind.i64.wrap (byteAt s (0 : Int))) ||| BitVec.ofInt 64 (shlV .i64 (IntKind.i64.wrap (byteAt s (1 : Int))) 8)).toNat : Int))) > 57343) = true]) (r' := .tup [tI (nI (IntKind.i64.wrap (((BitVec.ofInt 64 (IntKind.i64.wrap (byteAt s (0 : Int))) ||| BitVec.ofInt 64 (shlV .i64 (IntKind.i64.wrap (byteAt s (1 : Int))) 8)).toNat : Int)))), tI (nI 2)]) [] (by kernel_rfl) ⟨c4, c4, c4, c5, trivial⟩ rfl
      · rcases bif_some h with ⟨c6, h⟩ | ⟨c6, h⟩
        · obtain rfl := Option.some.inj h
          exact finW_ok (n := 400) (gs := [.b false, .b false, .b true, .a 1]) [] (ob := [decide ((IntKind.i64.wrap (((BitVec.ofInt 64 (IntKind.i64.wrap (byteAt s (0 : Int))) ||| BitVec.ofInt 64 (shlV .i64 (IntKind.i64.wrap (byteAt s (1 : Int))) 8)).toNat : Int))) < 55296) = false, decide ((IntKind.i64.wrap (((BitVec.ofInt 64 (IntKind.i64.wrap (byteAt s (0 : Int))) ||| BitVec.ofInt 64 (shlV .i64 (IntKind.i64.wrap (byteAt s (1 : Int))) 8)).toNat : Int))) < 55296) = false, decide ((IntKind.i64.wrap (((BitVec.ofInt 64 (IntKind.i64.wrap (byteAt s (0 : Int))) ||| BitVec.ofInt 64 (shlV .i64 (IntKind.i64.wrap (byteAt s (1 : Int))) 8)).toNat : Int))) < 55296) = false, decide ((IntKind.i64.wrap (((BitVec.ofInt 64 (IntKind.i64.wrap (byteAt s (0 : Int))) ||| BitVec.ofInt 64 (shlV .i64 (IntKind.i64.wrap (byteAt s (1 : Int))) 8)).toNat : Int))) > 57343) = false, decide ((IntKind.i64.wrap (((BitVec.ofInt 64 (IntKind.i64.wrap (byteAt s (0 : Int))) ||| BitVec.ofInt 64 (shlV .i64 (IntKind.i64.wrap (byteAt s (1 : Int))) 8)).toNat : Int))) ≥ 56320) = true, decide ((IntKind.i64.wrap (((BitVec.ofInt 64 (IntKind.i64.wrap (byteAt s (0 : Int))) ||| BitVec.ofInt 64 (shlV .i64 (IntKind.i64.wrap (byteAt s (1 : Int))) 8)).toNat : Int))) ≥ 56320) = true, decide ((IntKind.i64.wrap (((BitVec.ofInt 64 (IntKind.i64.wrap (byteAt s (0 : Int))) ||| BitVec.ofInt 64 (shlV .i64 (IntKind.i64.wrap (byteAt s (1 : Int))) 8)).toNat : Int))) ≥ 56320) = true, decide ((IntKind.i64.wrap (((BitVec.ofInt 64 (IntKind.i64.wrap (byteAt s (0 : Int))) ||| BitVec.ofInt 64 (shlV .i64 (IntKind.i64.wrap (byteAt s (1 : Int))) 8)).toNat : Int))) ≥ 56320) = true]) (r' := .tup [tI (nI 0), tI (nI 0)]) [] (by kernel_rfl) ⟨c4, c4, c4, c5, c6, c6, c6, c6, trivial⟩ rfl
        · rcases bif_some h with ⟨c7, h⟩ | ⟨c7, h⟩
          · obtain rfl := Option.some.inj h
            exact finW_ok (n := 400) (gs := [.b false, .b false, .b false, .b true]) [] (ob := [decide ((IntKind.i64.wrap (((BitVec.ofInt 64 (IntKind.i64.wrap (byteAt s (0 : Int))) ||| BitVec.ofInt 64 (shlV .i64 (IntKind.i64.wrap (byteAt s (1 : Int))) 8)).toNat : Int))) < 55296) = false, decide ((IntKind.i64.wrap (((BitVec.ofInt 64 (IntKind.i64.wrap (byteAt s (0 : Int))) ||| BitVec.ofInt 64 (shlV .i64 (IntKind.i64.wrap (byteAt s (1 : Int))) 8)).toNat : Int))) < 55296) = false, decide ((IntKind.i64.wrap (((BitVec.ofInt 64 (IntKind.i64.wrap (byteAt s (0 : Int))) ||| BitVec.ofInt 64 (shlV .i64 (IntKind.i64.wrap (byteAt s (1 : Int))) 8)).toNat : Int))) < 55296) = false, decide ((IntKind.i64.wrap (((BitVec.ofInt 64 (IntKind.i64.wrap (byteAt s (0 : Int))) ||| BitVec.ofInt 64 (shlV .i64 (IntKind.i64.wrap (byteAt s (1 : Int))) 8)).toNat : Int))) > 57343) = false, decide ((IntKind.i64.wrap (((BitVec.ofInt 64 (IntKind.i64.wrap (byteAt s (0 : Int))) ||| BitVec.ofInt 64 (shlV .i64 (IntKind.i64.wrap (byteAt s (1 : Int))) 8)).toNat : Int))) ≥ 56320) = false, decide ((IntKind.i64.wrap (((BitVec.ofInt 64 (IntKind.i64.wrap (byteAt s (0 : Int))) ||| BitVec.ofInt 64 (shlV .i64 (IntKind.i64.wrap (byteAt s (1 : Int))) 8)).toNat : Int))) ≥ 56320) = false, decide ((IntKind.i64.wrap (((BitVec.ofInt 64 (IntKind.i64.wrap (byteAt s (0 : Int))) ||| BitVec.ofInt 64 (shlV .i64 (IntKind.i64.wrap (byteAt s (1 : Int))) 8)).toNat : Int))) ≥ 56320) = false, decide ((IntKind.i64.wrap (((BitVec.ofInt 64 (IntKind.i64.wrap (byteAt s (0 : Int))) ||| BitVec.ofInt 64 (shlV .i64 (IntKind.i64.wrap (byteAt s (1 : Int))) 8)).toNat : Int))) ≥ 56320) = false, decide ((s.size : Int) < 4) = true]) (r' := .tup [tI (nI 0), tI (nI 0)]) [] (by kernel_rfl) ⟨c4, c4, c4, c5, c6, c6, c6, c6, c7, trivial⟩ rfl
          · obtain ⟨c8, h⟩ := chk_some h
            obtain ⟨c9, h⟩ := chk_some h
            refine drx_ok (n := 400) (gs := [.b false, .b false, .b false, .b false]) [[], [], [], [], [], [], [], [], []] [2, 3, 4, 5] [] (ob := [decide ((IntKind.i64.wrap (((BitVec.ofInt 64 (IntKind.i64.wrap (byteAt s (0 : Int))) ||| BitVec.ofInt 64 (shlV .i64 (IntKind.i64.wrap (byteAt s (1 : Int))) 8)).toNat : Int))) < 55296) = false, decide ((IntKind.i64.wrap (((BitVec.ofInt 64 (IntKind.i64.wrap (byteAt s (0 : Int))) ||| BitVec.ofInt 64 (shlV .i64 (IntKind.i64.wrap (byteAt s (1 : Int))) 8)).toNat : Int))) < 55296) = false, decide ((IntKind.i64.wrap (((BitVec.ofInt 64 (IntKind.i64.wrap (byteAt s (0 : Int))) ||| BitVec.ofInt 64 (shlV .i64 (IntKind.i64.wrap (byteAt s (1 : Int))) 8)).toNat : Int))) < 55296) = false, decide ((IntKind.i64.wrap (((BitVec.ofInt 64 (IntKind.i64.wrap (byteAt s (0 : Int))) ||| BitVec.ofInt 64 (shlV .i64 (IntKind.i64.wrap (byteAt s (1 : Int))) 8)).toNat : Int))) > 57343) = false, decide ((IntKind.i64.wrap (((BitVec.ofInt 64 (IntKind.i64.wrap (byteAt s (0 : Int))) ||| BitVec.ofInt 64 (shlV .i64 (IntKind.i64.wrap (byteAt s (1 : Int))) 8)).toNat : Int))) ≥ 56320) = false, decide ((IntKind.i64.wrap (((BitVec.ofInt 64 (IntKind.i64.wrap (byteAt s (0 : Int))) ||| BitVec.ofInt 64 (shlV .i64 (IntKind.i64.wrap (byteAt s (1 : Int))) 8)).toNat : Int))) ≥ 56320) = false, decide ((IntKind.i64.wrap (((BitVec.ofInt 64 (IntKind.i64.wrap (byteAt s (0 : Int))) ||| BitVec.ofInt 64 (shlV .i64 (IntKind.i64.wrap (byteAt s (1 : Int))) 8)).toNat : Int))) ≥ 56320) = false, decide ((IntKind.i64.wrap (((BitVec.ofInt 64 (IntKind.i64.wrap (byteAt s (0 : Int))) ||| BitVec.ofInt 64 (shlV .i64 (IntKind.i64.wrap (byteAt s (1 : Int))) 8)).toNat : Int))) ≥ 56320) = false, decide ((s.size : Int) < 4) = false, 0 ≤ (2 : Int), (2 : Int) < (s.size : Int), 0 ≤ (3 : Int), (3 : Int) < (s.size : Int), 0 ≤ (8 : Int)]) (K' := dK (codeOf Tryd.f155) 1) (σ' := ⟨mkT_ 52 [(2, aI (nI 0)), (3, aI (nI 0)), (4, aI (nI (IntKind.i64.wrap (((BitVec.ofInt 64 (IntKind.i64.wrap (byteAt s (0 : Int))) ||| BitVec.ofInt 64 (shlV .i64 (IntKind.i64.wrap (byteAt s (1 : Int))) 8)).toNat : Int))))), (5, aI (nI (IntKind.i64.wrap (((BitVec.ofInt 64 (IntKind.i64.wrap (byteAt s (2 : Int))) ||| BitVec.ofInt 64 (shlV .i64 (IntKind.i64.wrap (byteAt s (3 : Int))) 8)).toNat : Int)))))], []⟩) (by kernel_rfl) ⟨c4, c4, c4, c5, c6, c6, c6, c6, c7, (inR_lo c8), (inR_hi rfl c8), (inR_lo c9), (inR_hi rfl c9), (by decide), trivial⟩ ?_
            rcases bif_some h with ⟨c10, h⟩ | ⟨c10, h⟩
            · obtain rfl := Option.some.inj h
              exact finW_ok (n := 400) (gs := [.b true, .a 1]) [] (ob := [decide ((IntKind.i64.wrap (((BitVec.ofInt 64 (IntKind.i64.wrap (byteAt s (2 : Int))) ||| BitVec.ofInt 64 (shlV .i64 (IntKind.i64.wrap (byteAt s (3 : Int))) 8)).toNat : Int))) < 56320) = true, decide ((IntKind.i64.wrap (((BitVec.ofInt 64 (IntKind.i64.wrap (byteAt s (2 : Int))) ||| BitVec.ofInt 64 (shlV .i64 (IntKind.i64.wrap (byteAt s (3 : Int))) 8)).toNat : Int))) < 56320) = true, decide ((IntKind.i64.wrap (((BitVec.ofInt 64 (IntKind.i64.wrap (byteAt s (2 : Int))) ||| BitVec.ofInt 64 (shlV .i64 (IntKind.i64.wrap (byteAt s (3 : Int))) 8)).toNat : Int))) < 56320) = true]) (r' := .tup [tI (nI 0), tI (nI 0)]) [] (by kernel_rfl) ⟨c10, c10, c10, trivial⟩ rfl
            · rcases bif_some h with ⟨c11, h⟩ | ⟨c11, h⟩
              · obtain rfl := Option.some.inj h
                exact finW_ok (n := 400) (gs := [.b false, .b true]) [] (ob := [decide ((IntKind.i64.wrap (((BitVec.ofInt 64 (IntKind.i64.wrap (byteAt s (2 : Int))) ||| BitVec.ofInt 64 (shlV .i64 (IntKind.i64.wrap (byteAt s (3 : Int))) 8)).toNat : Int))) < 56320) = false, decide ((IntKind.i64.wrap (((BitVec.ofInt 64 (IntKind.i64.wrap (byteAt s (2 : Int))) ||| BitVec.ofInt 64 (shlV .i64 (IntKind.i64.wrap (byteAt s (3 : Int))) 8)).toNat : Int))) < 56320) = false, decide ((IntKind.i64.wrap (((BitVec.ofInt 64 (IntKind.i64.wrap (byteAt s (2 : Int))) ||| BitVec.ofInt 64 (shlV .i64 (IntKind.i64.wrap (byteAt s (3 : Int))) 8)).toNat : Int))) < 56320) = false, decide ((IntKind.i64.wrap (((BitVec.ofInt 64 (IntKind.i64.wrap (byteAt s (2 : Int))) ||| BitVec.ofInt 64 (shlV .i64 (IntKind.i64.wrap (byteAt s (3 : Int))) 8)).toNat : Int))) > 57343) = true]) (r' := .tup [tI (nI 0), tI (nI 0)]) [] (by kernel_rfl) ⟨c10, c10, c10, c11, trivial⟩ rfl
              · obtain rfl := Option.some.inj h
                exact finW_ok (n := 400) (gs := [.b false, .b false]) [] (ob := [decide ((IntKind.i64.wrap (((BitVec.ofInt 64 (IntKind.i64.wrap (byteAt s (2 : Int))) ||| BitVec.ofInt 64 (shlV .i64 (IntKind.i64.wrap (byteAt s (3 : Int))) 8)).toNat : Int))) < 56320) = false, decide ((IntKind.i64.wrap (((BitVec.ofInt 64 (IntKind.i64.wrap (byteAt s (2 : Int))) ||| BitVec.ofInt 64 (shlV .i64 (IntKind.i64.wrap (byteAt s (3 : Int))) 8)).toNat : Int))) < 56320) = false, decide ((IntKind.i64.wrap (((BitVec.ofInt 64 (IntKind.i64.wrap (byteAt s (2 : Int))) ||| BitVec.ofInt 64 (shlV .i64 (IntKind.i64.wrap (byteAt s (3 : Int))) 8)).toNat : Int))) < 56320) = false, decide ((IntKind.i64.wrap (((BitVec.ofInt 64 (IntKind.i64.wrap (byteAt s (2 : Int))) ||| BitVec.ofInt 64 (shlV .i64 (IntKind.i64.wrap (byteAt s (3 : Int))) 8)).toNat : Int))) > 57343) = false, 0 ≤ (10 : Int)]) (r' := .tup [tI (nI (IntKind.i64.wrap ((IntKind.i64.wrap ((IntKind.i64.wrap (65536 + (shlV .i64 (IntKind.i64.wrap ((IntKind.i64.wrap (((BitVec.ofInt 64 (IntKind.i64.wrap (byteAt s (0 : Int))) ||| BitVec.ofInt 64 (shlV .i64 (IntKind.i64.wrap (byteAt s (1 : Int))) 8)).toNat : Int))) - 55296)) 10))) + (IntKind.i64.wrap (((BitVec.ofInt 64 (IntKind.i64.wrap (byteAt s (2 : Int))) ||| BitVec.ofInt 64 (shlV .i64 (IntKind.i64.wrap (byteAt s (3 : Int))) 8)).toNat : Int))))) - 56320))), tI (nI 4)]) [] (by kernel_rfl) ⟨c10, c10, c10, c11, (by decide), trivial⟩ rfl
def takePoint.sem (N : Nat) (s : ByteArray) (code : Int) : Option (Int × Int) :=
    bif (code == 1) then
      (decRune.sem N s).bind fun y0 =>
      bif (y0.1 == 65533) then
        bif decide (y0.2 ≤ 1) then
          some (0, 0)
        else
          some (IntKind.i64.wrap (y0.1), y0.2)
      else
        some (IntKind.i64.wrap (y0.1), y0.2)
    else
      bif (code == 2) then
        (take16.sem N s).bind fun y0 =>
        some (y0.1, y0.2)
      else
        bif (code == 3) then
          bif inR (0 : Int) s.size then
            some (IntKind.i64.wrap (byteAt s (0 : Int)), 1)
          else none
        else
          some (0, 0)
set_option maxHeartbeats 1000000 in
theorem takePoint.ok (N : Nat) (s : ByteArray) (code : Int) (r : (Int × Int)) (h : takePoint.sem N s code = some r) : Ok Tryd.prog 135 [tI (sI s), tI (nI code)] (.tup [tI (nI r.1), tI (nI r.2)]) := by
  unfold takePoint.sem at h
  refine fnW_ok Tryd.func135 (by kernel_rfl) rfl rfl fun F hF => ?_
  rcases bif_some h with ⟨c1, h⟩ | ⟨c1, h⟩
  · obtain ⟨y0, c2, h⟩ := bind_some' h
    rcases bif_some h with ⟨c3, h⟩ | ⟨c3, h⟩
    · rcases bif_some h with ⟨c4, h⟩ | ⟨c4, h⟩
      · obtain rfl := Option.some.inj h
        exact finW_ok (n := 400) (gs := [.b true, .r (.tup [tI (.v (.int .i32 y0.1)), tI (nI y0.2)]), .b true, .b true]) [] (ob := [(code == 1) = true, Ok Tryd.prog 154 [tI (sI s)] (.tup [tI (.v (.int .i32 y0.1)), tI (nI y0.2)]), (y0.1 == 65533) = true, (y0.1 == 65533) = true, (y0.1 == 65533) = true, decide (y0.2 ≤ 1) = true]) (r' := .tup [tI (nI 0), tI (nI 0)]) [] (by kernel_rfl) ⟨c1, (decRune.ok N s y0 c2), c3, c3, c3, c4, trivial⟩ rfl
      · obtain rfl := Option.some.inj h
        exact finW_ok (n := 400) (gs := [.b true, .r (.tup [tI (.v (.int .i32 y0.1)), tI (nI y0.2)]), .b true, .b false]) [] (ob := [(code == 1) = true, Ok Tryd.prog 154 [tI (sI s)] (.tup [tI (.v (.int .i32 y0.1)), tI (nI y0.2)]), (y0.1 == 65533) = true, (y0.1 == 65533) = true, (y0.1 == 65533) = true, decide (y0.2 ≤ 1) = false]) (r' := .tup [tI (nI (IntKind.i64.wrap (y0.1))), tI (nI y0.2)]) [] (by kernel_rfl) ⟨c1, (decRune.ok N s y0 c2), c3, c3, c3, c4, trivial⟩ rfl
    · obtain rfl := Option.some.inj h
      exact finW_ok (n := 400) (gs := [.b true, .r (.tup [tI (.v (.int .i32 y0.1)), tI (nI y0.2)]), .b false, .a 1]) [] (ob := [(code == 1) = true, Ok Tryd.prog 154 [tI (sI s)] (.tup [tI (.v (.int .i32 y0.1)), tI (nI y0.2)]), (y0.1 == 65533) = false, (y0.1 == 65533) = false, (y0.1 == 65533) = false]) (r' := .tup [tI (nI (IntKind.i64.wrap (y0.1))), tI (nI y0.2)]) [] (by kernel_rfl) ⟨c1, (decRune.ok N s y0 c2), c3, c3, c3, trivial⟩ rfl
  · rcases bif_some h with ⟨c5, h⟩ | ⟨c5, h⟩
    · obtain ⟨y0, c6, h⟩ := bind_some' h
      obtain rfl := Option.some.inj h
      exact finW_ok (n := 400) (gs := [.b false, .b true, .r (.tup [tI (nI y0.1), tI (nI y0.2)])]) [] (ob := [(code == 1) = false, (code == 2) = true, Ok Tryd.prog 155 [tI (sI s)] (.tup [tI (nI y0.1), tI (nI y0.2)])]) (r' := .tup [tI (nI y0.1), tI (nI y0.2)]) [] (by kernel_rfl) ⟨c1, c5, (take16.ok N s y0 c6), trivial⟩ rfl
    · rcases bif_some h with ⟨c7, h⟩ | ⟨c7, h⟩
      · obtain ⟨c8, h⟩ := chk_some h
        obtain rfl := Option.some.inj h
        exact finW_ok (n := 400) (gs := [.b false, .b false, .b true]) [] (ob := [(code == 1) = false, (code == 2) = false, (code == 3) = true, 0 ≤ (0 : Int), (0 : Int) < (s.size : Int)]) (r' := .tup [tI (nI (IntKind.i64.wrap (byteAt s (0 : Int)))), tI (nI 1)]) [] (by kernel_rfl) ⟨c1, c5, c7, (inR_lo c8), (inR_hi rfl c8), trivial⟩ rfl
      · obtain rfl := Option.some.inj h
        exact finW_ok (n := 400) (gs := [.b false, .b false, .b false]) [] (ob := [(code == 1) = false, (code == 2) = false, (code == 3) = false]) (r' := .tup [tI (nI 0), tI (nI 0)]) [] (by kernel_rfl) ⟨c1, c5, c7, trivial⟩ rfl
def decodePoints.L0 (N : Nat) (s : ByteArray) (code : Int) : Nat → ByteArray → (List Int) → Option ((List Int) × Bool)
  | 0, _, _ => none
  | n0 + 1, v0_0, v0_o_0 =>
    bif (!(v0_0.toList == (⟨#[]⟩ : ByteArray).toList)) then
      (takePoint.sem N v0_0 code).bind fun y0 =>
      bif (y0.2 == 0) then
        some ([], false)
      else
        bif (((v0_o_0.map eI).length : Int) == 300) then
          some ([], false)
        else
          bif okAp (v0_o_0.length + [y0.1].length) 8 then
            bif inC (y0.2 : Int) ((v0_0.size : Int) : Int) v0_0.size then
              decodePoints.L0 N s code n0 (v0_0.extract (y0.2 : Int).toNat ((v0_0.size : Int) : Int).toNat) (v0_o_0 ++ [y0.1])
            else none
          else none
    else
      some (v0_o_0, true)
def decodePoints.sem (N : Nat) (s : ByteArray) (code : Int) : Option ((List Int) × Bool) :=
    bif decide (code < 1) then
      some ([], false)
    else
      bif decide (code > 3) then
        some ([], false)
      else
        decodePoints.L0 N s code N s []
set_option maxHeartbeats 1000000 in
theorem decodePoints.ok (N : Nat) (s : ByteArray) (code : Int) (r : ((List Int) × Bool)) (h : decodePoints.sem N s code = some r) : Ok Tryd.prog 122 [tI (sI s), tI (nI code)] (.tup [tI (.sl 1 (r.1.map eI)), tI (bI r.2)]) := by
  unfold decodePoints.sem at h
  refine fnW_ok Tryd.func122 (by kernel_rfl) rfl rfl fun F hF => ?_
  rcases bif_some h with ⟨c1, h⟩ | ⟨c1, h⟩
  · obtain rfl := Option.some.inj h
    exact finW_ok (n := 400) (gs := [.b true, .a 1]) [] (ob := [decide (code < 1) = true, decide (code < 1) = true, decide (code < 1) = true]) (r' := .tup [tI (.v (.slice none 0 0)), tI (bI false)]) [[some 1], [none]] (by kernel_rfl) ⟨c1, c1, c1, trivial⟩ rfl
  · rcases bif_some h with ⟨c2, h⟩ | ⟨c2, h⟩
    · obtain rfl := Option.some.inj h
      exact finW_ok (n := 400) (gs := [.b false, .b true]) [] (ob := [decide (code < 1) = false, decide (code < 1) = false, decide (code < 1) = false, decide (code > 3) = true]) (r' := .tup [tI (.v (.slice none 0 0)), tI (bI false)]) [[some 1], [none]] (by kernel_rfl) ⟨c1, c1, c1, c2, trivial⟩ rfl
    · refine headB_ok (n := 400) (gs := [.b false, .b false]) [] [] [0, 1, 4, 5, 6] [0] (ob := [decide (code < 1) = false, decide (code < 1) = false, decide (code < 1) = false, decide (code > 3) = false]) (b := lB (codeOf Tryd.f122) 0) (K' := lK (codeOf Tryd.f122) 0) (σ' := ⟨mkT_ 39 [(0, aI (sI s)), (1, aI (nI code)), (4, aI (.v (.slice none 0 0))), (5, aI (bI false)), (6, .t (.c (.os 0)))], [.live (.row 3 1 [])]⟩) (by kernel_rfl) ⟨c1, c1, c1, c2, trivial⟩ ?_
      rw [((by simp [cutC, eI]) : [] = [].map eI)]
      refine loop_ok (fun q : Nat × ByteArray × (List Int) => ⟨mkT_ 39 [(0, aI (sI (q.2.1))), (1, aI (nI code)), (4, aI (.v (.slice none 0 0))), (5, aI (bI false)), (6, .t (.c (.os 0)))], [.live (.row 3 1 ((q.2.2).map eI))]⟩) (fun q => decodePoints.L0 N s code q.1 q.2.1 q.2.2 = some r) (fun q => q.1) (N, s, []) h ?_
      clear h
      rintro ⟨n0, v0_0, v0_o_0⟩ h R0 hR0
      replace h : decodePoints.L0 N s code n0 v0_0 v0_o_0 = some r := h
      rcases n0 with _ | n0
      · cases h
      unfold decodePoints.L0 at h
      show AX _ _ _ _ _ (⟨mkT_ 39 [(0, aI (sI v0_0)), (1, aI (nI code)), (4, aI (.v (.slice none 0 0))), (5, aI (bI false)), (6, .t (.c (.os 0)))], [.live (.row 3 1 (v0_o_0.map eI))]⟩)
      rcases bif_some h with ⟨c3, h⟩ | ⟨c3, h⟩
      · obtain ⟨y0, c4, h⟩ := bind_some' h
        rcases bif_some h with ⟨c5, h⟩ | ⟨c5, h⟩
        · obtain rfl := Option.some.inj h
          exact finW_ok (n := 400) (gs := [.b true, .r (.tup [tI (nI y0.1), tI (nI y0.2)]), .b true, .a 1]) [] (ob := [(!(v0_0.toList == (⟨#[]⟩ : ByteArray).toList)) = true, Ok Tryd.prog 135 [tI (sI v0_0), tI (nI code)] (.tup [tI (nI y0.1), tI (nI y0.2)]), (y0.2 == 0) = true, (y0.2 == 0) = true, (y0.2 == 0) = true, (y0.2 == 0) = true]) (r' := .tup [tI (.v (.slice none 0 0)), tI (bI false)]) [[some 1], [none]] (by kernel_rfl) ⟨c3, (takePoint.ok N v0_0 code y0 c4), c5, c5, c5, c5, trivial⟩ rfl
        · rcases bif_some h with ⟨c6, h⟩ | ⟨c6, h⟩
          · obtain rfl := Option.some.inj h
            exact finW_ok (n := 400) (gs := [.b true, .r (.tup [tI (nI y0.1), tI (nI y0.2)]), .b false, .b true]) [] (ob := [(!(v0_0.toList == (⟨#[]⟩ : ByteArray).toList)) = true, Ok Tryd.prog 135 [tI (sI v0_0), tI (nI code)] (.tup [tI (nI y0.1), tI (nI y0.2)]), (y0.2 == 0) = false, (y0.2 == 0) = false, (y0.2 == 0) = false, (y0.2 == 0) = false, (((v0_o_0.map eI).length : Int) == 300) = true]) (r' := .tup [tI (.v (.slice none 0 0)), tI (bI false)]) [[some 1], [none]] (by kernel_rfl) ⟨c3, (takePoint.ok N v0_0 code y0 c4), c5, c5, c5, c5, c6, trivial⟩ rfl
          · obtain ⟨c7, h⟩ := chk_some h
            obtain ⟨c8, h⟩ := chk_some h
            exact inv_ok (n := 400) (gs := [.b true, .r (.tup [tI (nI y0.1), tI (nI y0.2)]), .b false, .b false]) [0, 1, 4, 5, 6] [2] (ob := [(!(v0_0.toList == (⟨#[]⟩ : ByteArray).toList)) = true, Ok Tryd.prog 135 [tI (sI v0_0), tI (nI code)] (.tup [tI (nI y0.1), tI (nI y0.2)]), (y0.2 == 0) = false, (y0.2 == 0) = false, (y0.2 == 0) = false, (y0.2 == 0) = false, (((v0_o_0.map eI).length : Int) == 300) = false, ((v0_o_0.map eI).length + ([[nI y0.1]] : List (List IV)).length) * 8 ≤ 140737488355328, 0 ≤ (y0.2 : Int), (y0.2 : Int) ≤ (v0_0.size : Int), ((v0_0.size : Int) : Int) ≤ (v0_0.size : Int)]) (σ' := ⟨mkT_ 39 [(0, aI (sI (v0_0.extract (y0.2 : Int).toNat ((v0_0.size : Int) : Int).toNat))), (1, aI (nI code)), (4, aI (.v (.slice none 0 0))), (5, aI (bI false)), (6, .t (.c (.os 0)))], [.live (.row 3 1 ((v0_o_0.map eI) ++ [[nI y0.1]]))]⟩) (by kernel_rfl) ⟨c3, (takePoint.ok N v0_0 code y0 c4), c5, c5, c5, c5, c6, (okAp_of (by simp) c7), (inC_1 c8), (inC_2' rfl c8), (Int.le_refl _), trivial⟩ (fun a w hs => hR0 (n0, v0_0.extract (y0.2 : Int).toNat ((v0_0.size : Int) : Int).toNat, v0_o_0 ++ [y0.1]) a w h (Nat.lt_succ_self _) (by rw [((by simp [cutC, eI]) : (v0_o_0.map eI) ++ [[nI y0.1]] = (v0_o_0 ++ [y0.1]).map eI)] at hs; exact hs))
      · obtain rfl := Option.some.inj h
        exact finW_ok (n := 400) (gs := [.b false]) [.fz 0] (ob := [(!(v0_0.toList == (⟨#[]⟩ : ByteArray).toList)) = false]) (r' := .tup [tI (.sl 1 (v0_o_0.map eI)), tI (bI true)]) [] (by kernel_rfl) ⟨c3, trivial⟩ rfl
def countPoints.sem (N : Nat) (s : ByteArray) : Option (Int × Bool) :=
    (decodePoints.sem N s 1).bind fun y0 =>
    some (((y0.1.map eI).length : Int), y0.2)
set_option maxHeartbeats 1000000 in
theorem countPoints.ok (N : Nat) (s : ByteArray) (r : (Int × Bool)) (h : countPoints.sem N s = some r) : Ok Tryd.prog 102 [tI (sI s)] (.tup [tI (nI r.1), tI (bI r.2)]) := by
  unfold countPoints.sem at h
  refine fnW_ok Tryd.func102 (by kernel_rfl) rfl rfl fun F hF => ?_
  obtain ⟨y0, c1, h⟩ := bind_some' h
  obtain rfl := Option.some.inj h
  exact finW_ok (n := 400) (gs := [.r (.tup [tI (.sl 1 (y0.1.map eI)), tI (bI y0.2)])]) [] (ob := [Ok Tryd.prog 122 [tI (sI s), tI (nI 1)] (.tup [tI (.sl 1 (y0.1.map eI)), tI (bI y0.2)])]) (r' := .tup [tI (nI ((y0.1.map eI).length : Int)), tI (bI y0.2)]) [] (by kernel_rfl) ⟨(decodePoints.ok N s 1 y0 c1), trivial⟩ rfl
def textOk.sem (N : Nat) (s : ByteArray) : Option Bool :=
    (countPoints.sem N s).bind fun y0 =>
    bif y0.2 then
      some (decide ((s.size : Int) ≤ 200))
    else
      some false
set_option maxHeartbeats 1000000 in
theorem textOk.ok (N : Nat) (s : ByteArray) (r : Bool) (h : textOk.sem N s = some r) : Ok Tryd.prog 84 [tI (sI s)] (aI (bI r)) := by
  unfold textOk.sem at h
  refine fnW_ok Tryd.func84 (by kernel_rfl) rfl rfl fun F hF => ?_
  obtain ⟨y0, c1, h⟩ := bind_some' h
  rcases bif_some h with ⟨c2, h⟩ | ⟨c2, h⟩
  · obtain rfl := Option.some.inj h
    exact finW_ok (n := 400) (gs := [.r (.tup [tI (nI y0.1), tI (bI y0.2)]), .b true]) [] (ob := [Ok Tryd.prog 102 [tI (sI s)] (.tup [tI (nI y0.1), tI (bI y0.2)]), y0.2 = true, y0.2 = true, y0.2 = true, y0.2 = true]) (r' := aI (bI (decide ((s.size : Int) ≤ 200)))) [] (by kernel_rfl) ⟨(countPoints.ok N s y0 c1), c2, c2, c2, c2, trivial⟩ rfl
  · obtain rfl := Option.some.inj h
    exact finW_ok (n := 400) (gs := [.r (.tup [tI (nI y0.1), tI (bI y0.2)]), .b false]) [] (ob := [Ok Tryd.prog 102 [tI (sI s)] (.tup [tI (nI y0.1), tI (bI y0.2)]), y0.2 = false, y0.2 = false, y0.2 = false, y0.2 = false]) (r' := aI (bI false)) [] (by kernel_rfl) ⟨(countPoints.ok N s y0 c1), c2, c2, c2, c2, trivial⟩ rfl
def part.sem (N : Nat) (t : Sh) (n : Int) : Option ((Option Sh) × Bool) :=
    bif (t.kind == 17) then
      bif (n == 0) then
        some (none, true)
      else
        bif inR (0 : Int) t.kids.length then
          some ((some (t.kids.getD (0 : Int).toNat default)), (n == 1))
        else none
    else
      bif decide (n < 0) then
        some (none, false)
      else
        bif decide (n ≥ ((t.kids.map eP).length : Int)) then
          some (none, false)
        else
          bif inR n t.kids.length then
            some ((some (t.kids.getD n.toNat default)), true)
          else none
set_option maxHeartbeats 1000000 in
theorem part.ok (N : Nat) (t : Sh) (n : Int) (r : ((Option Sh) × Bool)) (h : part.sem N t n = some r) : Ok Tryd.prog 86 [tI (.pt [nI t.kind, nI t.n, .sl 1 (t.kids.map eP)]), tI (nI n)] (.tup [tI (oSh r.1), tI (bI r.2)]) := by
  unfold part.sem at h
  refine fnW_ok Tryd.func86 (by kernel_rfl) rfl rfl fun F hF => ?_
  rcases bif_some h with ⟨c1, h⟩ | ⟨c1, h⟩
  · rcases bif_some h with ⟨c2, h⟩ | ⟨c2, h⟩
    · obtain rfl := Option.some.inj h
      exact finW_ok (n := 400) (gs := [.b true, .b true]) [] (ob := [(t.kind == 17) = true, (t.kind == 17) = true, (t.kind == 17) = true, (n == 0) = true]) (r' := .tup [tI (.v (.pointer none)), tI (bI true)]) [] (by kernel_rfl) ⟨c1, c1, c1, c2, trivial⟩ rfl
    · obtain ⟨c3, h⟩ := chk_some h
      obtain rfl := Option.some.inj h
      exact finW_ok (n := 400) (gs := [.b true, .b false, .b true, .ys [.pt [nI ((t.kids.getD (0 : Int).toNat default).kind), nI ((t.kids.getD (0 : Int).toNat default).n), .sl 1 (((t.kids.getD (0 : Int).toNat default).kids).map eP)]]]) [] (ob := [(t.kind == 17) = true, (t.kind == 17) = true, (t.kind == 17) = true, (n == 0) = false, (t.kind == 17) = true, 0 ≤ (0 : Int), (t.kids.map eP)[(0 : Int).toNat]? = some [.pt [nI ((t.kids.getD (0 : Int).toNat default).kind), nI ((t.kids.getD (0 : Int).toNat default).n), .sl 1 (((t.kids.getD (0 : Int).toNat default).kids).map eP)]]]) (r' := .tup [tI (.pt [nI ((t.kids.getD (0 : Int).toNat default).kind), nI ((t.kids.getD (0 : Int).toNat default).n), .sl 1 (((t.kids.getD (0 : Int).toNat default).kids).map eP)]), tI (bI (n == 1))]) [] (by kernel_rfl) ⟨c1, c1, c1, c2, c1, (inR_lo c3), (eP_el rfl c3), trivial⟩ rfl
  · rcases bif_some h with ⟨c4, h⟩ | ⟨c4, h⟩
    · obtain rfl := Option.some.inj h
      exact finW_ok (n := 400) (gs := [.b false, .a 1, .b false, .b true, .a 1]) [] (ob := [(t.kind == 17) = false, (t.kind == 17) = false, (t.kind == 17) = false, (t.kind == 17) = false, decide (n < 0) = true, decide (n < 0) = true, decide (n < 0) = true, decide (n < 0) = true, decide (n < 0) = true, decide (n < 0) = true, decide (n < 0) = true, decide (n < 0) = true]) (r' := .tup [tI (.v (.pointer none)), tI (bI false)]) [] (by kernel_rfl) ⟨c1, c1, c1, c1, c4, c4, c4, c4, c4, c4, c4, c4, trivial⟩ rfl
    · rcases bif_some h with ⟨c5, h⟩ | ⟨c5, h⟩
      · obtain rfl := Option.some.inj h
        exact finW_ok (n := 400) (gs := [.b false, .a 1, .b false, .b false, .b true]) [] (ob := [(t.kind == 17) = false, (t.kind == 17) = false, (t.kind == 17) = false, (t.kind == 17) = false, decide (n < 0) = false, decide (n < 0) = false, decide (n < 0) = false, decide (n < 0) = false, decide (n < 0) = false, decide (n < 0) = false, decide (n < 0) = false, decide (n < 0) = false, decide (n ≥ ((t.kids.map eP).length : Int)) = true]) (r' := .tup [tI (.v (.pointer none)), tI (bI false)]) [] (by kernel_rfl) ⟨c1, c1, c1, c1, c4, c4, c4, c4, c4, c4, c4, c4, c5, trivial⟩ rfl
      · obtain ⟨c6, h⟩ := chk_some h
        obtain rfl := Option.some.inj h
        exact finW_ok (n := 400) (gs := [.b false, .a 1, .b false, .b false, .b false, .ys [.pt [nI ((t.kids.getD n.toNat default).kind), nI ((t.kids.getD n.toNat default).n), .sl 1 (((t.kids.getD n.toNat default).kids).map eP)]]]) [] (ob := [(t.kind == 17) = false, (t.kind == 17) = false, (t.kind == 17) = false, (t.kind == 17) = false, decide (n < 0) = false, decide (n < 0) = false, decide (n < 0) = false, decide (n < 0) = false, decide (n < 0) = false, decide (n < 0) = false, decide (n < 0) = false, decide (n < 0) = false, decide (n ≥ ((t.kids.map eP).length : Int)) = false, 0 ≤ n, (t.kids.map eP)[n.toNat]? = some [.pt [nI ((t.kids.getD n.toNat default).kind), nI ((t.kids.getD n.toNat default).n), .sl 1 (((t.kids.getD n.toNat default).kids).map eP)]]]) (r' := .tup [tI (.pt [nI ((t.kids.getD n.toNat default).kind), nI ((t.kids.getD n.toNat default).n), .sl 1 (((t.kids.getD n.toNat default).kids).map eP)]), tI (bI true)]) [] (by kernel_rfl) ⟨c1, c1, c1, c1, c4, c4, c4, c4, c4, c4, c4, c4, c5, (inR_lo c6), (eP_el rfl c6), trivial⟩ rfl
def fitsFn.sem (N : Nat) (slf : Sh → Dt → Option Bool) (k : Dt) (t : Sh) : Option Bool :=
    bif inR (0 : Int) t.kids.length then
      (slf (t.kids.getD (0 : Int).toNat default) k).bind fun y0 =>
      some (!y0)
    else none
set_option maxHeartbeats 1000000 in
theorem fitsFn.ok (N : Nat) (slf : Sh → Dt → Option Bool) (hslf : ∀ (a0 : Sh) (a1 : Dt) r, slf a0 a1 = some r → Ok Tryd.prog 61 [tI (.pt [nI a0.kind, nI a0.n, .sl 1 (a0.kids.map eP)]), tI (.pt [nI a1.n, sI a1.text, .sl 1 (a1.kids.map eQ)])] (aI (bI r))) (k : Dt) (t : Sh) (r : Bool) (h : fitsFn.sem N slf k t = some r) : Ok Tryd.prog 88 [tI (.pt [nI k.n, sI k.text, .sl 1 (k.kids.map eQ)]), tI (.pt [.pt [nI t.kind, nI t.n, .sl 1 (t.kids.map eP)]])] (aI (bI r)) := by
  unfold fitsFn.sem at h
  refine fnW_ok Tryd.func88 (by kernel_rfl) rfl rfl fun F hF => ?_
  obtain ⟨c1, h⟩ := chk_some h
  obtain ⟨y0, c2, h⟩ := bind_some' h
  obtain rfl := Option.some.inj h
  exact finW_ok (n := 400) (gs := [.ys [.pt [nI ((t.kids.getD (0 : Int).toNat default).kind), nI ((t.kids.getD (0 : Int).toNat default).n), .sl 1 (((t.kids.getD (0 : Int).toNat default).kids).map eP)]], .r (aI (bI y0))]) [] (ob := [0 ≤ (0 : Int), (t.kids.map eP)[(0 : Int).toNat]? = some [.pt [nI ((t.kids.getD (0 : Int).toNat default).kind), nI ((t.kids.getD (0 : Int).toNat default).n), .sl 1 (((t.kids.getD (0 : Int).toNat default).kids).map eP)]], Ok Tryd.prog 61 [tI (.pt [nI ((t.kids.getD (0 : Int).toNat default).kind), nI ((t.kids.getD (0 : Int).toNat default).n), .sl 1 (((t.kids.getD (0 : Int).toNat default).kids).map eP)]), tI (.pt [nI k.n, sI k.text, .sl 1 (k.kids.map eQ)])] (aI (bI y0))]) (r' := aI (bI (!y0))) [] (by kernel_rfl) ⟨(inR_lo c1), (eP_el rfl c1), (hslf (t.kids.getD (0 : Int).toNat default) k y0 c2), trivial⟩ rfl
def fitsIndex.L0 (N : Nat) (slf : Sh → Dt → Option Bool) (l : (List Dt)) (t : Sh) : Nat → Int → Option Int
  | 0, _ => none
  | n0 + 1, v0_8 =>
    bif decide (v0_8 < ((l.map eQ).length : Int)) then
      bif inR v0_8 l.length then
        (fitsFn.sem N slf (l.getD v0_8.toNat default) t).bind fun y0 =>
        bif y0 then
        some v0_8
      else
        fitsIndex.L0 N slf l t n0 (IntKind.i64.wrap (v0_8 + 1))
      else none
    else
      some (-1)
def fitsIndex.sem (N : Nat) (slf : Sh → Dt → Option Bool) (l : (List Dt)) (t : Sh) : Option Int :=
    fitsIndex.L0 N slf l t N 0
set_option maxHeartbeats 1000000 in
theorem fitsIndex.ok (N : Nat) (slf : Sh → Dt → Option Bool) (hslf : ∀ (a0 : Sh) (a1 : Dt) r, slf a0 a1 = some r → Ok Tryd.prog 61 [tI (.pt [nI a0.kind, nI a0.n, .sl 1 (a0.kids.map eP)]), tI (.pt [nI a1.n, sI a1.text, .sl 1 (a1.kids.map eQ)])] (aI (bI r))) (l : (List Dt)) (t : Sh) (r : Int) (h : fitsIndex.sem N slf l t = some r) : Ok Tryd.prog 103 [tI (.sl 1 (l.map eQ)), tI (.fn (.func 88) [.pt [.pt [nI t.kind, nI t.n, .sl 1 (t.kids.map eP)]]])] (aI (nI r)) := by
  unfold fitsIndex.sem at h
  refine fnW_ok Tryd.func103 (by kernel_rfl) rfl rfl fun F hF => ?_
  refine headB_ok (n := 400) (gs := []) [] [] [0, 1, 4, 7, 8] [] (ob := []) (b := lB (codeOf Tryd.f103) 0) (K' := lK (codeOf Tryd.f103) 0) (σ' := ⟨mkT_ 19 [(0, aI (.sl 1 (l.map eQ))), (1, aI (.fn (.func 88) [.pt [.pt [nI t.kind, nI t.n, .sl 1 (t.kids.map eP)]]])), (4, aI (nI 0)), (7, aI (nI ((l.map eQ).length : Int))), (8, aI (nI 0))], []⟩) (by kernel_rfl) trivial ?_
  refine loop_ok (fun q : Nat × Int => ⟨mkT_ 19 [(0, aI (.sl 1 (l.map eQ))), (1, aI (.fn (.func 88) [.pt [.pt [nI t.kind, nI t.n, .sl 1 (t.kids.map eP)]]])), (4, aI (nI 0)), (7, aI (nI ((l.map eQ).length : Int))), (8, aI (nI (q.2)))], []⟩) (fun q => fitsIndex.L0 N slf l t q.1 q.2 = some r) (fun q => q.1) (N, 0) h ?_
  clear h
  rintro ⟨n0, v0_8⟩ h R0 hR0
  replace h : fitsIndex.L0 N slf l t n0 v0_8 = some r := h
  rcases n0 with _ | n0
  · cases h
  unfold fitsIndex.L0 at h
  show AX _ _ _ _ _ (⟨mkT_ 19 [(0, aI (.sl 1 (l.map eQ))), (1, aI (.fn (.func 88) [.pt [.pt [nI t.kind, nI t.n, .sl 1 (t.kids.map eP)]]])), (4, aI (nI 0)), (7, aI (nI ((l.map eQ).length : Int))), (8, aI (nI v0_8))], []⟩)
  rcases bif_some h with ⟨c1, h⟩ | ⟨c1, h⟩
  · obtain ⟨c2, h⟩ := chk_some h
    obtain ⟨y0, c3, h⟩ := bind_some' h
    rcases bif_some h with ⟨c4, h⟩ | ⟨c4, h⟩
    · obtain rfl := Option.some.inj h
      exact finW_ok (n := 400) (gs := [.b true, .ys [.pt [nI ((l.getD v0_8.toNat default).n), sI ((l.getD v0_8.toNat default).text), .sl 1 (((l.getD v0_8.toNat default).kids).map eQ)]], .r (aI (bI y0)), .b true]) [] (ob := [decide (v0_8 < ((l.map eQ).length : Int)) = true, 0 ≤ v0_8, (l.map eQ)[v0_8.toNat]? = some [.pt [nI ((l.getD v0_8.toNat default).n), sI ((l.getD v0_8.toNat default).text), .sl 1 (((l.getD v0_8.toNat default).kids).map eQ)]], Ok Tryd.prog 88 [tI (.pt [nI ((l.getD v0_8.toNat default).n), sI ((l.getD v0_8.toNat default).text), .sl 1 (((l.getD v0_8.toNat default).kids).map eQ)]), tI (.pt [.pt [nI t.kind, nI t.n, .sl 1 (t.kids.map eP)]])] (aI (bI y0)), y0 = true]) (r' := aI (nI v0_8)) [] (by kernel_rfl) ⟨c1, (inR_lo c2), (eQ_el rfl c2), (fitsFn.ok N slf hslf (l.getD v0_8.toNat default) t y0 c3), c4, trivial⟩ rfl
    · exact inv_ok (n := 400) (gs := [.b true, .ys [.pt [nI ((l.getD v0_8.toNat default).n), sI ((l.getD v0_8.toNat default).text), .sl 1 (((l.getD v0_8.toNat default).kids).map eQ)]], .r (aI (bI y0)), .b false]) [0, 1, 4, 7, 8] [] (ob := [decide (v0_8 < ((l.map eQ).length : Int)) = true, 0 ≤ v0_8, (l.map eQ)[v0_8.toNat]? = some [.pt [nI ((l.getD v0_8.toNat default).n), sI ((l.getD v0_8.toNat default).text), .sl 1 (((l.getD v0_8.toNat default).kids).map eQ)]], Ok Tryd.prog 88 [tI (.pt [nI ((l.getD v0_8.toNat default).n), sI ((l.getD v0_8.toNat default).text), .sl 1 (((l.getD v0_8.toNat default).kids).map eQ)]), tI (.pt [.pt [nI t.kind, nI t.n, .sl 1 (t.kids.map eP)]])] (aI (bI y0)), y0 = false]) (σ' := ⟨mkT_ 19 [(0, aI (.sl 1 (l.map eQ))), (1, aI (.fn (.func 88) [.pt [.pt [nI t.kind, nI t.n, .sl 1 (t.kids.map eP)]]])), (4, aI (nI 0)), (7, aI (nI ((l.map eQ).length : Int))), (8, aI (nI (IntKind.i64.wrap (v0_8 + 1))))], []⟩) (by kernel_rfl) ⟨c1, (inR_lo c2), (eQ_el rfl c2), (fitsFn.ok N slf hslf (l.getD v0_8.toNat default) t y0 c3), c4, trivial⟩ (fun a w hs => hR0 (n0, IntKind.i64.wrap (v0_8 + 1)) a w h (Nat.lt_succ_self _) hs)
  · obtain rfl := Option.some.inj h
    exact finW_ok (n := 400) (gs := [.b false]) [] (ob := [decide (v0_8 < ((l.map eQ).length : Int)) = false]) (r' := aI (nI (-1))) [] (by kernel_rfl) ⟨c1, trivial⟩ rfl
def fitsAny.sem (N : Nat) (slf : Sh → Dt → Option Bool) (l : (List Dt)) (t : Sh) : Option Bool :=
    (fitsIndex.sem N slf l t).bind fun y0 =>
    some (decide (y0 ≥ 0))
set_option maxHeartbeats 1000000 in
theorem fitsAny.ok (N : Nat) (slf : Sh → Dt → Option Bool) (hslf : ∀ (a0 : Sh) (a1 : Dt) r, slf a0 a1 = some r → Ok Tryd.prog 61 [tI (.pt [nI a0.kind, nI a0.n, .sl 1 (a0.kids.map eP)]), tI (.pt [nI a1.n, sI a1.text, .sl 1 (a1.kids.map eQ)])] (aI (bI r))) (l : (List Dt)) (t : Sh) (r : Bool) (h : fitsAny.sem N slf l t = some r) : Ok Tryd.prog 87 [tI (.sl 1 (l.map eQ)), tI (.fn (.func 88) [.pt [.pt [nI t.kind, nI t.n, .sl 1 (t.kids.map eP)]]])] (aI (bI r)) := by
  unfold fitsAny.sem at h
  refine fnW_ok Tryd.func87 (by kernel_rfl) rfl rfl fun F hF => ?_
  obtain ⟨y0, c1, h⟩ := bind_some' h
  obtain rfl := Option.some.inj h
  exact finW_ok (n := 400) (gs := [.r (aI (nI y0))]) [] (ob := [Ok Tryd.prog 103 [tI (.sl 1 (l.map eQ)), tI (.fn (.func 88) [.pt [.pt [nI t.kind, nI t.n, .sl 1 (t.kids.map eP)]]])] (aI (nI y0))]) (r' := aI (bI (decide (y0 ≥ 0)))) [] (by kernel_rfl) ⟨(fitsIndex.ok N slf hslf l t y0 c1), trivial⟩ rfl
def fits.L0 (N : Nat) (t : Sh) (d : Dt) (self : Sh → Dt → Option Bool) : Nat → Int → Option Bool
  | 0, _ => none
  | n0 + 1, v0_130 =>
    bif decide (v0_130 < ((d.kids.map eQ).length : Int)) then
      bif inR v0_130 d.kids.length then
        bif inR v0_130 t.kids.length then
          (self (t.kids.getD v0_130.toNat default) (d.kids.getD v0_130.toNat default)).bind fun y1 =>
          bif (!y1) then
        some false
      else
        fits.L0 N t d self n0 (IntKind.i64.wrap (v0_130 + 1))
        else none
      else none
    else
      some true
def fits.sem : Nat → Sh → Dt → Option Bool
  | 0, _, _ => none
  | N + 1, t, d =>
    bif (t.kind == 12) then
      bif (d.n == 0) then
        bif (((d.kids.map eQ).length : Int) == 0) then
          (textOk.sem N d.text).bind fun y0 =>
          some y0
        else
          some false
      else
        some false
    else
      bif (!(d.text.toList == (⟨#[]⟩ : ByteArray).toList)) then
        some false
      else
        (chosen.sem N t).bind fun y0 =>
        bif y0 then
          (part.sem N t d.n).bind fun y1 =>
          optM y1.1 (
            bif y1.2 then
              some (((d.kids.map eQ).length : Int) == 0)
            else
              some false) fun p2 =>
            bif y1.2 then
              bif (((d.kids.map eQ).length : Int) == 1) then
                bif inR (0 : Int) d.kids.length then
                  ((fits.sem N) p2 (d.kids.getD (0 : Int).toNat default)).bind fun y3 =>
                  some y3
                else none
              else
                some false
            else
              some false
        else
          bif (t.kind == 13) then
            bif (d.n == 0) then
              (fitsAny.sem N (fits.sem N) d.kids t).bind fun y1 =>
              some (!y1)
            else
              some false
          else
            bif (t.kind == 14) then
              bif (d.n != 0) then
                some false
              else
                bif (((d.kids.map eQ).length : Int) != ((t.kids.map eP).length : Int)) then
                  some false
                else
                  fits.L0 N t d (fits.sem N) N 0
            else
              bif (((d.kids.map eQ).length : Int) == 0) then
                (numberOk.sem N t d.n).bind fun y1 =>
                some y1
              else
                some false
set_option maxHeartbeats 1000000 in
theorem fits.ok : ∀ (N : Nat) (t : Sh) (d : Dt) (r : Bool), fits.sem N t d = some r → Ok Tryd.prog 61 [tI (.pt [nI t.kind, nI t.n, .sl 1 (t.kids.map eP)]), tI (.pt [nI d.n, sI d.text, .sl 1 (d.kids.map eQ)])] (aI (bI r)) := by
  intro N
  induction N with
  | zero => intro t d r h; cases h
  | succ N ih =>
    intro t d r h
    unfold fits.sem at h
    refine fnW_ok Tryd.func61 (by kernel_rfl) rfl rfl fun F hF => ?_
    rcases bif_some h with ⟨c1, h⟩ | ⟨c1, h⟩
    · rcases bif_some h with ⟨c2, h⟩ | ⟨c2, h⟩
      · rcases bif_some h with ⟨c3, h⟩ | ⟨c3, h⟩
        · obtain ⟨y0, c4, h⟩ := bind_some' h
          obtain rfl := Option.some.inj h
          exact finW_ok (n := 400) (gs := [.b true, .b true, .b true, .r (aI (bI y0))]) [] (ob := [(t.kind == 12) = true, (d.n == 0) = true, (d.n == 0) = true, (d.n == 0) = true, (d.n == 0) = true, (d.n == 0) = true, (d.n == 0) = true, (d.n == 0) = true, (((d.kids.map eQ).length : Int) == 0) = true, (((d.kids.map eQ).length : Int) == 0) = true, (((d.kids.map eQ).length : Int) == 0) = true, (((d.kids.map eQ).length : Int) == 0) = true, (((d.kids.map eQ).length : Int) == 0) = true, Ok Tryd.prog 84 [tI (sI d.text)] (aI (bI y0)), (((d.kids.map eQ).length : Int) == 0) = true]) (r' := aI (bI y0)) [] (by kernel_rfl) ⟨c1, c2, c2, c2, c2, c2, c2, c2, c3, c3, c3, c3, c3, (textOk.ok N d.text y0 c4), c3, trivial⟩ rfl
        · obtain rfl := Option.some.inj h
          exact finW_ok (n := 400) (gs := [.b true, .b true, .b false]) [] (ob := [(t.kind == 12) = true, (d.n == 0) = true, (d.n == 0) = true, (d.n == 0) = true, (d.n == 0) = true, (d.n == 0) = true, (d.n == 0) = true, (d.n == 0) = true, (((d.kids.map eQ).length : Int) == 0) = false, (((d.kids.map eQ).length : Int) == 0) = false, (((d.kids.map eQ).length : Int) == 0) = false, (((d.kids.map eQ).length : Int) == 0) = false, (((d.kids.map eQ).length : Int) == 0) = false, (((d.kids.map eQ).length : Int) == 0) = false]) (r' := aI (bI false)) [] (by kernel_rfl) ⟨c1, c2, c2, c2, c2, c2, c2, c2, c3, c3, c3, c3, c3, c3, trivial⟩ rfl
      · obtain rfl := Option.some.inj h
        exact finW_ok (n := 400) (gs := [.b true, .b false, .a 1]) [] (ob := [(t.kind == 12) = true, (d.n == 0) = false, (d.n == 0) = false, (d.n == 0) = false, (d.n == 0) = false, (d.n == 0) = false, (d.n == 0) = false, (d.n == 0) = false, false = false, false = false, false = false, false = false, false = false]) (r' := aI (bI false)) [] (by kernel_rfl) ⟨c1, c2, c2, c2, c2, c2, c2, c2, rfl, rfl, rfl, rfl, rfl, trivial⟩ rfl
    · rcases bif_some h with ⟨c5, h⟩ | ⟨c5, h⟩
      · obtain rfl := Option.some.inj h
        exact finW_ok (n := 400) (gs := [.b false, .b true]) [] (ob := [(t.kind == 12) = false, (!(d.text.toList == (⟨#[]⟩ : ByteArray).toList)) = true]) (r' := aI (bI false)) [] (by kernel_rfl) ⟨c1, c5, trivial⟩ rfl
      · obtain ⟨y0, c6, h⟩ := bind_some' h
        rcases bif_some h with ⟨c7, h⟩ | ⟨c7, h⟩
        · obtain ⟨y1, c8, h⟩ := bind_some' h
          refine drx_ok (n := 400) (gs := [.b false, .b false, .r (aI (bI y0)), .b true]) [[], [], [], [], [], [.r (.tup [tI (oSh y1.1), tI (bI y1.2)])], [], [], [], [], []] [1, 2, 4, 5, 6] [0] (ob := [(t.kind == 12) = false, (!(d.text.toList == (⟨#[]⟩ : ByteArray).toList)) = false, Ok Tryd.prog 85 [tI (.pt [nI t.kind, nI t.n, .sl 1 (t.kids.map eP)])] (aI (bI y0)), y0 = true, Ok Tryd.prog 86 [tI (.pt [nI t.kind, nI t.n, .sl 1 (t.kids.map eP)]), tI (nI d.n)] (.tup [tI (oSh y1.1), tI (bI y1.2)])]) (K' := dK (codeOf Tryd.f61) 0) (σ' := ⟨mkT_ 160 [(1, aI (.pt [nI d.n, sI d.text, .sl 1 (d.kids.map eQ)])), (2, .t (.c (.loc 0 0))), (4, aI (bI false)), (5, aI (oSh y1.1)), (6, aI (bI y1.2))], [.live (.box 72 [.i (.pt [nI t.kind, nI t.n, .sl 1 (t.kids.map eP)])])]⟩) (by kernel_rfl) ⟨c1, c5, (chosen.ok N t y0 c6), c7, (part.ok N t d.n y1 c8), trivial⟩ ?_
          rcases optM_some h with ⟨c9, h⟩ | ⟨p2, c9, h⟩
          · try rw [c9]
            rcases bif_some h with ⟨c10, h⟩ | ⟨c10, h⟩
            · obtain rfl := Option.some.inj h
              exact finW_ok (n := 400) (gs := [.a 1, .b true]) [] (ob := [y1.2 = true, y1.2 = true, y1.2 = true, y1.2 = true, y1.2 = true, y1.2 = true, y1.2 = true]) (r' := aI (bI (((d.kids.map eQ).length : Int) == 0))) [] (by kernel_rfl) ⟨c10, c10, c10, c10, c10, c10, c10, trivial⟩ rfl
            · obtain rfl := Option.some.inj h
              exact finW_ok (n := 400) (gs := [.a 1, .b false]) [] (ob := [y1.2 = false, y1.2 = false, y1.2 = false, y1.2 = false, y1.2 = false, y1.2 = false, y1.2 = false]) (r' := aI (bI false)) [] (by kernel_rfl) ⟨c10, c10, c10, c10, c10, c10, c10, trivial⟩ rfl
          · try rw [c9]
            rcases bif_some h with ⟨c11, h⟩ | ⟨c11, h⟩
            · rcases bif_some h with ⟨c12, h⟩ | ⟨c12, h⟩
              · obtain ⟨c13, h⟩ := chk_some h
                obtain ⟨y3, c14, h⟩ := bind_some' h
                obtain rfl := Option.some.inj h
                exact finW_ok (n := 400) (gs := [.a 1, .b true, .b true, .ys [.pt [nI ((d.kids.getD (0 : Int).toNat default).n), sI ((d.kids.getD (0 : Int).toNat default).text), .sl 1 (((d.kids.getD (0 : Int).toNat default).kids).map eQ)]], .r (aI (bI y3))]) [] (ob := [y1.2 = true, y1.2 = true, y1.2 = true, y1.2 = true, y1.2 = true, y1.2 = true, y1.2 = true, (((d.kids.map eQ).length : Int) == 1) = true, (((d.kids.map eQ).length : Int) == 1) = true, (((d.kids.map eQ).length : Int) == 1) = true, (((d.kids.map eQ).length : Int) == 1) = true, (((d.kids.map eQ).length : Int) == 1) = true, (((d.kids.map eQ).length : Int) == 1) = true, 0 ≤ (0 : Int), (d.kids.map eQ)[(0 : Int).toNat]? = some [.pt [nI ((d.kids.getD (0 : Int).toNat default).n), sI ((d.kids.getD (0 : Int).toNat default).text), .sl 1 (((d.kids.getD (0 : Int).toNat default).kids).map eQ)]], (((d.kids.map eQ).length : Int) == 1) = true, (((d.kids.map eQ).length : Int) == 1) = true, Ok Tryd.prog 61 [tI (.pt [nI p2.kind, nI p2.n, .sl 1 (p2.kids.map eP)]), tI (.pt [nI ((d.kids.getD (0 : Int).toNat default).n), sI ((d.kids.getD (0 : Int).toNat default).text), .sl 1 (((d.kids.getD (0 : Int).toNat default).kids).map eQ)])] (aI (bI y3)), (((d.kids.map eQ).length : Int) == 1) = true]) (r' := aI (bI y3)) [] (by kernel_rfl) ⟨c11, c11, c11, c11, c11, c11, c11, c12, c12, c12, c12, c12, c12, (inR_lo c13), (eQ_el rfl c13), c12, c12, (ih p2 (d.kids.getD (0 : Int).toNat default) y3 c14), c12, trivial⟩ rfl
              · obtain rfl := Option.some.inj h
                exact finW_ok (n := 400) (gs := [.a 1, .b true, .b false]) [] (ob := [y1.2 = true, y1.2 = true, y1.2 = true, y1.2 = true, y1.2 = true, y1.2 = true, y1.2 = true, (((d.kids.map eQ).length : Int) == 1) = false, (((d.kids.map eQ).length : Int) == 1) = false, (((d.kids.map eQ).length : Int) == 1) = false, (((d.kids.map eQ).length : Int) == 1) = false, (((d.kids.map eQ).length : Int) == 1) = false, (((d.kids.map eQ).length : Int) == 1) = false, (((d.kids.map eQ).length : Int) == 1) = false, (((d.kids.map eQ).length : Int) == 1) = false, (((d.kids.map eQ).length : Int) == 1) = false]) (r' := aI (bI false)) [] (by kernel_rfl) ⟨c11, c11, c11, c11, c11, c11, c11, c12, c12, c12, c12, c12, c12, c12, c12, c12, trivial⟩ rfl
            · obtain rfl := Option.some.inj h
              exact finW_ok (n := 400) (gs := [.a 1, .b false, .a 1]) [] (ob := [y1.2 = false, y1.2 = false, y1.2 = false, y1.2 = false, y1.2 = false, y1.2 = false, y1.2 = false, false = false, false = false, false = false, false = false, false = false, false = false, false = false, false = false]) (r' := aI (bI false)) [] (by kernel_rfl) ⟨c11, c11, c11, c11, c11, c11, c11, rfl, rfl, rfl, rfl, rfl, rfl, rfl, rfl, trivial⟩ rfl
        · rcases bif_some h with ⟨c15, h⟩ | ⟨c15, h⟩
          · rcases bif_some h with ⟨c16, h⟩ | ⟨c16, h⟩
            · obtain ⟨y1, c17, h⟩ := bind_some' h
              obtain rfl := Option.some.inj h
              exact finW_ok (n := 400) (gs := [.b false, .b false, .r (aI (bI y0)), .b false, .b true, .b true, .fz 0, .r (aI (bI y1))]) [] (ob := [(t.kind == 12) = false, (!(d.text.toList == (⟨#[]⟩ : ByteArray).toList)) = false, Ok Tryd.prog 85 [tI (.pt [nI t.kind, nI t.n, .sl 1 (t.kids.map eP)])] (aI (bI y0)), y0 = false, (t.kind == 13) = true, (d.n == 0) = true, (d.n == 0) = true, (d.n == 0) = true, (d.n == 0) = true, (d.n == 0) = true, (d.n == 0) = true, Ok Tryd.prog 87 [tI (.sl 1 (d.kids.map eQ)), tI (.fn (.func 88) [.pt [.pt [nI t.kind, nI t.n, .sl 1 (t.kids.map eP)]]])] (aI (bI y1)), (d.n == 0) = true, (d.n == 0) = true]) (r' := aI (bI (!y1))) [] (by kernel_rfl) ⟨c1, c5, (chosen.ok N t y0 c6), c7, c15, c16, c16, c16, c16, c16, c16, (fitsAny.ok N (fits.sem N) ih d.kids t y1 c17), c16, c16, trivial⟩ rfl
            · obtain rfl := Option.some.inj h
              exact finW_ok (n := 400) (gs := [.b false, .b false, .r (aI (bI y0)), .b false, .b true, .b false]) [] (ob := [(t.kind == 12) = false, (!(d.text.toList == (⟨#[]⟩ : ByteArray).toList)) = false, Ok Tryd.prog 85 [tI (.pt [nI t.kind, nI t.n, .sl 1 (t.kids.map eP)])] (aI (bI y0)), y0 = false, (t.kind == 13) = true, (d.n == 0) = false, (d.n == 0) = false, (d.n == 0) = false, (d.n == 0) = false, (d.n == 0) = false, (d.n == 0) = false, (d.n == 0) = false, (d.n == 0) = false]) (r' := aI (bI false)) [] (by kernel_rfl) ⟨c1, c5, (chosen.ok N t y0 c6), c7, c15, c16, c16, c16, c16, c16, c16, c16, c16, trivial⟩ rfl
          · rcases bif_some h with ⟨c18, h⟩ | ⟨c18, h⟩
            · rcases bif_some h with ⟨c19, h⟩ | ⟨c19, h⟩
              · refine drw_ok (n := 400) (gs := [.b false, .b false, .r (aI (bI y0)), .b false, .b false, .b true]) [[], [], [], [], [], [], [.b true], [.b true], [.b true], [.b true], [.b true], [.b true], [.b true], [.b true], [.b true], [.b true], [.b true], [.b true]] [1, 2, 4, 124] [0] (ob := [(t.kind == 12) = false, (!(d.text.toList == (⟨#[]⟩ : ByteArray).toList)) = false, Ok Tryd.prog 85 [tI (.pt [nI t.kind, nI t.n, .sl 1 (t.kids.map eP)])] (aI (bI y0)), y0 = false, (t.kind == 13) = false, (t.kind == 14) = true, (d.n != 0) = true, (d.n != 0) = true, (d.n != 0) = true, (d.n != 0) = true, (d.n != 0) = true, (d.n != 0) = true, (d.n != 0) = true, (d.n != 0) = true, (d.n != 0) = true, (d.n != 0) = true, (d.n != 0) = true, (d.n != 0) = true]) (K' := dK (codeOf Tryd.f61) 1) (σ' := ⟨mkT_ 160 [(1, aI (.pt [nI d.n, sI d.text, .sl 1 (d.kids.map eQ)])), (2, .t (.c (.loc 0 0))), (4, aI (bI false)), (124, aI (bI true))], [.live (.box 72 [.i (.pt [nI t.kind, nI t.n, .sl 1 (t.kids.map eP)])])]⟩) (by kernel_rfl) ⟨c1, c5, (chosen.ok N t y0 c6), c7, c15, c18, c19, c19, c19, c19, c19, c19, c19, c19, c19, c19, c19, c19, trivial⟩ ?_
                obtain rfl := Option.some.inj h
                exact finW_ok (n := 400) (gs := [.a 1]) [] (ob := []) (r' := aI (bI false)) [] (by kernel_rfl) trivial rfl
              · refine drw_ok (n := 400) (gs := [.b false, .b false, .r (aI (bI y0)), .b false, .b false, .b true]) [[], [], [], [], [], [], [.b false], [.b false], [.b false], [.b false], [.b false], [.b false], [.b false], [.b false], [.b false], [.b false], [.b false], [.b false]] [1, 2, 4, 124] [0] (ob := [(t.kind == 12) = false, (!(d.text.toList == (⟨#[]⟩ : ByteArray).toList)) = false, Ok Tryd.prog 85 [tI (.pt [nI t.kind, nI t.n, .sl 1 (t.kids.map eP)])] (aI (bI y0)), y0 = false, (t.kind == 13) = false, (t.kind == 14) = true, (d.n != 0) = false, (d.n != 0) = false, (d.n != 0) = false, (d.n != 0) = false, (d.n != 0) = false, (d.n != 0) = false, (d.n != 0) = false, (d.n != 0) = false, (d.n != 0) = false, (d.n != 0) = false, (d.n != 0) = false, (d.n != 0) = false]) (K' := dK (codeOf Tryd.f61) 1) (σ' := ⟨mkT_ 160 [(1, aI (.pt [nI d.n, sI d.text, .sl 1 (d.kids.map eQ)])), (2, .t (.c (.loc 0 0))), (4, aI (bI false)), (124, aI (bI (((d.kids.map eQ).length : Int) != ((t.kids.map eP).length : Int))))], [.live (.box 72 [.i (.pt [nI t.kind, nI t.n, .sl 1 (t.kids.map eP)])])]⟩) (by kernel_rfl) ⟨c1, c5, (chosen.ok N t y0 c6), c7, c15, c18, c19, c19, c19, c19, c19, c19, c19, c19, c19, c19, c19, c19, trivial⟩ ?_
                rcases bif_some h with ⟨c20, h⟩ | ⟨c20, h⟩
                · obtain rfl := Option.some.inj h
                  exact finW_ok (n := 400) (gs := [.b true]) [] (ob := [(((d.kids.map eQ).length : Int) != ((t.kids.map eP).length : Int)) = true]) (r' := aI (bI false)) [] (by kernel_rfl) ⟨c20, trivial⟩ rfl
                · refine headB_ok (n := 400) (gs := [.b false]) [] [] [1, 2, 4, 128, 129, 130] [0] (ob := [(((d.kids.map eQ).length : Int) != ((t.kids.map eP).length : Int)) = false]) (b := lB (codeOf Tryd.f61) 0) (K' := lK (codeOf Tryd.f61) 0) (σ' := ⟨mkT_ 160 [(1, aI (.pt [nI d.n, sI d.text, .sl 1 (d.kids.map eQ)])), (2, .t (.c (.loc 0 0))), (4, aI (bI false)), (128, aI (.sl 1 (d.kids.map eQ))), (129, aI (nI ((d.kids.map eQ).length : Int))), (130, aI (nI 0))], [.live (.box 72 [.i (.pt [nI t.kind, nI t.n, .sl 1 (t.kids.map eP)])])]⟩) (by kernel_rfl) ⟨c20, trivial⟩ ?_
                  refine loop_ok (fun q : Nat × Int => ⟨mkT_ 160 [(1, aI (.pt [nI d.n, sI d.text, .sl 1 (d.kids.map eQ)])), (2, .t (.c (.loc 0 0))), (4, aI (bI false)), (128, aI (.sl 1 (d.kids.map eQ))), (129, aI (nI ((d.kids.map eQ).length : Int))), (130, aI (nI (q.2)))], [.live (.box 72 [.i (.pt [nI t.kind, nI t.n, .sl 1 (t.kids.map eP)])])]⟩) (fun q => fits.L0 N t d (fits.sem N) q.1 q.2 = some r) (fun q => q.1) (N, 0) h ?_
                  clear h
                  rintro ⟨n0, v0_130⟩ h R0 hR0
                  replace h : fits.L0 N t d (fits.sem N) n0 v0_130 = some r := h
                  rcases n0 with _ | n0
                  · cases h
                  unfold fits.L0 at h
                  show AX _ _ _ _ _ (⟨mkT_ 160 [(1, aI (.pt [nI d.n, sI d.text, .sl 1 (d.kids.map eQ)])), (2, .t (.c (.loc 0 0))), (4, aI (bI false)), (128, aI (.sl 1 (d.kids.map eQ))), (129, aI (nI ((d.kids.map eQ).length : Int))), (130, aI (nI v0_130))], [.live (.box 72 [.i (.pt [nI t.kind, nI t.n, .sl 1 (t.kids.map eP)])])]⟩)
                  rcases bif_some h with ⟨c21, h⟩ | ⟨c21, h⟩
                  · obtain ⟨c22, h⟩ := chk_some h
                    obtain ⟨c23, h⟩ := chk_some h
                    obtain ⟨y1, c24, h⟩ := bind_some' h
                    rcases bif_some h with ⟨c25, h⟩ | ⟨c25, h⟩
                    · obtain rfl := Option.some.inj h
                      exact finW_ok (n := 400) (gs := [.b true, .ys [.pt [nI ((d.kids.getD v0_130.toNat default).n), sI ((d.kids.getD v0_130.toNat default).text), .sl 1 (((d.kids.getD v0_130.toNat default).kids).map eQ)]], .ys [.pt [nI ((t.kids.getD v0_130.toNat default).kind), nI ((t.kids.getD v0_130.toNat default).n), .sl 1 (((t.kids.getD v0_130.toNat default).kids).map eP)]], .r (aI (bI y1)), .b true]) [] (ob := [decide (v0_130 < ((d.kids.map eQ).length : Int)) = true, 0 ≤ v0_130, (d.kids.map eQ)[v0_130.toNat]? = some [.pt [nI ((d.kids.getD v0_130.toNat default).n), sI ((d.kids.getD v0_130.toNat default).text), .sl 1 (((d.kids.getD v0_130.toNat default).kids).map eQ)]], 0 ≤ v0_130, (t.kids.map eP)[v0_130.toNat]? = some [.pt [nI ((t.kids.getD v0_130.toNat default).kind), nI ((t.kids.getD v0_130.toNat default).n), .sl 1 (((t.kids.getD v0_130.toNat default).kids).map eP)]], Ok Tryd.prog 61 [tI (.pt [nI ((t.kids.getD v0_130.toNat default).kind), nI ((t.kids.getD v0_130.toNat default).n), .sl 1 (((t.kids.getD v0_130.toNat default).kids).map eP)]), tI (.pt [nI ((d.kids.getD v0_130.toNat default).n), sI ((d.kids.getD v0_130.toNat default).text), .sl 1 (((d.kids.getD v0_130.toNat default).kids).map eQ)])] (aI (bI y1)), (!y1) = true]) (r' := aI (bI false)) [] (by kernel_rfl) ⟨c21, (inR_lo c22), (eQ_el rfl c22), (inR_lo c23), (eP_el rfl c23), (ih (t.kids.getD v0_130.toNat default) (d.kids.getD v0_130.toNat default) y1 c24), c25, trivial⟩ rfl
                    · exact inv_ok (n := 400) (gs := [.b true, .ys [.pt [nI ((d.kids.getD v0_130.toNat default).n), sI ((d.kids.getD v0_130.toNat default).text), .sl 1 (((d.kids.getD v0_130.toNat default).kids).map eQ)]], .ys [.pt [nI ((t.kids.getD v0_130.toNat default).kind), nI ((t.kids.getD v0_130.toNat default).n), .sl 1 (((t.kids.getD v0_130.toNat default).kids).map eP)]], .r (aI (bI y1)), .b false]) [1, 2, 4, 128, 129, 130] [0] (ob := [decide (v0_130 < ((d.kids.map eQ).length : Int)) = true, 0 ≤ v0_130, (d.kids.map eQ)[v0_130.toNat]? = some [.pt [nI ((d.kids.getD v0_130.toNat default).n), sI ((d.kids.getD v0_130.toNat default).text), .sl 1 (((d.kids.getD v0_130.toNat default).kids).map eQ)]], 0 ≤ v0_130, (t.kids.map eP)[v0_130.toNat]? = some [.pt [nI ((t.kids.getD v0_130.toNat default).kind), nI ((t.kids.getD v0_130.toNat default).n), .sl 1 (((t.kids.getD v0_130.toNat default).kids).map eP)]], Ok Tryd.prog 61 [tI (.pt [nI ((t.kids.getD v0_130.toNat default).kind), nI ((t.kids.getD v0_130.toNat default).n), .sl 1 (((t.kids.getD v0_130.toNat default).kids).map eP)]), tI (.pt [nI ((d.kids.getD v0_130.toNat default).n), sI ((d.kids.getD v0_130.toNat default).text), .sl 1 (((d.kids.getD v0_130.toNat default).kids).map eQ)])] (aI (bI y1)), (!y1) = false]) (σ' := ⟨mkT_ 160 [(1, aI (.pt [nI d.n, sI d.text, .sl 1 (d.kids.map eQ)])), (2, .t (.c (.loc 0 0))), (4, aI (bI false)), (128, aI (.sl 1 (d.kids.map eQ))), (129, aI (nI ((d.kids.map eQ).length : Int))), (130, aI (nI (IntKind.i64.wrap (v0_130 + 1))))], [.live (.box 72 [.i (.pt [nI t.kind, nI t.n, .sl 1 (t.kids.map eP)])])]⟩) (by kernel_rfl) ⟨c21, (inR_lo c22), (eQ_el rfl c22), (inR_lo c23), (eP_el rfl c23), (ih (t.kids.getD v0_130.toNat default) (d.kids.getD v0_130.toNat default) y1 c24), c25, trivial⟩ (fun a w hs => hR0 (n0, IntKind.i64.wrap (v0_130 + 1)) a w h (Nat.lt_succ_self _) hs)
                  · obtain rfl := Option.some.inj h
                    exact finW_ok (n := 400) (gs := [.b false]) [] (ob := [decide (v0_130 < ((d.kids.map eQ).length : Int)) = false]) (r' := aI (bI true)) [] (by kernel_rfl) ⟨c21, trivial⟩ rfl
            · rcases bif_some h with ⟨c26, h⟩ | ⟨c26, h⟩
              · obtain ⟨y1, c27, h⟩ := bind_some' h
                refine drw_ok (n := 400) (gs := [.b false, .b false, .r (aI (bI y0)), .b false, .b false, .b false]) [[], [], [], [], [], [], [], [.b true], [.b true], [.b true], [.b true], [.b true], [.b true, .r (aI (bI y1))], [.b true], []] [4] [] (ob := [(t.kind == 12) = false, (!(d.text.toList == (⟨#[]⟩ : ByteArray).toList)) = false, Ok Tryd.prog 85 [tI (.pt [nI t.kind, nI t.n, .sl 1 (t.kids.map eP)])] (aI (bI y0)), y0 = false, (t.kind == 13) = false, (t.kind == 14) = false, (((d.kids.map eQ).length : Int) == 0) = true, (((d.kids.map eQ).length : Int) == 0) = true, (((d.kids.map eQ).length : Int) == 0) = true, (((d.kids.map eQ).length : Int) == 0) = true, (((d.kids.map eQ).length : Int) == 0) = true, (((d.kids.map eQ).length : Int) == 0) = true, Ok Tryd.prog 89 [tI (.pt [nI t.kind, nI t.n, .sl 1 (t.kids.map eP)]), tI (nI d.n)] (aI (bI y1)), (((d.kids.map eQ).length : Int) == 0) = true]) (K' := dK (codeOf Tryd.f61) 2) (σ' := ⟨mkT_ 160 [(4, aI (bI y1))], []⟩) (by kernel_rfl) ⟨c1, c5, (chosen.ok N t y0 c6), c7, c15, c18, c26, c26, c26, c26, c26, c26, (numberOk.ok N t d.n y1 c27), c26, trivial⟩ ?_
                obtain rfl := Option.some.inj h
                exact finW_ok (n := 400) (gs := []) [] (ob := []) (r' := aI (bI y1)) [] (by kernel_rfl) trivial rfl
              · refine drw_ok (n := 400) (gs := [.b false, .b false, .r (aI (bI y0)), .b false, .b false, .b false]) [[], [], [], [], [], [], [], [.b false], [.b false], [.b false], [.b false], [.b false], [.b false], [.b false], []] [4] [] (ob := [(t.kind == 12) = false, (!(d.text.toList == (⟨#[]⟩ : ByteArray).toList)) = false, Ok Tryd.prog 85 [tI (.pt [nI t.kind, nI t.n, .sl 1 (t.kids.map eP)])] (aI (bI y0)), y0 = false, (t.kind == 13) = false, (t.kind == 14) = false, (((d.kids.map eQ).length : Int) == 0) = false, (((d.kids.map eQ).length : Int) == 0) = false, (((d.kids.map eQ).length : Int) == 0) = false, (((d.kids.map eQ).length : Int) == 0) = false, (((d.kids.map eQ).length : Int) == 0) = false, (((d.kids.map eQ).length : Int) == 0) = false, (((d.kids.map eQ).length : Int) == 0) = false]) (K' := dK (codeOf Tryd.f61) 2) (σ' := ⟨mkT_ 160 [(4, aI (bI false))], []⟩) (by kernel_rfl) ⟨c1, c5, (chosen.ok N t y0 c6), c7, c15, c18, c26, c26, c26, c26, c26, c26, c26, trivial⟩ ?_
                obtain rfl := Option.some.inj h
                exact finW_ok (n := 400) (gs := []) [] (ob := []) (r' := aI (bI false)) [] (by kernel_rfl) trivial rfl
def szTN.sem (N : Nat) (l : (List TN)) (k : Int) : Option Int :=
    bif decide ((IntKind.i64.wrap (k - ((l.map eTN).length : Int))) < 0) then
      some (-1)
    else
      some (IntKind.i64.wrap (k - ((l.map eTN).length : Int)))
set_option maxHeartbeats 1000000 in
theorem szTN.ok (N : Nat) (l : (List TN)) (k : Int) (r : Int) (h : szTN.sem N l k = some r) : Ok Tryd.prog 9 [tI (.sl 3 (l.map eTN)), tI (nI k)] (aI (nI r)) := by
  unfold szTN.sem at h
  refine fnW_ok Tryd.func9 (by kernel_rfl) rfl rfl fun F hF => ?_
  rcases bif_some h with ⟨c1, h⟩ | ⟨c1, h⟩
  · obtain rfl := Option.some.inj h
    exact finW_ok (n := 400) (gs := [.b true]) [] (ob := [decide ((IntKind.i64.wrap (k - ((l.map eTN).length : Int))) < 0) = true]) (r' := aI (nI (-1))) [] (by kernel_rfl) ⟨c1, trivial⟩ rfl
  · obtain rfl := Option.some.inj h
    exact finW_ok (n := 400) (gs := [.b false]) [] (ob := [decide ((IntKind.i64.wrap (k - ((l.map eTN).length : Int))) < 0) = false]) (r' := aI (nI (IntKind.i64.wrap (k - ((l.map eTN).length : Int))))) [] (by kernel_rfl) ⟨c1, trivial⟩ rfl
def szVN1.sem (N : Nat) (v : VN) (k : Int) : Option Int :=
    bif decide ((IntKind.i64.wrap (k - (v.text.size : Int))) < 0) then
      some (-1)
    else
      some (IntKind.i64.wrap (k - (v.text.size : Int)))
set_option maxHeartbeats 1000000 in
theorem szVN1.ok (N : Nat) (v : VN) (k : Int) (r : Int) (h : szVN1.sem N v k = some r) : Ok Tryd.prog 30 [.agg [.i (nI v.n), .i (sI v.text), .i (nI v.up)], tI (nI k)] (aI (nI r)) := by
  unfold szVN1.sem at h
  refine fnW_ok Tryd.func30 (by kernel_rfl) rfl rfl fun F hF => ?_
  rcases bif_some h with ⟨c1, h⟩ | ⟨c1, h⟩
  · obtain rfl := Option.some.inj h
    exact finW_ok (n := 400) (gs := [.b true]) [] (ob := [decide ((IntKind.i64.wrap (k - (v.text.size : Int))) < 0) = true]) (r' := aI (nI (-1))) [] (by kernel_rfl) ⟨c1, trivial⟩ rfl
  · obtain rfl := Option.some.inj h
    exact finW_ok (n := 400) (gs := [.b false]) [] (ob := [decide ((IntKind.i64.wrap (k - (v.text.size : Int))) < 0) = false]) (r' := aI (nI (IntKind.i64.wrap (k - (v.text.size : Int))))) [] (by kernel_rfl) ⟨c1, trivial⟩ rfl
def szVN.L0 (N : Nat) (l : (List VN)) (k : Int) : Nat → Int → Int → Option Int
  | 0, _, _ => none
  | n0 + 1, v0_1, v0_5 =>
    bif decide (v0_5 < ((l.map eVN).length : Int)) then
      bif inR v0_5 l.length then
        (szVN1.sem N (l.getD v0_5.toNat default) v0_1).bind fun y0 =>
        bif decide (y0 < 0) then
        some (-1)
      else
        szVN.L0 N l k n0 y0 (IntKind.i64.wrap (v0_5 + 1))
      else none
    else
      some v0_1
def szVN.sem (N : Nat) (l : (List VN)) (k : Int) : Option Int :=
    bif decide ((IntKind.i64.wrap (k - ((l.map eVN).length : Int))) < 0) then
      some (-1)
    else
      szVN.L0 N l k N (IntKind.i64.wrap (k - ((l.map eVN).length : Int))) 0
set_option maxHeartbeats 1000000 in
theorem szVN.ok (N : Nat) (l : (List VN)) (k : Int) (r : Int) (h : szVN.sem N l k = some r) : Ok Tryd.prog 10 [tI (.sl 3 (l.map eVN)), tI (nI k)] (aI (nI r)) := by
  unfold szVN.sem at h
  refine fnW_ok Tryd.func10 (by kernel_rfl) rfl rfl fun F hF => ?_
  rcases bif_some h with ⟨c1, h⟩ | ⟨c1, h⟩
  · obtain rfl := Option.some.inj h
    exact finW_ok (n := 400) (gs := [.b true]) [] (ob := [decide ((IntKind.i64.wrap (k - ((l.map eVN).length : Int))) < 0) = true]) (r' := aI (nI (-1))) [] (by kernel_rfl) ⟨c1, trivial⟩ rfl
  · refine headB_ok (n := 400) (gs := [.b false]) [] [] [0, 1, 4, 5] [] (ob := [decide ((IntKind.i64.wrap (k - ((l.map eVN).length : Int))) < 0) = false]) (b := lB (codeOf Tryd.f10) 0) (K' := lK (codeOf Tryd.f10) 0) (σ' := ⟨mkT_ 27 [(0, aI (.sl 3 (l.map eVN))), (1, aI (nI (IntKind.i64.wrap (k - ((l.map eVN).length : Int))))), (4, aI (nI 0)), (5, aI (nI 0))], []⟩) (by kernel_rfl) ⟨c1, trivial⟩ ?_
    refine loop_ok (fun q : Nat × Int × Int => ⟨mkT_ 27 [(0, aI (.sl 3 (l.map eVN))), (1, aI (nI (q.2.1))), (4, aI (nI 0)), (5, aI (nI (q.2.2)))], []⟩) (fun q => szVN.L0 N l k q.1 q.2.1 q.2.2 = some r) (fun q => q.1) (N, IntKind.i64.wrap (k - ((l.map eVN).length : Int)), 0) h ?_
    clear h
    rintro ⟨n0, v0_1, v0_5⟩ h R0 hR0
    replace h : szVN.L0 N l k n0 v0_1 v0_5 = some r := h
    rcases n0 with _ | n0
    · cases h
    unfold szVN.L0 at h
    show AX _ _ _ _ _ (⟨mkT_ 27 [(0, aI (.sl 3 (l.map eVN))), (1, aI (nI v0_1)), (4, aI (nI 0)), (5, aI (nI v0_5))], []⟩)
    rcases bif_some h with ⟨c2, h⟩ | ⟨c2, h⟩
    · obtain ⟨c3, h⟩ := chk_some h
      obtain ⟨y0, c4, h⟩ := bind_some' h
      rcases bif_some h with ⟨c5, h⟩ | ⟨c5, h⟩
      · obtain rfl := Option.some.inj h
        exact finW_ok (n := 400) (gs := [.b true, .ys [nI ((l.getD v0_5.toNat default).n), sI ((l.getD v0_5.toNat default).text), nI ((l.getD v0_5.toNat default).up)], .r (aI (nI y0)), .b true]) [] (ob := [decide (v0_5 < ((l.map eVN).length : Int)) = true, 0 ≤ v0_5, (l.map eVN)[v0_5.toNat]? = some [nI ((l.getD v0_5.toNat default).n), sI ((l.getD v0_5.toNat default).text), nI ((l.getD v0_5.toNat default).up)], Ok Tryd.prog 30 [.agg [.i (nI ((l.getD v0_5.toNat default).n)), .i (sI ((l.getD v0_5.toNat default).text)), .i (nI ((l.getD v0_5.toNat default).up))], tI (nI v0_1)] (aI (nI y0)), decide (y0 < 0) = true]) (r' := aI (nI (-1))) [] (by kernel_rfl) ⟨c2, (inR_lo c3), (el_of eVN rfl c3), (szVN1.ok N (l.getD v0_5.toNat default) v0_1 y0 c4), c5, trivial⟩ rfl
      · exact inv_ok (n := 400) (gs := [.b true, .ys [nI ((l.getD v0_5.toNat default).n), sI ((l.getD v0_5.toNat default).text), nI ((l.getD v0_5.toNat default).up)], .r (aI (nI y0)), .b false]) [0, 1, 4, 5] [] (ob := [decide (v0_5 < ((l.map eVN).length : Int)) = true, 0 ≤ v0_5, (l.map eVN)[v0_5.toNat]? = some [nI ((l.getD v0_5.toNat default).n), sI ((l.getD v0_5.toNat default).text), nI ((l.getD v0_5.toNat default).up)], Ok Tryd.prog 30 [.agg [.i (nI ((l.getD v0_5.toNat default).n)), .i (sI ((l.getD v0_5.toNat default).text)), .i (nI ((l.getD v0_5.toNat default).up))], tI (nI v0_1)] (aI (nI y0)), decide (y0 < 0) = false]) (σ' := ⟨mkT_ 27 [(0, aI (.sl 3 (l.map eVN))), (1, aI (nI y0)), (4, aI (nI 0)), (5, aI (nI (IntKind.i64.wrap (v0_5 + 1))))], []⟩) (by kernel_rfl) ⟨c2, (inR_lo c3), (el_of eVN rfl c3), (szVN1.ok N (l.getD v0_5.toNat default) v0_1 y0 c4), c5, trivial⟩ (fun a w hs => hR0 (n0, y0, IntKind.i64.wrap (v0_5 + 1)) a w h (Nat.lt_succ_self _) hs)
    · obtain rfl := Option.some.inj h
      exact finW_ok (n := 400) (gs := [.b false]) [] (ob := [decide (v0_5 < ((l.map eVN).length : Int)) = false]) (r' := aI (nI v0_1)) [] (by kernel_rfl) ⟨c2, trivial⟩ rfl
def toTN1.sem (N : Nat) (t : TN) : Option TN :=
    some t
set_option maxHeartbeats 1000000 in
theorem toTN1.ok (N : Nat) (t : TN) (r : TN) (h : toTN1.sem N t = some r) : Ok Tryd.prog 36 [.agg [.i (nI t.kind), .i (nI t.n), .i (nI t.up)]] (.t (.agg [.i (nI r.kind), .i (nI r.n), .i (nI r.up)])) := by
  unfold toTN1.sem at h
  refine fnW_ok Tryd.func36 (by kernel_rfl) rfl rfl fun F hF => ?_
  obtain rfl := Option.some.inj h
  exact finW_ok (n := 400) (gs := []) [] (ob := []) (r' := .t (.agg [.i (nI t.kind), .i (nI t.n), .i (nI t.up)])) [] (by kernel_rfl) trivial rfl
def toVN1.sem (N : Nat) (t : VN) : Option VN :=
    some t
set_option maxHeartbeats 1000000 in
theorem toVN1.ok (N : Nat) (t : VN) (r : VN) (h : toVN1.sem N t = some r) : Ok Tryd.prog 37 [.agg [.i (nI t.n), .i (sI t.text), .i (nI t.up)]] (.t (.agg [.i (nI r.n), .i (sI r.text), .i (nI r.up)])) := by
  unfold toVN1.sem at h
  refine fnW_ok Tryd.func37 (by kernel_rfl) rfl rfl fun F hF => ?_
  obtain rfl := Option.some.inj h
  exact finW_ok (n := 400) (gs := []) [] (ob := []) (r' := .t (.agg [.i (nI t.n), .i (sI t.text), .i (nI t.up)])) [] (by kernel_rfl) trivial rfl
def toTN.L0 (N : Nat) (l : (List TN)) : Nat → Int → (List TN) → Option (List TN)
  | 0, _, _ => none
  | n0 + 1, v0_4, v0_o_0 =>
    bif decide (v0_4 < ((l.map eTN).length : Int)) then
      bif inR v0_4 l.length then
        (toTN1.sem N (l.getD v0_4.toNat default)).bind fun y0 =>
        bif inR v0_4 v0_o_0.length then
          toTN.L0 N l n0 (IntKind.i64.wrap (v0_4 + 1)) (v0_o_0.set v0_4.toNat y0)
        else none
      else none
    else
      some v0_o_0
def toTN.sem (N : Nat) (l : (List TN)) : Option (List TN) :=
    bif okMk 24 ((l.map eTN).length : Int) then
      toTN.L0 N l N 0 (List.replicate ((l.map eTN).length : Int).toNat (TN.mk 0 0 0))
    else none
set_option maxHeartbeats 1000000 in
theorem toTN.ok (N : Nat) (l : (List TN)) (r : (List TN)) (h : toTN.sem N l = some r) : Ok Tryd.prog 12 [tI (.sl 3 (l.map eTN))] (aI (.sl 3 (r.map eTN))) := by
  unfold toTN.sem at h
  refine fnW_ok Tryd.func12 (by kernel_rfl) rfl rfl fun F hF => ?_
  obtain ⟨c1, h⟩ := chk_some h
  refine headB_ok (n := 400) (gs := []) [] [] [0, 2, 3, 4] [0] (ob := [((l.map eTN).length : Int) = ((l.map eTN).length : Int), 0 ≤ ((l.map eTN).length : Int), (24 : Int) * ((l.map eTN).length : Int) ≤ 281474976710656]) (b := lB (codeOf Tryd.f12) 0) (K' := lK (codeOf Tryd.f12) 0) (σ' := ⟨mkT_ 23 [(0, aI (.sl 3 (l.map eTN))), (2, aI (.v (.slice none 0 0))), (3, .t (.c (.os 0))), (4, aI (nI 0))], [.live (.row 67 3 (List.replicate ((l.map eTN).length : Int).toNat [nI 0, nI 0, nI 0]))]⟩) (by kernel_rfl) ⟨rfl, (okMk_lo c1), (okMk_hi c1), trivial⟩ ?_
  rw [((by simp [cutC, eTN]) : List.replicate ((l.map eTN).length : Int).toNat [nI 0, nI 0, nI 0] = (List.replicate ((l.map eTN).length : Int).toNat (TN.mk 0 0 0)).map eTN)]
  refine loop_ok (fun q : Nat × Int × (List TN) => ⟨mkT_ 23 [(0, aI (.sl 3 (l.map eTN))), (2, aI (.v (.slice none 0 0))), (3, .t (.c (.os 0))), (4, aI (nI (q.2.1)))], [.live (.row 67 3 ((q.2.2).map eTN))]⟩) (fun q => toTN.L0 N l q.1 q.2.1 q.2.2 = some r) (fun q => q.1) (N, 0, List.replicate ((l.map eTN).length : Int).toNat (TN.mk 0 0 0)) h ?_
  clear h
  rintro ⟨n0, v0_4, v0_o_0⟩ h R0 hR0
  replace h : toTN.L0 N l n0 v0_4 v0_o_0 = some r := h
  rcases n0 with _ | n0
  · cases h
  unfold toTN.L0 at h
  show AX _ _ _ _ _ (⟨mkT_ 23 [(0, aI (.sl 3 (l.map eTN))), (2, aI (.v (.slice none 0 0))), (3, .t (.c (.os 0))), (4, aI (nI v0_4))], [.live (.row 67 3 (v0_o_0.map eTN))]⟩)
  rcases bif_some h with ⟨c2, h⟩ | ⟨c2, h⟩
  · obtain ⟨c3, h⟩ := chk_some h
    obtain ⟨y0, c4, h⟩ := bind_some' h
    obtain ⟨c5, h⟩ := chk_some h
    exact inv_ok (n := 400) (gs := [.b true, .ys [nI ((l.getD v0_4.toNat default).kind), nI ((l.getD v0_4.toNat default).n), nI ((l.getD v0_4.toNat default).up)], .r (.t (.agg [.i (nI y0.kind), .i (nI y0.n), .i (nI y0.up)])), .ys [nI ((v0_o_0.getD v0_4.toNat default).kind), nI ((v0_o_0.getD v0_4.toNat default).n), nI ((v0_o_0.getD v0_4.toNat default).up)]]) [0, 2, 3, 4] [0] (ob := [decide (v0_4 < ((l.map eTN).length : Int)) = true, 0 ≤ v0_4, (l.map eTN)[v0_4.toNat]? = some [nI ((l.getD v0_4.toNat default).kind), nI ((l.getD v0_4.toNat default).n), nI ((l.getD v0_4.toNat default).up)], Ok Tryd.prog 36 [.agg [.i (nI ((l.getD v0_4.toNat default).kind)), .i (nI ((l.getD v0_4.toNat default).n)), .i (nI ((l.getD v0_4.toNat default).up))]] (.t (.agg [.i (nI y0.kind), .i (nI y0.n), .i (nI y0.up)])), 0 ≤ v0_4, v0_4 < ((v0_o_0.map eTN).length : Int), (v0_o_0.map eTN)[v0_4.toNat]? = some [nI ((v0_o_0.getD v0_4.toNat default).kind), nI ((v0_o_0.getD v0_4.toNat default).n), nI ((v0_o_0.getD v0_4.toNat default).up)]]) (σ' := ⟨mkT_ 23 [(0, aI (.sl 3 (l.map eTN))), (2, aI (.v (.slice none 0 0))), (3, .t (.c (.os 0))), (4, aI (nI (IntKind.i64.wrap (v0_4 + 1))))], [.live (.row 67 3 ((v0_o_0.map eTN).set v0_4.toNat [nI y0.kind, nI y0.n, nI y0.up]))]⟩) (by kernel_rfl) ⟨c2, (inR_lo c3), (el_of eTN rfl c3), (toTN1.ok N (l.getD v0_4.toNat default) y0 c4), (inR_lo c5), (inR_hi (by simp [cutC]) c5), (el_of eTN rfl c5), trivial⟩ (fun a w hs => hR0 (n0, IntKind.i64.wrap (v0_4 + 1), v0_o_0.set v0_4.toNat y0) a w h (Nat.lt_succ_self _) (by rw [((by simp [cutC, eTN]) : (v0_o_0.map eTN).set v0_4.toNat [nI y0.kind, nI y0.n, nI y0.up] = (v0_o_0.set v0_4.toNat y0).map eTN)] at hs; exact hs))
  · obtain rfl := Option.some.inj h
    exact finW_ok (n := 400) (gs := [.b false]) [.fz 0] (ob := [decide (v0_4 < ((l.map eTN).length : Int)) = false]) (r' := aI (.sl 3 (v0_o_0.map eTN))) [] (by kernel_rfl) ⟨c2, trivial⟩ rfl
def toVN.L0 (N : Nat) (l : (List VN)) : Nat → Int → (List VN) → Option (List VN)
  | 0, _, _ => none
  | n0 + 1, v0_4, v0_o_0 =>
    bif decide (v0_4 < ((l.map eVN).length : Int)) then
      bif inR v0_4 l.length then
        (toVN1.sem N (l.getD v0_4.toNat default)).bind fun y0 =>
        bif inR v0_4 v0_o_0.length then
          toVN.L0 N l n0 (IntKind.i64.wrap (v0_4 + 1)) (v0_o_0.set v0_4.toNat y0)
        else none
      else none
    else
      some v0_o_0
def toVN.sem (N : Nat) (l : (List VN)) : Option (List VN) :=
    bif okMk 32 ((l.map eVN).length : Int) then
      toVN.L0 N l N 0 (List.replicate ((l.map eVN).length : Int).toNat (VN.mk 0 ByteArray.empty 0))
    else none
set_option maxHeartbeats 1000000 in
theorem toVN.ok (N : Nat) (l : (List VN)) (r : (List VN)) (h : toVN.sem N l = some r) : Ok Tryd.prog 13 [tI (.sl 3 (l.map eVN))] (aI (.sl 3 (r.map eVN))) := by
  unfold toVN.sem at h
  refine fnW_ok Tryd.func13 (by kernel_rfl) rfl rfl fun F hF => ?_
  obtain ⟨c1, h⟩ := chk_some h
  refine headB_ok (n := 400) (gs := []) [] [] [0, 2, 3, 4] [0] (ob := [((l.map eVN).length : Int) = ((l.map eVN).length : Int), 0 ≤ ((l.map eVN).length : Int), (32 : Int) * ((l.map eVN).length : Int) ≤ 281474976710656]) (b := lB (codeOf Tryd.f13) 0) (K' := lK (codeOf Tryd.f13) 0) (σ' := ⟨mkT_ 23 [(0, aI (.sl 3 (l.map eVN))), (2, aI (.v (.slice none 0 0))), (3, .t (.c (.os 0))), (4, aI (nI 0))], [.live (.row 70 3 (List.replicate ((l.map eVN).length : Int).toNat [nI 0, sI ByteArray.empty, nI 0]))]⟩) (by kernel_rfl) ⟨rfl, (okMk_lo c1), (okMk_hi c1), trivial⟩ ?_
  rw [((by simp [cutC, eVN]) : List.replicate ((l.map eVN).length : Int).toNat [nI 0, sI ByteArray.empty, nI 0] = (List.replicate ((l.map eVN).length : Int).toNat (VN.mk 0 ByteArray.empty 0)).map eVN)]
  refine loop_ok (fun q : Nat × Int × (List VN) => ⟨mkT_ 23 [(0, aI (.sl 3 (l.map eVN))), (2, aI (.v (.slice none 0 0))), (3, .t (.c (.os 0))), (4, aI (nI (q.2.1)))], [.live (.row 70 3 ((q.2.2).map eVN))]⟩) (fun q => toVN.L0 N l q.1 q.2.1 q.2.2 = some r) (fun q => q.1) (N, 0, List.replicate ((l.map eVN).length : Int).toNat (VN.mk 0 ByteArray.empty 0)) h ?_
  clear h
  rintro ⟨n0, v0_4, v0_o_0⟩ h R0 hR0
  replace h : toVN.L0 N l n0 v0_4 v0_o_0 = some r := h
  rcases n0 with _ | n0
  · cases h
  unfold toVN.L0 at h
  show AX _ _ _ _ _ (⟨mkT_ 23 [(0, aI (.sl 3 (l.map eVN))), (2, aI (.v (.slice none 0 0))), (3, .t (.c (.os 0))), (4, aI (nI v0_4))], [.live (.row 70 3 (v0_o_0.map eVN))]⟩)
  rcases bif_some h with ⟨c2, h⟩ | ⟨c2, h⟩
  · obtain ⟨c3, h⟩ := chk_some h
    obtain ⟨y0, c4, h⟩ := bind_some' h
    obtain ⟨c5, h⟩ := chk_some h
    exact inv_ok (n := 400) (gs := [.b true, .ys [nI ((l.getD v0_4.toNat default).n), sI ((l.getD v0_4.toNat default).text), nI ((l.getD v0_4.toNat default).up)], .r (.t (.agg [.i (nI y0.n), .i (sI y0.text), .i (nI y0.up)])), .ys [nI ((v0_o_0.getD v0_4.toNat default).n), sI ((v0_o_0.getD v0_4.toNat default).text), nI ((v0_o_0.getD v0_4.toNat default).up)]]) [0, 2, 3, 4] [0] (ob := [decide (v0_4 < ((l.map eVN).length : Int)) = true, 0 ≤ v0_4, (l.map eVN)[v0_4.toNat]? = some [nI ((l.getD v0_4.toNat default).n), sI ((l.getD v0_4.toNat default).text), nI ((l.getD v0_4.toNat default).up)], Ok Tryd.prog 37 [.agg [.i (nI ((l.getD v0_4.toNat default).n)), .i (sI ((l.getD v0_4.toNat default).text)), .i (nI ((l.getD v0_4.toNat default).up))]] (.t (.agg [.i (nI y0.n), .i (sI y0.text), .i (nI y0.up)])), 0 ≤ v0_4, v0_4 < ((v0_o_0.map eVN).length : Int), (v0_o_0.map eVN)[v0_4.toNat]? = some [nI ((v0_o_0.getD v0_4.toNat default).n), sI ((v0_o_0.getD v0_4.toNat default).text), nI ((v0_o_0.getD v0_4.toNat default).up)]]) (σ' := ⟨mkT_ 23 [(0, aI (.sl 3 (l.map eVN))), (2, aI (.v (.slice none 0 0))), (3, .t (.c (.os 0))), (4, aI (nI (IntKind.i64.wrap (v0_4 + 1))))], [.live (.row 70 3 ((v0_o_0.map eVN).set v0_4.toNat [nI y0.n, sI y0.text, nI y0.up]))]⟩) (by kernel_rfl) ⟨c2, (inR_lo c3), (el_of eVN rfl c3), (toVN1.ok N (l.getD v0_4.toNat default) y0 c4), (inR_lo c5), (inR_hi (by simp [cutC]) c5), (el_of eVN rfl c5), trivial⟩ (fun a w hs => hR0 (n0, IntKind.i64.wrap (v0_4 + 1), v0_o_0.set v0_4.toNat y0) a w h (Nat.lt_succ_self _) (by rw [((by simp [cutC, eVN]) : (v0_o_0.map eVN).set v0_4.toNat [nI y0.n, sI y0.text, nI y0.up] = (v0_o_0.set v0_4.toNat y0).map eVN)] at hs; exact hs))
  · obtain rfl := Option.some.inj h
    exact finW_ok (n := 400) (gs := [.b false]) [.fz 0] (ob := [decide (v0_4 < ((l.map eVN).length : Int)) = false]) (r' := aI (.sl 3 (v0_o_0.map eVN))) [] (by kernel_rfl) ⟨c2, trivial⟩ rfl
def eqTN1.sem (N : Nat) (a : TN) (b : TN) : Option Bool :=
    bif (a.kind != b.kind) then
      some false
    else
      bif (a.n != b.n) then
        some false
      else
        bif (a.up != b.up) then
          some false
        else
          some true
set_option maxHeartbeats 1000000 in
theorem eqTN1.ok (N : Nat) (a : TN) (b : TN) (r : Bool) (h : eqTN1.sem N a b = some r) : Ok Tryd.prog 39 [.agg [.i (nI a.kind), .i (nI a.n), .i (nI a.up)], .agg [.i (nI b.kind), .i (nI b.n), .i (nI b.up)]] (aI (bI r)) := by
  unfold eqTN1.sem at h
  refine fnW_ok Tryd.func39 (by kernel_rfl) rfl rfl fun F hF => ?_
  rcases bif_some h with ⟨c1, h⟩ | ⟨c1, h⟩
  · obtain rfl := Option.some.inj h
    exact finW_ok (n := 400) (gs := [.b true]) [] (ob := [(a.kind != b.kind) = true]) (r' := aI (bI false)) [] (by kernel_rfl) ⟨c1, trivial⟩ rfl
  · rcases bif_some h with ⟨c2, h⟩ | ⟨c2, h⟩
    · obtain rfl := Option.some.inj h
      exact finW_ok (n := 400) (gs := [.b false, .b true]) [] (ob := [(a.kind != b.kind) = false, (a.n != b.n) = true]) (r' := aI (bI false)) [] (by kernel_rfl) ⟨c1, c2, trivial⟩ rfl
    · rcases bif_some h with ⟨c3, h⟩ | ⟨c3, h⟩
      · obtain rfl := Option.some.inj h
        exact finW_ok (n := 400) (gs := [.b false, .b false, .b true]) [] (ob := [(a.kind != b.kind) = false, (a.n != b.n) = false, (a.up != b.up) = true]) (r' := aI (bI false)) [] (by kernel_rfl) ⟨c1, c2, c3, trivial⟩ rfl
      · obtain rfl := Option.some.inj h
        exact finW_ok (n := 400) (gs := [.b false, .b false, .b false]) [] (ob := [(a.kind != b.kind) = false, (a.n != b.n) = false, (a.up != b.up) = false]) (r' := aI (bI true)) [] (by kernel_rfl) ⟨c1, c2, c3, trivial⟩ rfl
def eqVN1.sem (N : Nat) (a : VN) (b : VN) : Option Bool :=
    bif (a.n != b.n) then
      some false
    else
      bif (!(a.text.toList == b.text.toList)) then
        some false
      else
        bif (a.up != b.up) then
          some false
        else
          some true
set_option maxHeartbeats 1000000 in
theorem eqVN1.ok (N : Nat) (a : VN) (b : VN) (r : Bool) (h : eqVN1.sem N a b = some r) : Ok Tryd.prog 40 [.agg [.i (nI a.n), .i (sI a.text), .i (nI a.up)], .agg [.i (nI b.n), .i (sI b.text), .i (nI b.up)]] (aI (bI r)) := by
  unfold eqVN1.sem at h
  refine fnW_ok Tryd.func40 (by kernel_rfl) rfl rfl fun F hF => ?_
  rcases bif_some h with ⟨c1, h⟩ | ⟨c1, h⟩
  · obtain rfl := Option.some.inj h
    exact finW_ok (n := 400) (gs := [.b true]) [] (ob := [(a.n != b.n) = true]) (r' := aI (bI false)) [] (by kernel_rfl) ⟨c1, trivial⟩ rfl
  · rcases bif_some h with ⟨c2, h⟩ | ⟨c2, h⟩
    · obtain rfl := Option.some.inj h
      exact finW_ok (n := 400) (gs := [.b false, .b true]) [] (ob := [(a.n != b.n) = false, (!(a.text.toList == b.text.toList)) = true]) (r' := aI (bI false)) [] (by kernel_rfl) ⟨c1, c2, trivial⟩ rfl
    · rcases bif_some h with ⟨c3, h⟩ | ⟨c3, h⟩
      · obtain rfl := Option.some.inj h
        exact finW_ok (n := 400) (gs := [.b false, .b false, .b true]) [] (ob := [(a.n != b.n) = false, (!(a.text.toList == b.text.toList)) = false, (a.up != b.up) = true]) (r' := aI (bI false)) [] (by kernel_rfl) ⟨c1, c2, c3, trivial⟩ rfl
      · obtain rfl := Option.some.inj h
        exact finW_ok (n := 400) (gs := [.b false, .b false, .b false]) [] (ob := [(a.n != b.n) = false, (!(a.text.toList == b.text.toList)) = false, (a.up != b.up) = false]) (r' := aI (bI true)) [] (by kernel_rfl) ⟨c1, c2, c3, trivial⟩ rfl
end Go.Proofs.YtljdidlkiknknaaDoor.AB
