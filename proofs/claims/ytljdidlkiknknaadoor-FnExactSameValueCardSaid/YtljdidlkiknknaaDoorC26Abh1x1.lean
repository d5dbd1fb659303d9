/-
  What a call does, told without addresses: a state, steps, and that the code follows them.
-/
import Derived.Test.YtljdidlkiknknaaDoorC26Abh1x0
namespace Go.Proofs.YtljdidlkiknknaaDoor.AB
open Go Go.RowKit Go.Proofs.YtljdidlkiknknaaDoorW.PrintWords Go.Proofs.YtljdidlkiknknaaDoorW.PrintMore
set_option linter.unusedSimpArgs false
set_option linter.unusedVariables false
def l2Decode.L0 (N : Nat) (s : ByteArray) (code : Int) : Nat → ByteArray → (List Int) → Option ((List Int) × Bool)
  | 0, _, _ => none
  | n0 + 1, v0_0, v0_o_0 =>
    bif decide ((v0_0.size : Int) > 0) then
      bif inR (0 : Int) v0_0.size then
        bif (code == 1) then
        (l2One.sem N v0_0).bind fun y0 =>
        bif (y0.2 == 0) then
          some ([], false)
        else
          bif okAp (v0_o_0.length + [y0.1].length) 8 then
            bif decide ((((v0_o_0.map eI) ++ [[nI y0.1]]).length : Int) > 300) then
            some ([], false)
          else
            bif inC (y0.2 : Int) ((v0_0.size : Int) : Int) v0_0.size then
              l2Decode.L0 N s code n0 (v0_0.extract (y0.2 : Int).toNat ((v0_0.size : Int) : Int).toNat) (v0_o_0 ++ [y0.1])
            else none
          else none
      else
        bif (code == 2) then
          bif decide ((v0_0.size : Int) < 2) then
            some ([], false)
          else
            bif inR (1 : Int) v0_0.size then
              (l1In.sem N (IntKind.i64.wrap (((BitVec.ofInt 64 (IntKind.i64.wrap (byteAt v0_0 (0 : Int))) ||| BitVec.ofInt 64 (shlV .i64 (IntKind.i64.wrap (byteAt v0_0 (1 : Int))) 8)).toNat : Int))) 55296 56319).bind fun y0 =>
              bif y0 then
              bif decide ((v0_0.size : Int) > 3) then
                bif inR (2 : Int) v0_0.size then
                  bif inR (3 : Int) v0_0.size then
                    (l1In.sem N (IntKind.i64.wrap (((BitVec.ofInt 64 (IntKind.i64.wrap (byteAt v0_0 (2 : Int))) ||| BitVec.ofInt 64 (shlV .i64 (IntKind.i64.wrap (byteAt v0_0 (3 : Int))) 8)).toNat : Int))) 56320 57343).bind fun y1 =>
                bif y1 then
                  bif okAp (v0_o_0.length + [IntKind.i64.wrap ((IntKind.i64.wrap (((BitVec.ofInt 64 (shlV .i64 (IntKind.i64.wrap (((BitVec.ofInt 64 (IntKind.i64.wrap (((BitVec.ofInt 64 (IntKind.i64.wrap (byteAt v0_0 (0 : Int))) ||| BitVec.ofInt 64 (shlV .i64 (IntKind.i64.wrap (byteAt v0_0 (1 : Int))) 8)).toNat : Int))) &&& BitVec.ofInt 64 1023).toNat : Int))) 10) ||| BitVec.ofInt 64 (IntKind.i64.wrap (((BitVec.ofInt 64 (IntKind.i64.wrap (((BitVec.ofInt 64 (IntKind.i64.wrap (byteAt v0_0 (2 : Int))) ||| BitVec.ofInt 64 (shlV .i64 (IntKind.i64.wrap (byteAt v0_0 (3 : Int))) 8)).toNat : Int))) &&& BitVec.ofInt 64 1023).toNat : Int)))).toNat : Int))) + 65536)].length) 8 then
                    bif decide ((((v0_o_0.map eI) ++ [[nI (IntKind.i64.wrap ((IntKind.i64.wrap (((BitVec.ofInt 64 (shlV .i64 (IntKind.i64.wrap (((BitVec.ofInt 64 (IntKind.i64.wrap (((BitVec.ofInt 64 (IntKind.i64.wrap (byteAt v0_0 (0 : Int))) ||| BitVec.ofInt 64 (shlV .i64 (IntKind.i64.wrap (byteAt v0_0 (1 : Int))) 8)).toNat : Int))) &&& BitVec.ofInt 64 1023).toNat : Int))) 10) ||| BitVec.ofInt 64 (IntKind.i64.wrap (((BitVec.ofInt 64 (IntKind.i64.wrap (((BitVec.ofInt 64 (IntKind.i64.wrap (byteAt v0_0 (2 : Int))) ||| BitVec.ofInt 64 (shlV .i64 (IntKind.i64.wrap (byteAt v0_0 (3 : Int))) 8)).toNat : Int))) &&& BitVec.ofInt 64 1023).toNat : Int)))).toNat : Int))) + 65536))]]).length : Int) > 300) then
                    some ([], false)
                  else
                    bif inC (4 : Int) ((v0_0.size : Int) : Int) v0_0.size then
                      l2Decode.L0 N s code n0 (v0_0.extract (4 : Int).toNat ((v0_0.size : Int) : Int).toNat) (v0_o_0 ++ [IntKind.i64.wrap ((IntKind.i64.wrap (((BitVec.ofInt 64 (shlV .i64 (IntKind.i64.wrap (((BitVec.ofInt 64 (IntKind.i64.wrap (((BitVec.ofInt 64 (IntKind.i64.wrap (byteAt v0_0 (0 : Int))) ||| BitVec.ofInt 64 (shlV .i64 (IntKind.i64.wrap (byteAt v0_0 (1 : Int))) 8)).toNat : Int))) &&& BitVec.ofInt 64 1023).toNat : Int))) 10) ||| BitVec.ofInt 64 (IntKind.i64.wrap (((BitVec.ofInt 64 (IntKind.i64.wrap (((BitVec.ofInt 64 (IntKind.i64.wrap (byteAt v0_0 (2 : Int))) ||| BitVec.ofInt 64 (shlV .i64 (IntKind.i64.wrap (byteAt v0_0 (3 : Int))) 8)).toNat : Int))) &&& BitVec.ofInt 64 1023).toNat : Int)))).toNat : Int))) + 65536)])
                    else none
                  else none
                else
                  bif okAp (v0_o_0.length + [IntKind.i64.wrap (((BitVec.ofInt 64 (IntKind.i64.wrap (byteAt v0_0 (0 : Int))) ||| BitVec.ofInt 64 (shlV .i64 (IntKind.i64.wrap (byteAt v0_0 (1 : Int))) 8)).toNat : Int))].length) 8 then
                    bif decide ((((v0_o_0.map eI) ++ [[nI (IntKind.i64.wrap (((BitVec.ofInt 64 (IntKind.i64.wrap (byteAt v0_0 (0 : Int))) ||| BitVec.ofInt 64 (shlV .i64 (IntKind.i64.wrap (byteAt v0_0 (1 : Int))) 8)).toNat : Int)))]]).length : Int) > 300) then
                    some ([], false)
                  else
                    bif inC (2 : Int) ((v0_0.size : Int) : Int) v0_0.size then
                      l2Decode.L0 N s code n0 (v0_0.extract (2 : Int).toNat ((v0_0.size : Int) : Int).toNat) (v0_o_0 ++ [IntKind.i64.wrap (((BitVec.ofInt 64 (IntKind.i64.wrap (byteAt v0_0 (0 : Int))) ||| BitVec.ofInt 64 (shlV .i64 (IntKind.i64.wrap (byteAt v0_0 (1 : Int))) 8)).toNat : Int))])
                    else none
                  else none
                  else none
                else none
              else
                bif okAp (v0_o_0.length + [IntKind.i64.wrap (((BitVec.ofInt 64 (IntKind.i64.wrap (byteAt v0_0 (0 : Int))) ||| BitVec.ofInt 64 (shlV .i64 (IntKind.i64.wrap (byteAt v0_0 (1 : Int))) 8)).toNat : Int))].length) 8 then
                  bif decide ((((v0_o_0.map eI) ++ [[nI (IntKind.i64.wrap (((BitVec.ofInt 64 (IntKind.i64.wrap (byteAt v0_0 (0 : Int))) ||| BitVec.ofInt 64 (shlV .i64 (IntKind.i64.wrap (byteAt v0_0 (1 : Int))) 8)).toNat : Int)))]]).length : Int) > 300) then
                  some ([], false)
                else
                  bif inC (2 : Int) ((v0_0.size : Int) : Int) v0_0.size then
                    l2Decode.L0 N s code n0 (v0_0.extract (2 : Int).toNat ((v0_0.size : Int) : Int).toNat) (v0_o_0 ++ [IntKind.i64.wrap (((BitVec.ofInt 64 (IntKind.i64.wrap (byteAt v0_0 (0 : Int))) ||| BitVec.ofInt 64 (shlV .i64 (IntKind.i64.wrap (byteAt v0_0 (1 : Int))) 8)).toNat : Int))])
                  else none
                else none
            else
              bif okAp (v0_o_0.length + [IntKind.i64.wrap (((BitVec.ofInt 64 (IntKind.i64.wrap (byteAt v0_0 (0 : Int))) ||| BitVec.ofInt 64 (shlV .i64 (IntKind.i64.wrap (byteAt v0_0 (1 : Int))) 8)).toNat : Int))].length) 8 then
                bif decide ((((v0_o_0.map eI) ++ [[nI (IntKind.i64.wrap (((BitVec.ofInt 64 (IntKind.i64.wrap (byteAt v0_0 (0 : Int))) ||| BitVec.ofInt 64 (shlV .i64 (IntKind.i64.wrap (byteAt v0_0 (1 : Int))) 8)).toNat : Int)))]]).length : Int) > 300) then
                some ([], false)
              else
                bif inC (2 : Int) ((v0_0.size : Int) : Int) v0_0.size then
                  l2Decode.L0 N s code n0 (v0_0.extract (2 : Int).toNat ((v0_0.size : Int) : Int).toNat) (v0_o_0 ++ [IntKind.i64.wrap (((BitVec.ofInt 64 (IntKind.i64.wrap (byteAt v0_0 (0 : Int))) ||| BitVec.ofInt 64 (shlV .i64 (IntKind.i64.wrap (byteAt v0_0 (1 : Int))) 8)).toNat : Int))])
                else none
              else none
            else none
        else
          bif okAp (v0_o_0.length + [IntKind.i64.wrap (byteAt v0_0 (0 : Int))].length) 8 then
            bif decide ((((v0_o_0.map eI) ++ [[nI (IntKind.i64.wrap (byteAt v0_0 (0 : Int)))]]).length : Int) > 300) then
            some ([], false)
          else
            bif inC (1 : Int) ((v0_0.size : Int) : Int) v0_0.size then
              l2Decode.L0 N s code n0 (v0_0.extract (1 : Int).toNat ((v0_0.size : Int) : Int).toNat) (v0_o_0 ++ [IntKind.i64.wrap (byteAt v0_0 (0 : Int))])
            else none
          else none
      else none
    else
      (l2Points.sem N v0_o_0).bind fun y0 =>
      some (v0_o_0, y0)
def l2Decode.sem (N : Nat) (s : ByteArray) (code : Int) : Option ((List Int) × Bool) :=
    l2Decode.L0 N s code N s []
set_option maxHeartbeats 1000000 in
theorem l2Decode.ok (N : Nat) (s : ByteArray) (code : Int) (r : ((List Int) × Bool)) (h : l2Decode.sem N s code = some r) : Ok Tryd.prog 57 [tI (sI s), tI (nI code)] (.tup [tI (.sl 1 (r.1.map eI)), tI (bI r.2)]) := by
  unfold l2Decode.sem at h
  refine fnW_ok Tryd.func57 (by kernel_rfl) rfl rfl fun F hF => ?_
  refine headB_ok (n := 400) (gs := []) [(6, 3, 1)] [] [0, 1, 4, 5, 6] [0] (ob := []) (b := lB (codeOf Tryd.f57) 0) (K' := lK (codeOf Tryd.f57) 0) (σ' := ⟨mkT_ 74 [(0, aI (sI s)), (1, aI (nI code)), (4, aI (.v (.slice none 0 0))), (5, aI (bI false)), (6, .t (.c (.os 0)))], [.live (.row 3 1 [])]⟩) (by kernel_rfl) trivial ?_
  rw [((by simp [cutC, eI]) : [] = [].map eI)]
  refine loop_ok (fun q : Nat × ByteArray × (List Int) => ⟨mkT_ 74 [(0, aI (sI (q.2.1))), (1, aI (nI code)), (4, aI (.v (.slice none 0 0))), (5, aI (bI false)), (6, .t (.c (.os 0)))], [.live (.row 3 1 ((q.2.2).map eI))]⟩) (fun q => l2Decode.L0 N s code q.1 q.2.1 q.2.2 = some r) (fun q => q.1) (N, s, []) h ?_
  clear h
  rintro ⟨n0, v0_0, v0_o_0⟩ h R0 hR0
  replace h : l2Decode.L0 N s code n0 v0_0 v0_o_0 = some r := h
  rcases n0 with _ | n0
  · cases h
  unfold l2Decode.L0 at h
  show AX _ _ _ _ _ (⟨mkT_ 74 [(0, aI (sI v0_0)), (1, aI (nI code)), (4, aI (.v (.slice none 0 0))), (5, aI (bI false)), (6, .t (.c (.os 0)))], [.live (.row 3 1 (v0_o_0.map eI))]⟩)
  rcases bif_some h with ⟨c1, h⟩ | ⟨c1, h⟩
  · obtain ⟨c2, h⟩ := chk_some h
    rcases bif_some h with ⟨c3, h⟩ | ⟨c3, h⟩
    · obtain ⟨y0, c4, h⟩ := bind_some' h
      rcases bif_some h with ⟨c5, h⟩ | ⟨c5, h⟩
      · obtain rfl := Option.some.inj h
        exact finW_ok (n := 400) (gs := [.b true, .b true, .r (.tup [tI (nI y0.1), tI (nI y0.2)]), .b true]) [] (ob := [decide ((v0_0.size : Int) > 0) = true, 0 ≤ (0 : Int), (0 : Int) < (v0_0.size : Int), (code == 1) = true, Ok Tryd.prog 80 [tI (sI v0_0)] (.tup [tI (nI y0.1), tI (nI y0.2)]), (y0.2 == 0) = true]) (r' := .tup [tI (.v (.slice none 0 0)), tI (bI false)]) [[some 1], [none]] (by kernel_rfl) ⟨c1, (inR_lo c2), (inR_hi rfl c2), c3, (l2One.ok N v0_0 y0 c4), c5, trivial⟩ rfl
      · obtain ⟨c6, h⟩ := chk_some h
        rcases bif_some h with ⟨c7, h⟩ | ⟨c7, h⟩
        · obtain rfl := Option.some.inj h
          exact finW_ok (n := 400) (gs := [.b true, .b true, .r (.tup [tI (nI y0.1), tI (nI y0.2)]), .b false, .b true]) [] (ob := [decide ((v0_0.size : Int) > 0) = true, 0 ≤ (0 : Int), (0 : Int) < (v0_0.size : Int), (code == 1) = true, Ok Tryd.prog 80 [tI (sI v0_0)] (.tup [tI (nI y0.1), tI (nI y0.2)]), (y0.2 == 0) = false, ((v0_o_0.map eI).length + ([[nI y0.1]] : List (List IV)).length) * 8 ≤ 140737488355328, decide ((((v0_o_0.map eI) ++ [[nI y0.1]]).length : Int) > 300) = true]) (r' := .tup [tI (.v (.slice none 0 0)), tI (bI false)]) [[some 1], [none]] (by kernel_rfl) ⟨c1, (inR_lo c2), (inR_hi rfl c2), c3, (l2One.ok N v0_0 y0 c4), c5, (okAp_of (by simp) c6), c7, trivial⟩ rfl
        · obtain ⟨c8, h⟩ := chk_some h
          exact inv_ok (n := 400) (gs := [.b true, .b true, .r (.tup [tI (nI y0.1), tI (nI y0.2)]), .b false, .b false]) [0, 1, 4, 5, 6] [2] (ob := [decide ((v0_0.size : Int) > 0) = true, 0 ≤ (0 : Int), (0 : Int) < (v0_0.size : Int), (code == 1) = true, Ok Tryd.prog 80 [tI (sI v0_0)] (.tup [tI (nI y0.1), tI (nI y0.2)]), (y0.2 == 0) = false, ((v0_o_0.map eI).length + ([[nI y0.1]] : List (List IV)).length) * 8 ≤ 140737488355328, decide ((((v0_o_0.map eI) ++ [[nI y0.1]]).length : Int) > 300) = false, 0 ≤ (y0.2 : Int), (y0.2 : Int) ≤ (v0_0.size : Int), ((v0_0.size : Int) : Int) ≤ (v0_0.size : Int)]) (σ' := ⟨mkT_ 74 [(0, aI (sI (v0_0.extract (y0.2 : Int).toNat ((v0_0.size : Int) : Int).toNat))), (1, aI (nI code)), (4, aI (.v (.slice none 0 0))), (5, aI (bI false)), (6, .t (.c (.os 0)))], [.live (.row 3 1 ((v0_o_0.map eI) ++ [[nI y0.1]]))]⟩) (by kernel_rfl) ⟨c1, (inR_lo c2), (inR_hi rfl c2), c3, (l2One.ok N v0_0 y0 c4), c5, (okAp_of (by simp) c6), c7, (inC_1 c8), (inC_2' rfl c8), (Int.le_refl _), trivial⟩ (fun a w hs => hR0 (n0, v0_0.extract (y0.2 : Int).toNat ((v0_0.size : Int) : Int).toNat, v0_o_0 ++ [y0.1]) a w h (Nat.lt_succ_self _) (by rw [((by simp [cutC, eI]) : (v0_o_0.map eI) ++ [[nI y0.1]] = (v0_o_0 ++ [y0.1]).map eI)] at hs; exact hs))
    · rcases bif_some h with ⟨c9, h⟩ | ⟨c9, h⟩
      · rcases bif_some h with ⟨c10, h⟩ | ⟨c10, h⟩
        · obtain rfl := Option.some.inj h
          exact finW_ok (n := 400) (gs := [.b true, .b false, .b true, .b true]) [] (ob := [decide ((v0_0.size : Int) > 0) = true, 0 ≤ (0 : Int), (0 : Int) < (v0_0.size : Int), (code == 1) = false, (code == 2) = true, decide ((v0_0.size : Int) < 2) = true]) (r' := .tup [tI (.v (.slice none 0 0)), tI (bI false)]) [[some 1], [none]] (by kernel_rfl) ⟨c1, (inR_lo c2), (inR_hi rfl c2), c3, c9, c10, trivial⟩ rfl
        · obtain ⟨c11, h⟩ := chk_some h
          obtain ⟨y0, c12, h⟩ := bind_some' h
          rcases bif_some h with ⟨c13, h⟩ | ⟨c13, h⟩
          · rcases bif_some h with ⟨c14, h⟩ | ⟨c14, h⟩
            · obtain ⟨c15, h⟩ := chk_some h
              obtain ⟨c16, h⟩ := chk_some h
              refine drx_ok (n := 400) (gs := [.b true, .b false, .b true, .b false, .r (aI (bI y0)), .b true, .b true]) [[], [], [], [], [], [], [], [], []] [0, 1, 4, 5, 6, 7, 8, 9] [0] (ob := [decide ((v0_0.size : Int) > 0) = true, 0 ≤ (0 : Int), (0 : Int) < (v0_0.size : Int), (code == 1) = false, (code == 2) = true, decide ((v0_0.size : Int) < 2) = false, 0 ≤ (1 : Int), (1 : Int) < (v0_0.size : Int), 0 ≤ (8 : Int), Ok Tryd.prog 52 [tI (nI (IntKind.i64.wrap (((BitVec.ofInt 64 (IntKind.i64.wrap (byteAt v0_0 (0 : Int))) ||| BitVec.ofInt 64 (shlV .i64 (IntKind.i64.wrap (byteAt v0_0 (1 : Int))) 8)).toNat : Int)))), tI (nI 55296), tI (nI 56319)] (aI (bI y0)), y0 = true, y0 = true, y0 = true, y0 = true, decide ((v0_0.size : Int) > 3) = true, 0 ≤ (2 : Int), (2 : Int) < (v0_0.size : Int), 0 ≤ (3 : Int), (3 : Int) < (v0_0.size : Int), 0 ≤ (8 : Int)]) (K' := dK (lB (codeOf Tryd.f57) 0) 0 ++ [.inv R0] ++ lK (codeOf Tryd.f57) 0) (σ' := ⟨mkT_ 74 [(0, aI (sI v0_0)), (1, aI (nI code)), (4, aI (.v (.slice none 0 0))), (5, aI (bI false)), (6, .t (.c (.os 0))), (7, aI (nI (IntKind.i64.wrap (((BitVec.ofInt 64 (IntKind.i64.wrap (byteAt v0_0 (0 : Int))) ||| BitVec.ofInt 64 (shlV .i64 (IntKind.i64.wrap (byteAt v0_0 (1 : Int))) 8)).toNat : Int))))), (8, aI (nI 2)), (9, aI (nI (IntKind.i64.wrap (((BitVec.ofInt 64 (IntKind.i64.wrap (byteAt v0_0 (2 : Int))) ||| BitVec.ofInt 64 (shlV .i64 (IntKind.i64.wrap (byteAt v0_0 (3 : Int))) 8)).toNat : Int)))))], [.live (.row 3 1 (v0_o_0.map eI))]⟩) (by kernel_rfl) ⟨c1, (inR_lo c2), (inR_hi rfl c2), c3, c9, c10, (inR_lo c11), (inR_hi rfl c11), (by decide), (l1In.ok N (IntKind.i64.wrap (((BitVec.ofInt 64 (IntKind.i64.wrap (byteAt v0_0 (0 : Int))) ||| BitVec.ofInt 64 (shlV .i64 (IntKind.i64.wrap (byteAt v0_0 (1 : Int))) 8)).toNat : Int))) 55296 56319 y0 c12), c13, c13, c13, c13, c14, (inR_lo c15), (inR_hi rfl c15), (inR_lo c16), (inR_hi rfl c16), (by decide), trivial⟩ ?_
              obtain ⟨y1, c17, h⟩ := bind_some' h
              rcases bif_some h with ⟨c18, h⟩ | ⟨c18, h⟩
              · obtain ⟨c19, h⟩ := chk_some h
                rcases bif_some h with ⟨c20, h⟩ | ⟨c20, h⟩
                · obtain rfl := Option.some.inj h
                  exact finW_ok (n := 400) (gs := [.r (aI (bI y1)), .b true, .a 1, .b true]) [] (ob := [Ok Tryd.prog 52 [tI (nI (IntKind.i64.wrap (((BitVec.ofInt 64 (IntKind.i64.wrap (byteAt v0_0 (2 : Int))) ||| BitVec.ofInt 64 (shlV .i64 (IntKind.i64.wrap (byteAt v0_0 (3 : Int))) 8)).toNat : Int)))), tI (nI 56320), tI (nI 57343)] (aI (bI y1)), y1 = true, 0 ≤ (10 : Int), ((v0_o_0.map eI).length + ([[nI (IntKind.i64.wrap ((IntKind.i64.wrap (((BitVec.ofInt 64 (shlV .i64 (IntKind.i64.wrap (((BitVec.ofInt 64 (IntKind.i64.wrap (((BitVec.ofInt 64 (IntKind.i64.wrap (byteAt v0_0 (0 : Int))) ||| BitVec.ofInt 64 (shlV .i64 (IntKind.i64.wrap (byteAt v0_0 (1 : Int))) 8)).toNat : Int))) &&& BitVec.ofInt 64 1023).toNat : Int))) 10) ||| BitVec.ofInt 64 (IntKind.i64.wrap (((BitVec.ofInt 64 (IntKind.i64.wrap (((BitVec.ofInt 64 (IntKind.i64.wrap (byteAt v0_0 (2 : Int))) ||| BitVec.ofInt 64 (shlV .i64 (IntKind.i64.wrap (byteAt v0_0 (3 : Int))) 8)).toNat : Int))) &&& BitVec.ofInt 64 1023).toNat : Int)))).toNat : Int))) + 65536))]] : List (List IV)).length) * 8 ≤ 140737488355328, decide ((((v0_o_0.map eI) ++ [[nI (IntKind.i64.wrap ((IntKind.i64.wrap (((BitVec.ofInt 64 (shlV .i64 (IntKind.i64.wrap (((BitVec.ofInt 64 (IntKind.i64.wrap (((BitVec.ofInt 64 (IntKind.i64.wrap (byteAt v0_0 (0 : Int))) ||| BitVec.ofInt 64 (shlV .i64 (IntKind.i64.wrap (byteAt v0_0 (1 : Int))) 8)).toNat : Int))) &&& BitVec.ofInt 64 1023).toNat : Int))) 10) ||| BitVec.ofInt 64 (IntKind.i64.wrap (((BitVec.ofInt 64 (IntKind.i64.wrap (((BitVec.ofInt 64 (IntKind.i64.wrap (byteAt v0_0 (2 : Int))) ||| BitVec.ofInt 64 (shlV .i64 (IntKind.i64.wrap (byteAt v0_0 (3 : Int))) 8)).toNat : Int))) &&& BitVec.ofInt 64 1023).toNat : Int)))).toNat : Int))) + 65536))]]).length : Int) > 300) = true]) (r' := .tup [tI (.v (.slice none 0 0)), tI (bI false)]) [[some 1], [none]] (by kernel_rfl) ⟨(l1In.ok N (IntKind.i64.wrap (((BitVec.ofInt 64 (IntKind.i64.wrap (byteAt v0_0 (2 : Int))) ||| BitVec.ofInt 64 (shlV .i64 (IntKind.i64.wrap (byteAt v0_0 (3 : Int))) 8)).toNat : Int))) 56320 57343 y1 c17), c18, (by decide), (okAp_of (by simp) c19), c20, trivial⟩ rfl
                · obtain ⟨c21, h⟩ := chk_some h
                  exact inv_ok (n := 400) (gs := [.r (aI (bI y1)), .b true, .a 1, .b false]) [0, 1, 4, 5, 6] [2] (ob := [Ok Tryd.prog 52 [tI (nI (IntKind.i64.wrap (((BitVec.ofInt 64 (IntKind.i64.wrap (byteAt v0_0 (2 : Int))) ||| BitVec.ofInt 64 (shlV .i64 (IntKind.i64.wrap (byteAt v0_0 (3 : Int))) 8)).toNat : Int)))), tI (nI 56320), tI (nI 57343)] (aI (bI y1)), y1 = true, 0 ≤ (10 : Int), ((v0_o_0.map eI).length + ([[nI (IntKind.i64.wrap ((IntKind.i64.wrap (((BitVec.ofInt 64 (shlV .i64 (IntKind.i64.wrap (((BitVec.ofInt 64 (IntKind.i64.wrap (((BitVec.ofInt 64 (IntKind.i64.wrap (byteAt v0_0 (0 : Int))) ||| BitVec.ofInt 64 (shlV .i64 (IntKind.i64.wrap (byteAt v0_0 (1 : Int))) 8)).toNat : Int))) &&& BitVec.ofInt 64 1023).toNat : Int))) 10) ||| BitVec.ofInt 64 (IntKind.i64.wrap (((BitVec.ofInt 64 (IntKind.i64.wrap (((BitVec.ofInt 64 (IntKind.i64.wrap (byteAt v0_0 (2 : Int))) ||| BitVec.ofInt 64 (shlV .i64 (IntKind.i64.wrap (byteAt v0_0 (3 : Int))) 8)).toNat : Int))) &&& BitVec.ofInt 64 1023).toNat : Int)))).toNat : Int))) + 65536))]] : List (List IV)).length) * 8 ≤ 140737488355328, decide ((((v0_o_0.map eI) ++ [[nI (IntKind.i64.wrap ((IntKind.i64.wrap (((BitVec.ofInt 64 (shlV .i64 (IntKind.i64.wrap (((BitVec.ofInt 64 (IntKind.i64.wrap (((BitVec.ofInt 64 (IntKind.i64.wrap (byteAt v0_0 (0 : Int))) ||| BitVec.ofInt 64 (shlV .i64 (IntKind.i64.wrap (byteAt v0_0 (1 : Int))) 8)).toNat : Int))) &&& BitVec.ofInt 64 1023).toNat : Int))) 10) ||| BitVec.ofInt 64 (IntKind.i64.wrap (((BitVec.ofInt 64 (IntKind.i64.wrap (((BitVec.ofInt 64 (IntKind.i64.wrap (byteAt v0_0 (2 : Int))) ||| BitVec.ofInt 64 (shlV .i64 (IntKind.i64.wrap (byteAt v0_0 (3 : Int))) 8)).toNat : Int))) &&& BitVec.ofInt 64 1023).toNat : Int)))).toNat : Int))) + 65536))]]).length : Int) > 300) = false, 0 ≤ (4 : Int), (4 : Int) ≤ (v0_0.size : Int), ((v0_0.size : Int) : Int) ≤ (v0_0.size : Int)]) (σ' := ⟨mkT_ 74 [(0, aI (sI (v0_0.extract (4 : Int).toNat ((v0_0.size : Int) : Int).toNat))), (1, aI (nI code)), (4, aI (.v (.slice none 0 0))), (5, aI (bI false)), (6, .t (.c (.os 0)))], [.live (.row 3 1 ((v0_o_0.map eI) ++ [[nI (IntKind.i64.wrap ((IntKind.i64.wrap (((BitVec.ofInt 64 (shlV .i64 (IntKind.i64.wrap (((BitVec.ofInt 64 (IntKind.i64.wrap (((BitVec.ofInt 64 (IntKind.i64.wrap (byteAt v0_0 (0 : Int))) ||| BitVec.ofInt 64 (shlV .i64 (IntKind.i64.wrap (byteAt v0_0 (1 : Int))) 8)).toNat : Int))) &&& BitVec.ofInt 64 1023).toNat : Int))) 10) ||| BitVec.ofInt 64 (IntKind.i64.wrap (((BitVec.ofInt 64 (IntKind.i64.wrap (((BitVec.ofInt 64 (IntKind.i64.wrap (byteAt v0_0 (2 : Int))) ||| BitVec.ofInt 64 (shlV .i64 (IntKind.i64.wrap (byteAt v0_0 (3 : Int))) 8)).toNat : Int))) &&& BitVec.ofInt 64 1023).toNat : Int)))).toNat : Int))) + 65536))]]))]⟩) (by kernel_rfl) ⟨(l1In.ok N (IntKind.i64.wrap (((BitVec.ofInt 64 (IntKind.i64.wrap (byteAt v0_0 (2 : Int))) ||| BitVec.ofInt 64 (shlV .i64 (IntKind.i64.wrap (byteAt v0_0 (3 : Int))) 8)).toNat : Int))) 56320 57343 y1 c17), c18, (by decide), (okAp_of (by simp) c19), c20, (inC_1 c21), (inC_2' rfl c21), (Int.le_refl _), trivial⟩ (fun a w hs => hR0 (n0, v0_0.extract (4 : Int).toNat ((v0_0.size : Int) : Int).toNat, v0_o_0 ++ [IntKind.i64.wrap ((IntKind.i64.wrap (((BitVec.ofInt 64 (shlV .i64 (IntKind.i64.wrap (((BitVec.ofInt 64 (IntKind.i64.wrap (((BitVec.ofInt 64 (IntKind.i64.wrap (byteAt v0_0 (0 : Int))) ||| BitVec.ofInt 64 (shlV .i64 (IntKind.i64.wrap (byteAt v0_0 (1 : Int))) 8)).toNat : Int))) &&& BitVec.ofInt 64 1023).toNat : Int))) 10) ||| BitVec.ofInt 64 (IntKind.i64.wrap (((BitVec.ofInt 64 (IntKind.i64.wrap (((BitVec.ofInt 64 (IntKind.i64.wrap (byteAt v0_0 (2 : Int))) ||| BitVec.ofInt 64 (shlV .i64 (IntKind.i64.wrap (byteAt v0_0 (3 : Int))) 8)).toNat : Int))) &&& BitVec.ofInt 64 1023).toNat : Int)))).toNat : Int))) + 65536)]) a w h (Nat.lt_succ_self _) (by rw [((by simp [cutC, eI]) : (v0_o_0.map eI) ++ [[nI (IntKind.i64.wrap ((IntKind.i64.wrap (((BitVec.ofInt 64 (shlV .i64 (IntKind.i64.wrap (((BitVec.ofInt 64 (IntKind.i64.wrap (((BitVec.ofInt 64 (IntKind.i64.wrap (byteAt v0_0 (0 : Int))) ||| BitVec.ofInt 64 (shlV .i64 (IntKind.i64.wrap (byteAt v0_0 (1 : Int))) 8)).toNat : Int))) &&& BitVec.ofInt 64 1023).toNat : Int))) 10) ||| BitVec.ofInt 64 (IntKind.i64.wrap (((BitVec.ofInt 64 (IntKind.i64.wrap (((BitVec.ofInt 64 (IntKind.i64.wrap (byteAt v0_0 (2 : Int))) ||| BitVec.ofInt 64 (shlV .i64 (IntKind.i64.wrap (byteAt v0_0 (3 : Int))) 8)).toNat : Int))) &&& BitVec.ofInt 64 1023).toNat : Int)))).toNat : Int))) + 65536))]] = (v0_o_0 ++ [IntKind.i64.wrap ((IntKind.i64.wrap (((BitVec.ofInt 64 (shlV .i64 (IntKind.i64.wrap (((BitVec.ofInt 64 (IntKind.i64.wrap (((BitVec.ofInt 64 (IntKind.i64.wrap (byteAt v0_0 (0 : Int))) ||| BitVec.ofInt 64 (shlV .i64 (IntKind.i64.wrap (byteAt v0_0 (1 : Int))) 8)).toNat : Int))) &&& BitVec.ofInt 64 1023).toNat : Int))) 10) ||| BitVec.ofInt 64 (IntKind.i64.wrap (((BitVec.ofInt 64 (IntKind.i64.wrap (((BitVec.ofInt 64 (IntKind.i64.wrap (byteAt v0_0 (2 : Int))) ||| BitVec.ofInt 64 (shlV .i64 (IntKind.i64.wrap (byteAt v0_0 (3 : Int))) 8)).toNat : Int))) &&& BitVec.ofInt 64 1023).toNat : Int)))).toNat : Int))) + 65536)]).map eI)] at hs; exact hs))
              · obtain ⟨c22, h⟩ := chk_some h
                rcases bif_some h with ⟨c23, h⟩ | ⟨c23, h⟩
                · obtain rfl := Option.some.inj h
                  exact finW_ok (n := 400) (gs := [.r (aI (bI y1)), .b false, .a 1, .b true]) [] (ob := [Ok Tryd.prog 52 [tI (nI (IntKind.i64.wrap (((BitVec.ofInt 64 (IntKind.i64.wrap (byteAt v0_0 (2 : Int))) ||| BitVec.ofInt 64 (shlV .i64 (IntKind.i64.wrap (byteAt v0_0 (3 : Int))) 8)).toNat : Int)))), tI (nI 56320), tI (nI 57343)] (aI (bI y1)), y1 = false, ((v0_o_0.map eI).length + ([[nI (IntKind.i64.wrap (((BitVec.ofInt 64 (IntKind.i64.wrap (byteAt v0_0 (0 : Int))) ||| BitVec.ofInt 64 (shlV .i64 (IntKind.i64.wrap (byteAt v0_0 (1 : Int))) 8)).toNat : Int)))]] : List (List IV)).length) * 8 ≤ 140737488355328, decide ((((v0_o_0.map eI) ++ [[nI (IntKind.i64.wrap (((BitVec.ofInt 64 (IntKind.i64.wrap (byteAt v0_0 (0 : Int))) ||| BitVec.ofInt 64 (shlV .i64 (IntKind.i64.wrap (byteAt v0_0 (1 : Int))) 8)).toNat : Int)))]]).length : Int) > 300) = true]) (r' := .tup [tI (.v (.slice none 0 0)), tI (bI false)]) [[some 1], [none]] (by kernel_rfl) ⟨(l1In.ok N (IntKind.i64.wrap (((BitVec.ofInt 64 (IntKind.i64.wrap (byteAt v0_0 (2 : Int))) ||| BitVec.ofInt 64 (shlV .i64 (IntKind.i64.wrap (byteAt v0_0 (3 : Int))) 8)).toNat : Int))) 56320 57343 y1 c17), c18, (okAp_of (by simp) c22), c23, trivial⟩ rfl
                · obtain ⟨c24, h⟩ := chk_some h
                  exact inv_ok (n := 400) (gs := [.r (aI (bI y1)), .b false, .a 1, .b false]) [0, 1, 4, 5, 6] [2] (ob := [Ok Tryd.prog 52 [tI (nI (IntKind.i64.wrap (((BitVec.ofInt 64 (IntKind.i64.wrap (byteAt v0_0 (2 : Int))) ||| BitVec.ofInt 64 (shlV .i64 (IntKind.i64.wrap (byteAt v0_0 (3 : Int))) 8)).toNat : Int)))), tI (nI 56320), tI (nI 57343)] (aI (bI y1)), y1 = false, ((v0_o_0.map eI).length + ([[nI (IntKind.i64.wrap (((BitVec.ofInt 64 (IntKind.i64.wrap (byteAt v0_0 (0 : Int))) ||| BitVec.ofInt 64 (shlV .i64 (IntKind.i64.wrap (byteAt v0_0 (1 : Int))) 8)).toNat : Int)))]] : List (List IV)).length) * 8 ≤ 140737488355328, decide ((((v0_o_0.map eI) ++ [[nI (IntKind.i64.wrap (((BitVec.ofInt 64 (IntKind.i64.wrap (byteAt v0_0 (0 : Int))) ||| BitVec.ofInt 64 (shlV .i64 (IntKind.i64.wrap (byteAt v0_0 (1 : Int))) 8)).toNat : Int)))]]).length : Int) > 300) = false, 0 ≤ (2 : Int), (2 : Int) ≤ (v0_0.size : Int), ((v0_0.size : Int) : Int) ≤ (v0_0.size : Int)]) (σ' := ⟨mkT_ 74 [(0, aI (sI (v0_0.extract (2 : Int).toNat ((v0_0.size : Int) : Int).toNat))), (1, aI (nI code)), (4, aI (.v (.slice none 0 0))), (5, aI (bI false)), (6, .t (.c (.os 0)))], [.live (.row 3 1 ((v0_o_0.map eI) ++ [[nI (IntKind.i64.wrap (((BitVec.ofInt 64 (IntKind.i64.wrap (byteAt v0_0 (0 : Int))) ||| BitVec.ofInt 64 (shlV .i64 (IntKind.i64.wrap (byteAt v0_0 (1 : Int))) 8)).toNat : Int)))]]))]⟩) (by kernel_rfl) ⟨(l1In.ok N (IntKind.i64.wrap (((BitVec.ofInt 64 (IntKind.i64.wrap (byteAt v0_0 (2 : Int))) ||| BitVec.ofInt 64 (shlV .i64 (IntKind.i64.wrap (byteAt v0_0 (3 : Int))) 8)).toNat : Int))) 56320 57343 y1 c17), c18, (okAp_of (by simp) c22), c23, (inC_1 c24), (inC_2' rfl c24), (Int.le_refl _), trivial⟩ (fun a w hs => hR0 (n0, v0_0.extract (2 : Int).toNat ((v0_0.size : Int) : Int).toNat, v0_o_0 ++ [IntKind.i64.wrap (((BitVec.ofInt 64 (IntKind.i64.wrap (byteAt v0_0 (0 : Int))) ||| BitVec.ofInt 64 (shlV .i64 (IntKind.i64.wrap (byteAt v0_0 (1 : Int))) 8)).toNat : Int))]) a w h (Nat.lt_succ_self _) (by rw [((by simp [cutC, eI]) : (v0_o_0.map eI) ++ [[nI (IntKind.i64.wrap (((BitVec.ofInt 64 (IntKind.i64.wrap (byteAt v0_0 (0 : Int))) ||| BitVec.ofInt 64 (shlV .i64 (IntKind.i64.wrap (byteAt v0_0 (1 : Int))) 8)).toNat : Int)))]] = (v0_o_0 ++ [IntKind.i64.wrap (((BitVec.ofInt 64 (IntKind.i64.wrap (byteAt v0_0 (0 : Int))) ||| BitVec.ofInt 64 (shlV .i64 (IntKind.i64.wrap (byteAt v0_0 (1 : Int))) 8)).toNat : Int))]).map eI)] at hs; exact hs))
            · obtain ⟨c25, h⟩ := chk_some h
              rcases bif_some h with ⟨c26, h⟩ | ⟨c26, h⟩
              · obtain rfl := Option.some.inj h
                exact finW_ok (n := 400) (gs := [.b true, .b false, .b true, .b false, .r (aI (bI y0)), .b true, .b false, .a 1, .b true]) [] (ob := [decide ((v0_0.size : Int) > 0) = true, 0 ≤ (0 : Int), (0 : Int) < (v0_0.size : Int), (code == 1) = false, (code == 2) = true, decide ((v0_0.size : Int) < 2) = false, 0 ≤ (1 : Int), (1 : Int) < (v0_0.size : Int), 0 ≤ (8 : Int), Ok Tryd.prog 52 [tI (nI (IntKind.i64.wrap (((BitVec.ofInt 64 (IntKind.i64.wrap (byteAt v0_0 (0 : Int))) ||| BitVec.ofInt 64 (shlV .i64 (IntKind.i64.wrap (byteAt v0_0 (1 : Int))) 8)).toNat : Int)))), tI (nI 55296), tI (nI 56319)] (aI (bI y0)), y0 = true, y0 = true, y0 = true, y0 = true, decide ((v0_0.size : Int) > 3) = false, ((v0_o_0.map eI).length + ([[nI (IntKind.i64.wrap (((BitVec.ofInt 64 (IntKind.i64.wrap (byteAt v0_0 (0 : Int))) ||| BitVec.ofInt 64 (shlV .i64 (IntKind.i64.wrap (byteAt v0_0 (1 : Int))) 8)).toNat : Int)))]] : List (List IV)).length) * 8 ≤ 140737488355328, decide ((((v0_o_0.map eI) ++ [[nI (IntKind.i64.wrap (((BitVec.ofInt 64 (IntKind.i64.wrap (byteAt v0_0 (0 : Int))) ||| BitVec.ofInt 64 (shlV .i64 (IntKind.i64.wrap (byteAt v0_0 (1 : Int))) 8)).toNat : Int)))]]).length : Int) > 300) = true]) (r' := .tup [tI (.v (.slice none 0 0)), tI (bI false)]) [[some 1], [none]] (by kernel_rfl) ⟨c1, (inR_lo c2), (inR_hi rfl c2), c3, c9, c10, (inR_lo c11), (inR_hi rfl c11), (by decide), (l1In.ok N (IntKind.i64.wrap (((BitVec.ofInt 64 (IntKind.i64.wrap (byteAt v0_0 (0 : Int))) ||| BitVec.ofInt 64 (shlV .i64 (IntKind.i64.wrap (byteAt v0_0 (1 : Int))) 8)).toNat : Int))) 55296 56319 y0 c12), c13, c13, c13, c13, c14, (okAp_of (by simp) c25), c26, trivial⟩ rfl
              · obtain ⟨c27, h⟩ := chk_some h
                exact inv_ok (n := 400) (gs := [.b true, .b false, .b true, .b false, .r (aI (bI y0)), .b true, .b false, .a 1, .b false]) [0, 1, 4, 5, 6] [2] (ob := [decide ((v0_0.size : Int) > 0) = true, 0 ≤ (0 : Int), (0 : Int) < (v0_0.size : Int), (code == 1) = false, (code == 2) = true, decide ((v0_0.size : Int) < 2) = false, 0 ≤ (1 : Int), (1 : Int) < (v0_0.size : Int), 0 ≤ (8 : Int), Ok Tryd.prog 52 [tI (nI (IntKind.i64.wrap (((BitVec.ofInt 64 (IntKind.i64.wrap (byteAt v0_0 (0 : Int))) ||| BitVec.ofInt 64 (shlV .i64 (IntKind.i64.wrap (byteAt v0_0 (1 : Int))) 8)).toNat : Int)))), tI (nI 55296), tI (nI 56319)] (aI (bI y0)), y0 = true, y0 = true, y0 = true, y0 = true, decide ((v0_0.size : Int) > 3) = false, ((v0_o_0.map eI).length + ([[nI (IntKind.i64.wrap (((BitVec.ofInt 64 (IntKind.i64.wrap (byteAt v0_0 (0 : Int))) ||| BitVec.ofInt 64 (shlV .i64 (IntKind.i64.wrap (byteAt v0_0 (1 : Int))) 8)).toNat : Int)))]] : List (List IV)).length) * 8 ≤ 140737488355328, decide ((((v0_o_0.map eI) ++ [[nI (IntKind.i64.wrap (((BitVec.ofInt 64 (IntKind.i64.wrap (byteAt v0_0 (0 : Int))) ||| BitVec.ofInt 64 (shlV .i64 (IntKind.i64.wrap (byteAt v0_0 (1 : Int))) 8)).toNat : Int)))]]).length : Int) > 300) = false, 0 ≤ (2 : Int), (2 : Int) ≤ (v0_0.size : Int), ((v0_0.size : Int) : Int) ≤ (v0_0.size : Int)]) (σ' := ⟨mkT_ 74 [(0, aI (sI (v0_0.extract (2 : Int).toNat ((v0_0.size : Int) : Int).toNat))), (1, aI (nI code)), (4, aI (.v (.slice none 0 0))), (5, aI (bI false)), (6, .t (.c (.os 0)))], [.live (.row 3 1 ((v0_o_0.map eI) ++ [[nI (IntKind.i64.wrap (((BitVec.ofInt 64 (IntKind.i64.wrap (byteAt v0_0 (0 : Int))) ||| BitVec.ofInt 64 (shlV .i64 (IntKind.i64.wrap (byteAt v0_0 (1 : Int))) 8)).toNat : Int)))]]))]⟩) (by kernel_rfl) ⟨c1, (inR_lo c2), (inR_hi rfl c2), c3, c9, c10, (inR_lo c11), (inR_hi rfl c11), (by decide), (l1In.ok N (IntKind.i64.wrap (((BitVec.ofInt 64 (IntKind.i64.wrap (byteAt v0_0 (0 : Int))) ||| BitVec.ofInt 64 (shlV .i64 (IntKind.i64.wrap (byteAt v0_0 (1 : Int))) 8)).toNat : Int))) 55296 56319 y0 c12), c13, c13, c13, c13, c14, (okAp_of (by simp) c25), c26, (inC_1 c27), (inC_2' rfl c27), (Int.le_refl _), trivial⟩ (fun a w hs => hR0 (n0, v0_0.extract (2 : Int).toNat ((v0_0.size : Int) : Int).toNat, v0_o_0 ++ [IntKind.i64.wrap (((BitVec.ofInt 64 (IntKind.i64.wrap (byteAt v0_0 (0 : Int))) ||| BitVec.ofInt 64 (shlV .i64 (IntKind.i64.wrap (byteAt v0_0 (1 : Int))) 8)).toNat : Int))]) a w h (Nat.lt_succ_self _) (by rw [((by simp [cutC, eI]) : (v0_o_0.map eI) ++ [[nI (IntKind.i64.wrap (((BitVec.ofInt 64 (IntKind.i64.wrap (byteAt v0_0 (0 : Int))) ||| BitVec.ofInt 64 (shlV .i64 (IntKind.i64.wrap (byteAt v0_0 (1 : Int))) 8)).toNat : Int)))]] = (v0_o_0 ++ [IntKind.i64.wrap (((BitVec.ofInt 64 (IntKind.i64.wrap (byteAt v0_0 (0 : Int))) ||| BitVec.ofInt 64 (shlV .i64 (IntKind.i64.wrap (byteAt v0_0 (1 : Int))) 8)).toNat : Int))]).map eI)] at hs; exact hs))
          · obtain ⟨c28, h⟩ := chk_some h
            rcases bif_some h with ⟨c29, h⟩ | ⟨c29, h⟩
            · obtain rfl := Option.some.inj h
              exact finW_ok (n := 400) (gs := [.b true, .b false, .b true, .b false, .r (aI (bI y0)), .b false, .a 2, .b true]) [] (ob := [decide ((v0_0.size : Int) > 0) = true, 0 ≤ (0 : Int), (0 : Int) < (v0_0.size : Int), (code == 1) = false, (code == 2) = true, decide ((v0_0.size : Int) < 2) = false, 0 ≤ (1 : Int), (1 : Int) < (v0_0.size : Int), 0 ≤ (8 : Int), Ok Tryd.prog 52 [tI (nI (IntKind.i64.wrap (((BitVec.ofInt 64 (IntKind.i64.wrap (byteAt v0_0 (0 : Int))) ||| BitVec.ofInt 64 (shlV .i64 (IntKind.i64.wrap (byteAt v0_0 (1 : Int))) 8)).toNat : Int)))), tI (nI 55296), tI (nI 56319)] (aI (bI y0)), y0 = false, y0 = false, y0 = false, y0 = false, ((v0_o_0.map eI).length + ([[nI (IntKind.i64.wrap (((BitVec.ofInt 64 (IntKind.i64.wrap (byteAt v0_0 (0 : Int))) ||| BitVec.ofInt 64 (shlV .i64 (IntKind.i64.wrap (byteAt v0_0 (1 : Int))) 8)).toNat : Int)))]] : List (List IV)).length) * 8 ≤ 140737488355328, decide ((((v0_o_0.map eI) ++ [[nI (IntKind.i64.wrap (((BitVec.ofInt 64 (IntKind.i64.wrap (byteAt v0_0 (0 : Int))) ||| BitVec.ofInt 64 (shlV .i64 (IntKind.i64.wrap (byteAt v0_0 (1 : Int))) 8)).toNat : Int)))]]).length : Int) > 300) = true]) (r' := .tup [tI (.v (.slice none 0 0)), tI (bI false)]) [[some 1], [none]] (by kernel_rfl) ⟨c1, (inR_lo c2), (inR_hi rfl c2), c3, c9, c10, (inR_lo c11), (inR_hi rfl c11), (by decide), (l1In.ok N (IntKind.i64.wrap (((BitVec.ofInt 64 (IntKind.i64.wrap (byteAt v0_0 (0 : Int))) ||| BitVec.ofInt 64 (shlV .i64 (IntKind.i64.wrap (byteAt v0_0 (1 : Int))) 8)).toNat : Int))) 55296 56319 y0 c12), c13, c13, c13, c13, (okAp_of (by simp) c28), c29, trivial⟩ rfl
            · obtain ⟨c30, h⟩ := chk_some h
              exact inv_ok (n := 400) (gs := [.b true, .b false, .b true, .b false, .r (aI (bI y0)), .b false, .a 2, .b false]) [0, 1, 4, 5, 6] [2] (ob := [decide ((v0_0.size : Int) > 0) = true, 0 ≤ (0 : Int), (0 : Int) < (v0_0.size : Int), (code == 1) = false, (code == 2) = true, decide ((v0_0.size : Int) < 2) = false, 0 ≤ (1 : Int), (1 : Int) < (v0_0.size : Int), 0 ≤ (8 : Int), Ok Tryd.prog 52 [tI (nI (IntKind.i64.wrap (((BitVec.ofInt 64 (IntKind.i64.wrap (byteAt v0_0 (0 : Int))) ||| BitVec.ofInt 64 (shlV .i64 (IntKind.i64.wrap (byteAt v0_0 (1 : Int))) 8)).toNat : Int)))), tI (nI 55296), tI (nI 56319)] (aI (bI y0)), y0 = false, y0 = false, y0 = false, y0 = false, ((v0_o_0.map eI).length + ([[nI (IntKind.i64.wrap (((BitVec.ofInt 64 (IntKind.i64.wrap (byteAt v0_0 (0 : Int))) ||| BitVec.ofInt 64 (shlV .i64 (IntKind.i64.wrap (byteAt v0_0 (1 : Int))) 8)).toNat : Int)))]] : List (List IV)).length) * 8 ≤ 140737488355328, decide ((((v0_o_0.map eI) ++ [[nI (IntKind.i64.wrap (((BitVec.ofInt 64 (IntKind.i64.wrap (byteAt v0_0 (0 : Int))) ||| BitVec.ofInt 64 (shlV .i64 (IntKind.i64.wrap (byteAt v0_0 (1 : Int))) 8)).toNat : Int)))]]).length : Int) > 300) = false, 0 ≤ (2 : Int), (2 : Int) ≤ (v0_0.size : Int), ((v0_0.size : Int) : Int) ≤ (v0_0.size : Int)]) (σ' := ⟨mkT_ 74 [(0, aI (sI (v0_0.extract (2 : Int).toNat ((v0_0.size : Int) : Int).toNat))), (1, aI (nI code)), (4, aI (.v (.slice none 0 0))), (5, aI (bI false)), (6, .t (.c (.os 0)))], [.live (.row 3 1 ((v0_o_0.map eI) ++ [[nI (IntKind.i64.wrap (((BitVec.ofInt 64 (IntKind.i64.wrap (byteAt v0_0 (0 : Int))) ||| BitVec.ofInt 64 (shlV .i64 (IntKind.i64.wrap (byteAt v0_0 (1 : Int))) 8)).toNat : Int)))]]))]⟩) (by kernel_rfl) ⟨c1, (inR_lo c2), (inR_hi rfl c2), c3, c9, c10, (inR_lo c11), (inR_hi rfl c11), (by decide), (l1In.ok N (IntKind.i64.wrap (((BitVec.ofInt 64 (IntKind.i64.wrap (byteAt v0_0 (0 : Int))) ||| BitVec.ofInt 64 (shlV .i64 (IntKind.i64.wrap (byteAt v0_0 (1 : Int))) 8)).toNat : Int))) 55296 56319 y0 c12), c13, c13, c13, c13, (okAp_of (by simp) c28), c29, (inC_1 c30), (inC_2' rfl c30), (Int.le_refl _), trivial⟩ (fun a w hs => hR0 (n0, v0_0.extract (2 : Int).toNat ((v0_0.size : Int) : Int).toNat, v0_o_0 ++ [IntKind.i64.wrap (((BitVec.ofInt 64 (IntKind.i64.wrap (byteAt v0_0 (0 : Int))) ||| BitVec.ofInt 64 (shlV .i64 (IntKind.i64.wrap (byteAt v0_0 (1 : Int))) 8)).toNat : Int))]) a w h (Nat.lt_succ_self _) (by rw [((by simp [cutC, eI]) : (v0_o_0.map eI) ++ [[nI (IntKind.i64.wrap (((BitVec.ofInt 64 (IntKind.i64.wrap (byteAt v0_0 (0 : Int))) ||| BitVec.ofInt 64 (shlV .i64 (IntKind.i64.wrap (byteAt v0_0 (1 : Int))) 8)).toNat : Int)))]] = (v0_o_0 ++ [IntKind.i64.wrap (((BitVec.ofInt 64 (IntKind.i64.wrap (byteAt v0_0 (0 : Int))) ||| BitVec.ofInt 64 (shlV .i64 (IntKind.i64.wrap (byteAt v0_0 (1 : Int))) 8)).toNat : Int))]).map eI)] at hs; exact hs))
      · obtain ⟨c31, h⟩ := chk_some h
        rcases bif_some h with ⟨c32, h⟩ | ⟨c32, h⟩
        · obtain rfl := Option.some.inj h
          exact finW_ok (n := 400) (gs := [.b true, .b false, .b false, .a 1, .b true]) [] (ob := [decide ((v0_0.size : Int) > 0) = true, 0 ≤ (0 : Int), (0 : Int) < (v0_0.size : Int), (code == 1) = false, (code == 2) = false, ((v0_o_0.map eI).length + ([[nI (IntKind.i64.wrap (byteAt v0_0 (0 : Int)))]] : List (List IV)).length) * 8 ≤ 140737488355328, decide ((((v0_o_0.map eI) ++ [[nI (IntKind.i64.wrap (byteAt v0_0 (0 : Int)))]]).length : Int) > 300) = true]) (r' := .tup [tI (.v (.slice none 0 0)), tI (bI false)]) [[some 1], [none]] (by kernel_rfl) ⟨c1, (inR_lo c2), (inR_hi rfl c2), c3, c9, (okAp_of (by simp) c31), c32, trivial⟩ rfl
        · obtain ⟨c33, h⟩ := chk_some h
          exact inv_ok (n := 400) (gs := [.b true, .b false, .b false, .a 1, .b false]) [0, 1, 4, 5, 6] [2] (ob := [decide ((v0_0.size : Int) > 0) = true, 0 ≤ (0 : Int), (0 : Int) < (v0_0.size : Int), (code == 1) = false, (code == 2) = false, ((v0_o_0.map eI).length + ([[nI (IntKind.i64.wrap (byteAt v0_0 (0 : Int)))]] : List (List IV)).length) * 8 ≤ 140737488355328, decide ((((v0_o_0.map eI) ++ [[nI (IntKind.i64.wrap (byteAt v0_0 (0 : Int)))]]).length : Int) > 300) = false, 0 ≤ (1 : Int), (1 : Int) ≤ (v0_0.size : Int), ((v0_0.size : Int) : Int) ≤ (v0_0.size : Int)]) (σ' := ⟨mkT_ 74 [(0, aI (sI (v0_0.extract (1 : Int).toNat ((v0_0.size : Int) : Int).toNat))), (1, aI (nI code)), (4, aI (.v (.slice none 0 0))), (5, aI (bI false)), (6, .t (.c (.os 0)))], [.live (.row 3 1 ((v0_o_0.map eI) ++ [[nI (IntKind.i64.wrap (byteAt v0_0 (0 : Int)))]]))]⟩) (by kernel_rfl) ⟨c1, (inR_lo c2), (inR_hi rfl c2), c3, c9, (okAp_of (by simp) c31), c32, (inC_1 c33), (inC_2' rfl c33), (Int.le_refl _), trivial⟩ (fun a w hs => hR0 (n0, v0_0.extract (1 : Int).toNat ((v0_0.size : Int) : Int).toNat, v0_o_0 ++ [IntKind.i64.wrap (byteAt v0_0 (0 : Int))]) a w h (Nat.lt_succ_self _) (by rw [((by simp [cutC, eI]) : (v0_o_0.map eI) ++ [[nI (IntKind.i64.wrap (byteAt v0_0 (0 : Int)))]] = (v0_o_0 ++ [IntKind.i64.wrap (byteAt v0_0 (0 : Int))]).map eI)] at hs; exact hs))
  · obtain ⟨y0, c34, h⟩ := bind_some' h
    obtain rfl := Option.some.inj h
    exact finW_ok (n := 400) (gs := [.b false, .fz 0, .r (aI (bI y0))]) [] (ob := [decide ((v0_0.size : Int) > 0) = false, Ok Tryd.prog 81 [tI (.sl 1 (v0_o_0.map eI))] (aI (bI y0))]) (r' := .tup [tI (.sl 1 (v0_o_0.map eI)), tI (bI y0)]) [] (by kernel_rfl) ⟨c1, (l2Points.ok N v0_o_0 y0 c34), trivial⟩ rfl
def l12Fits.L0 (N : Nat) (t : Sh) (v : Dt) (self : Sh → Dt → Option Bool) : Nat → (List Sh) → Int → Int → Option Bool
  | 0, _, _, _ => none
  | n0 + 1, v0_71, v0_72, v0_73 =>
    bif decide (v0_73 < v0_72) then
      bif inR v0_73 v0_71.length then
        bif inR v0_73 v.kids.length then
          (self (v0_71.getD v0_73.toNat default) (v.kids.getD v0_73.toNat default)).bind fun y4 =>
          bif (!y4) then
        some false
      else
        l12Fits.L0 N t v self n0 v0_71 v0_72 (IntKind.i64.wrap (v0_73 + 1))
        else none
      else none
    else
      some true
def l12Fits.sem : Nat → Sh → Dt → Option Bool
  | 0, _, _ => none
  | N + 1, t, v =>
    (l12Bounds.sem N t).bind fun y0 =>
    (l1In.sem N v.n y0.1 y0.2).bind fun y1 =>
    bif (!y1) then
      some false
    else
      bif (t.kind != 12) then
        bif (!(v.text.toList == (⟨#[]⟩ : ByteArray).toList)) then
          some false
        else
          bif (t.kind == 10) then
            (l12Canon.sem N v.n).bind fun y2 =>
            bif (!y2) then
              some false
            else
              (l12Kids.sem N t v).bind fun y3 =>
              bif (((y3.map eS).length : Int) != ((v.kids.map eD).length : Int)) then
                some false
              else
                l12Fits.L0 N t v (l12Fits.sem N) N y3 ((y3.map eS).length : Int) 0
          else
            bif (t.kind == 11) then
              (l1In.sem N v.n 55296 57343).bind fun y2 =>
              bif y2 then
                some false
              else
                (l12Kids.sem N t v).bind fun y3 =>
                bif (((y3.map eS).length : Int) != ((v.kids.map eD).length : Int)) then
                  some false
                else
                  l12Fits.L0 N t v (l12Fits.sem N) N y3 ((y3.map eS).length : Int) 0
            else
              (l12Kids.sem N t v).bind fun y2 =>
              bif (((y2.map eS).length : Int) != ((v.kids.map eD).length : Int)) then
                some false
              else
                l12Fits.L0 N t v (l12Fits.sem N) N y2 ((y2.map eS).length : Int) 0
      else
        bif (t.kind == 10) then
          (l12Canon.sem N v.n).bind fun y2 =>
          bif (!y2) then
            some false
          else
            (l12Kids.sem N t v).bind fun y3 =>
            bif (((y3.map eS).length : Int) != ((v.kids.map eD).length : Int)) then
              some false
            else
              l12Fits.L0 N t v (l12Fits.sem N) N y3 ((y3.map eS).length : Int) 0
        else
          bif (t.kind == 11) then
            (l1In.sem N v.n 55296 57343).bind fun y2 =>
            bif y2 then
              some false
            else
              (l12Kids.sem N t v).bind fun y3 =>
              bif (((y3.map eS).length : Int) != ((v.kids.map eD).length : Int)) then
                some false
              else
                l12Fits.L0 N t v (l12Fits.sem N) N y3 ((y3.map eS).length : Int) 0
          else
            (l2Decode.sem N v.text 1).bind fun y2 =>
            bif (!y2.2) then
              some false
            else
              bif decide ((v.text.size : Int) > 200) then
                some false
              else
                (l12Kids.sem N t v).bind fun y3 =>
                bif (((y3.map eS).length : Int) != ((v.kids.map eD).length : Int)) then
                  some false
                else
                  l12Fits.L0 N t v (l12Fits.sem N) N y3 ((y3.map eS).length : Int) 0
set_option maxHeartbeats 1000000 in
theorem l12Fits.ok : ∀ (N : Nat) (t : Sh) (v : Dt) (r : Bool), l12Fits.sem N t v = some r → Ok Tryd.prog 33 [.agg [.i (nI t.kind), .i (nI t.n), .i (.sl 3 (t.kids.map eS))], .agg [.i (nI v.n), .i (sI v.text), .i (.sl 3 (v.kids.map eD))]] (aI (bI r)) := by
  intro N
  induction N with
  | zero => intro t v r h; cases h
  | succ N ih =>
    intro t v r h
    unfold l12Fits.sem at h
    refine fnW_ok Tryd.func33 (by kernel_rfl) rfl rfl fun F hF => ?_
    obtain ⟨y0, c1, h⟩ := bind_some' h
    obtain ⟨y1, c2, h⟩ := bind_some' h
    rcases bif_some h with ⟨c3, h⟩ | ⟨c3, h⟩
    · obtain rfl := Option.some.inj h
      exact finW_ok (n := 400) (gs := [.r (.tup [tI (nI y0.1), tI (nI y0.2)]), .r (aI (bI y1)), .b true, .a 1]) [] (ob := [Ok Tryd.prog 55 [.agg [.i (nI t.kind), .i (nI t.n), .i (.sl 3 (t.kids.map eS))]] (.tup [tI (nI y0.1), tI (nI y0.2)]), Ok Tryd.prog 52 [tI (nI v.n), tI (nI y0.1), tI (nI y0.2)] (aI (bI y1)), (!y1) = true, (!y1) = true, (!y1) = true, (!y1) = true, (!y1) = true, (!y1) = true]) (r' := aI (bI false)) [] (by kernel_rfl) ⟨(l12Bounds.ok N t y0 c1), (l1In.ok N v.n y0.1 y0.2 y1 c2), c3, c3, c3, c3, c3, c3, trivial⟩ rfl
    · rcases bif_some h with ⟨c4, h⟩ | ⟨c4, h⟩
      · rcases bif_some h with ⟨c5, h⟩ | ⟨c5, h⟩
        · obtain rfl := Option.some.inj h
          exact finW_ok (n := 400) (gs := [.r (.tup [tI (nI y0.1), tI (nI y0.2)]), .r (aI (bI y1)), .b false, .b true, .b true]) [] (ob := [Ok Tryd.prog 55 [.agg [.i (nI t.kind), .i (nI t.n), .i (.sl 3 (t.kids.map eS))]] (.tup [tI (nI y0.1), tI (nI y0.2)]), Ok Tryd.prog 52 [tI (nI v.n), tI (nI y0.1), tI (nI y0.2)] (aI (bI y1)), (!y1) = false, (!y1) = false, (!y1) = false, (!y1) = false, (t.kind != 12) = true, (t.kind != 12) = true, (t.kind != 12) = true, (!y1) = false, (t.kind != 12) = true, (!y1) = false, (!(v.text.toList == (⟨#[]⟩ : ByteArray).toList)) = true]) (r' := aI (bI false)) [] (by kernel_rfl) ⟨(l12Bounds.ok N t y0 c1), (l1In.ok N v.n y0.1 y0.2 y1 c2), c3, c3, c3, c3, c4, c4, c4, c3, c4, c3, c5, trivial⟩ rfl
        · rcases bif_some h with ⟨c6, h⟩ | ⟨c6, h⟩
          · obtain ⟨y2, c7, h⟩ := bind_some' h
            rcases bif_some h with ⟨c8, h⟩ | ⟨c8, h⟩
            · obtain rfl := Option.some.inj h
              exact finW_ok (n := 400) (gs := [.r (.tup [tI (nI y0.1), tI (nI y0.2)]), .r (aI (bI y1)), .b false, .b true, .b false, .b true, .r (aI (bI y2)), .b true]) [] (ob := [Ok Tryd.prog 55 [.agg [.i (nI t.kind), .i (nI t.n), .i (.sl 3 (t.kids.map eS))]] (.tup [tI (nI y0.1), tI (nI y0.2)]), Ok Tryd.prog 52 [tI (nI v.n), tI (nI y0.1), tI (nI y0.2)] (aI (bI y1)), (!y1) = false, (!y1) = false, (!y1) = false, (!y1) = false, (t.kind != 12) = true, (t.kind != 12) = true, (t.kind != 12) = true, (!y1) = false, (t.kind != 12) = true, (!y1) = false, (!(v.text.toList == (⟨#[]⟩ : ByteArray).toList)) = false, (t.kind == 10) = true, Ok Tryd.prog 56 [tI (nI v.n)] (aI (bI y2)), (!y2) = true]) (r' := aI (bI false)) [] (by kernel_rfl) ⟨(l12Bounds.ok N t y0 c1), (l1In.ok N v.n y0.1 y0.2 y1 c2), c3, c3, c3, c3, c4, c4, c4, c3, c4, c3, c5, c6, (l12Canon.ok N v.n y2 c7), c8, trivial⟩ rfl
            · obtain ⟨y3, c9, h⟩ := bind_some' h
              rcases bif_some h with ⟨c10, h⟩ | ⟨c10, h⟩
              · obtain rfl := Option.some.inj h
                exact finW_ok (n := 400) (gs := [.r (.tup [tI (nI y0.1), tI (nI y0.2)]), .r (aI (bI y1)), .b false, .b true, .b false, .b true, .r (aI (bI y2)), .b false, .r (aI (.sl 3 (y3.map eS))), .b true]) [] (ob := [Ok Tryd.prog 55 [.agg [.i (nI t.kind), .i (nI t.n), .i (.sl 3 (t.kids.map eS))]] (.tup [tI (nI y0.1), tI (nI y0.2)]), Ok Tryd.prog 52 [tI (nI v.n), tI (nI y0.1), tI (nI y0.2)] (aI (bI y1)), (!y1) = false, (!y1) = false, (!y1) = false, (!y1) = false, (t.kind != 12) = true, (t.kind != 12) = true, (t.kind != 12) = true, (!y1) = false, (t.kind != 12) = true, (!y1) = false, (!(v.text.toList == (⟨#[]⟩ : ByteArray).toList)) = false, (t.kind == 10) = true, Ok Tryd.prog 56 [tI (nI v.n)] (aI (bI y2)), (!y2) = false, Ok Tryd.prog 58 [.agg [.i (nI t.kind), .i (nI t.n), .i (.sl 3 (t.kids.map eS))], .agg [.i (nI v.n), .i (sI v.text), .i (.sl 3 (v.kids.map eD))]] (aI (.sl 3 (y3.map eS))), (((y3.map eS).length : Int) != ((v.kids.map eD).length : Int)) = true]) (r' := aI (bI false)) [] (by kernel_rfl) ⟨(l12Bounds.ok N t y0 c1), (l1In.ok N v.n y0.1 y0.2 y1 c2), c3, c3, c3, c3, c4, c4, c4, c3, c4, c3, c5, c6, (l12Canon.ok N v.n y2 c7), c8, (l12Kids.ok N t v y3 c9), c10, trivial⟩ rfl
              · refine headB_ok (n := 400) (gs := [.r (.tup [tI (nI y0.1), tI (nI y0.2)]), .r (aI (bI y1)), .b false, .b true, .b false, .b true, .r (aI (bI y2)), .b false, .r (aI (.sl 3 (y3.map eS))), .b false]) [] [] [3, 4, 71, 72, 73] [1] (ob := [Ok Tryd.prog 55 [.agg [.i (nI t.kind), .i (nI t.n), .i (.sl 3 (t.kids.map eS))]] (.tup [tI (nI y0.1), tI (nI y0.2)]), Ok Tryd.prog 52 [tI (nI v.n), tI (nI y0.1), tI (nI y0.2)] (aI (bI y1)), (!y1) = false, (!y1) = false, (!y1) = false, (!y1) = false, (t.kind != 12) = true, (t.kind != 12) = true, (t.kind != 12) = true, (!y1) = false, (t.kind != 12) = true, (!y1) = false, (!(v.text.toList == (⟨#[]⟩ : ByteArray).toList)) = false, (t.kind == 10) = true, Ok Tryd.prog 56 [tI (nI v.n)] (aI (bI y2)), (!y2) = false, Ok Tryd.prog 58 [.agg [.i (nI t.kind), .i (nI t.n), .i (.sl 3 (t.kids.map eS))], .agg [.i (nI v.n), .i (sI v.text), .i (.sl 3 (v.kids.map eD))]] (aI (.sl 3 (y3.map eS))), (((y3.map eS).length : Int) != ((v.kids.map eD).length : Int)) = false]) (b := lB (codeOf Tryd.f33) 0) (K' := lK (codeOf Tryd.f33) 0) (σ' := ⟨mkT_ 87 [(3, .t (.c (.loc 0 0))), (4, aI (bI false)), (71, aI (.sl 3 (y3.map eS))), (72, aI (nI ((y3.map eS).length : Int))), (73, aI (nI 0))], [.live (.box 64 [.i (nI v.n), .i (sI v.text), .i (.sl 3 (v.kids.map eD))])]⟩) (by kernel_rfl) ⟨(l12Bounds.ok N t y0 c1), (l1In.ok N v.n y0.1 y0.2 y1 c2), c3, c3, c3, c3, c4, c4, c4, c3, c4, c3, c5, c6, (l12Canon.ok N v.n y2 c7), c8, (l12Kids.ok N t v y3 c9), c10, trivial⟩ ?_
                refine loop_ok (fun q : Nat × (List Sh) × Int × Int => ⟨mkT_ 87 [(3, .t (.c (.loc 0 0))), (4, aI (bI false)), (71, aI (.sl 3 ((q.2.1).map eS))), (72, aI (nI (q.2.2.1))), (73, aI (nI (q.2.2.2)))], [.live (.box 64 [.i (nI v.n), .i (sI v.text), .i (.sl 3 (v.kids.map eD))])]⟩) (fun q => l12Fits.L0 N t v (l12Fits.sem N) q.1 q.2.1 q.2.2.1 q.2.2.2 = some r) (fun q => q.1) (N, y3, ((y3.map eS).length : Int), 0) h ?_
                clear h
                rintro ⟨n0, v0_71, v0_72, v0_73⟩ h R0 hR0
                replace h : l12Fits.L0 N t v (l12Fits.sem N) n0 v0_71 v0_72 v0_73 = some r := h
                rcases n0 with _ | n0
                · cases h
                unfold l12Fits.L0 at h
                show AX _ _ _ _ _ (⟨mkT_ 87 [(3, .t (.c (.loc 0 0))), (4, aI (bI false)), (71, aI (.sl 3 (v0_71.map eS))), (72, aI (nI v0_72)), (73, aI (nI v0_73))], [.live (.box 64 [.i (nI v.n), .i (sI v.text), .i (.sl 3 (v.kids.map eD))])]⟩)
                rcases bif_some h with ⟨c11, h⟩ | ⟨c11, h⟩
                · obtain ⟨c12, h⟩ := chk_some h
                  obtain ⟨c13, h⟩ := chk_some h
                  obtain ⟨y4, c14, h⟩ := bind_some' h
                  refine drx_ok (n := 400) (gs := [.b true, .ys [nI ((v0_71.getD v0_73.toNat default).kind), nI ((v0_71.getD v0_73.toNat default).n), .sl 3 (((v0_71.getD v0_73.toNat default).kids).map eS)]]) [[], [], [], [], [.ys [nI ((v.kids.getD v0_73.toNat default).n), sI ((v.kids.getD v0_73.toNat default).text), .sl 3 (((v.kids.getD v0_73.toNat default).kids).map eD)]], [], [.r (aI (bI y4))], []] [3, 4, 71, 72, 73, 85] [0] (ob := [decide (v0_73 < v0_72) = true, 0 ≤ v0_73, (v0_71.map eS)[v0_73.toNat]? = some [nI ((v0_71.getD v0_73.toNat default).kind), nI ((v0_71.getD v0_73.toNat default).n), .sl 3 (((v0_71.getD v0_73.toNat default).kids).map eS)], 0 ≤ v0_73, (v.kids.map eD)[v0_73.toNat]? = some [nI ((v.kids.getD v0_73.toNat default).n), sI ((v.kids.getD v0_73.toNat default).text), .sl 3 (((v.kids.getD v0_73.toNat default).kids).map eD)], Ok Tryd.prog 33 [.agg [.i (nI ((v0_71.getD v0_73.toNat default).kind)), .i (nI ((v0_71.getD v0_73.toNat default).n)), .i (.sl 3 (((v0_71.getD v0_73.toNat default).kids).map eS))], .agg [.i (nI ((v.kids.getD v0_73.toNat default).n)), .i (sI ((v.kids.getD v0_73.toNat default).text)), .i (.sl 3 (((v.kids.getD v0_73.toNat default).kids).map eD))]] (aI (bI y4))]) (K' := dK (lB (codeOf Tryd.f33) 0) 0 ++ [.inv R0] ++ lK (codeOf Tryd.f33) 0) (σ' := ⟨mkT_ 87 [(3, .t (.c (.loc 0 0))), (4, aI (bI false)), (71, aI (.sl 3 (v0_71.map eS))), (72, aI (nI v0_72)), (73, aI (nI v0_73)), (85, aI (bI (!y4)))], [.live (.box 64 [.i (nI v.n), .i (sI v.text), .i (.sl 3 (v.kids.map eD))])]⟩) (by kernel_rfl) ⟨c11, (inR_lo c12), (eS_el rfl c12), (inR_lo c13), (eD_el rfl c13), (ih (v0_71.getD v0_73.toNat default) (v.kids.getD v0_73.toNat default) y4 c14), trivial⟩ ?_
                  rcases bif_some h with ⟨c15, h⟩ | ⟨c15, h⟩
                  · obtain rfl := Option.some.inj h
                    exact finW_ok (n := 400) (gs := [.b true]) [] (ob := [(!y4) = true]) (r' := aI (bI false)) [] (by kernel_rfl) ⟨c15, trivial⟩ rfl
                  · exact inv_ok (n := 400) (gs := [.b false]) [3, 4, 71, 72, 73] [0] (ob := [(!y4) = false]) (σ' := ⟨mkT_ 87 [(3, .t (.c (.loc 0 0))), (4, aI (bI false)), (71, aI (.sl 3 (v0_71.map eS))), (72, aI (nI v0_72)), (73, aI (nI (IntKind.i64.wrap (v0_73 + 1))))], [.live (.box 64 [.i (nI v.n), .i (sI v.text), .i (.sl 3 (v.kids.map eD))])]⟩) (by kernel_rfl) ⟨c15, trivial⟩ (fun a w hs => hR0 (n0, v0_71, v0_72, IntKind.i64.wrap (v0_73 + 1)) a w h (Nat.lt_succ_self _) hs)
                · obtain rfl := Option.some.inj h
                  exact finW_ok (n := 400) (gs := [.b false]) [] (ob := [decide (v0_73 < v0_72) = false]) (r' := aI (bI true)) [] (by kernel_rfl) ⟨c11, trivial⟩ rfl
          · rcases bif_some h with ⟨c16, h⟩ | ⟨c16, h⟩
            · obtain ⟨y2, c17, h⟩ := bind_some' h
              rcases bif_some h with ⟨c18, h⟩ | ⟨c18, h⟩
              · obtain rfl := Option.some.inj h
                exact finW_ok (n := 400) (gs := [.r (.tup [tI (nI y0.1), tI (nI y0.2)]), .r (aI (bI y1)), .b false, .b true, .b false, .b false, .b true, .r (aI (bI y2)), .b true]) [] (ob := [Ok Tryd.prog 55 [.agg [.i (nI t.kind), .i (nI t.n), .i (.sl 3 (t.kids.map eS))]] (.tup [tI (nI y0.1), tI (nI y0.2)]), Ok Tryd.prog 52 [tI (nI v.n), tI (nI y0.1), tI (nI y0.2)] (aI (bI y1)), (!y1) = false, (!y1) = false, (!y1) = false, (!y1) = false, (t.kind != 12) = true, (t.kind != 12) = true, (t.kind != 12) = true, (!y1) = false, (t.kind != 12) = true, (!y1) = false, (!(v.text.toList == (⟨#[]⟩ : ByteArray).toList)) = false, (t.kind == 10) = false, (t.kind == 11) = true, Ok Tryd.prog 52 [tI (nI v.n), tI (nI 55296), tI (nI 57343)] (aI (bI y2)), y2 = true]) (r' := aI (bI false)) [] (by kernel_rfl) ⟨(l12Bounds.ok N t y0 c1), (l1In.ok N v.n y0.1 y0.2 y1 c2), c3, c3, c3, c3, c4, c4, c4, c3, c4, c3, c5, c6, c16, (l1In.ok N v.n 55296 57343 y2 c17), c18, trivial⟩ rfl
              · obtain ⟨y3, c19, h⟩ := bind_some' h
                rcases bif_some h with ⟨c20, h⟩ | ⟨c20, h⟩
                · obtain rfl := Option.some.inj h
                  exact finW_ok (n := 400) (gs := [.r (.tup [tI (nI y0.1), tI (nI y0.2)]), .r (aI (bI y1)), .b false, .b true, .b false, .b false, .b true, .r (aI (bI y2)), .b false, .r (aI (.sl 3 (y3.map eS))), .b true]) [] (ob := [Ok Tryd.prog 55 [.agg [.i (nI t.kind), .i (nI t.n), .i (.sl 3 (t.kids.map eS))]] (.tup [tI (nI y0.1), tI (nI y0.2)]), Ok Tryd.prog 52 [tI (nI v.n), tI (nI y0.1), tI (nI y0.2)] (aI (bI y1)), (!y1) = false, (!y1) = false, (!y1) = false, (!y1) = false, (t.kind != 12) = true, (t.kind != 12) = true, (t.kind != 12) = true, (!y1) = false, (t.kind != 12) = true, (!y1) = false, (!(v.text.toList == (⟨#[]⟩ : ByteArray).toList)) = false, (t.kind == 10) = false, (t.kind == 11) = true, Ok Tryd.prog 52 [tI (nI v.n), tI (nI 55296), tI (nI 57343)] (aI (bI y2)), y2 = false, Ok Tryd.prog 58 [.agg [.i (nI t.kind), .i (nI t.n), .i (.sl 3 (t.kids.map eS))], .agg [.i (nI v.n), .i (sI v.text), .i (.sl 3 (v.kids.map eD))]] (aI (.sl 3 (y3.map eS))), (((y3.map eS).length : Int) != ((v.kids.map eD).length : Int)) = true]) (r' := aI (bI false)) [] (by kernel_rfl) ⟨(l12Bounds.ok N t y0 c1), (l1In.ok N v.n y0.1 y0.2 y1 c2), c3, c3, c3, c3, c4, c4, c4, c3, c4, c3, c5, c6, c16, (l1In.ok N v.n 55296 57343 y2 c17), c18, (l12Kids.ok N t v y3 c19), c20, trivial⟩ rfl
                · refine headB_ok (n := 400) (gs := [.r (.tup [tI (nI y0.1), tI (nI y0.2)]), .r (aI (bI y1)), .b false, .b true, .b false, .b false, .b true, .r (aI (bI y2)), .b false, .r (aI (.sl 3 (y3.map eS))), .b false]) [] [] [3, 4, 71, 72, 73] [1] (ob := [Ok Tryd.prog 55 [.agg [.i (nI t.kind), .i (nI t.n), .i (.sl 3 (t.kids.map eS))]] (.tup [tI (nI y0.1), tI (nI y0.2)]), Ok Tryd.prog 52 [tI (nI v.n), tI (nI y0.1), tI (nI y0.2)] (aI (bI y1)), (!y1) = false, (!y1) = false, (!y1) = false, (!y1) = false, (t.kind != 12) = true, (t.kind != 12) = true, (t.kind != 12) = true, (!y1) = false, (t.kind != 12) = true, (!y1) = false, (!(v.text.toList == (⟨#[]⟩ : ByteArray).toList)) = false, (t.kind == 10) = false, (t.kind == 11) = true, Ok Tryd.prog 52 [tI (nI v.n), tI (nI 55296), tI (nI 57343)] (aI (bI y2)), y2 = false, Ok Tryd.prog 58 [.agg [.i (nI t.kind), .i (nI t.n), .i (.sl 3 (t.kids.map eS))], .agg [.i (nI v.n), .i (sI v.text), .i (.sl 3 (v.kids.map eD))]] (aI (.sl 3 (y3.map eS))), (((y3.map eS).length : Int) != ((v.kids.map eD).length : Int)) = false]) (b := lB (codeOf Tryd.f33) 0) (K' := lK (codeOf Tryd.f33) 0) (σ' := ⟨mkT_ 87 [(3, .t (.c (.loc 0 0))), (4, aI (bI false)), (71, aI (.sl 3 (y3.map eS))), (72, aI (nI ((y3.map eS).length : Int))), (73, aI (nI 0))], [.live (.box 64 [.i (nI v.n), .i (sI v.text), .i (.sl 3 (v.kids.map eD))])]⟩) (by kernel_rfl) ⟨(l12Bounds.ok N t y0 c1), (l1In.ok N v.n y0.1 y0.2 y1 c2), c3, c3, c3, c3, c4, c4, c4, c3, c4, c3, c5, c6, c16, (l1In.ok N v.n 55296 57343 y2 c17), c18, (l12Kids.ok N t v y3 c19), c20, trivial⟩ ?_
                  refine loop_ok (fun q : Nat × (List Sh) × Int × Int => ⟨mkT_ 87 [(3, .t (.c (.loc 0 0))), (4, aI (bI false)), (71, aI (.sl 3 ((q.2.1).map eS))), (72, aI (nI (q.2.2.1))), (73, aI (nI (q.2.2.2)))], [.live (.box 64 [.i (nI v.n), .i (sI v.text), .i (.sl 3 (v.kids.map eD))])]⟩) (fun q => l12Fits.L0 N t v (l12Fits.sem N) q.1 q.2.1 q.2.2.1 q.2.2.2 = some r) (fun q => q.1) (N, y3, ((y3.map eS).length : Int), 0) h ?_
                  clear h
                  rintro ⟨n0, v0_71, v0_72, v0_73⟩ h R0 hR0
                  replace h : l12Fits.L0 N t v (l12Fits.sem N) n0 v0_71 v0_72 v0_73 = some r := h
                  rcases n0 with _ | n0
                  · cases h
                  unfold l12Fits.L0 at h
                  show AX _ _ _ _ _ (⟨mkT_ 87 [(3, .t (.c (.loc 0 0))), (4, aI (bI false)), (71, aI (.sl 3 (v0_71.map eS))), (72, aI (nI v0_72)), (73, aI (nI v0_73))], [.live (.box 64 [.i (nI v.n), .i (sI v.text), .i (.sl 3 (v.kids.map eD))])]⟩)
                  rcases bif_some h with ⟨c21, h⟩ | ⟨c21, h⟩
                  · obtain ⟨c22, h⟩ := chk_some h
                    obtain ⟨c23, h⟩ := chk_some h
                    obtain ⟨y4, c24, h⟩ := bind_some' h
                    refine drx_ok (n := 400) (gs := [.b true, .ys [nI ((v0_71.getD v0_73.toNat default).kind), nI ((v0_71.getD v0_73.toNat default).n), .sl 3 (((v0_71.getD v0_73.toNat default).kids).map eS)]]) [[], [], [], [], [.ys [nI ((v.kids.getD v0_73.toNat default).n), sI ((v.kids.getD v0_73.toNat default).text), .sl 3 (((v.kids.getD v0_73.toNat default).kids).map eD)]], [], [.r (aI (bI y4))], []] [3, 4, 71, 72, 73, 85] [0] (ob := [decide (v0_73 < v0_72) = true, 0 ≤ v0_73, (v0_71.map eS)[v0_73.toNat]? = some [nI ((v0_71.getD v0_73.toNat default).kind), nI ((v0_71.getD v0_73.toNat default).n), .sl 3 (((v0_71.getD v0_73.toNat default).kids).map eS)], 0 ≤ v0_73, (v.kids.map eD)[v0_73.toNat]? = some [nI ((v.kids.getD v0_73.toNat default).n), sI ((v.kids.getD v0_73.toNat default).text), .sl 3 (((v.kids.getD v0_73.toNat default).kids).map eD)], Ok Tryd.prog 33 [.agg [.i (nI ((v0_71.getD v0_73.toNat default).kind)), .i (nI ((v0_71.getD v0_73.toNat default).n)), .i (.sl 3 (((v0_71.getD v0_73.toNat default).kids).map eS))], .agg [.i (nI ((v.kids.getD v0_73.toNat default).n)), .i (sI ((v.kids.getD v0_73.toNat default).text)), .i (.sl 3 (((v.kids.getD v0_73.toNat default).kids).map eD))]] (aI (bI y4))]) (K' := dK (lB (codeOf Tryd.f33) 0) 0 ++ [.inv R0] ++ lK (codeOf Tryd.f33) 0) (σ' := ⟨mkT_ 87 [(3, .t (.c (.loc 0 0))), (4, aI (bI false)), (71, aI (.sl 3 (v0_71.map eS))), (72, aI (nI v0_72)), (73, aI (nI v0_73)), (85, aI (bI (!y4)))], [.live (.box 64 [.i (nI v.n), .i (sI v.text), .i (.sl 3 (v.kids.map eD))])]⟩) (by kernel_rfl) ⟨c21, (inR_lo c22), (eS_el rfl c22), (inR_lo c23), (eD_el rfl c23), (ih (v0_71.getD v0_73.toNat default) (v.kids.getD v0_73.toNat default) y4 c24), trivial⟩ ?_
                    rcases bif_some h with ⟨c25, h⟩ | ⟨c25, h⟩
                    · obtain rfl := Option.some.inj h
                      exact finW_ok (n := 400) (gs := [.b true]) [] (ob := [(!y4) = true]) (r' := aI (bI false)) [] (by kernel_rfl) ⟨c25, trivial⟩ rfl
                    · exact inv_ok (n := 400) (gs := [.b false]) [3, 4, 71, 72, 73] [0] (ob := [(!y4) = false]) (σ' := ⟨mkT_ 87 [(3, .t (.c (.loc 0 0))), (4, aI (bI false)), (71, aI (.sl 3 (v0_71.map eS))), (72, aI (nI v0_72)), (73, aI (nI (IntKind.i64.wrap (v0_73 + 1))))], [.live (.box 64 [.i (nI v.n), .i (sI v.text), .i (.sl 3 (v.kids.map eD))])]⟩) (by kernel_rfl) ⟨c25, trivial⟩ (fun a w hs => hR0 (n0, v0_71, v0_72, IntKind.i64.wrap (v0_73 + 1)) a w h (Nat.lt_succ_self _) hs)
                  · obtain rfl := Option.some.inj h
                    exact finW_ok (n := 400) (gs := [.b false]) [] (ob := [decide (v0_73 < v0_72) = false]) (r' := aI (bI true)) [] (by kernel_rfl) ⟨c21, trivial⟩ rfl
            · obtain ⟨y2, c26, h⟩ := bind_some' h
              rcases bif_some h with ⟨c27, h⟩ | ⟨c27, h⟩
              · obtain rfl := Option.some.inj h
                exact finW_ok (n := 400) (gs := [.r (.tup [tI (nI y0.1), tI (nI y0.2)]), .r (aI (bI y1)), .b false, .b true, .b false, .b false, .b false, .b false, .r (aI (.sl 3 (y2.map eS))), .b true]) [] (ob := [Ok Tryd.prog 55 [.agg [.i (nI t.kind), .i (nI t.n), .i (.sl 3 (t.kids.map eS))]] (.tup [tI (nI y0.1), tI (nI y0.2)]), Ok Tryd.prog 52 [tI (nI v.n), tI (nI y0.1), tI (nI y0.2)] (aI (bI y1)), (!y1) = false, (!y1) = false, (!y1) = false, (!y1) = false, (t.kind != 12) = true, (t.kind != 12) = true, (t.kind != 12) = true, (!y1) = false, (t.kind != 12) = true, (!y1) = false, (!(v.text.toList == (⟨#[]⟩ : ByteArray).toList)) = false, (t.kind == 10) = false, (t.kind == 11) = false, (t.kind == 12) = false, Ok Tryd.prog 58 [.agg [.i (nI t.kind), .i (nI t.n), .i (.sl 3 (t.kids.map eS))], .agg [.i (nI v.n), .i (sI v.text), .i (.sl 3 (v.kids.map eD))]] (aI (.sl 3 (y2.map eS))), (((y2.map eS).length : Int) != ((v.kids.map eD).length : Int)) = true]) (r' := aI (bI false)) [] (by kernel_rfl) ⟨(l12Bounds.ok N t y0 c1), (l1In.ok N v.n y0.1 y0.2 y1 c2), c3, c3, c3, c3, c4, c4, c4, c3, c4, c3, c5, c6, c16, (by simpa [bne] using c4), (l12Kids.ok N t v y2 c26), c27, trivial⟩ rfl
              · refine headB_ok (n := 400) (gs := [.r (.tup [tI (nI y0.1), tI (nI y0.2)]), .r (aI (bI y1)), .b false, .b true, .b false, .b false, .b false, .b false, .r (aI (.sl 3 (y2.map eS))), .b false]) [] [] [3, 4, 71, 72, 73] [1] (ob := [Ok Tryd.prog 55 [.agg [.i (nI t.kind), .i (nI t.n), .i (.sl 3 (t.kids.map eS))]] (.tup [tI (nI y0.1), tI (nI y0.2)]), Ok Tryd.prog 52 [tI (nI v.n), tI (nI y0.1), tI (nI y0.2)] (aI (bI y1)), (!y1) = false, (!y1) = false, (!y1) = false, (!y1) = false, (t.kind != 12) = true, (t.kind != 12) = true, (t.kind != 12) = true, (!y1) = false, (t.kind != 12) = true, (!y1) = false, (!(v.text.toList == (⟨#[]⟩ : ByteArray).toList)) = false, (t.kind == 10) = false, (t.kind == 11) = false, (t.kind == 12) = false, Ok Tryd.prog 58 [.agg [.i (nI t.kind), .i (nI t.n), .i (.sl 3 (t.kids.map eS))], .agg [.i (nI v.n), .i (sI v.text), .i (.sl 3 (v.kids.map eD))]] (aI (.sl 3 (y2.map eS))), (((y2.map eS).length : Int) != ((v.kids.map eD).length : Int)) = false]) (b := lB (codeOf Tryd.f33) 0) (K' := lK (codeOf Tryd.f33) 0) (σ' := ⟨mkT_ 87 [(3, .t (.c (.loc 0 0))), (4, aI (bI false)), (71, aI (.sl 3 (y2.map eS))), (72, aI (nI ((y2.map eS).length : Int))), (73, aI (nI 0))], [.live (.box 64 [.i (nI v.n), .i (sI v.text), .i (.sl 3 (v.kids.map eD))])]⟩) (by kernel_rfl) ⟨(l12Bounds.ok N t y0 c1), (l1In.ok N v.n y0.1 y0.2 y1 c2), c3, c3, c3, c3, c4, c4, c4, c3, c4, c3, c5, c6, c16, (by simpa [bne] using c4), (l12Kids.ok N t v y2 c26), c27, trivial⟩ ?_
                refine loop_ok (fun q : Nat × (List Sh) × Int × Int => ⟨mkT_ 87 [(3, .t (.c (.loc 0 0))), (4, aI (bI false)), (71, aI (.sl 3 ((q.2.1).map eS))), (72, aI (nI (q.2.2.1))), (73, aI (nI (q.2.2.2)))], [.live (.box 64 [.i (nI v.n), .i (sI v.text), .i (.sl 3 (v.kids.map eD))])]⟩) (fun q => l12Fits.L0 N t v (l12Fits.sem N) q.1 q.2.1 q.2.2.1 q.2.2.2 = some r) (fun q => q.1) (N, y2, ((y2.map eS).length : Int), 0) h ?_
                clear h
                rintro ⟨n0, v0_71, v0_72, v0_73⟩ h R0 hR0
                replace h : l12Fits.L0 N t v (l12Fits.sem N) n0 v0_71 v0_72 v0_73 = some r := h
                rcases n0 with _ | n0
                · cases h
                unfold l12Fits.L0 at h
                show AX _ _ _ _ _ (⟨mkT_ 87 [(3, .t (.c (.loc 0 0))), (4, aI (bI false)), (71, aI (.sl 3 (v0_71.map eS))), (72, aI (nI v0_72)), (73, aI (nI v0_73))], [.live (.box 64 [.i (nI v.n), .i (sI v.text), .i (.sl 3 (v.kids.map eD))])]⟩)
                rcases bif_some h with ⟨c28, h⟩ | ⟨c28, h⟩
                · obtain ⟨c29, h⟩ := chk_some h
                  obtain ⟨c30, h⟩ := chk_some h
                  obtain ⟨y4, c31, h⟩ := bind_some' h
                  refine drx_ok (n := 400) (gs := [.b true, .ys [nI ((v0_71.getD v0_73.toNat default).kind), nI ((v0_71.getD v0_73.toNat default).n), .sl 3 (((v0_71.getD v0_73.toNat default).kids).map eS)]]) [[], [], [], [], [.ys [nI ((v.kids.getD v0_73.toNat default).n), sI ((v.kids.getD v0_73.toNat default).text), .sl 3 (((v.kids.getD v0_73.toNat default).kids).map eD)]], [], [.r (aI (bI y4))], []] [3, 4, 71, 72, 73, 85] [0] (ob := [decide (v0_73 < v0_72) = true, 0 ≤ v0_73, (v0_71.map eS)[v0_73.toNat]? = some [nI ((v0_71.getD v0_73.toNat default).kind), nI ((v0_71.getD v0_73.toNat default).n), .sl 3 (((v0_71.getD v0_73.toNat default).kids).map eS)], 0 ≤ v0_73, (v.kids.map eD)[v0_73.toNat]? = some [nI ((v.kids.getD v0_73.toNat default).n), sI ((v.kids.getD v0_73.toNat default).text), .sl 3 (((v.kids.getD v0_73.toNat default).kids).map eD)], Ok Tryd.prog 33 [.agg [.i (nI ((v0_71.getD v0_73.toNat default).kind)), .i (nI ((v0_71.getD v0_73.toNat default).n)), .i (.sl 3 (((v0_71.getD v0_73.toNat default).kids).map eS))], .agg [.i (nI ((v.kids.getD v0_73.toNat default).n)), .i (sI ((v.kids.getD v0_73.toNat default).text)), .i (.sl 3 (((v.kids.getD v0_73.toNat default).kids).map eD))]] (aI (bI y4))]) (K' := dK (lB (codeOf Tryd.f33) 0) 0 ++ [.inv R0] ++ lK (codeOf Tryd.f33) 0) (σ' := ⟨mkT_ 87 [(3, .t (.c (.loc 0 0))), (4, aI (bI false)), (71, aI (.sl 3 (v0_71.map eS))), (72, aI (nI v0_72)), (73, aI (nI v0_73)), (85, aI (bI (!y4)))], [.live (.box 64 [.i (nI v.n), .i (sI v.text), .i (.sl 3 (v.kids.map eD))])]⟩) (by kernel_rfl) ⟨c28, (inR_lo c29), (eS_el rfl c29), (inR_lo c30), (eD_el rfl c30), (ih (v0_71.getD v0_73.toNat default) (v.kids.getD v0_73.toNat default) y4 c31), trivial⟩ ?_
                  rcases bif_some h with ⟨c32, h⟩ | ⟨c32, h⟩
                  · obtain rfl := Option.some.inj h
                    exact finW_ok (n := 400) (gs := [.b true]) [] (ob := [(!y4) = true]) (r' := aI (bI false)) [] (by kernel_rfl) ⟨c32, trivial⟩ rfl
                  · exact inv_ok (n := 400) (gs := [.b false]) [3, 4, 71, 72, 73] [0] (ob := [(!y4) = false]) (σ' := ⟨mkT_ 87 [(3, .t (.c (.loc 0 0))), (4, aI (bI false)), (71, aI (.sl 3 (v0_71.map eS))), (72, aI (nI v0_72)), (73, aI (nI (IntKind.i64.wrap (v0_73 + 1))))], [.live (.box 64 [.i (nI v.n), .i (sI v.text), .i (.sl 3 (v.kids.map eD))])]⟩) (by kernel_rfl) ⟨c32, trivial⟩ (fun a w hs => hR0 (n0, v0_71, v0_72, IntKind.i64.wrap (v0_73 + 1)) a w h (Nat.lt_succ_self _) hs)
                · obtain rfl := Option.some.inj h
                  exact finW_ok (n := 400) (gs := [.b false]) [] (ob := [decide (v0_73 < v0_72) = false]) (r' := aI (bI true)) [] (by kernel_rfl) ⟨c28, trivial⟩ rfl
      · rcases bif_some h with ⟨c33, h⟩ | ⟨c33, h⟩
        · obtain ⟨y2, c34, h⟩ := bind_some' h
          rcases bif_some h with ⟨c35, h⟩ | ⟨c35, h⟩
          · obtain rfl := Option.some.inj h
            exact finW_ok (n := 400) (gs := [.r (.tup [tI (nI y0.1), tI (nI y0.2)]), .r (aI (bI y1)), .b false, .b false, .a 1, .b true, .r (aI (bI y2)), .b true]) [] (ob := [Ok Tryd.prog 55 [.agg [.i (nI t.kind), .i (nI t.n), .i (.sl 3 (t.kids.map eS))]] (.tup [tI (nI y0.1), tI (nI y0.2)]), Ok Tryd.prog 52 [tI (nI v.n), tI (nI y0.1), tI (nI y0.2)] (aI (bI y1)), (!y1) = false, (!y1) = false, (!y1) = false, (!y1) = false, (t.kind != 12) = false, (t.kind != 12) = false, (t.kind != 12) = false, (!y1) = false, (t.kind != 12) = false, (!y1) = false, (t.kind == 10) = true, Ok Tryd.prog 56 [tI (nI v.n)] (aI (bI y2)), (!y2) = true]) (r' := aI (bI false)) [] (by kernel_rfl) ⟨(l12Bounds.ok N t y0 c1), (l1In.ok N v.n y0.1 y0.2 y1 c2), c3, c3, c3, c3, c4, c4, c4, c3, c4, c3, c33, (l12Canon.ok N v.n y2 c34), c35, trivial⟩ rfl
          · obtain ⟨y3, c36, h⟩ := bind_some' h
            rcases bif_some h with ⟨c37, h⟩ | ⟨c37, h⟩
            · obtain rfl := Option.some.inj h
              exact finW_ok (n := 400) (gs := [.r (.tup [tI (nI y0.1), tI (nI y0.2)]), .r (aI (bI y1)), .b false, .b false, .a 1, .b true, .r (aI (bI y2)), .b false, .r (aI (.sl 3 (y3.map eS))), .b true]) [] (ob := [Ok Tryd.prog 55 [.agg [.i (nI t.kind), .i (nI t.n), .i (.sl 3 (t.kids.map eS))]] (.tup [tI (nI y0.1), tI (nI y0.2)]), Ok Tryd.prog 52 [tI (nI v.n), tI (nI y0.1), tI (nI y0.2)] (aI (bI y1)), (!y1) = false, (!y1) = false, (!y1) = false, (!y1) = false, (t.kind != 12) = false, (t.kind != 12) = false, (t.kind != 12) = false, (!y1) = false, (t.kind != 12) = false, (!y1) = false, (t.kind == 10) = true, Ok Tryd.prog 56 [tI (nI v.n)] (aI (bI y2)), (!y2) = false, Ok Tryd.prog 58 [.agg [.i (nI t.kind), .i (nI t.n), .i (.sl 3 (t.kids.map eS))], .agg [.i (nI v.n), .i (sI v.text), .i (.sl 3 (v.kids.map eD))]] (aI (.sl 3 (y3.map eS))), (((y3.map eS).length : Int) != ((v.kids.map eD).length : Int)) = true]) (r' := aI (bI false)) [] (by kernel_rfl) ⟨(l12Bounds.ok N t y0 c1), (l1In.ok N v.n y0.1 y0.2 y1 c2), c3, c3, c3, c3, c4, c4, c4, c3, c4, c3, c33, (l12Canon.ok N v.n y2 c34), c35, (l12Kids.ok N t v y3 c36), c37, trivial⟩ rfl
            · refine headB_ok (n := 400) (gs := [.r (.tup [tI (nI y0.1), tI (nI y0.2)]), .r (aI (bI y1)), .b false, .b false, .a 1, .b true, .r (aI (bI y2)), .b false, .r (aI (.sl 3 (y3.map eS))), .b false]) [] [] [3, 4, 71, 72, 73] [1] (ob := [Ok Tryd.prog 55 [.agg [.i (nI t.kind), .i (nI t.n), .i (.sl 3 (t.kids.map eS))]] (.tup [tI (nI y0.1), tI (nI y0.2)]), Ok Tryd.prog 52 [tI (nI v.n), tI (nI y0.1), tI (nI y0.2)] (aI (bI y1)), (!y1) = false, (!y1) = false, (!y1) = false, (!y1) = false, (t.kind != 12) = false, (t.kind != 12) = false, (t.kind != 12) = false, (!y1) = false, (t.kind != 12) = false, (!y1) = false, (t.kind == 10) = true, Ok Tryd.prog 56 [tI (nI v.n)] (aI (bI y2)), (!y2) = false, Ok Tryd.prog 58 [.agg [.i (nI t.kind), .i (nI t.n), .i (.sl 3 (t.kids.map eS))], .agg [.i (nI v.n), .i (sI v.text), .i (.sl 3 (v.kids.map eD))]] (aI (.sl 3 (y3.map eS))), (((y3.map eS).length : Int) != ((v.kids.map eD).length : Int)) = false]) (b := lB (codeOf Tryd.f33) 0) (K' := lK (codeOf Tryd.f33) 0) (σ' := ⟨mkT_ 87 [(3, .t (.c (.loc 0 0))), (4, aI (bI false)), (71, aI (.sl 3 (y3.map eS))), (72, aI (nI ((y3.map eS).length : Int))), (73, aI (nI 0))], [.live (.box 64 [.i (nI v.n), .i (sI v.text), .i (.sl 3 (v.kids.map eD))])]⟩) (by kernel_rfl) ⟨(l12Bounds.ok N t y0 c1), (l1In.ok N v.n y0.1 y0.2 y1 c2), c3, c3, c3, c3, c4, c4, c4, c3, c4, c3, c33, (l12Canon.ok N v.n y2 c34), c35, (l12Kids.ok N t v y3 c36), c37, trivial⟩ ?_
              refine loop_ok (fun q : Nat × (List Sh) × Int × Int => ⟨mkT_ 87 [(3, .t (.c (.loc 0 0))), (4, aI (bI false)), (71, aI (.sl 3 ((q.2.1).map eS))), (72, aI (nI (q.2.2.1))), (73, aI (nI (q.2.2.2)))], [.live (.box 64 [.i (nI v.n), .i (sI v.text), .i (.sl 3 (v.kids.map eD))])]⟩) (fun q => l12Fits.L0 N t v (l12Fits.sem N) q.1 q.2.1 q.2.2.1 q.2.2.2 = some r) (fun q => q.1) (N, y3, ((y3.map eS).length : Int), 0) h ?_
              clear h
              rintro ⟨n0, v0_71, v0_72, v0_73⟩ h R0 hR0
              replace h : l12Fits.L0 N t v (l12Fits.sem N) n0 v0_71 v0_72 v0_73 = some r := h
              rcases n0 with _ | n0
              · cases h
              unfold l12Fits.L0 at h
              show AX _ _ _ _ _ (⟨mkT_ 87 [(3, .t (.c (.loc 0 0))), (4, aI (bI false)), (71, aI (.sl 3 (v0_71.map eS))), (72, aI (nI v0_72)), (73, aI (nI v0_73))], [.live (.box 64 [.i (nI v.n), .i (sI v.text), .i (.sl 3 (v.kids.map eD))])]⟩)
              rcases bif_some h with ⟨c38, h⟩ | ⟨c38, h⟩
              · obtain ⟨c39, h⟩ := chk_some h
                obtain ⟨c40, h⟩ := chk_some h
                obtain ⟨y4, c41, h⟩ := bind_some' h
                refine drx_ok (n := 400) (gs := [.b true, .ys [nI ((v0_71.getD v0_73.toNat default).kind), nI ((v0_71.getD v0_73.toNat default).n), .sl 3 (((v0_71.getD v0_73.toNat default).kids).map eS)]]) [[], [], [], [], [.ys [nI ((v.kids.getD v0_73.toNat default).n), sI ((v.kids.getD v0_73.toNat default).text), .sl 3 (((v.kids.getD v0_73.toNat default).kids).map eD)]], [], [.r (aI (bI y4))], []] [3, 4, 71, 72, 73, 85] [0] (ob := [decide (v0_73 < v0_72) = true, 0 ≤ v0_73, (v0_71.map eS)[v0_73.toNat]? = some [nI ((v0_71.getD v0_73.toNat default).kind), nI ((v0_71.getD v0_73.toNat default).n), .sl 3 (((v0_71.getD v0_73.toNat default).kids).map eS)], 0 ≤ v0_73, (v.kids.map eD)[v0_73.toNat]? = some [nI ((v.kids.getD v0_73.toNat default).n), sI ((v.kids.getD v0_73.toNat default).text), .sl 3 (((v.kids.getD v0_73.toNat default).kids).map eD)], Ok Tryd.prog 33 [.agg [.i (nI ((v0_71.getD v0_73.toNat default).kind)), .i (nI ((v0_71.getD v0_73.toNat default).n)), .i (.sl 3 (((v0_71.getD v0_73.toNat default).kids).map eS))], .agg [.i (nI ((v.kids.getD v0_73.toNat default).n)), .i (sI ((v.kids.getD v0_73.toNat default).text)), .i (.sl 3 (((v.kids.getD v0_73.toNat default).kids).map eD))]] (aI (bI y4))]) (K' := dK (lB (codeOf Tryd.f33) 0) 0 ++ [.inv R0] ++ lK (codeOf Tryd.f33) 0) (σ' := ⟨mkT_ 87 [(3, .t (.c (.loc 0 0))), (4, aI (bI false)), (71, aI (.sl 3 (v0_71.map eS))), (72, aI (nI v0_72)), (73, aI (nI v0_73)), (85, aI (bI (!y4)))], [.live (.box 64 [.i (nI v.n), .i (sI v.text), .i (.sl 3 (v.kids.map eD))])]⟩) (by kernel_rfl) ⟨c38, (inR_lo c39), (eS_el rfl c39), (inR_lo c40), (eD_el rfl c40), (ih (v0_71.getD v0_73.toNat default) (v.kids.getD v0_73.toNat default) y4 c41), trivial⟩ ?_
                rcases bif_some h with ⟨c42, h⟩ | ⟨c42, h⟩
                · obtain rfl := Option.some.inj h
                  exact finW_ok (n := 400) (gs := [.b true]) [] (ob := [(!y4) = true]) (r' := aI (bI false)) [] (by kernel_rfl) ⟨c42, trivial⟩ rfl
                · exact inv_ok (n := 400) (gs := [.b false]) [3, 4, 71, 72, 73] [0] (ob := [(!y4) = false]) (σ' := ⟨mkT_ 87 [(3, .t (.c (.loc 0 0))), (4, aI (bI false)), (71, aI (.sl 3 (v0_71.map eS))), (72, aI (nI v0_72)), (73, aI (nI (IntKind.i64.wrap (v0_73 + 1))))], [.live (.box 64 [.i (nI v.n), .i (sI v.text), .i (.sl 3 (v.kids.map eD))])]⟩) (by kernel_rfl) ⟨c42, trivial⟩ (fun a w hs => hR0 (n0, v0_71, v0_72, IntKind.i64.wrap (v0_73 + 1)) a w h (Nat.lt_succ_self _) hs)
              · obtain rfl := Option.some.inj h
                exact finW_ok (n := 400) (gs := [.b false]) [] (ob := [decide (v0_73 < v0_72) = false]) (r' := aI (bI true)) [] (by kernel_rfl) ⟨c38, trivial⟩ rfl
        · rcases bif_some h with ⟨c43, h⟩ | ⟨c43, h⟩
          · obtain ⟨y2, c44, h⟩ := bind_some' h
            rcases bif_some h with ⟨c45, h⟩ | ⟨c45, h⟩
            · obtain rfl := Option.some.inj h
              exact finW_ok (n := 400) (gs := [.r (.tup [tI (nI y0.1), tI (nI y0.2)]), .r (aI (bI y1)), .b false, .b false, .a 1, .b false, .b true, .r (aI (bI y2)), .b true]) [] (ob := [Ok Tryd.prog 55 [.agg [.i (nI t.kind), .i (nI t.n), .i (.sl 3 (t.kids.map eS))]] (.tup [tI (nI y0.1), tI (nI y0.2)]), Ok Tryd.prog 52 [tI (nI v.n), tI (nI y0.1), tI (nI y0.2)] (aI (bI y1)), (!y1) = false, (!y1) = false, (!y1) = false, (!y1) = false, (t.kind != 12) = false, (t.kind != 12) = false, (t.kind != 12) = false, (!y1) = false, (t.kind != 12) = false, (!y1) = false, (t.kind == 10) = false, (t.kind == 11) = true, Ok Tryd.prog 52 [tI (nI v.n), tI (nI 55296), tI (nI 57343)] (aI (bI y2)), y2 = true]) (r' := aI (bI false)) [] (by kernel_rfl) ⟨(l12Bounds.ok N t y0 c1), (l1In.ok N v.n y0.1 y0.2 y1 c2), c3, c3, c3, c3, c4, c4, c4, c3, c4, c3, c33, c43, (l1In.ok N v.n 55296 57343 y2 c44), c45, trivial⟩ rfl
            · obtain ⟨y3, c46, h⟩ := bind_some' h
              rcases bif_some h with ⟨c47, h⟩ | ⟨c47, h⟩
              · obtain rfl := Option.some.inj h
                exact finW_ok (n := 400) (gs := [.r (.tup [tI (nI y0.1), tI (nI y0.2)]), .r (aI (bI y1)), .b false, .b false, .a 1, .b false, .b true, .r (aI (bI y2)), .b false, .r (aI (.sl 3 (y3.map eS))), .b true]) [] (ob := [Ok Tryd.prog 55 [.agg [.i (nI t.kind), .i (nI t.n), .i (.sl 3 (t.kids.map eS))]] (.tup [tI (nI y0.1), tI (nI y0.2)]), Ok Tryd.prog 52 [tI (nI v.n), tI (nI y0.1), tI (nI y0.2)] (aI (bI y1)), (!y1) = false, (!y1) = false, (!y1) = false, (!y1) = false, (t.kind != 12) = false, (t.kind != 12) = false, (t.kind != 12) = false, (!y1) = false, (t.kind != 12) = false, (!y1) = false, (t.kind == 10) = false, (t.kind == 11) = true, Ok Tryd.prog 52 [tI (nI v.n), tI (nI 55296), tI (nI 57343)] (aI (bI y2)), y2 = false, Ok Tryd.prog 58 [.agg [.i (nI t.kind), .i (nI t.n), .i (.sl 3 (t.kids.map eS))], .agg [.i (nI v.n), .i (sI v.text), .i (.sl 3 (v.kids.map eD))]] (aI (.sl 3 (y3.map eS))), (((y3.map eS).length : Int) != ((v.kids.map eD).length : Int)) = true]) (r' := aI (bI false)) [] (by kernel_rfl) ⟨(l12Bounds.ok N t y0 c1), (l1In.ok N v.n y0.1 y0.2 y1 c2), c3, c3, c3, c3, c4, c4, c4, c3, c4, c3, c33, c43, (l1In.ok N v.n 55296 57343 y2 c44), c45, (l12Kids.ok N t v y3 c46), c47, trivial⟩ rfl
              · refine headB_ok (n := 400) (gs := [.r (.tup [tI (nI y0.1), tI (nI y0.2)]), .r (aI (bI y1)), .b false, .b false, .a 1, .b false, .b true, .r (aI (bI y2)), .b false, .r (aI (.sl 3 (y3.map eS))), .b false]) [] [] [3, 4, 71, 72, 73] [1] (ob := [Ok Tryd.prog 55 [.agg [.i (nI t.kind), .i (nI t.n), .i (.sl 3 (t.kids.map eS))]] (.tup [tI (nI y0.1), tI (nI y0.2)]), Ok Tryd.prog 52 [tI (nI v.n), tI (nI y0.1), tI (nI y0.2)] (aI (bI y1)), (!y1) = false, (!y1) = false, (!y1) = false, (!y1) = false, (t.kind != 12) = false, (t.kind != 12) = false, (t.kind != 12) = false, (!y1) = false, (t.kind != 12) = false, (!y1) = false, (t.kind == 10) = false, (t.kind == 11) = true, Ok Tryd.prog 52 [tI (nI v.n), tI (nI 55296), tI (nI 57343)] (aI (bI y2)), y2 = false, Ok Tryd.prog 58 [.agg [.i (nI t.kind), .i (nI t.n), .i (.sl 3 (t.kids.map eS))], .agg [.i (nI v.n), .i (sI v.text), .i (.sl 3 (v.kids.map eD))]] (aI (.sl 3 (y3.map eS))), (((y3.map eS).length : Int) != ((v.kids.map eD).length : Int)) = false]) (b := lB (codeOf Tryd.f33) 0) (K' := lK (codeOf Tryd.f33) 0) (σ' := ⟨mkT_ 87 [(3, .t (.c (.loc 0 0))), (4, aI (bI false)), (71, aI (.sl 3 (y3.map eS))), (72, aI (nI ((y3.map eS).length : Int))), (73, aI (nI 0))], [.live (.box 64 [.i (nI v.n), .i (sI v.text), .i (.sl 3 (v.kids.map eD))])]⟩) (by kernel_rfl) ⟨(l12Bounds.ok N t y0 c1), (l1In.ok N v.n y0.1 y0.2 y1 c2), c3, c3, c3, c3, c4, c4, c4, c3, c4, c3, c33, c43, (l1In.ok N v.n 55296 57343 y2 c44), c45, (l12Kids.ok N t v y3 c46), c47, trivial⟩ ?_
                refine loop_ok (fun q : Nat × (List Sh) × Int × Int => ⟨mkT_ 87 [(3, .t (.c (.loc 0 0))), (4, aI (bI false)), (71, aI (.sl 3 ((q.2.1).map eS))), (72, aI (nI (q.2.2.1))), (73, aI (nI (q.2.2.2)))], [.live (.box 64 [.i (nI v.n), .i (sI v.text), .i (.sl 3 (v.kids.map eD))])]⟩) (fun q => l12Fits.L0 N t v (l12Fits.sem N) q.1 q.2.1 q.2.2.1 q.2.2.2 = some r) (fun q => q.1) (N, y3, ((y3.map eS).length : Int), 0) h ?_
                clear h
                rintro ⟨n0, v0_71, v0_72, v0_73⟩ h R0 hR0
                replace h : l12Fits.L0 N t v (l12Fits.sem N) n0 v0_71 v0_72 v0_73 = some r := h
                rcases n0 with _ | n0
                · cases h
                unfold l12Fits.L0 at h
                show AX _ _ _ _ _ (⟨mkT_ 87 [(3, .t (.c (.loc 0 0))), (4, aI (bI false)), (71, aI (.sl 3 (v0_71.map eS))), (72, aI (nI v0_72)), (73, aI (nI v0_73))], [.live (.box 64 [.i (nI v.n), .i (sI v.text), .i (.sl 3 (v.kids.map eD))])]⟩)
                rcases bif_some h with ⟨c48, h⟩ | ⟨c48, h⟩
                · obtain ⟨c49, h⟩ := chk_some h
                  obtain ⟨c50, h⟩ := chk_some h
                  obtain ⟨y4, c51, h⟩ := bind_some' h
                  refine drx_ok (n := 400) (gs := [.b true, .ys [nI ((v0_71.getD v0_73.toNat default).kind), nI ((v0_71.getD v0_73.toNat default).n), .sl 3 (((v0_71.getD v0_73.toNat default).kids).map eS)]]) [[], [], [], [], [.ys [nI ((v.kids.getD v0_73.toNat default).n), sI ((v.kids.getD v0_73.toNat default).text), .sl 3 (((v.kids.getD v0_73.toNat default).kids).map eD)]], [], [.r (aI (bI y4))], []] [3, 4, 71, 72, 73, 85] [0] (ob := [decide (v0_73 < v0_72) = true, 0 ≤ v0_73, (v0_71.map eS)[v0_73.toNat]? = some [nI ((v0_71.getD v0_73.toNat default).kind), nI ((v0_71.getD v0_73.toNat default).n), .sl 3 (((v0_71.getD v0_73.toNat default).kids).map eS)], 0 ≤ v0_73, (v.kids.map eD)[v0_73.toNat]? = some [nI ((v.kids.getD v0_73.toNat default).n), sI ((v.kids.getD v0_73.toNat default).text), .sl 3 (((v.kids.getD v0_73.toNat default).kids).map eD)], Ok Tryd.prog 33 [.agg [.i (nI ((v0_71.getD v0_73.toNat default).kind)), .i (nI ((v0_71.getD v0_73.toNat default).n)), .i (.sl 3 (((v0_71.getD v0_73.toNat default).kids).map eS))], .agg [.i (nI ((v.kids.getD v0_73.toNat default).n)), .i (sI ((v.kids.getD v0_73.toNat default).text)), .i (.sl 3 (((v.kids.getD v0_73.toNat default).kids).map eD))]] (aI (bI y4))]) (K' := dK (lB (codeOf Tryd.f33) 0) 0 ++ [.inv R0] ++ lK (codeOf Tryd.f33) 0) (σ' := ⟨mkT_ 87 [(3, .t (.c (.loc 0 0))), (4, aI (bI false)), (71, aI (.sl 3 (v0_71.map eS))), (72, aI (nI v0_72)), (73, aI (nI v0_73)), (85, aI (bI (!y4)))], [.live (.box 64 [.i (nI v.n), .i (sI v.text), .i (.sl 3 (v.kids.map eD))])]⟩) (by kernel_rfl) ⟨c48, (inR_lo c49), (eS_el rfl c49), (inR_lo c50), (eD_el rfl c50), (ih (v0_71.getD v0_73.toNat default) (v.kids.getD v0_73.toNat default) y4 c51), trivial⟩ ?_
                  rcases bif_some h with ⟨c52, h⟩ | ⟨c52, h⟩
                  · obtain rfl := Option.some.inj h
                    exact finW_ok (n := 400) (gs := [.b true]) [] (ob := [(!y4) = true]) (r' := aI (bI false)) [] (by kernel_rfl) ⟨c52, trivial⟩ rfl
                  · exact inv_ok (n := 400) (gs := [.b false]) [3, 4, 71, 72, 73] [0] (ob := [(!y4) = false]) (σ' := ⟨mkT_ 87 [(3, .t (.c (.loc 0 0))), (4, aI (bI false)), (71, aI (.sl 3 (v0_71.map eS))), (72, aI (nI v0_72)), (73, aI (nI (IntKind.i64.wrap (v0_73 + 1))))], [.live (.box 64 [.i (nI v.n), .i (sI v.text), .i (.sl 3 (v.kids.map eD))])]⟩) (by kernel_rfl) ⟨c52, trivial⟩ (fun a w hs => hR0 (n0, v0_71, v0_72, IntKind.i64.wrap (v0_73 + 1)) a w h (Nat.lt_succ_self _) hs)
                · obtain rfl := Option.some.inj h
                  exact finW_ok (n := 400) (gs := [.b false]) [] (ob := [decide (v0_73 < v0_72) = false]) (r' := aI (bI true)) [] (by kernel_rfl) ⟨c48, trivial⟩ rfl
          · obtain ⟨y2, c53, h⟩ := bind_some' h
            rcases bif_some h with ⟨c54, h⟩ | ⟨c54, h⟩
            · obtain rfl := Option.some.inj h
              exact finW_ok (n := 400) (gs := [.r (.tup [tI (nI y0.1), tI (nI y0.2)]), .r (aI (bI y1)), .b false, .b false, .a 1, .b false, .b false, .b true, .r (.tup [tI (.sl 1 (y2.1.map eI)), tI (bI y2.2)]), .b true, .a 1]) [] (ob := [Ok Tryd.prog 55 [.agg [.i (nI t.kind), .i (nI t.n), .i (.sl 3 (t.kids.map eS))]] (.tup [tI (nI y0.1), tI (nI y0.2)]), Ok Tryd.prog 52 [tI (nI v.n), tI (nI y0.1), tI (nI y0.2)] (aI (bI y1)), (!y1) = false, (!y1) = false, (!y1) = false, (!y1) = false, (t.kind != 12) = false, (t.kind != 12) = false, (t.kind != 12) = false, (!y1) = false, (t.kind != 12) = false, (!y1) = false, (t.kind == 10) = false, (t.kind == 11) = false, (t.kind == 12) = true, Ok Tryd.prog 57 [tI (sI v.text), tI (nI 1)] (.tup [tI (.sl 1 (y2.1.map eI)), tI (bI y2.2)]), (!y2.2) = true, (!y2.2) = true, (!y2.2) = true, (!y2.2) = true, (!y2.2) = true]) (r' := aI (bI false)) [] (by kernel_rfl) ⟨(l12Bounds.ok N t y0 c1), (l1In.ok N v.n y0.1 y0.2 y1 c2), c3, c3, c3, c3, c4, c4, c4, c3, c4, c3, c33, c43, (by simpa [bne] using c4), (l2Decode.ok N v.text 1 y2 c53), c54, c54, c54, c54, c54, trivial⟩ rfl
            · rcases bif_some h with ⟨c55, h⟩ | ⟨c55, h⟩
              · obtain rfl := Option.some.inj h
                exact finW_ok (n := 400) (gs := [.r (.tup [tI (nI y0.1), tI (nI y0.2)]), .r (aI (bI y1)), .b false, .b false, .a 1, .b false, .b false, .b true, .r (.tup [tI (.sl 1 (y2.1.map eI)), tI (bI y2.2)]), .b false, .b true]) [] (ob := [Ok Tryd.prog 55 [.agg [.i (nI t.kind), .i (nI t.n), .i (.sl 3 (t.kids.map eS))]] (.tup [tI (nI y0.1), tI (nI y0.2)]), Ok Tryd.prog 52 [tI (nI v.n), tI (nI y0.1), tI (nI y0.2)] (aI (bI y1)), (!y1) = false, (!y1) = false, (!y1) = false, (!y1) = false, (t.kind != 12) = false, (t.kind != 12) = false, (t.kind != 12) = false, (!y1) = false, (t.kind != 12) = false, (!y1) = false, (t.kind == 10) = false, (t.kind == 11) = false, (t.kind == 12) = true, Ok Tryd.prog 57 [tI (sI v.text), tI (nI 1)] (.tup [tI (.sl 1 (y2.1.map eI)), tI (bI y2.2)]), (!y2.2) = false, (!y2.2) = false, (!y2.2) = false, (!y2.2) = false, (!y2.2) = false, decide ((v.text.size : Int) > 200) = true]) (r' := aI (bI false)) [] (by kernel_rfl) ⟨(l12Bounds.ok N t y0 c1), (l1In.ok N v.n y0.1 y0.2 y1 c2), c3, c3, c3, c3, c4, c4, c4, c3, c4, c3, c33, c43, (by simpa [bne] using c4), (l2Decode.ok N v.text 1 y2 c53), c54, c54, c54, c54, c54, c55, trivial⟩ rfl
              · obtain ⟨y3, c56, h⟩ := bind_some' h
                rcases bif_some h with ⟨c57, h⟩ | ⟨c57, h⟩
                · obtain rfl := Option.some.inj h
                  exact finW_ok (n := 400) (gs := [.r (.tup [tI (nI y0.1), tI (nI y0.2)]), .r (aI (bI y1)), .b false, .b false, .a 1, .b false, .b false, .b true, .r (.tup [tI (.sl 1 (y2.1.map eI)), tI (bI y2.2)]), .b false, .b false, .r (aI (.sl 3 (y3.map eS))), .b true]) [] (ob := [Ok Tryd.prog 55 [.agg [.i (nI t.kind), .i (nI t.n), .i (.sl 3 (t.kids.map eS))]] (.tup [tI (nI y0.1), tI (nI y0.2)]), Ok Tryd.prog 52 [tI (nI v.n), tI (nI y0.1), tI (nI y0.2)] (aI (bI y1)), (!y1) = false, (!y1) = false, (!y1) = false, (!y1) = false, (t.kind != 12) = false, (t.kind != 12) = false, (t.kind != 12) = false, (!y1) = false, (t.kind != 12) = false, (!y1) = false, (t.kind == 10) = false, (t.kind == 11) = false, (t.kind == 12) = true, Ok Tryd.prog 57 [tI (sI v.text), tI (nI 1)] (.tup [tI (.sl 1 (y2.1.map eI)), tI (bI y2.2)]), (!y2.2) = false, (!y2.2) = false, (!y2.2) = false, (!y2.2) = false, (!y2.2) = false, decide ((v.text.size : Int) > 200) = false, Ok Tryd.prog 58 [.agg [.i (nI t.kind), .i (nI t.n), .i (.sl 3 (t.kids.map eS))], .agg [.i (nI v.n), .i (sI v.text), .i (.sl 3 (v.kids.map eD))]] (aI (.sl 3 (y3.map eS))), (((y3.map eS).length : Int) != ((v.kids.map eD).length : Int)) = true]) (r' := aI (bI false)) [] (by kernel_rfl) ⟨(l12Bounds.ok N t y0 c1), (l1In.ok N v.n y0.1 y0.2 y1 c2), c3, c3, c3, c3, c4, c4, c4, c3, c4, c3, c33, c43, (by simpa [bne] using c4), (l2Decode.ok N v.text 1 y2 c53), c54, c54, c54, c54, c54, c55, (l12Kids.ok N t v y3 c56), c57, trivial⟩ rfl
                · refine headB_ok (n := 400) (gs := [.r (.tup [tI (nI y0.1), tI (nI y0.2)]), .r (aI (bI y1)), .b false, .b false, .a 1, .b false, .b false, .b true, .r (.tup [tI (.sl 1 (y2.1.map eI)), tI (bI y2.2)]), .b false, .b false, .r (aI (.sl 3 (y3.map eS))), .b false]) [] [] [3, 4, 71, 72, 73] [1] (ob := [Ok Tryd.prog 55 [.agg [.i (nI t.kind), .i (nI t.n), .i (.sl 3 (t.kids.map eS))]] (.tup [tI (nI y0.1), tI (nI y0.2)]), Ok Tryd.prog 52 [tI (nI v.n), tI (nI y0.1), tI (nI y0.2)] (aI (bI y1)), (!y1) = false, (!y1) = false, (!y1) = false, (!y1) = false, (t.kind != 12) = false, (t.kind != 12) = false, (t.kind != 12) = false, (!y1) = false, (t.kind != 12) = false, (!y1) = false, (t.kind == 10) = false, (t.kind == 11) = false, (t.kind == 12) = true, Ok Tryd.prog 57 [tI (sI v.text), tI (nI 1)] (.tup [tI (.sl 1 (y2.1.map eI)), tI (bI y2.2)]), (!y2.2) = false, (!y2.2) = false, (!y2.2) = false, (!y2.2) = false, (!y2.2) = false, decide ((v.text.size : Int) > 200) = false, Ok Tryd.prog 58 [.agg [.i (nI t.kind), .i (nI t.n), .i (.sl 3 (t.kids.map eS))], .agg [.i (nI v.n), .i (sI v.text), .i (.sl 3 (v.kids.map eD))]] (aI (.sl 3 (y3.map eS))), (((y3.map eS).length : Int) != ((v.kids.map eD).length : Int)) = false]) (b := lB (codeOf Tryd.f33) 0) (K' := lK (codeOf Tryd.f33) 0) (σ' := ⟨mkT_ 87 [(3, .t (.c (.loc 0 0))), (4, aI (bI false)), (71, aI (.sl 3 (y3.map eS))), (72, aI (nI ((y3.map eS).length : Int))), (73, aI (nI 0))], [.live (.box 64 [.i (nI v.n), .i (sI v.text), .i (.sl 3 (v.kids.map eD))])]⟩) (by kernel_rfl) ⟨(l12Bounds.ok N t y0 c1), (l1In.ok N v.n y0.1 y0.2 y1 c2), c3, c3, c3, c3, c4, c4, c4, c3, c4, c3, c33, c43, (by simpa [bne] using c4), (l2Decode.ok N v.text 1 y2 c53), c54, c54, c54, c54, c54, c55, (l12Kids.ok N t v y3 c56), c57, trivial⟩ ?_
                  refine loop_ok (fun q : Nat × (List Sh) × Int × Int => ⟨mkT_ 87 [(3, .t (.c (.loc 0 0))), (4, aI (bI false)), (71, aI (.sl 3 ((q.2.1).map eS))), (72, aI (nI (q.2.2.1))), (73, aI (nI (q.2.2.2)))], [.live (.box 64 [.i (nI v.n), .i (sI v.text), .i (.sl 3 (v.kids.map eD))])]⟩) (fun q => l12Fits.L0 N t v (l12Fits.sem N) q.1 q.2.1 q.2.2.1 q.2.2.2 = some r) (fun q => q.1) (N, y3, ((y3.map eS).length : Int), 0) h ?_
                  clear h
                  rintro ⟨n0, v0_71, v0_72, v0_73⟩ h R0 hR0
                  replace h : l12Fits.L0 N t v (l12Fits.sem N) n0 v0_71 v0_72 v0_73 = some r := h
                  rcases n0 with _ | n0
                  · cases h
                  unfold l12Fits.L0 at h
                  show AX _ _ _ _ _ (⟨mkT_ 87 [(3, .t (.c (.loc 0 0))), (4, aI (bI false)), (71, aI (.sl 3 (v0_71.map eS))), (72, aI (nI v0_72)), (73, aI (nI v0_73))], [.live (.box 64 [.i (nI v.n), .i (sI v.text), .i (.sl 3 (v.kids.map eD))])]⟩)
                  rcases bif_some h with ⟨c58, h⟩ | ⟨c58, h⟩
                  · obtain ⟨c59, h⟩ := chk_some h
                    obtain ⟨c60, h⟩ := chk_some h
                    obtain ⟨y4, c61, h⟩ := bind_some' h
                    refine drx_ok (n := 400) (gs := [.b true, .ys [nI ((v0_71.getD v0_73.toNat default).kind), nI ((v0_71.getD v0_73.toNat default).n), .sl 3 (((v0_71.getD v0_73.toNat default).kids).map eS)]]) [[], [], [], [], [.ys [nI ((v.kids.getD v0_73.toNat default).n), sI ((v.kids.getD v0_73.toNat default).text), .sl 3 (((v.kids.getD v0_73.toNat default).kids).map eD)]], [], [.r (aI (bI y4))], []] [3, 4, 71, 72, 73, 85] [0] (ob := [decide (v0_73 < v0_72) = true, 0 ≤ v0_73, (v0_71.map eS)[v0_73.toNat]? = some [nI ((v0_71.getD v0_73.toNat default).kind), nI ((v0_71.getD v0_73.toNat default).n), .sl 3 (((v0_71.getD v0_73.toNat default).kids).map eS)], 0 ≤ v0_73, (v.kids.map eD)[v0_73.toNat]? = some [nI ((v.kids.getD v0_73.toNat default).n), sI ((v.kids.getD v0_73.toNat default).text), .sl 3 (((v.kids.getD v0_73.toNat default).kids).map eD)], Ok Tryd.prog 33 [.agg [.i (nI ((v0_71.getD v0_73.toNat default).kind)), .i (nI ((v0_71.getD v0_73.toNat default).n)), .i (.sl 3 (((v0_71.getD v0_73.toNat default).kids).map eS))], .agg [.i (nI ((v.kids.getD v0_73.toNat default).n)), .i (sI ((v.kids.getD v0_73.toNat default).text)), .i (.sl 3 (((v.kids.getD v0_73.toNat default).kids).map eD))]] (aI (bI y4))]) (K' := dK (lB (codeOf Tryd.f33) 0) 0 ++ [.inv R0] ++ lK (codeOf Tryd.f33) 0) (σ' := ⟨mkT_ 87 [(3, .t (.c (.loc 0 0))), (4, aI (bI false)), (71, aI (.sl 3 (v0_71.map eS))), (72, aI (nI v0_72)), (73, aI (nI v0_73)), (85, aI (bI (!y4)))], [.live (.box 64 [.i (nI v.n), .i (sI v.text), .i (.sl 3 (v.kids.map eD))])]⟩) (by kernel_rfl) ⟨c58, (inR_lo c59), (eS_el rfl c59), (inR_lo c60), (eD_el rfl c60), (ih (v0_71.getD v0_73.toNat default) (v.kids.getD v0_73.toNat default) y4 c61), trivial⟩ ?_
                    rcases bif_some h with ⟨c62, h⟩ | ⟨c62, h⟩
                    · obtain rfl := Option.some.inj h
                      exact finW_ok (n := 400) (gs := [.b true]) [] (ob := [(!y4) = true]) (r' := aI (bI false)) [] (by kernel_rfl) ⟨c62, trivial⟩ rfl
                    · exact inv_ok (n := 400) (gs := [.b false]) [3, 4, 71, 72, 73] [0] (ob := [(!y4) = false]) (σ' := ⟨mkT_ 87 [(3, .t (.c (.loc 0 0))), (4, aI (bI false)), (71, aI (.sl 3 (v0_71.map eS))), (72, aI (nI v0_72)), (73, aI (nI (IntKind.i64.wrap (v0_73 + 1))))], [.live (.box 64 [.i (nI v.n), .i (sI v.text), .i (.sl 3 (v.kids.map eD))])]⟩) (by kernel_rfl) ⟨c62, trivial⟩ (fun a w hs => hR0 (n0, v0_71, v0_72, IntKind.i64.wrap (v0_73 + 1)) a w h (Nat.lt_succ_self _) hs)
                  · obtain rfl := Option.some.inj h
                    exact finW_ok (n := 400) (gs := [.b false]) [] (ob := [decide (v0_73 < v0_72) = false]) (r' := aI (bI true)) [] (by kernel_rfl) ⟨c58, trivial⟩ rfl
def sFits.sem (N : Nat) (t : (List TN)) (v : (List VN)) : Option Bool :=
    (sGoodType.sem N t).bind fun y0 =>
    bif y0 then
      (l12Shape.sem N v).bind fun y1 =>
      bif y1 then
        (l11Tree.sem N t 0).bind fun y2 =>
        (l12Tree.sem N v 0).bind fun y3 =>
        (l12Fits.sem N y2 y3).bind fun y4 =>
        some y4
      else
        some false
    else
      some false
set_option maxHeartbeats 1000000 in
theorem sFits.ok (N : Nat) (t : (List TN)) (v : (List VN)) (r : Bool) (h : sFits.sem N t v = some r) : Ok Tryd.prog 11 [tI (.sl 3 (t.map eTN)), tI (.sl 3 (v.map eVN))] (aI (bI r)) := by
  unfold sFits.sem at h
  refine fnW_ok Tryd.func11 (by kernel_rfl) rfl rfl fun F hF => ?_
  obtain ⟨y0, c1, h⟩ := bind_some' h
  rcases bif_some h with ⟨c2, h⟩ | ⟨c2, h⟩
  · obtain ⟨y1, c3, h⟩ := bind_some' h
    rcases bif_some h with ⟨c4, h⟩ | ⟨c4, h⟩
    · obtain ⟨y2, c5, h⟩ := bind_some' h
      obtain ⟨y3, c6, h⟩ := bind_some' h
      obtain ⟨y4, c7, h⟩ := bind_some' h
      obtain rfl := Option.some.inj h
      exact finW_ok (n := 400) (gs := [.r (aI (bI y0)), .b true, .r (aI (bI y1)), .b true, .r (.t (.agg [.i (nI y2.kind), .i (nI y2.n), .i (.sl 3 (y2.kids.map eS))])), .r (.t (.agg [.i (nI y3.n), .i (sI y3.text), .i (.sl 3 (y3.kids.map eD))])), .r (aI (bI y4))]) [] (ob := [Ok Tryd.prog 31 [tI (.sl 3 (t.map eTN))] (aI (bI y0)), y0 = true, y0 = true, Ok Tryd.prog 32 [tI (.sl 3 (v.map eVN))] (aI (bI y1)), y0 = true, y1 = true, y1 = true, Ok Tryd.prog 34 [tI (.sl 3 (t.map eTN)), tI (nI 0)] (.t (.agg [.i (nI y2.kind), .i (nI y2.n), .i (.sl 3 (y2.kids.map eS))])), y1 = true, y1 = true, Ok Tryd.prog 35 [tI (.sl 3 (v.map eVN)), tI (nI 0)] (.t (.agg [.i (nI y3.n), .i (sI y3.text), .i (.sl 3 (y3.kids.map eD))])), y1 = true, Ok Tryd.prog 33 [.agg [.i (nI y2.kind), .i (nI y2.n), .i (.sl 3 (y2.kids.map eS))], .agg [.i (nI y3.n), .i (sI y3.text), .i (.sl 3 (y3.kids.map eD))]] (aI (bI y4)), y1 = true]) (r' := aI (bI y4)) [] (by kernel_rfl) ⟨(sGoodType.ok N t y0 c1), c2, c2, (l12Shape.ok N v y1 c3), c2, c4, c4, (l11Tree.ok N t 0 y2 c5), c4, c4, (l12Tree.ok N v 0 y3 c6), c4, (l12Fits.ok N y2 y3 y4 c7), c4, trivial⟩ rfl
    · obtain rfl := Option.some.inj h
      exact finW_ok (n := 400) (gs := [.r (aI (bI y0)), .b true, .r (aI (bI y1)), .b false]) [] (ob := [Ok Tryd.prog 31 [tI (.sl 3 (t.map eTN))] (aI (bI y0)), y0 = true, y0 = true, Ok Tryd.prog 32 [tI (.sl 3 (v.map eVN))] (aI (bI y1)), y0 = true, y1 = false, y1 = false, y1 = false, y1 = false, y1 = false, y1 = false]) (r' := aI (bI false)) [] (by kernel_rfl) ⟨(sGoodType.ok N t y0 c1), c2, c2, (l12Shape.ok N v y1 c3), c2, c4, c4, c4, c4, c4, c4, trivial⟩ rfl
  · obtain rfl := Option.some.inj h
    exact finW_ok (n := 400) (gs := [.r (aI (bI y0)), .b false, .a 1]) [] (ob := [Ok Tryd.prog 31 [tI (.sl 3 (t.map eTN))] (aI (bI y0)), y0 = false, y0 = false, y0 = false, false = false, false = false, false = false, false = false, false = false]) (r' := aI (bI false)) [] (by kernel_rfl) ⟨(sGoodType.ok N t y0 c1), c2, c2, c2, rfl, rfl, rfl, rfl, rfl, trivial⟩ rfl
def goodPoint.sem (N : Nat) (p : Int) : Option Bool :=
    bif decide (p ≥ 0) then
      bif decide (p ≤ 1114111) then
        bif decide (p < 55296) then
          some true
        else
          some (decide (p > 57343))
      else
        some false
    else
      some false
set_option maxHeartbeats 1000000 in
theorem goodPoint.ok (N : Nat) (p : Int) (r : Bool) (h : goodPoint.sem N p = some r) : Ok Tryd.prog 105 [tI (nI p)] (aI (bI r)) := by
  unfold goodPoint.sem at h
  refine fnW_ok Tryd.func105 (by kernel_rfl) rfl rfl fun F hF => ?_
  rcases bif_some h with ⟨c1, h⟩ | ⟨c1, h⟩
  · rcases bif_some h with ⟨c2, h⟩ | ⟨c2, h⟩
    · rcases bif_some h with ⟨c3, h⟩ | ⟨c3, h⟩
      · obtain rfl := Option.some.inj h
        exact finW_ok (n := 400) (gs := [.b true, .b true, .b true]) [] (ob := [decide (p ≥ 0) = true, decide (p ≥ 0) = true, decide (p ≥ 0) = true, decide (p ≤ 1114111) = true, decide (p ≤ 1114111) = true, decide (p ≤ 1114111) = true, decide (p < 55296) = true, decide (p < 55296) = true, decide (p ≤ 1114111) = true, decide (p < 55296) = true, decide (p ≤ 1114111) = true]) (r' := aI (bI true)) [] (by kernel_rfl) ⟨c1, c1, c1, c2, c2, c2, c3, c3, c2, c3, c2, trivial⟩ rfl
      · obtain rfl := Option.some.inj h
        exact finW_ok (n := 400) (gs := [.b true, .b true, .b false]) [] (ob := [decide (p ≥ 0) = true, decide (p ≥ 0) = true, decide (p ≥ 0) = true, decide (p ≤ 1114111) = true, decide (p ≤ 1114111) = true, decide (p ≤ 1114111) = true, decide (p < 55296) = false, decide (p < 55296) = false, decide (p ≤ 1114111) = true, decide (p < 55296) = false, decide (p ≤ 1114111) = true]) (r' := aI (bI (decide (p > 57343)))) [] (by kernel_rfl) ⟨c1, c1, c1, c2, c2, c2, c3, c3, c2, c3, c2, trivial⟩ rfl
    · obtain rfl := Option.some.inj h
      exact finW_ok (n := 400) (gs := [.b true, .b false]) [] (ob := [decide (p ≥ 0) = true, decide (p ≥ 0) = true, decide (p ≥ 0) = true, decide (p ≤ 1114111) = false, decide (p ≤ 1114111) = false, decide (p ≤ 1114111) = false, decide (p ≤ 1114111) = false, decide (p ≤ 1114111) = false]) (r' := aI (bI false)) [] (by kernel_rfl) ⟨c1, c1, c1, c2, c2, c2, c2, c2, trivial⟩ rfl
  · obtain rfl := Option.some.inj h
    exact finW_ok (n := 400) (gs := [.b false, .a 1]) [] (ob := [decide (p ≥ 0) = false, decide (p ≥ 0) = false, decide (p ≥ 0) = false, false = false, false = false, false = false, false = false]) (r' := aI (bI false)) [] (by kernel_rfl) ⟨c1, c1, c1, rfl, rfl, rfl, rfl, trivial⟩ rfl
def nodeOk.sem (N : Nat) (x : TN) (parts : Int) : Option Bool :=
    bif (x.kind == 13) then
      bif (x.n == 0) then
        some (parts == 1)
      else
        some false
    else
      bif (x.kind == 17) then
        bif (x.n == 0) then
          some (parts == 1)
        else
          some false
      else
        bif (x.kind == 14) then
          bif (x.n == 0) then
            bif decide (parts ≥ 1) then
              some (decide (parts ≤ 8))
            else
              some false
          else
            some false
        else
          bif (x.kind == 15) then
            bif (x.n == 0) then
              bif decide (parts ≥ 1) then
                some (decide (parts ≤ 8))
              else
                some false
            else
              some false
          else
            bif (x.kind == 18) then
              bif (x.n == 0) then
                some (parts == 2)
              else
                some false
            else
              bif (x.kind == 16) then
                bif decide (x.n ≥ 1) then
                  bif decide (x.n ≤ 32) then
                    some (parts == 0)
                  else
                    some false
                else
                  some false
              else
                bif (x.kind == 19) then
                  bif decide (x.n ≥ 1) then
                    bif decide (x.n ≤ 300) then
                      some (parts == 0)
                    else
                      some false
                  else
                    some false
                else
                  bif (x.kind == 20) then
                    bif decide (x.n ≥ 0) then
                      bif decide (x.n ≤ 9) then
                        some (parts == 0)
                      else
                        some false
                    else
                      some false
                  else
                    bif (x.kind == 21) then
                      bif decide (x.n ≥ 0) then
                        bif decide (x.n ≤ 9) then
                          some (parts == 0)
                        else
                          some false
                      else
                        some false
                    else
                      bif decide (x.kind ≥ 1) then
                        bif decide (x.kind ≤ 12) then
                          bif (x.n == 0) then
                            some (parts == 0)
                          else
                            some false
                        else
                          some false
                      else
                        some false
set_option maxHeartbeats 1000000 in
theorem nodeOk.ok (N : Nat) (x : TN) (parts : Int) (r : Bool) (h : nodeOk.sem N x parts = some r) : Ok Tryd.prog 83 [.agg [.i (nI x.kind), .i (nI x.n), .i (nI x.up)], tI (nI parts)] (aI (bI r)) := by
  unfold nodeOk.sem at h
  refine fnW_ok Tryd.func83 (by kernel_rfl) rfl rfl fun F hF => ?_
  rcases bif_some h with ⟨c1, h⟩ | ⟨c1, h⟩
  · rcases bif_some h with ⟨c2, h⟩ | ⟨c2, h⟩
    · obtain rfl := Option.some.inj h
      exact finW_ok (n := 400) (gs := [.b true, .b true, .b true]) [] (ob := [(x.kind == 13) = true, (x.kind == 13) = true, (x.n == 0) = true, (x.n == 0) = true, (x.n == 0) = true]) (r' := aI (bI (parts == 1))) [] (by kernel_rfl) ⟨c1, c1, c2, c2, c2, trivial⟩ rfl
    · obtain rfl := Option.some.inj h
      exact finW_ok (n := 400) (gs := [.b true, .b true, .b false]) [] (ob := [(x.kind == 13) = true, (x.kind == 13) = true, (x.n == 0) = false, (x.n == 0) = false, (x.n == 0) = false]) (r' := aI (bI false)) [] (by kernel_rfl) ⟨c1, c1, c2, c2, c2, trivial⟩ rfl
  · rcases bif_some h with ⟨c3, h⟩ | ⟨c3, h⟩
    · rcases bif_some h with ⟨c4, h⟩ | ⟨c4, h⟩
      · obtain rfl := Option.some.inj h
        exact finW_ok (n := 400) (gs := [.b false, .b true, .b true]) [] (ob := [(x.kind == 13) = false, (x.kind == 17) = true, (x.n == 0) = true, (x.n == 0) = true, (x.n == 0) = true]) (r' := aI (bI (parts == 1))) [] (by kernel_rfl) ⟨c1, c3, c4, c4, c4, trivial⟩ rfl
      · obtain rfl := Option.some.inj h
        exact finW_ok (n := 400) (gs := [.b false, .b true, .b false]) [] (ob := [(x.kind == 13) = false, (x.kind == 17) = true, (x.n == 0) = false, (x.n == 0) = false, (x.n == 0) = false]) (r' := aI (bI false)) [] (by kernel_rfl) ⟨c1, c3, c4, c4, c4, trivial⟩ rfl
    · rcases bif_some h with ⟨c5, h⟩ | ⟨c5, h⟩
      · rcases bif_some h with ⟨c6, h⟩ | ⟨c6, h⟩
        · rcases bif_some h with ⟨c7, h⟩ | ⟨c7, h⟩
          · obtain rfl := Option.some.inj h
            exact finW_ok (n := 400) (gs := [.b false, .b false, .b true, .b true, .b true, .b true]) [] (ob := [(x.kind == 13) = false, (x.kind == 17) = false, (x.kind == 14) = true, (x.kind == 14) = true, (x.n == 0) = true, (x.n == 0) = true, (x.n == 0) = true, decide (parts ≥ 1) = true, decide (parts ≥ 1) = true, decide (parts ≥ 1) = true]) (r' := aI (bI (decide (parts ≤ 8)))) [] (by kernel_rfl) ⟨c1, c3, c5, c5, c6, c6, c6, c7, c7, c7, trivial⟩ rfl
          · obtain rfl := Option.some.inj h
            exact finW_ok (n := 400) (gs := [.b false, .b false, .b true, .b true, .b true, .b false]) [] (ob := [(x.kind == 13) = false, (x.kind == 17) = false, (x.kind == 14) = true, (x.kind == 14) = true, (x.n == 0) = true, (x.n == 0) = true, (x.n == 0) = true, decide (parts ≥ 1) = false, decide (parts ≥ 1) = false, decide (parts ≥ 1) = false]) (r' := aI (bI false)) [] (by kernel_rfl) ⟨c1, c3, c5, c5, c6, c6, c6, c7, c7, c7, trivial⟩ rfl
        · obtain rfl := Option.some.inj h
          exact finW_ok (n := 400) (gs := [.b false, .b false, .b true, .b true, .b false, .a 1]) [] (ob := [(x.kind == 13) = false, (x.kind == 17) = false, (x.kind == 14) = true, (x.kind == 14) = true, (x.n == 0) = false, (x.n == 0) = false, (x.n == 0) = false, false = false, false = false]) (r' := aI (bI false)) [] (by kernel_rfl) ⟨c1, c3, c5, c5, c6, c6, c6, rfl, rfl, trivial⟩ rfl
      · rcases bif_some h with ⟨c8, h⟩ | ⟨c8, h⟩
        · rcases bif_some h with ⟨c9, h⟩ | ⟨c9, h⟩
          · rcases bif_some h with ⟨c10, h⟩ | ⟨c10, h⟩
            · obtain rfl := Option.some.inj h
              exact finW_ok (n := 400) (gs := [.b false, .b false, .b false, .b true, .b true, .b true]) [] (ob := [(x.kind == 13) = false, (x.kind == 17) = false, (x.kind == 14) = false, (x.kind == 15) = true, (x.n == 0) = true, (x.n == 0) = true, (x.n == 0) = true, decide (parts ≥ 1) = true, decide (parts ≥ 1) = true, decide (parts ≥ 1) = true]) (r' := aI (bI (decide (parts ≤ 8)))) [] (by kernel_rfl) ⟨c1, c3, c5, c8, c9, c9, c9, c10, c10, c10, trivial⟩ rfl
            · obtain rfl := Option.some.inj h
              exact finW_ok (n := 400) (gs := [.b false, .b false, .b false, .b true, .b true, .b false]) [] (ob := [(x.kind == 13) = false, (x.kind == 17) = false, (x.kind == 14) = false, (x.kind == 15) = true, (x.n == 0) = true, (x.n == 0) = true, (x.n == 0) = true, decide (parts ≥ 1) = false, decide (parts ≥ 1) = false, decide (parts ≥ 1) = false]) (r' := aI (bI false)) [] (by kernel_rfl) ⟨c1, c3, c5, c8, c9, c9, c9, c10, c10, c10, trivial⟩ rfl
          · obtain rfl := Option.some.inj h
            exact finW_ok (n := 400) (gs := [.b false, .b false, .b false, .b true, .b false, .a 1]) [] (ob := [(x.kind == 13) = false, (x.kind == 17) = false, (x.kind == 14) = false, (x.kind == 15) = true, (x.n == 0) = false, (x.n == 0) = false, (x.n == 0) = false, false = false, false = false]) (r' := aI (bI false)) [] (by kernel_rfl) ⟨c1, c3, c5, c8, c9, c9, c9, rfl, rfl, trivial⟩ rfl
        · rcases bif_some h with ⟨c11, h⟩ | ⟨c11, h⟩
          · rcases bif_some h with ⟨c12, h⟩ | ⟨c12, h⟩
            · obtain rfl := Option.some.inj h
              exact finW_ok (n := 400) (gs := [.b false, .b false, .b false, .b false, .b true, .b true]) [] (ob := [(x.kind == 13) = false, (x.kind == 17) = false, (x.kind == 14) = false, (x.kind == 15) = false, (x.kind == 18) = true, (x.n == 0) = true, (x.n == 0) = true, (x.n == 0) = true]) (r' := aI (bI (parts == 2))) [] (by kernel_rfl) ⟨c1, c3, c5, c8, c11, c12, c12, c12, trivial⟩ rfl
            · obtain rfl := Option.some.inj h
              exact finW_ok (n := 400) (gs := [.b false, .b false, .b false, .b false, .b true, .b false]) [] (ob := [(x.kind == 13) = false, (x.kind == 17) = false, (x.kind == 14) = false, (x.kind == 15) = false, (x.kind == 18) = true, (x.n == 0) = false, (x.n == 0) = false, (x.n == 0) = false]) (r' := aI (bI false)) [] (by kernel_rfl) ⟨c1, c3, c5, c8, c11, c12, c12, c12, trivial⟩ rfl
          · rcases bif_some h with ⟨c13, h⟩ | ⟨c13, h⟩
            · rcases bif_some h with ⟨c14, h⟩ | ⟨c14, h⟩
              · rcases bif_some h with ⟨c15, h⟩ | ⟨c15, h⟩
                · obtain rfl := Option.some.inj h
                  exact finW_ok (n := 400) (gs := [.b false, .b false, .b false, .b false, .b false, .b true, .b true, .b true]) [] (ob := [(x.kind == 13) = false, (x.kind == 17) = false, (x.kind == 14) = false, (x.kind == 15) = false, (x.kind == 18) = false, (x.kind == 16) = true, decide (x.n ≥ 1) = true, decide (x.n ≥ 1) = true, decide (x.n ≥ 1) = true, decide (x.n ≥ 1) = true, decide (x.n ≤ 32) = true, decide (x.n ≤ 32) = true, decide (x.n ≤ 32) = true]) (r' := aI (bI (parts == 0))) [] (by kernel_rfl) ⟨c1, c3, c5, c8, c11, c13, c14, c14, c14, c14, c15, c15, c15, trivial⟩ rfl
                · obtain rfl := Option.some.inj h
                  exact finW_ok (n := 400) (gs := [.b false, .b false, .b false, .b false, .b false, .b true, .b true, .b false]) [] (ob := [(x.kind == 13) = false, (x.kind == 17) = false, (x.kind == 14) = false, (x.kind == 15) = false, (x.kind == 18) = false, (x.kind == 16) = true, decide (x.n ≥ 1) = true, decide (x.n ≥ 1) = true, decide (x.n ≥ 1) = true, decide (x.n ≥ 1) = true, decide (x.n ≤ 32) = false, decide (x.n ≤ 32) = false, decide (x.n ≤ 32) = false]) (r' := aI (bI false)) [] (by kernel_rfl) ⟨c1, c3, c5, c8, c11, c13, c14, c14, c14, c14, c15, c15, c15, trivial⟩ rfl
              · obtain rfl := Option.some.inj h
                exact finW_ok (n := 400) (gs := [.b false, .b false, .b false, .b false, .b false, .b true, .b false, .a 1]) [] (ob := [(x.kind == 13) = false, (x.kind == 17) = false, (x.kind == 14) = false, (x.kind == 15) = false, (x.kind == 18) = false, (x.kind == 16) = true, decide (x.n ≥ 1) = false, decide (x.n ≥ 1) = false, decide (x.n ≥ 1) = false, decide (x.n ≥ 1) = false, false = false, false = false]) (r' := aI (bI false)) [] (by kernel_rfl) ⟨c1, c3, c5, c8, c11, c13, c14, c14, c14, c14, rfl, rfl, trivial⟩ rfl
            · rcases bif_some h with ⟨c16, h⟩ | ⟨c16, h⟩
              · rcases bif_some h with ⟨c17, h⟩ | ⟨c17, h⟩
                · rcases bif_some h with ⟨c18, h⟩ | ⟨c18, h⟩
                  · obtain rfl := Option.some.inj h
                    exact finW_ok (n := 400) (gs := [.b false, .b false, .b false, .b false, .b false, .b false, .b true, .b true, .b true]) [] (ob := [(x.kind == 13) = false, (x.kind == 17) = false, (x.kind == 14) = false, (x.kind == 15) = false, (x.kind == 18) = false, (x.kind == 16) = false, (x.kind == 19) = true, decide (x.n ≥ 1) = true, decide (x.n ≥ 1) = true, decide (x.n ≥ 1) = true, decide (x.n ≥ 1) = true, decide (x.n ≤ 300) = true, decide (x.n ≤ 300) = true, decide (x.n ≤ 300) = true]) (r' := aI (bI (parts == 0))) [] (by kernel_rfl) ⟨c1, c3, c5, c8, c11, c13, c16, c17, c17, c17, c17, c18, c18, c18, trivial⟩ rfl
                  · obtain rfl := Option.some.inj h
                    exact finW_ok (n := 400) (gs := [.b false, .b false, .b false, .b false, .b false, .b false, .b true, .b true, .b false]) [] (ob := [(x.kind == 13) = false, (x.kind == 17) = false, (x.kind == 14) = false, (x.kind == 15) = false, (x.kind == 18) = false, (x.kind == 16) = false, (x.kind == 19) = true, decide (x.n ≥ 1) = true, decide (x.n ≥ 1) = true, decide (x.n ≥ 1) = true, decide (x.n ≥ 1) = true, decide (x.n ≤ 300) = false, decide (x.n ≤ 300) = false, decide (x.n ≤ 300) = false]) (r' := aI (bI false)) [] (by kernel_rfl) ⟨c1, c3, c5, c8, c11, c13, c16, c17, c17, c17, c17, c18, c18, c18, trivial⟩ rfl
                · obtain rfl := Option.some.inj h
                  exact finW_ok (n := 400) (gs := [.b false, .b false, .b false, .b false, .b false, .b false, .b true, .b false, .a 1]) [] (ob := [(x.kind == 13) = false, (x.kind == 17) = false, (x.kind == 14) = false, (x.kind == 15) = false, (x.kind == 18) = false, (x.kind == 16) = false, (x.kind == 19) = true, decide (x.n ≥ 1) = false, decide (x.n ≥ 1) = false, decide (x.n ≥ 1) = false, decide (x.n ≥ 1) = false, false = false, false = false]) (r' := aI (bI false)) [] (by kernel_rfl) ⟨c1, c3, c5, c8, c11, c13, c16, c17, c17, c17, c17, rfl, rfl, trivial⟩ rfl
              · rcases bif_some h with ⟨c19, h⟩ | ⟨c19, h⟩
                · rcases bif_some h with ⟨c20, h⟩ | ⟨c20, h⟩
                  · rcases bif_some h with ⟨c21, h⟩ | ⟨c21, h⟩
                    · obtain rfl := Option.some.inj h
                      exact finW_ok (n := 400) (gs := [.b false, .b false, .b false, .b false, .b false, .b false, .b false, .b true, .b true, .b true, .b true]) [] (ob := [(x.kind == 13) = false, (x.kind == 17) = false, (x.kind == 14) = false, (x.kind == 15) = false, (x.kind == 18) = false, (x.kind == 16) = false, (x.kind == 19) = false, (x.kind == 20) = true, (x.kind == 20) = true, decide (x.n ≥ 0) = true, decide (x.n ≥ 0) = true, decide (x.n ≥ 0) = true, decide (x.n ≥ 0) = true, decide (x.n ≤ 9) = true, decide (x.n ≤ 9) = true, decide (x.n ≤ 9) = true]) (r' := aI (bI (parts == 0))) [] (by kernel_rfl) ⟨c1, c3, c5, c8, c11, c13, c16, c19, c19, c20, c20, c20, c20, c21, c21, c21, trivial⟩ rfl
                    · obtain rfl := Option.some.inj h
                      exact finW_ok (n := 400) (gs := [.b false, .b false, .b false, .b false, .b false, .b false, .b false, .b true, .b true, .b true, .b false]) [] (ob := [(x.kind == 13) = false, (x.kind == 17) = false, (x.kind == 14) = false, (x.kind == 15) = false, (x.kind == 18) = false, (x.kind == 16) = false, (x.kind == 19) = false, (x.kind == 20) = true, (x.kind == 20) = true, decide (x.n ≥ 0) = true, decide (x.n ≥ 0) = true, decide (x.n ≥ 0) = true, decide (x.n ≥ 0) = true, decide (x.n ≤ 9) = false, decide (x.n ≤ 9) = false, decide (x.n ≤ 9) = false]) (r' := aI (bI false)) [] (by kernel_rfl) ⟨c1, c3, c5, c8, c11, c13, c16, c19, c19, c20, c20, c20, c20, c21, c21, c21, trivial⟩ rfl
                  · obtain rfl := Option.some.inj h
                    exact finW_ok (n := 400) (gs := [.b false, .b false, .b false, .b false, .b false, .b false, .b false, .b true, .b true, .b false, .a 1]) [] (ob := [(x.kind == 13) = false, (x.kind == 17) = false, (x.kind == 14) = false, (x.kind == 15) = false, (x.kind == 18) = false, (x.kind == 16) = false, (x.kind == 19) = false, (x.kind == 20) = true, (x.kind == 20) = true, decide (x.n ≥ 0) = false, decide (x.n ≥ 0) = false, decide (x.n ≥ 0) = false, decide (x.n ≥ 0) = false, false = false, false = false]) (r' := aI (bI false)) [] (by kernel_rfl) ⟨c1, c3, c5, c8, c11, c13, c16, c19, c19, c20, c20, c20, c20, rfl, rfl, trivial⟩ rfl
                · rcases bif_some h with ⟨c22, h⟩ | ⟨c22, h⟩
                  · rcases bif_some h with ⟨c23, h⟩ | ⟨c23, h⟩
                    · rcases bif_some h with ⟨c24, h⟩ | ⟨c24, h⟩
                      · obtain rfl := Option.some.inj h
                        exact finW_ok (n := 400) (gs := [.b false, .b false, .b false, .b false, .b false, .b false, .b false, .b false, .b true, .b true, .b true]) [] (ob := [(x.kind == 13) = false, (x.kind == 17) = false, (x.kind == 14) = false, (x.kind == 15) = false, (x.kind == 18) = false, (x.kind == 16) = false, (x.kind == 19) = false, (x.kind == 20) = false, (x.kind == 21) = true, decide (x.n ≥ 0) = true, decide (x.n ≥ 0) = true, decide (x.n ≥ 0) = true, decide (x.n ≥ 0) = true, decide (x.n ≤ 9) = true, decide (x.n ≤ 9) = true, decide (x.n ≤ 9) = true]) (r' := aI (bI (parts == 0))) [] (by kernel_rfl) ⟨c1, c3, c5, c8, c11, c13, c16, c19, c22, c23, c23, c23, c23, c24, c24, c24, trivial⟩ rfl
                      · obtain rfl := Option.some.inj h
                        exact finW_ok (n := 400) (gs := [.b false, .b false, .b false, .b false, .b false, .b false, .b false, .b false, .b true, .b true, .b false]) [] (ob := [(x.kind == 13) = false, (x.kind == 17) = false, (x.kind == 14) = false, (x.kind == 15) = false, (x.kind == 18) = false, (x.kind == 16) = false, (x.kind == 19) = false, (x.kind == 20) = false, (x.kind == 21) = true, decide (x.n ≥ 0) = true, decide (x.n ≥ 0) = true, decide (x.n ≥ 0) = true, decide (x.n ≥ 0) = true, decide (x.n ≤ 9) = false, decide (x.n ≤ 9) = false, decide (x.n ≤ 9) = false]) (r' := aI (bI false)) [] (by kernel_rfl) ⟨c1, c3, c5, c8, c11, c13, c16, c19, c22, c23, c23, c23, c23, c24, c24, c24, trivial⟩ rfl
                    · obtain rfl := Option.some.inj h
                      exact finW_ok (n := 400) (gs := [.b false, .b false, .b false, .b false, .b false, .b false, .b false, .b false, .b true, .b false, .a 1]) [] (ob := [(x.kind == 13) = false, (x.kind == 17) = false, (x.kind == 14) = false, (x.kind == 15) = false, (x.kind == 18) = false, (x.kind == 16) = false, (x.kind == 19) = false, (x.kind == 20) = false, (x.kind == 21) = true, decide (x.n ≥ 0) = false, decide (x.n ≥ 0) = false, decide (x.n ≥ 0) = false, decide (x.n ≥ 0) = false, false = false, false = false]) (r' := aI (bI false)) [] (by kernel_rfl) ⟨c1, c3, c5, c8, c11, c13, c16, c19, c22, c23, c23, c23, c23, rfl, rfl, trivial⟩ rfl
                  · rcases bif_some h with ⟨c25, h⟩ | ⟨c25, h⟩
                    · rcases bif_some h with ⟨c26, h⟩ | ⟨c26, h⟩
                      · rcases bif_some h with ⟨c27, h⟩ | ⟨c27, h⟩
                        · obtain rfl := Option.some.inj h
                          exact finW_ok (n := 400) (gs := [.b false, .b false, .b false, .b false, .b false, .b false, .b false, .b false, .b false, .b true, .b true, .b true]) [] (ob := [(x.kind == 13) = false, (x.kind == 17) = false, (x.kind == 14) = false, (x.kind == 15) = false, (x.kind == 18) = false, (x.kind == 16) = false, (x.kind == 19) = false, (x.kind == 20) = false, (x.kind == 21) = false, decide (x.kind ≥ 1) = true, decide (x.kind ≥ 1) = true, decide (x.kind ≥ 1) = true, decide (x.kind ≥ 1) = true, decide (x.kind ≤ 12) = true, decide (x.kind ≤ 12) = true, decide (x.kind ≤ 12) = true, decide (x.kind ≤ 12) = true, (x.n == 0) = true, (x.n == 0) = true, (x.n == 0) = true]) (r' := aI (bI (parts == 0))) [] (by kernel_rfl) ⟨c1, c3, c5, c8, c11, c13, c16, c19, c22, c25, c25, c25, c25, c26, c26, c26, c26, c27, c27, c27, trivial⟩ rfl
                        · obtain rfl := Option.some.inj h
                          exact finW_ok (n := 400) (gs := [.b false, .b false, .b false, .b false, .b false, .b false, .b false, .b false, .b false, .b true, .b true, .b false]) [] (ob := [(x.kind == 13) = false, (x.kind == 17) = false, (x.kind == 14) = false, (x.kind == 15) = false, (x.kind == 18) = false, (x.kind == 16) = false, (x.kind == 19) = false, (x.kind == 20) = false, (x.kind == 21) = false, decide (x.kind ≥ 1) = true, decide (x.kind ≥ 1) = true, decide (x.kind ≥ 1) = true, decide (x.kind ≥ 1) = true, decide (x.kind ≤ 12) = true, decide (x.kind ≤ 12) = true, decide (x.kind ≤ 12) = true, decide (x.kind ≤ 12) = true, (x.n == 0) = false, (x.n == 0) = false, (x.n == 0) = false]) (r' := aI (bI false)) [] (by kernel_rfl) ⟨c1, c3, c5, c8, c11, c13, c16, c19, c22, c25, c25, c25, c25, c26, c26, c26, c26, c27, c27, c27, trivial⟩ rfl
                      · obtain rfl := Option.some.inj h
                        exact finW_ok (n := 400) (gs := [.b false, .b false, .b false, .b false, .b false, .b false, .b false, .b false, .b false, .b true, .b false, .a 1]) [] (ob := [(x.kind == 13) = false, (x.kind == 17) = false, (x.kind == 14) = false, (x.kind == 15) = false, (x.kind == 18) = false, (x.kind == 16) = false, (x.kind == 19) = false, (x.kind == 20) = false, (x.kind == 21) = false, decide (x.kind ≥ 1) = true, decide (x.kind ≥ 1) = true, decide (x.kind ≥ 1) = true, decide (x.kind ≥ 1) = true, decide (x.kind ≤ 12) = false, decide (x.kind ≤ 12) = false, decide (x.kind ≤ 12) = false, decide (x.kind ≤ 12) = false, false = false, false = false]) (r' := aI (bI false)) [] (by kernel_rfl) ⟨c1, c3, c5, c8, c11, c13, c16, c19, c22, c25, c25, c25, c25, c26, c26, c26, c26, rfl, rfl, trivial⟩ rfl
                    · obtain rfl := Option.some.inj h
                      exact finW_ok (n := 400) (gs := [.b false, .b false, .b false, .b false, .b false, .b false, .b false, .b false, .b false, .b false, .a 2]) [] (ob := [(x.kind == 13) = false, (x.kind == 17) = false, (x.kind == 14) = false, (x.kind == 15) = false, (x.kind == 18) = false, (x.kind == 16) = false, (x.kind == 19) = false, (x.kind == 20) = false, (x.kind == 21) = false, decide (x.kind ≥ 1) = false, decide (x.kind ≥ 1) = false, decide (x.kind ≥ 1) = false, decide (x.kind ≥ 1) = false, false = false, false = false, false = false, false = false, false = false]) (r' := aI (bI false)) [] (by kernel_rfl) ⟨c1, c3, c5, c8, c11, c13, c16, c19, c22, c25, c25, c25, c25, rfl, rfl, rfl, rfl, rfl, trivial⟩ rfl
def chosen.sem (N : Nat) (t : Sh) : Option Bool :=
    bif (t.kind == 15) then
      some true
    else
      bif (t.kind == 17) then
        some true
      else
        some (t.kind == 18)
set_option maxHeartbeats 1000000 in
theorem chosen.ok (N : Nat) (t : Sh) (r : Bool) (h : chosen.sem N t = some r) : Ok Tryd.prog 85 [tI (.pt [nI t.kind, nI t.n, .sl 1 (t.kids.map eP)])] (aI (bI r)) := by
  unfold chosen.sem at h
  refine fnW_ok Tryd.func85 (by kernel_rfl) rfl rfl fun F hF => ?_
  rcases bif_some h with ⟨c1, h⟩ | ⟨c1, h⟩
  · obtain rfl := Option.some.inj h
    exact finW_ok (n := 400) (gs := [.b true, .a 1]) [] (ob := [(t.kind == 15) = true, (t.kind == 15) = true, (t.kind == 15) = true, (t.kind == 15) = true, (t.kind == 15) = true, (t.kind == 15) = true, true = true, true = true, true = true, true = true, true = true]) (r' := aI (bI true)) [] (by kernel_rfl) ⟨c1, c1, c1, c1, c1, c1, rfl, rfl, rfl, rfl, rfl, trivial⟩ rfl
  · rcases bif_some h with ⟨c2, h⟩ | ⟨c2, h⟩
    · obtain rfl := Option.some.inj h
      exact finW_ok (n := 400) (gs := [.b false, .b true]) [] (ob := [(t.kind == 15) = false, (t.kind == 15) = false, (t.kind == 15) = false, (t.kind == 15) = false, (t.kind == 15) = false, (t.kind == 15) = false, (t.kind == 17) = true, (t.kind == 17) = true, (t.kind == 17) = true, (t.kind == 17) = true, (t.kind == 17) = true, (t.kind == 17) = true]) (r' := aI (bI true)) [] (by kernel_rfl) ⟨c1, c1, c1, c1, c1, c1, c2, c2, c2, c2, c2, c2, trivial⟩ rfl
    · obtain rfl := Option.some.inj h
      exact finW_ok (n := 400) (gs := [.b false, .b false]) [] (ob := [(t.kind == 15) = false, (t.kind == 15) = false, (t.kind == 15) = false, (t.kind == 15) = false, (t.kind == 15) = false, (t.kind == 15) = false, (t.kind == 17) = false, (t.kind == 17) = false, (t.kind == 17) = false, (t.kind == 17) = false, (t.kind == 17) = false, (t.kind == 17) = false]) (r' := aI (bI (t.kind == 18))) [] (by kernel_rfl) ⟨c1, c1, c1, c1, c1, c1, c2, c2, c2, c2, c2, c2, trivial⟩ rfl
def formatOf.sem (N : Nat) (f : Int) : Option (Fm × Bool) :=
    bif (f == 16) then
      some ((Fm.mk 10 15), true)
    else
      bif (f == 32) then
        some ((Fm.mk 23 127), true)
      else
        some ((Fm.mk 0 0), false)
set_option maxHeartbeats 1000000 in
theorem formatOf.ok (N : Nat) (f : Int) (r : (Fm × Bool)) (h : formatOf.sem N f = some r) : Ok Tryd.prog 136 [tI (nI f)] (.tup [.agg [.i (nI r.1.p), .i (nI r.1.bias)], tI (bI r.2)]) := by
  unfold formatOf.sem at h
  refine fnW_ok Tryd.func136 (by kernel_rfl) rfl rfl fun F hF => ?_
  rcases bif_some h with ⟨c1, h⟩ | ⟨c1, h⟩
  · obtain rfl := Option.some.inj h
    exact finW_ok (n := 400) (gs := [.b true]) [] (ob := [(f == 16) = true]) (r' := .tup [.agg [.i (nI 10), .i (nI 15)], tI (bI true)]) [] (by kernel_rfl) ⟨c1, trivial⟩ rfl
  · rcases bif_some h with ⟨c2, h⟩ | ⟨c2, h⟩
    · obtain rfl := Option.some.inj h
      exact finW_ok (n := 400) (gs := [.b false, .b true]) [] (ob := [(f == 16) = false, (f == 32) = true]) (r' := .tup [.agg [.i (nI 23), .i (nI 127)], tI (bI true)]) [] (by kernel_rfl) ⟨c1, c2, trivial⟩ rfl
    · obtain rfl := Option.some.inj h
      exact finW_ok (n := 400) (gs := [.b false, .b false]) [] (ob := [(f == 16) = false, (f == 32) = false]) (r' := .tup [.agg [.i (nI 0), .i (nI 0)], tI (bI false)]) [] (by kernel_rfl) ⟨c1, c2, trivial⟩ rfl
def fmtop.sem (N : Nat) (f : Fm) : Option Int :=
    some (IntKind.u32.wrap (IntKind.i64.wrap ((IntKind.i64.wrap (2 * f.bias)) + 1)))
set_option maxHeartbeats 1000000 in
theorem fmtop.ok (N : Nat) (f : Fm) (r : Int) (h : fmtop.sem N f = some r) : Ok Tryd.prog 156 [.agg [.i (nI f.p), .i (nI f.bias)]] (aI (.v (.int .u32 r))) := by
  unfold fmtop.sem at h
  refine fnW_ok Tryd.func156 (by kernel_rfl) rfl rfl fun F hF => ?_
  obtain rfl := Option.some.inj h
  exact finW_ok (n := 400) (gs := []) [] (ob := []) (r' := aI (.v (.int .u32 (IntKind.u32.wrap (IntKind.i64.wrap ((IntKind.i64.wrap (2 * f.bias)) + 1)))))) [] (by kernel_rfl) trivial rfl
def fmsign.sem (N : Nat) (f : Fm) : Option Int :=
    (fmtop.sem N f).bind fun y0 =>
    bif decide (0 ≤ (f.p : Int)) then
      some (shlV .u32 (IntKind.u32.wrap (y0 + 1)) f.p)
    else none
set_option maxHeartbeats 1000000 in
theorem fmsign.ok (N : Nat) (f : Fm) (r : Int) (h : fmsign.sem N f = some r) : Ok Tryd.prog 157 [.agg [.i (nI f.p), .i (nI f.bias)]] (aI (.v (.int .u32 r))) := by
  unfold fmsign.sem at h
  refine fnW_ok Tryd.func157 (by kernel_rfl) rfl rfl fun F hF => ?_
  obtain ⟨y0, c1, h⟩ := bind_some' h
  obtain ⟨c2, h⟩ := chk_some h
  refine drx_ok (n := 400) (gs := []) [[], [.r (aI (.v (.int .u32 y0)))], [], [], [], [], []] [2] [] (ob := [Ok Tryd.prog 156 [.agg [.i (nI f.p), .i (nI f.bias)]] (aI (.v (.int .u32 y0))), 0 ≤ (f.p : Int)]) (K' := dK (codeOf Tryd.f157) 0) (σ' := ⟨mkT_ 9 [(2, aI (.v (.int .u32 (shlV .u32 (IntKind.u32.wrap (y0 + 1)) f.p))))], []⟩) (by kernel_rfl) ⟨(fmtop.ok N f y0 c1), (of_decide_eq_true c2), trivial⟩ ?_
  obtain rfl := Option.some.inj h
  exact finW_ok (n := 400) (gs := []) [] (ob := []) (r' := aI (.v (.int .u32 (shlV .u32 (IntKind.u32.wrap (y0 + 1)) f.p)))) [] (by kernel_rfl) trivial rfl
def fmmask.sem (N : Nat) (f : Fm) : Option Int :=
    (fmsign.sem N f).bind fun y0 =>
    (fmsign.sem N f).bind fun y1 =>
    some (IntKind.u32.wrap (((BitVec.ofInt 32 y0 ||| BitVec.ofInt 32 (IntKind.u32.wrap (y1 - 1))).toNat : Int)))
set_option maxHeartbeats 1000000 in
theorem fmmask.ok (N : Nat) (f : Fm) (r : Int) (h : fmmask.sem N f = some r) : Ok Tryd.prog 140 [.agg [.i (nI f.p), .i (nI f.bias)]] (aI (.v (.int .u32 r))) := by
  unfold fmmask.sem at h
  refine fnW_ok Tryd.func140 (by kernel_rfl) rfl rfl fun F hF => ?_
  obtain ⟨y0, c1, h⟩ := bind_some' h
  obtain ⟨y1, c2, h⟩ := bind_some' h
  refine drx_ok (n := 400) (gs := []) [[], [.r (aI (.v (.int .u32 y0)))], [], [.r (aI (.v (.int .u32 y1)))], [], [], []] [2] [] (ob := [Ok Tryd.prog 157 [.agg [.i (nI f.p), .i (nI f.bias)]] (aI (.v (.int .u32 y0))), Ok Tryd.prog 157 [.agg [.i (nI f.p), .i (nI f.bias)]] (aI (.v (.int .u32 y1)))]) (K' := dK (codeOf Tryd.f140) 0) (σ' := ⟨mkT_ 9 [(2, aI (.v (.int .u32 (IntKind.u32.wrap (((BitVec.ofInt 32 y0 ||| BitVec.ofInt 32 (IntKind.u32.wrap (y1 - 1))).toNat : Int))))))], []⟩) (by kernel_rfl) ⟨(fmsign.ok N f y0 c1), (fmsign.ok N f y1 c2), trivial⟩ ?_
  obtain rfl := Option.some.inj h
  exact finW_ok (n := 400) (gs := []) [] (ob := []) (r' := aI (.v (.int .u32 (IntKind.u32.wrap (((BitVec.ofInt 32 y0 ||| BitVec.ofInt 32 (IntKind.u32.wrap (y1 - 1))).toNat : Int)))))) [] (by kernel_rfl) trivial rfl
def fmno.sem (N : Nat) (f : Fm) : Option Int :=
    (fmtop.sem N f).bind fun y0 =>
    bif decide (0 ≤ (f.p : Int)) then
      bif decide (0 ≤ (IntKind.i64.wrap (f.p - 1) : Int)) then
        some (IntKind.u32.wrap (((BitVec.ofInt 32 (shlV .u32 y0 f.p) ||| BitVec.ofInt 32 (shlV .u32 1 (IntKind.i64.wrap (f.p - 1)))).toNat : Int)))
      else none
    else none
set_option maxHeartbeats 1000000 in
theorem fmno.ok (N : Nat) (f : Fm) (r : Int) (h : fmno.sem N f = some r) : Ok Tryd.prog 138 [.agg [.i (nI f.p), .i (nI f.bias)]] (aI (.v (.int .u32 r))) := by
  unfold fmno.sem at h
  refine fnW_ok Tryd.func138 (by kernel_rfl) rfl rfl fun F hF => ?_
  obtain ⟨y0, c1, h⟩ := bind_some' h
  obtain ⟨c2, h⟩ := chk_some h
  obtain ⟨c3, h⟩ := chk_some h
  refine drx_ok (n := 400) (gs := []) [[], [.r (aI (.v (.int .u32 y0)))], [], [], [], [], [], [], [], [], []] [2] [] (ob := [Ok Tryd.prog 156 [.agg [.i (nI f.p), .i (nI f.bias)]] (aI (.v (.int .u32 y0))), 0 ≤ (f.p : Int), 0 ≤ (IntKind.i64.wrap (f.p - 1) : Int)]) (K' := dK (codeOf Tryd.f138) 0) (σ' := ⟨mkT_ 13 [(2, aI (.v (.int .u32 (IntKind.u32.wrap (((BitVec.ofInt 32 (shlV .u32 y0 f.p) ||| BitVec.ofInt 32 (shlV .u32 1 (IntKind.i64.wrap (f.p - 1)))).toNat : Int))))))], []⟩) (by kernel_rfl) ⟨(fmtop.ok N f y0 c1), (of_decide_eq_true c2), (of_decide_eq_true c3), trivial⟩ ?_
  obtain rfl := Option.some.inj h
  exact finW_ok (n := 400) (gs := []) [] (ob := []) (r' := aI (.v (.int .u32 (IntKind.u32.wrap (((BitVec.ofInt 32 (shlV .u32 y0 f.p) ||| BitVec.ofInt 32 (shlV .u32 1 (IntKind.i64.wrap (f.p - 1)))).toNat : Int)))))) [] (by kernel_rfl) trivial rfl
def fmorder.sem (N : Nat) (f : Fm) (a : Int) : Option Int :=
    (fmsign.sem N f).bind fun y0 =>
    (fmsign.sem N f).bind fun y1 =>
    bif ((IntKind.u32.wrap (((BitVec.ofInt 32 a &&& BitVec.ofInt 32 y1).toNat : Int))) != 0) then
      some (IntKind.i64.wrap ((IntKind.i64.wrap (0 - (IntKind.i64.wrap (IntKind.u32.wrap (((BitVec.ofInt 32 a &&& BitVec.ofInt 32 (IntKind.u32.wrap (y0 - 1))).toNat : Int)))))) - 1))
    else
      some (IntKind.i64.wrap (IntKind.u32.wrap (((BitVec.ofInt 32 a &&& BitVec.ofInt 32 (IntKind.u32.wrap (y0 - 1))).toNat : Int))))
set_option maxHeartbeats 1000000 in
theorem fmorder.ok (N : Nat) (f : Fm) (a : Int) (r : Int) (h : fmorder.sem N f a = some r) : Ok Tryd.prog 139 [.agg [.i (nI f.p), .i (nI f.bias)], tI (.v (.int .u32 a))] (aI (nI r)) := by
  unfold fmorder.sem at h
  refine fnW_ok Tryd.func139 (by kernel_rfl) rfl rfl fun F hF => ?_
  obtain ⟨y0, c1, h⟩ := bind_some' h
  obtain ⟨y1, c2, h⟩ := bind_some' h
  rcases bif_some h with ⟨c3, h⟩ | ⟨c3, h⟩
  · obtain rfl := Option.some.inj h
    exact finW_ok (n := 400) (gs := [.r (aI (.v (.int .u32 y0))), .r (aI (.v (.int .u32 y1))), .b true]) [] (ob := [Ok Tryd.prog 157 [.agg [.i (nI f.p), .i (nI f.bias)]] (aI (.v (.int .u32 y0))), Ok Tryd.prog 157 [.agg [.i (nI f.p), .i (nI f.bias)]] (aI (.v (.int .u32 y1))), ((IntKind.u32.wrap (((BitVec.ofInt 32 a &&& BitVec.ofInt 32 y1).toNat : Int))) != 0) = true]) (r' := aI (nI (IntKind.i64.wrap ((IntKind.i64.wrap (0 - (IntKind.i64.wrap (IntKind.u32.wrap (((BitVec.ofInt 32 a &&& BitVec.ofInt 32 (IntKind.u32.wrap (y0 - 1))).toNat : Int)))))) - 1)))) [] (by kernel_rfl) ⟨(fmsign.ok N f y0 c1), (fmsign.ok N f y1 c2), c3, trivial⟩ rfl
  · obtain rfl := Option.some.inj h
    exact finW_ok (n := 400) (gs := [.r (aI (.v (.int .u32 y0))), .r (aI (.v (.int .u32 y1))), .b false]) [] (ob := [Ok Tryd.prog 157 [.agg [.i (nI f.p), .i (nI f.bias)]] (aI (.v (.int .u32 y0))), Ok Tryd.prog 157 [.agg [.i (nI f.p), .i (nI f.bias)]] (aI (.v (.int .u32 y1))), ((IntKind.u32.wrap (((BitVec.ofInt 32 a &&& BitVec.ofInt 32 y1).toNat : Int))) != 0) = false]) (r' := aI (nI (IntKind.i64.wrap (IntKind.u32.wrap (((BitVec.ofInt 32 a &&& BitVec.ofInt 32 (IntKind.u32.wrap (y0 - 1))).toNat : Int)))))) [] (by kernel_rfl) ⟨(fmsign.ok N f y0 c1), (fmsign.ok N f y1 c2), c3, trivial⟩ rfl
def fmopen.sem (N : Nat) (f : Fm) (a : Int) : Option Fl :=
    bif decide (0 ≤ (f.p : Int)) then
      (fmtop.sem N f).bind fun y0 =>
      (fmsign.sem N f).bind fun y1 =>
    (fmtop.sem N f).bind fun y2 =>
    bif ((IntKind.u32.wrap (((BitVec.ofInt 32 (shrV .u32 a f.p) &&& BitVec.ofInt 32 y0).toNat : Int))) == y2) then
      some (Fl.mk ((IntKind.u32.wrap (((BitVec.ofInt 32 a &&& BitVec.ofInt 32 y1).toNat : Int))) != 0) ((IntKind.u64.wrap (IntKind.u32.wrap (((BitVec.ofInt 32 a &&& BitVec.ofInt 32 (IntKind.u32.wrap ((shlV .u32 1 f.p) - 1))).toNat : Int)))) != 0) ((IntKind.u64.wrap (IntKind.u32.wrap (((BitVec.ofInt 32 a &&& BitVec.ofInt 32 (IntKind.u32.wrap ((shlV .u32 1 f.p) - 1))).toNat : Int)))) == 0) 0 0)
    else
      bif ((IntKind.u32.wrap (((BitVec.ofInt 32 (shrV .u32 a f.p) &&& BitVec.ofInt 32 y0).toNat : Int))) == 0) then
        some (Fl.mk ((IntKind.u32.wrap (((BitVec.ofInt 32 a &&& BitVec.ofInt 32 y1).toNat : Int))) != 0) false false (IntKind.u64.wrap (IntKind.u32.wrap (((BitVec.ofInt 32 a &&& BitVec.ofInt 32 (IntKind.u32.wrap ((shlV .u32 1 f.p) - 1))).toNat : Int)))) (IntKind.i64.wrap ((IntKind.i64.wrap (1 - f.bias)) - f.p)))
      else
        some (Fl.mk ((IntKind.u32.wrap (((BitVec.ofInt 32 a &&& BitVec.ofInt 32 y1).toNat : Int))) != 0) false false (IntKind.u64.wrap ((IntKind.u64.wrap (IntKind.u32.wrap (((BitVec.ofInt 32 a &&& BitVec.ofInt 32 (IntKind.u32.wrap ((shlV .u32 1 f.p) - 1))).toNat : Int)))) + (shlV .u64 1 f.p))) (IntKind.i64.wrap ((IntKind.i64.wrap ((IntKind.i64.wrap (IntKind.u32.wrap (((BitVec.ofInt 32 (shrV .u32 a f.p) &&& BitVec.ofInt 32 y0).toNat : Int)))) - f.bias)) - f.p)))
    else none
set_option maxHeartbeats 1000000 in
theorem fmopen.ok (N : Nat) (f : Fm) (a : Int) (r : Fl) (h : fmopen.sem N f a = some r) : Ok Tryd.prog 137 [.agg [.i (nI f.p), .i (nI f.bias)], tI (.v (.int .u32 a))] (.t (.agg [.i (bI r.neg), .i (bI r.nan), .i (bI r.inf), .i (.v (.int .u64 r.m)), .i (nI r.e)])) := by
  unfold fmopen.sem at h
  refine fnW_ok Tryd.func137 (by kernel_rfl) rfl rfl fun F hF => ?_
  obtain ⟨c1, h⟩ := chk_some h
  obtain ⟨y0, c2, h⟩ := bind_some' h
  refine drx_ok (n := 400) (gs := []) [[], [], [], [], [], [.r (aI (.v (.int .u32 y0)))], [], []] [1, 2, 4, 5] [0, 1] (ob := [0 ≤ (f.p : Int), Ok Tryd.prog 156 [.agg [.i (nI f.p), .i (nI f.bias)]] (aI (.v (.int .u32 y0)))]) (K' := dK (codeOf Tryd.f137) 0) (σ' := ⟨mkT_ 67 [(1, aI (.v (.int .u32 a))), (2, .t (.c (.loc 0 0))), (4, .t (.c (.loc 1 0))), (5, aI (.v (.int .u32 (IntKind.u32.wrap (((BitVec.ofInt 32 (shrV .u32 a f.p) &&& BitVec.ofInt 32 y0).toNat : Int))))))], [.live (.box 189 [.i (nI f.p), .i (nI f.bias)]), .live (.box 193 [.i (bI false), .i (bI false), .i (bI false), .i (.v (.int .u64 0)), .i (nI 0)])]⟩) (by kernel_rfl) ⟨(of_decide_eq_true c1), (fmtop.ok N f y0 c2), trivial⟩ ?_
  obtain ⟨y1, c3, h⟩ := bind_some' h
  obtain ⟨y2, c4, h⟩ := bind_some' h
  rcases bif_some h with ⟨c5, h⟩ | ⟨c5, h⟩
  · obtain rfl := Option.some.inj h
    exact finW_ok (n := 400) (gs := [.r (aI (.v (.int .u32 y1))), .r (aI (.v (.int .u32 y2))), .b true]) [] (ob := [0 ≤ (f.p : Int), Ok Tryd.prog 157 [.agg [.i (nI f.p), .i (nI f.bias)]] (aI (.v (.int .u32 y1))), Ok Tryd.prog 156 [.agg [.i (nI f.p), .i (nI f.bias)]] (aI (.v (.int .u32 y2))), ((IntKind.u32.wrap (((BitVec.ofInt 32 (shrV .u32 a f.p) &&& BitVec.ofInt 32 y0).toNat : Int))) == y2) = true]) (r' := .t (.agg [.i (bI ((IntKind.u32.wrap (((BitVec.ofInt 32 a &&& BitVec.ofInt 32 y1).toNat : Int))) != 0)), .i (bI ((IntKind.u64.wrap (IntKind.u32.wrap (((BitVec.ofInt 32 a &&& BitVec.ofInt 32 (IntKind.u32.wrap ((shlV .u32 1 f.p) - 1))).toNat : Int)))) != 0)), .i (bI ((IntKind.u64.wrap (IntKind.u32.wrap (((BitVec.ofInt 32 a &&& BitVec.ofInt 32 (IntKind.u32.wrap ((shlV .u32 1 f.p) - 1))).toNat : Int)))) == 0)), .i (.v (.int .u64 0)), .i (nI 0)])) [] (by kernel_rfl) ⟨(of_decide_eq_true c1), (fmsign.ok N f y1 c3), (fmtop.ok N f y2 c4), c5, trivial⟩ rfl
  · rcases bif_some h with ⟨c6, h⟩ | ⟨c6, h⟩
    · refine drx_ok (n := 400) (gs := [.r (aI (.v (.int .u32 y1))), .r (aI (.v (.int .u32 y2))), .b false, .b true]) [[], [], [], [], [], [], [], [], [], [], []] [4, 7] [1, 2] (ob := [0 ≤ (f.p : Int), Ok Tryd.prog 157 [.agg [.i (nI f.p), .i (nI f.bias)]] (aI (.v (.int .u32 y1))), Ok Tryd.prog 156 [.agg [.i (nI f.p), .i (nI f.bias)]] (aI (.v (.int .u32 y2))), ((IntKind.u32.wrap (((BitVec.ofInt 32 (shrV .u32 a f.p) &&& BitVec.ofInt 32 y0).toNat : Int))) == y2) = false, ((IntKind.u32.wrap (((BitVec.ofInt 32 (shrV .u32 a f.p) &&& BitVec.ofInt 32 y0).toNat : Int))) == 0) = true]) (K' := dK (codeOf Tryd.f137) 1) (σ' := ⟨mkT_ 67 [(4, .t (.c (.loc 0 0))), (7, .t (.c (.loc 1 0)))], [.live (.box 193 [.i (bI false), .i (bI false), .i (bI false), .i (.v (.int .u64 0)), .i (nI 0)]), .live (.box 193 [.i (bI ((IntKind.u32.wrap (((BitVec.ofInt 32 a &&& BitVec.ofInt 32 y1).toNat : Int))) != 0)), .i (bI false), .i (bI false), .i (.v (.int .u64 (IntKind.u64.wrap (IntKind.u32.wrap (((BitVec.ofInt 32 a &&& BitVec.ofInt 32 (IntKind.u32.wrap ((shlV .u32 1 f.p) - 1))).toNat : Int)))))), .i (nI (IntKind.i64.wrap ((IntKind.i64.wrap (1 - f.bias)) - f.p)))])]⟩) (by kernel_rfl) ⟨(of_decide_eq_true c1), (fmsign.ok N f y1 c3), (fmtop.ok N f y2 c4), c5, c6, trivial⟩ ?_
      obtain rfl := Option.some.inj h
      exact finW_ok (n := 400) (gs := []) [] (ob := []) (r' := .t (.agg [.i (bI ((IntKind.u32.wrap (((BitVec.ofInt 32 a &&& BitVec.ofInt 32 y1).toNat : Int))) != 0)), .i (bI false), .i (bI false), .i (.v (.int .u64 (IntKind.u64.wrap (IntKind.u32.wrap (((BitVec.ofInt 32 a &&& BitVec.ofInt 32 (IntKind.u32.wrap ((shlV .u32 1 f.p) - 1))).toNat : Int)))))), .i (nI (IntKind.i64.wrap ((IntKind.i64.wrap (1 - f.bias)) - f.p)))])) [] (by kernel_rfl) trivial rfl
    · refine drx_ok (n := 400) (gs := [.r (aI (.v (.int .u32 y1))), .r (aI (.v (.int .u32 y2))), .b false, .b false]) [[], [], [], [], [], [], [], [], [], [], [], [], [], [], [], [], []] [4, 7] [1, 2] (ob := [0 ≤ (f.p : Int), Ok Tryd.prog 157 [.agg [.i (nI f.p), .i (nI f.bias)]] (aI (.v (.int .u32 y1))), Ok Tryd.prog 156 [.agg [.i (nI f.p), .i (nI f.bias)]] (aI (.v (.int .u32 y2))), ((IntKind.u32.wrap (((BitVec.ofInt 32 (shrV .u32 a f.p) &&& BitVec.ofInt 32 y0).toNat : Int))) == y2) = false, ((IntKind.u32.wrap (((BitVec.ofInt 32 (shrV .u32 a f.p) &&& BitVec.ofInt 32 y0).toNat : Int))) == 0) = false, 0 ≤ (f.p : Int)]) (K' := dK (codeOf Tryd.f137) 2) (σ' := ⟨mkT_ 67 [(4, .t (.c (.loc 0 0))), (7, .t (.c (.loc 1 0)))], [.live (.box 193 [.i (bI false), .i (bI false), .i (bI false), .i (.v (.int .u64 0)), .i (nI 0)]), .live (.box 193 [.i (bI ((IntKind.u32.wrap (((BitVec.ofInt 32 a &&& BitVec.ofInt 32 y1).toNat : Int))) != 0)), .i (bI false), .i (bI false), .i (.v (.int .u64 (IntKind.u64.wrap ((IntKind.u64.wrap (IntKind.u32.wrap (((BitVec.ofInt 32 a &&& BitVec.ofInt 32 (IntKind.u32.wrap ((shlV .u32 1 f.p) - 1))).toNat : Int)))) + (shlV .u64 1 f.p))))), .i (nI (IntKind.i64.wrap ((IntKind.i64.wrap ((IntKind.i64.wrap (IntKind.u32.wrap (((BitVec.ofInt 32 (shrV .u32 a f.p) &&& BitVec.ofInt 32 y0).toNat : Int)))) - f.bias)) - f.p)))])]⟩) (by kernel_rfl) ⟨(of_decide_eq_true c1), (fmsign.ok N f y1 c3), (fmtop.ok N f y2 c4), c5, c6, (of_decide_eq_true c1), trivial⟩ ?_
      obtain rfl := Option.some.inj h
      exact finW_ok (n := 400) (gs := []) [] (ob := []) (r' := .t (.agg [.i (bI ((IntKind.u32.wrap (((BitVec.ofInt 32 a &&& BitVec.ofInt 32 y1).toNat : Int))) != 0)), .i (bI false), .i (bI false), .i (.v (.int .u64 (IntKind.u64.wrap ((IntKind.u64.wrap (IntKind.u32.wrap (((BitVec.ofInt 32 a &&& BitVec.ofInt 32 (IntKind.u32.wrap ((shlV .u32 1 f.p) - 1))).toNat : Int)))) + (shlV .u64 1 f.p))))), .i (nI (IntKind.i64.wrap ((IntKind.i64.wrap ((IntKind.i64.wrap (IntKind.u32.wrap (((BitVec.ofInt 32 (shrV .u32 a f.p) &&& BitVec.ofInt 32 y0).toNat : Int)))) - f.bias)) - f.p)))])) [] (by kernel_rfl) trivial rfl
def FMin.sem (N : Nat) (f : Int) (a : Int) (b : Int) : Option Int :=
    (formatOf.sem N f).bind fun y0 =>
    bif (!y0.2) then
      some 0
    else
      (fmopen.sem N y0.1 a).bind fun y1 =>
      bif y1.nan then
        (fmno.sem N y0.1).bind fun y2 =>
        some y2
      else
        (fmopen.sem N y0.1 b).bind fun y2 =>
        bif y2.nan then
          (fmno.sem N y0.1).bind fun y3 =>
          some y3
        else
          (fmorder.sem N y0.1 b).bind fun y3 =>
          (fmorder.sem N y0.1 a).bind fun y4 =>
          bif decide (y3 < y4) then
            (fmmask.sem N y0.1).bind fun y5 =>
            some (IntKind.u32.wrap (((BitVec.ofInt 32 b &&& BitVec.ofInt 32 y5).toNat : Int)))
          else
            (fmmask.sem N y0.1).bind fun y5 =>
            some (IntKind.u32.wrap (((BitVec.ofInt 32 a &&& BitVec.ofInt 32 y5).toNat : Int)))
set_option maxHeartbeats 1000000 in
theorem FMin.ok (N : Nat) (f : Int) (a : Int) (b : Int) (r : Int) (h : FMin.sem N f a b = some r) : Ok Tryd.prog 123 [tI (nI f), tI (.v (.int .u32 a)), tI (.v (.int .u32 b))] (aI (.v (.int .u32 r))) := by
  unfold FMin.sem at h
  refine fnW_ok Tryd.func123 (by kernel_rfl) rfl rfl fun F hF => ?_
  obtain ⟨y0, c1, h⟩ := bind_some' h
  rcases bif_some h with ⟨c2, h⟩ | ⟨c2, h⟩
  · obtain rfl := Option.some.inj h
    exact finW_ok (n := 400) (gs := [.r (.tup [.agg [.i (nI y0.1.p), .i (nI y0.1.bias)], tI (bI y0.2)]), .b true]) [] (ob := [Ok Tryd.prog 136 [tI (nI f)] (.tup [.agg [.i (nI y0.1.p), .i (nI y0.1.bias)], tI (bI y0.2)]), (!y0.2) = true]) (r' := aI (.v (.int .u32 0))) [] (by kernel_rfl) ⟨(formatOf.ok N f y0 c1), c2, trivial⟩ rfl
  · obtain ⟨y1, c3, h⟩ := bind_some' h
    rcases bif_some h with ⟨c4, h⟩ | ⟨c4, h⟩
    · obtain ⟨y2, c5, h⟩ := bind_some' h
      obtain rfl := Option.some.inj h
      exact finW_ok (n := 400) (gs := [.r (.tup [.agg [.i (nI y0.1.p), .i (nI y0.1.bias)], tI (bI y0.2)]), .b false, .r (.t (.agg [.i (bI y1.neg), .i (bI y1.nan), .i (bI y1.inf), .i (.v (.int .u64 y1.m)), .i (nI y1.e)])), .b true, .a 1, .r (aI (.v (.int .u32 y2)))]) [] (ob := [Ok Tryd.prog 136 [tI (nI f)] (.tup [.agg [.i (nI y0.1.p), .i (nI y0.1.bias)], tI (bI y0.2)]), (!y0.2) = false, Ok Tryd.prog 137 [.agg [.i (nI y0.1.p), .i (nI y0.1.bias)], tI (.v (.int .u32 a))] (.t (.agg [.i (bI y1.neg), .i (bI y1.nan), .i (bI y1.inf), .i (.v (.int .u64 y1.m)), .i (nI y1.e)])), y1.nan = true, y1.nan = true, y1.nan = true, y1.nan = true, y1.nan = true, Ok Tryd.prog 138 [.agg [.i (nI y0.1.p), .i (nI y0.1.bias)]] (aI (.v (.int .u32 y2)))]) (r' := aI (.v (.int .u32 y2))) [] (by kernel_rfl) ⟨(formatOf.ok N f y0 c1), c2, (fmopen.ok N y0.1 a y1 c3), c4, c4, c4, c4, c4, (fmno.ok N y0.1 y2 c5), trivial⟩ rfl
    · obtain ⟨y2, c6, h⟩ := bind_some' h
      rcases bif_some h with ⟨c7, h⟩ | ⟨c7, h⟩
      · obtain ⟨y3, c8, h⟩ := bind_some' h
        obtain rfl := Option.some.inj h
        exact finW_ok (n := 400) (gs := [.r (.tup [.agg [.i (nI y0.1.p), .i (nI y0.1.bias)], tI (bI y0.2)]), .b false, .r (.t (.agg [.i (bI y1.neg), .i (bI y1.nan), .i (bI y1.inf), .i (.v (.int .u64 y1.m)), .i (nI y1.e)])), .b false, .r (.t (.agg [.i (bI y2.neg), .i (bI y2.nan), .i (bI y2.inf), .i (.v (.int .u64 y2.m)), .i (nI y2.e)])), .b true, .r (aI (.v (.int .u32 y3)))]) [] (ob := [Ok Tryd.prog 136 [tI (nI f)] (.tup [.agg [.i (nI y0.1.p), .i (nI y0.1.bias)], tI (bI y0.2)]), (!y0.2) = false, Ok Tryd.prog 137 [.agg [.i (nI y0.1.p), .i (nI y0.1.bias)], tI (.v (.int .u32 a))] (.t (.agg [.i (bI y1.neg), .i (bI y1.nan), .i (bI y1.inf), .i (.v (.int .u64 y1.m)), .i (nI y1.e)])), y1.nan = false, y1.nan = false, y1.nan = false, Ok Tryd.prog 137 [.agg [.i (nI y0.1.p), .i (nI y0.1.bias)], tI (.v (.int .u32 b))] (.t (.agg [.i (bI y2.neg), .i (bI y2.nan), .i (bI y2.inf), .i (.v (.int .u64 y2.m)), .i (nI y2.e)])), y1.nan = false, y1.nan = false, y2.nan = true, Ok Tryd.prog 138 [.agg [.i (nI y0.1.p), .i (nI y0.1.bias)]] (aI (.v (.int .u32 y3)))]) (r' := aI (.v (.int .u32 y3))) [] (by kernel_rfl) ⟨(formatOf.ok N f y0 c1), c2, (fmopen.ok N y0.1 a y1 c3), c4, c4, c4, (fmopen.ok N y0.1 b y2 c6), c4, c4, c7, (fmno.ok N y0.1 y3 c8), trivial⟩ rfl
      · obtain ⟨y3, c9, h⟩ := bind_some' h
        obtain ⟨y4, c10, h⟩ := bind_some' h
        refine drx_ok (n := 400) (gs := [.r (.tup [.agg [.i (nI y0.1.p), .i (nI y0.1.bias)], tI (bI y0.2)]), .b false, .r (.t (.agg [.i (bI y1.neg), .i (bI y1.nan), .i (bI y1.inf), .i (.v (.int .u64 y1.m)), .i (nI y1.e)])), .b false, .r (.t (.agg [.i (bI y2.neg), .i (bI y2.nan), .i (bI y2.inf), .i (.v (.int .u64 y2.m)), .i (nI y2.e)])), .b false]) [[], [], [.r (aI (nI y3))], [], [], [.r (aI (nI y4))], []] [1, 2, 6, 7, 34] [0] (ob := [Ok Tryd.prog 136 [tI (nI f)] (.tup [.agg [.i (nI y0.1.p), .i (nI y0.1.bias)], tI (bI y0.2)]), (!y0.2) = false, Ok Tryd.prog 137 [.agg [.i (nI y0.1.p), .i (nI y0.1.bias)], tI (.v (.int .u32 a))] (.t (.agg [.i (bI y1.neg), .i (bI y1.nan), .i (bI y1.inf), .i (.v (.int .u64 y1.m)), .i (nI y1.e)])), y1.nan = false, y1.nan = false, y1.nan = false, Ok Tryd.prog 137 [.agg [.i (nI y0.1.p), .i (nI y0.1.bias)], tI (.v (.int .u32 b))] (.t (.agg [.i (bI y2.neg), .i (bI y2.nan), .i (bI y2.inf), .i (.v (.int .u64 y2.m)), .i (nI y2.e)])), y1.nan = false, y1.nan = false, y2.nan = false, Ok Tryd.prog 139 [.agg [.i (nI y0.1.p), .i (nI y0.1.bias)], tI (.v (.int .u32 b))] (aI (nI y3)), Ok Tryd.prog 139 [.agg [.i (nI y0.1.p), .i (nI y0.1.bias)], tI (.v (.int .u32 a))] (aI (nI y4))]) (K' := dK (codeOf Tryd.f123) 0) (σ' := ⟨mkT_ 43 [(1, aI (.v (.int .u32 a))), (2, aI (.v (.int .u32 b))), (6, aI (.v (.int .u32 0))), (7, .t (.c (.loc 0 0))), (34, aI (bI (decide (y3 < y4))))], [.live (.box 189 [.i (nI y0.1.p), .i (nI y0.1.bias)])]⟩) (by kernel_rfl) ⟨(formatOf.ok N f y0 c1), c2, (fmopen.ok N y0.1 a y1 c3), c4, c4, c4, (fmopen.ok N y0.1 b y2 c6), c4, c4, c7, (fmorder.ok N y0.1 b y3 c9), (fmorder.ok N y0.1 a y4 c10), trivial⟩ ?_
        rcases bif_some h with ⟨c11, h⟩ | ⟨c11, h⟩
        · obtain ⟨y5, c12, h⟩ := bind_some' h
          obtain rfl := Option.some.inj h
          exact finW_ok (n := 400) (gs := [.b true, .r (aI (.v (.int .u32 y5)))]) [] (ob := [decide (y3 < y4) = true, Ok Tryd.prog 140 [.agg [.i (nI y0.1.p), .i (nI y0.1.bias)]] (aI (.v (.int .u32 y5)))]) (r' := aI (.v (.int .u32 (IntKind.u32.wrap (((BitVec.ofInt 32 b &&& BitVec.ofInt 32 y5).toNat : Int)))))) [] (by kernel_rfl) ⟨c11, (fmmask.ok N y0.1 y5 c12), trivial⟩ rfl
        · obtain ⟨y5, c13, h⟩ := bind_some' h
          obtain rfl := Option.some.inj h
          exact finW_ok (n := 400) (gs := [.b false, .r (aI (.v (.int .u32 y5)))]) [] (ob := [decide (y3 < y4) = false, Ok Tryd.prog 140 [.agg [.i (nI y0.1.p), .i (nI y0.1.bias)]] (aI (.v (.int .u32 y5)))]) (r' := aI (.v (.int .u32 (IntKind.u32.wrap (((BitVec.ofInt 32 a &&& BitVec.ofInt 32 y5).toNat : Int)))))) [] (by kernel_rfl) ⟨c11, (fmmask.ok N y0.1 y5 c13), trivial⟩ rfl
def canonical.sem (N : Nat) (a : Int) : Option Int :=
    (FMin.sem N 32 a a).bind fun y0 =>
    some y0
set_option maxHeartbeats 1000000 in
theorem canonical.ok (N : Nat) (a : Int) (r : Int) (h : canonical.sem N a = some r) : Ok Tryd.prog 104 [tI (.v (.int .u32 a))] (aI (.v (.int .u32 r))) := by
  unfold canonical.sem at h
  refine fnW_ok Tryd.func104 (by kernel_rfl) rfl rfl fun F hF => ?_
  obtain ⟨y0, c1, h⟩ := bind_some' h
  obtain rfl := Option.some.inj h
  exact finW_ok (n := 400) (gs := [.r (aI (.v (.int .u32 y0)))]) [] (ob := [Ok Tryd.prog 123 [tI (nI 32), tI (.v (.int .u32 a)), tI (.v (.int .u32 a))] (aI (.v (.int .u32 y0)))]) (r' := aI (.v (.int .u32 y0))) [] (by kernel_rfl) ⟨(FMin.ok N 32 a a y0 c1), trivial⟩ rfl
end Go.Proofs.YtljdidlkiknknaaDoor.AB
