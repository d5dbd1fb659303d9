-- Printed by a program of this session (after the kit's print.sh, with contracts of its own beside): Lean checks it.
import Derived.Test.YtoomeeoijbkmnaaC9PHx0
namespace Go.Proofs.Ytoomeeoijbkmnaa.PH
open Go.RowKit Go.Proofs.YtoomeeoijbkmnaaW.PrintWords Go.Proofs.YtoomeeoijbkmnaaW.PrintLast Go.Proofs.YtoomeeoijbkmnaaW.PrintMore
attribute [local go_sem] max2_int min2_int max_two min_two max_three min_three max_four min_four   -- for this text's walks alone
set_option linter.unusedVariables false
set_option linter.unusedSimpArgs false

def laws_markHandleS.l0 : Nat → List (S46) → Int → Int → Option (Int × (List (S46)))
 | 0, _, _, _ => none
 | k + 1, x0, x1, x5 => if x5 < (x0.length : Int) then (if 0 ≤ x5 then ((some (x0.set (x5 : Int).toNat (⟨((Int.tmod x1 3) == 0), (rd_T46 x0 x5).f1, (rd_T46 x0 x5).f2, (rd_T46 x0 x5).f3, (rd_T46 x0 x5).f4, (rd_T46 x0 x5).f5⟩ : S46) : List (S46))).bind fun y275 => ((some (y275.set (x5 : Int).toNat (⟨(rd_T46 y275 x5).f0, wrap64 (x1 + 1), (rd_T46 y275 x5).f2, (rd_T46 y275 x5).f3, (rd_T46 y275 x5).f4, (rd_T46 y275 x5).f5⟩ : S46) : List (S46))).bind fun y276 => ((some (y276.set (x5 : Int).toNat (⟨(rd_T46 y276 x5).f0, (rd_T46 y276 x5).f1, wrap64 ((wrap64 (x1 + 1)) + 1), (rd_T46 y276 x5).f3, (rd_T46 y276 x5).f4, (rd_T46 y276 x5).f5⟩ : S46) : List (S46))).bind fun y277 => ((some (y277.set (x5 : Int).toNat (⟨(rd_T46 y277 x5).f0, (rd_T46 y277 x5).f1, (rd_T46 y277 x5).f2, ((Int.tmod (wrap64 ((wrap64 ((wrap64 (x1 + 1)) + 1)) + 1)) 3) == 0), (rd_T46 y277 x5).f4, (rd_T46 y277 x5).f5⟩ : S46) : List (S46))).bind fun y278 => ((some (y278.set (x5 : Int).toNat (⟨(rd_T46 y278 x5).f0, (rd_T46 y278 x5).f1, (rd_T46 y278 x5).f2, (rd_T46 y278 x5).f3, wrap64 ((wrap64 ((wrap64 ((wrap64 (x1 + 1)) + 1)) + 1)) + 1), (rd_T46 y278 x5).f5⟩ : S46) : List (S46))).bind fun y279 => (laws_markHandleS.l0 k (y279.set (x5 : Int).toNat (⟨(rd_T46 y279 x5).f0, (rd_T46 y279 x5).f1, (rd_T46 y279 x5).f2, (rd_T46 y279 x5).f3, (rd_T46 y279 x5).f4, wrap64 ((wrap64 ((wrap64 ((wrap64 ((wrap64 (x1 + 1)) + 1)) + 1)) + 1)) + 1)⟩ : S46)) (wrap64 ((wrap64 ((wrap64 ((wrap64 ((wrap64 ((wrap64 (x1 + 1)) + 1)) + 1)) + 1)) + 1)) + 1)) (wrap64 (x5 + 1)))))))) else (none)) else (some (x1, x0))
def laws_markHandleS.f (k : Nat) (l0 : List (S46)) (a1 : Int) : Option (Int × (List (S46))) := laws_markHandleS.l0 k l0 a1 0

def laws_markIntS.l0 : Nat → List Int → Int → Int → Option (Int × List Int)
 | 0, _, _, _ => none
 | k + 1, x0, x1, x5 => if x5 < (x0.length : Int) then (if 0 ≤ x5 then (laws_markIntS.l0 k (x0.set (x5 : Int).toNat x1) (wrap64 (x1 + 1)) (wrap64 (x5 + 1))) else (none)) else (some (x1, x0))
def laws_markIntS.f (k : Nat) (l0 : List Int) (a1 : Int) : Option (Int × List Int) := laws_markIntS.l0 k l0 a1 0

def laws_markTable.f (k : Nat) (l0_0 : List (S46)) (l0_1 : List Int) (a1 : Int) : Option (Int × (List (S46)) × List Int) := (laws_markHandleS.f k l0_0 a1).bind fun bt283 => ((laws_markIntS.f k l0_1 bt283.1).bind fun bt285 => (some (bt285.1, bt283.2, bt285.2)))

def laws_heldHandleS.l0 : Nat → List (S46) → Int → Int → Option (Int)
 | 0, _, _, _ => none
 | k + 1, x0, x1, x5 => if x5 < (x0.length : Int) then (if 0 ≤ x5 then (if (((rd_T46 x0 x5).f0) != ((Int.tmod x1 3) == 0)) = true then (some (-1)) else (if ((rd_T46 x0 x5).f1) = (wrap64 (x1 + 1)) then (if ((rd_T46 x0 x5).f2) = (wrap64 ((wrap64 (x1 + 1)) + 1)) then (if (((rd_T46 x0 x5).f3) != ((Int.tmod (wrap64 ((wrap64 ((wrap64 (x1 + 1)) + 1)) + 1)) 3) == 0)) = true then (some (-1)) else (if ((rd_T46 x0 x5).f4) = (wrap64 ((wrap64 ((wrap64 ((wrap64 (x1 + 1)) + 1)) + 1)) + 1)) then (if ((rd_T46 x0 x5).f5) = (wrap64 ((wrap64 ((wrap64 ((wrap64 ((wrap64 (x1 + 1)) + 1)) + 1)) + 1)) + 1)) then (laws_heldHandleS.l0 k x0 (wrap64 ((wrap64 ((wrap64 ((wrap64 ((wrap64 ((wrap64 (x1 + 1)) + 1)) + 1)) + 1)) + 1)) + 1)) (wrap64 (x5 + 1))) else (some (-1))) else (some (-1)))) else (some (-1))) else (some (-1)))) else (none)) else (some x1)
def laws_heldHandleS.f (k : Nat) (l0 : List (S46)) (a1 : Int) : Option (Int) := laws_heldHandleS.l0 k l0 a1 0

def laws_heldIntS.l0 : Nat → List Int → Int → Int → Option (Int)
 | 0, _, _, _ => none
 | k + 1, x0, x1, x5 => if x5 < (x0.length : Int) then (if 0 ≤ x5 then (if (rd x0 x5) = x1 then (laws_heldIntS.l0 k x0 (wrap64 (x1 + 1)) (wrap64 (x5 + 1))) else (some (-1))) else (none)) else (some x1)
def laws_heldIntS.f (k : Nat) (l0 : List Int) (a1 : Int) : Option (Int) := laws_heldIntS.l0 k l0 a1 0

def laws_heldTable.f (k : Nat) (l0_0 : List (S46)) (l0_1 : List Int) (a1 : Int) : Option (Int) := (laws_heldHandleS.f k l0_0 a1).bind fun t295 => (if t295 < 0 then (some (-1)) else ((laws_heldIntS.f k l0_1 t295).bind fun t296 => (if t296 < 0 then (some (-1)) else (some t296))))

end Go.Proofs.Ytoomeeoijbkmnaa.PH
