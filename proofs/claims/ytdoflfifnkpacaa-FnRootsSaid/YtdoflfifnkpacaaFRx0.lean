-- Printed by a program of this session (after the kit's print.sh, with contracts of its own beside): Lean checks it.
import Derived.Test.YtdoflfifnkpacaaProg
import Derived.Below
import Derived.Deep.Draws
import Derived.Deep.AppendLies
import Derived.Maps.AppendAt
import Derived.OwnWalk
import Derived.Laws.BytesArg
import Derived.Laws.MakeOwn
import Derived.Laws.OwnMore
import Derived.Deep.OwnRows
import Derived.Tactics
import Derived.Lib.ConvBytes
import Derived.Laws.Slices
import Derived.WalkKit
import Derived.KernelRfl
import Derived.RowKit3
import Derived.Deep.LoopGhost
import Derived.Deep.QuietTactic
import Derived.BigQuiet
import Derived.WideLaws
import Derived.Deep.DeepCutAuto
import Derived.Deep.CutBlock
import Derived.Deep.RegionHeld3
import Derived.Laws.Rows
import Derived.Lib.AppendStr
import Derived.ArgAppend
import Derived.Laws.IdiomCopy
import Derived.OrdersHeld
import Derived.Laws.BitsLemmas
import Derived.RowKit
import Derived.Test.YtdoflfifnkpacaaWWords
import Derived.Test.YtdoflfifnkpacaaWLast
import Derived.Test.YtdoflfifnkpacaaWTab
import Derived.Test.YtdoflfifnkpacaaWFour
import Derived.Test.YtdoflfifnkpacaaWQPut
import Derived.Test.YtdoflfifnkpacaaWApart
import Derived.Test.YtdoflfifnkpacaaWArr
import Derived.Test.YtdoflfifnkpacaaWZeros
import Derived.Test.YtdoflfifnkpacaaWFoot
import Derived.Test.YtdoflfifnkpacaaWKept
import Derived.Test.YtdoflfifnkpacaaWShare
import Derived.Test.YtdoflfifnkpacaaWN
import Derived.Test.YtdoflfifnkpacaaWFootNe
import Derived.Test.YtdoflfifnkpacaaWAt
import Derived.Test.YtdoflfifnkpacaaWEqStruct
import Derived.Test.YtdoflfifnkpacaaWRepsOne
import Derived.Test.YtdoflfifnkpacaaWInv
import Derived.Test.YtdoflfifnkpacaaWInvWords
import Derived.Test.YtdoflfifnkpacaaWGuard
import Derived.Test.YtdoflfifnkpacaaWNEv
import Derived.Test.YtdoflfifnkpacaaWMore
namespace Go.Proofs.Ytdoflfifnkpacaa.FR
open Go.RowKit Go.Proofs.YtdoflfifnkpacaaW.PrintWords Go.Proofs.YtdoflfifnkpacaaW.PrintLast Go.Proofs.YtdoflfifnkpacaaW.PrintMore
attribute [local go_sem] max2_int min2_int max_two min_two max_three min_three max_four min_four   -- for this text's walks alone
set_option linter.unusedVariables false
set_option linter.unusedSimpArgs false



def errW : Option Int → Value
 | none => .nilIface
 | some c => .iface 0 (.int .i64 c)
theorem errW_none : errW none = .nilIface := rfl
theorem errW_some (c : Int) : errW (some c) = .iface 0 (.int .i64 c) := rfl

theorem info3 : (Try.prog.info? 3).map (fun i => (i.zero, i.size, i.bytes)) = some (some (.int .i64 0), 1, 8) := by kernel_rfl
-- the values' own types

theorem bA {w : World} {g : Nat} {o : Obj} (h : w.heap[g]? = some o) (o' : Obj) : (w.alloc o').heap[g]? = some o := blk_alloc h o'
theorem bD {w : World} {g : Nat} {o : Obj} (h : w.heap[g]? = some o) : w.drew.heap[g]? = some o := blk_drew h
theorem bN {w : World} {g : Nat} {o : Obj} (h : w.heap[g]? = some o) (m : Nat) : (w.drewN m).heap[g]? = some o := blk_drewN h m
theorem eA {w W : World} (h : Below w.heap.size w W) (o : Obj) : Below w.heap.size w (W.alloc o) := below_alloc h o
theorem eN {B : Nat} {w W : World} (h : Below B w W) (n : Nat) : Below B w (W.drewN n) := pw_below_drewN h n
theorem eD {B : Nat} {w W : World} (h : Below B w W) : Below B w W.drew := below_drew1 h
end Go.Proofs.Ytdoflfifnkpacaa.FR
