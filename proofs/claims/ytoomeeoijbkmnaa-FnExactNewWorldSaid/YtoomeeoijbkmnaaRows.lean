/-
  No cell of these rows narrows 'for every input' (looked for: loops, veiled, ifaces, maps, wideKeys, modest, calm, conditions, laid).
  DERIVED. THE GIVEN ROWS OF THIS SEAT. 12 by the template 'for every input the law returns true; each argument reads behind the call as it read before'; 0 by the template 'total and deterministic' (their statements: YtoomeeoijbkmnaaTotals.lean).
  GIVEN WITH THE SEED: the statements are not yours to turn. If you find one false, say at which input.
  Laid BY PROGRAM, IN A SANDBOX (cutbox-rows.mjs): the forced cells as the released guide's own fill.sh prints them over the translation 03c55a0a8d24e041… (all of the seat's roots in one cut). By AI agents, Wed Nov 11 2026. No macro, syntax, notation, axiom, sorry.
-/
import Derived.Test.YtoomeeoijbkmnaaChecked
import GoSem.Claim
import GoSem.ClaimJoined
import GoSem.ClaimMapViews
import Derived.JoinedTies
import Derived.KernelRfl
namespace Go.Proofs.Ytoomeeoijbkmnaa
/- THE CELL 'sum', in the pinned program and in every row, IS THE sha256 OF THE DUMP (.gsa) THAT YtoomeeoijbkmnaaProg.lean LOADS. Nothing in Lean hashes anything: it is a label: what it is worth is what the hold of that sum in a sandbox is worth. -/
noncomputable def Try.pinned : Pinned := { name := "ytoomeeoijbkmnaa", sum := "03c55a0a8d24e041d8ff764d72376d79ef89857e38e2113253dd344ca926abf3", checked := Try.checked }
namespace Rows
def none {H : Type} : Left H := { results := [], args := [] }

/-- 'laws.FnExactGoodPart': WHATEVER THE INPUT: true; the input reads as it did. -/
def fnExactGoodPartSpec : ChangeSpec := { name := "fnExactGoodPart", fn := fun _ => fun
  | [d] => { results := [.lit (.bool true)], args := [d] }
  | _ => none }
def fnExactGoodPartRow : OpenClaim := { program := "ytoomeeoijbkmnaa", sum := "03c55a0a8d24e041d8ff764d72376d79ef89857e38e2113253dd344ca926abf3", func := "loop.example/g00209/laws.FnExactGoodPart", spec := "fnExactGoodPart", apart := false }
def FnExactGoodPartSaid : Prop := fnExactGoodPartRow.holds Try.pinned (OpenSpec.ofChange fnExactGoodPartSpec)

/-- ITS FALSE NEIGHBOUR: 'it returns false'. Refute it at one input. -/
def fnExactGoodPartWrong : ChangeSpec := { name := "fnExactGoodPart", fn := fun _ => fun
  | [d] => { results := [.lit (.bool false)], args := [d] }
  | _ => none }
def FnExactGoodPartWrongFalsely : Prop := fnExactGoodPartRow.holds Try.pinned (OpenSpec.ofChange fnExactGoodPartWrong)

/-- 'laws.FnExactEnterPart': WHATEVER THE INPUT: true; the input reads as it did. -/
def fnExactEnterPartSpec : ChangeSpec := { name := "fnExactEnterPart", fn := fun _ => fun
  | [d] => { results := [.lit (.bool true)], args := [d] }
  | _ => none }
def fnExactEnterPartRow : OpenClaim := { program := "ytoomeeoijbkmnaa", sum := "03c55a0a8d24e041d8ff764d72376d79ef89857e38e2113253dd344ca926abf3", func := "loop.example/g00209/laws.FnExactEnterPart", spec := "fnExactEnterPart", apart := false }
def FnExactEnterPartSaid : Prop := fnExactEnterPartRow.holds Try.pinned (OpenSpec.ofChange fnExactEnterPartSpec)

/-- ITS FALSE NEIGHBOUR: 'it returns false'. Refute it at one input. -/
def fnExactEnterPartWrong : ChangeSpec := { name := "fnExactEnterPart", fn := fun _ => fun
  | [d] => { results := [.lit (.bool false)], args := [d] }
  | _ => none }
def FnExactEnterPartWrongFalsely : Prop := fnExactEnterPartRow.holds Try.pinned (OpenSpec.ofChange fnExactEnterPartWrong)

/-- 'laws.FnExactExitPart': WHATEVER THE INPUT: true; the input reads as it did. -/
def fnExactExitPartSpec : ChangeSpec := { name := "fnExactExitPart", fn := fun _ => fun
  | [d] => { results := [.lit (.bool true)], args := [d] }
  | _ => none }
def fnExactExitPartRow : OpenClaim := { program := "ytoomeeoijbkmnaa", sum := "03c55a0a8d24e041d8ff764d72376d79ef89857e38e2113253dd344ca926abf3", func := "loop.example/g00209/laws.FnExactExitPart", spec := "fnExactExitPart", apart := false }
def FnExactExitPartSaid : Prop := fnExactExitPartRow.holds Try.pinned (OpenSpec.ofChange fnExactExitPartSpec)

/-- ITS FALSE NEIGHBOUR: 'it returns false'. Refute it at one input. -/
def fnExactExitPartWrong : ChangeSpec := { name := "fnExactExitPart", fn := fun _ => fun
  | [d] => { results := [.lit (.bool false)], args := [d] }
  | _ => none }
def FnExactExitPartWrongFalsely : Prop := fnExactExitPartRow.holds Try.pinned (OpenSpec.ofChange fnExactExitPartWrong)

/-- 'laws.FnExactFindHandle': WHATEVER THE INPUT: true; the input reads as it did. -/
def fnExactFindHandleSpec : ChangeSpec := { name := "fnExactFindHandle", fn := fun _ => fun
  | [d1, d2, d3] => { results := [.lit (.bool true)], args := [d1, d2, d3] }
  | _ => none }
def fnExactFindHandleRow : OpenClaim := { program := "ytoomeeoijbkmnaa", sum := "03c55a0a8d24e041d8ff764d72376d79ef89857e38e2113253dd344ca926abf3", func := "loop.example/g00209/laws.FnExactFindHandle", spec := "fnExactFindHandle", apart := false }
def FnExactFindHandleSaid : Prop := fnExactFindHandleRow.holds Try.pinned (OpenSpec.ofChange fnExactFindHandleSpec)

/-- ITS FALSE NEIGHBOUR: 'it returns false'. Refute it at one input. -/
def fnExactFindHandleWrong : ChangeSpec := { name := "fnExactFindHandle", fn := fun _ => fun
  | [d1, d2, d3] => { results := [.lit (.bool false)], args := [d1, d2, d3] }
  | _ => none }
def FnExactFindHandleWrongFalsely : Prop := fnExactFindHandleRow.holds Try.pinned (OpenSpec.ofChange fnExactFindHandleWrong)

/-- 'laws.FnExactReturnHandle': WHATEVER THE INPUT: true; the input reads as it did. -/
def fnExactReturnHandleSpec : ChangeSpec := { name := "fnExactReturnHandle", fn := fun _ => fun
  | [d1, d2] => { results := [.lit (.bool true)], args := [d1, d2] }
  | _ => none }
def fnExactReturnHandleRow : OpenClaim := { program := "ytoomeeoijbkmnaa", sum := "03c55a0a8d24e041d8ff764d72376d79ef89857e38e2113253dd344ca926abf3", func := "loop.example/g00209/laws.FnExactReturnHandle", spec := "fnExactReturnHandle", apart := false }
def FnExactReturnHandleSaid : Prop := fnExactReturnHandleRow.holds Try.pinned (OpenSpec.ofChange fnExactReturnHandleSpec)

/-- ITS FALSE NEIGHBOUR: 'it returns false'. Refute it at one input. -/
def fnExactReturnHandleWrong : ChangeSpec := { name := "fnExactReturnHandle", fn := fun _ => fun
  | [d1, d2] => { results := [.lit (.bool false)], args := [d1, d2] }
  | _ => none }
def FnExactReturnHandleWrongFalsely : Prop := fnExactReturnHandleRow.holds Try.pinned (OpenSpec.ofChange fnExactReturnHandleWrong)

/-- 'laws.FnExactNewHandle': WHATEVER THE INPUT: true; the input reads as it did. -/
def fnExactNewHandleSpec : ChangeSpec := { name := "fnExactNewHandle", fn := fun _ => fun
  | [d1, d2] => { results := [.lit (.bool true)], args := [d1, d2] }
  | _ => none }
def fnExactNewHandleRow : OpenClaim := { program := "ytoomeeoijbkmnaa", sum := "03c55a0a8d24e041d8ff764d72376d79ef89857e38e2113253dd344ca926abf3", func := "loop.example/g00209/laws.FnExactNewHandle", spec := "fnExactNewHandle", apart := false }
def FnExactNewHandleSaid : Prop := fnExactNewHandleRow.holds Try.pinned (OpenSpec.ofChange fnExactNewHandleSpec)

/-- ITS FALSE NEIGHBOUR: 'it returns false'. Refute it at one input. -/
def fnExactNewHandleWrong : ChangeSpec := { name := "fnExactNewHandle", fn := fun _ => fun
  | [d1, d2] => { results := [.lit (.bool false)], args := [d1, d2] }
  | _ => none }
def FnExactNewHandleWrongFalsely : Prop := fnExactNewHandleRow.holds Try.pinned (OpenSpec.ofChange fnExactNewHandleWrong)

/-- 'laws.FnHandles': WHATEVER THE INPUT: true; the input reads as it did. -/
def fnHandlesSpec : ChangeSpec := { name := "fnHandles", fn := fun _ => fun
  | [d] => { results := [.lit (.bool true)], args := [d] }
  | _ => none }
def fnHandlesRow : OpenClaim := { program := "ytoomeeoijbkmnaa", sum := "03c55a0a8d24e041d8ff764d72376d79ef89857e38e2113253dd344ca926abf3", func := "loop.example/g00209/laws.FnHandles", spec := "fnHandles", apart := false }
def FnHandlesSaid : Prop := fnHandlesRow.holds Try.pinned (OpenSpec.ofChange fnHandlesSpec)

/-- ITS FALSE NEIGHBOUR: 'it returns false'. Refute it at one input. -/
def fnHandlesWrong : ChangeSpec := { name := "fnHandles", fn := fun _ => fun
  | [d] => { results := [.lit (.bool false)], args := [d] }
  | _ => none }
def FnHandlesWrongFalsely : Prop := fnHandlesRow.holds Try.pinned (OpenSpec.ofChange fnHandlesWrong)

/-- 'laws.FnLent': WHATEVER THE INPUT: true; the input reads as it did. -/
def fnLentSpec : ChangeSpec := { name := "fnLent", fn := fun _ => fun
  | [d] => { results := [.lit (.bool true)], args := [d] }
  | _ => none }
def fnLentRow : OpenClaim := { program := "ytoomeeoijbkmnaa", sum := "03c55a0a8d24e041d8ff764d72376d79ef89857e38e2113253dd344ca926abf3", func := "loop.example/g00209/laws.FnLent", spec := "fnLent", apart := false }
def FnLentSaid : Prop := fnLentRow.holds Try.pinned (OpenSpec.ofChange fnLentSpec)

/-- ITS FALSE NEIGHBOUR: 'it returns false'. Refute it at one input. -/
def fnLentWrong : ChangeSpec := { name := "fnLent", fn := fun _ => fun
  | [d] => { results := [.lit (.bool false)], args := [d] }
  | _ => none }
def FnLentWrongFalsely : Prop := fnLentRow.holds Try.pinned (OpenSpec.ofChange fnLentWrong)

/-- 'laws.FnExactLendHandle': WHATEVER THE INPUT: true; the input reads as it did. -/
def fnExactLendHandleSpec : ChangeSpec := { name := "fnExactLendHandle", fn := fun _ => fun
  | [d1, d2, d3] => { results := [.lit (.bool true)], args := [d1, d2, d3] }
  | _ => none }
def fnExactLendHandleRow : OpenClaim := { program := "ytoomeeoijbkmnaa", sum := "03c55a0a8d24e041d8ff764d72376d79ef89857e38e2113253dd344ca926abf3", func := "loop.example/g00209/laws.FnExactLendHandle", spec := "fnExactLendHandle", apart := false }
def FnExactLendHandleSaid : Prop := fnExactLendHandleRow.holds Try.pinned (OpenSpec.ofChange fnExactLendHandleSpec)

/-- ITS FALSE NEIGHBOUR: 'it returns false'. Refute it at one input. -/
def fnExactLendHandleWrong : ChangeSpec := { name := "fnExactLendHandle", fn := fun _ => fun
  | [d1, d2, d3] => { results := [.lit (.bool false)], args := [d1, d2, d3] }
  | _ => none }
def FnExactLendHandleWrongFalsely : Prop := fnExactLendHandleRow.holds Try.pinned (OpenSpec.ofChange fnExactLendHandleWrong)

/-- 'laws.FnExactNewWorld': WHATEVER THE INPUT: true; the input reads as it did. -/
def fnExactNewWorldSpec : ChangeSpec := { name := "fnExactNewWorld", fn := fun _ => fun
  | [d] => { results := [.lit (.bool true)], args := [d] }
  | _ => none }
def fnExactNewWorldRow : OpenClaim := { program := "ytoomeeoijbkmnaa", sum := "03c55a0a8d24e041d8ff764d72376d79ef89857e38e2113253dd344ca926abf3", func := "loop.example/g00209/laws.FnExactNewWorld", spec := "fnExactNewWorld", apart := false }
def FnExactNewWorldSaid : Prop := fnExactNewWorldRow.holds Try.pinned (OpenSpec.ofChange fnExactNewWorldSpec)

/-- ITS FALSE NEIGHBOUR: 'it returns false'. Refute it at one input. -/
def fnExactNewWorldWrong : ChangeSpec := { name := "fnExactNewWorld", fn := fun _ => fun
  | [d] => { results := [.lit (.bool false)], args := [d] }
  | _ => none }
def FnExactNewWorldWrongFalsely : Prop := fnExactNewWorldRow.holds Try.pinned (OpenSpec.ofChange fnExactNewWorldWrong)

/-- 'laws.FnExactDropHandle': WHATEVER THE INPUT: true; the input reads as it did. -/
def fnExactDropHandleSpec : ChangeSpec := { name := "fnExactDropHandle", fn := fun _ => fun
  | [d1, d2, d3] => { results := [.lit (.bool true)], args := [d1, d2, d3] }
  | _ => none }
def fnExactDropHandleRow : OpenClaim := { program := "ytoomeeoijbkmnaa", sum := "03c55a0a8d24e041d8ff764d72376d79ef89857e38e2113253dd344ca926abf3", func := "loop.example/g00209/laws.FnExactDropHandle", spec := "fnExactDropHandle", apart := false }
def FnExactDropHandleSaid : Prop := fnExactDropHandleRow.holds Try.pinned (OpenSpec.ofChange fnExactDropHandleSpec)

/-- ITS FALSE NEIGHBOUR: 'it returns false'. Refute it at one input. -/
def fnExactDropHandleWrong : ChangeSpec := { name := "fnExactDropHandle", fn := fun _ => fun
  | [d1, d2, d3] => { results := [.lit (.bool false)], args := [d1, d2, d3] }
  | _ => none }
def FnExactDropHandleWrongFalsely : Prop := fnExactDropHandleRow.holds Try.pinned (OpenSpec.ofChange fnExactDropHandleWrong)

/-- 'laws.FnExactMoveHandle': WHATEVER THE INPUT: true; the input reads as it did. -/
def fnExactMoveHandleSpec : ChangeSpec := { name := "fnExactMoveHandle", fn := fun _ => fun
  | [d1, d2, d3] => { results := [.lit (.bool true)], args := [d1, d2, d3] }
  | _ => none }
def fnExactMoveHandleRow : OpenClaim := { program := "ytoomeeoijbkmnaa", sum := "03c55a0a8d24e041d8ff764d72376d79ef89857e38e2113253dd344ca926abf3", func := "loop.example/g00209/laws.FnExactMoveHandle", spec := "fnExactMoveHandle", apart := false }
def FnExactMoveHandleSaid : Prop := fnExactMoveHandleRow.holds Try.pinned (OpenSpec.ofChange fnExactMoveHandleSpec)

/-- ITS FALSE NEIGHBOUR: 'it returns false'. Refute it at one input. -/
def fnExactMoveHandleWrong : ChangeSpec := { name := "fnExactMoveHandle", fn := fun _ => fun
  | [d1, d2, d3] => { results := [.lit (.bool false)], args := [d1, d2, d3] }
  | _ => none }
def FnExactMoveHandleWrongFalsely : Prop := fnExactMoveHandleRow.holds Try.pinned (OpenSpec.ofChange fnExactMoveHandleWrong)

/- THE SECOND FORM. 'bulk': how many values and letters a reading holds, each counted each time it is reached (what is shared counts as often as it is met; a slice's spare places count too). A statement '..UptoSaid' is the law's where the arguments, and the package variables that the reading takes, are together of bulk at most 1048576: NARROWER than '..Said'. Prove '..Said' where nothing that the law and all that it calls make is longer than what came in: it says more and counts as full. Else prove '..UptoSaid'. A law counts once. -/
mutual
def uptoBulk {H : Type} : DataW H → Nat
  | .lit (.string bytes) => bytes.length + 1
  | .lit _ => 1
  | .nil => 1
  | .ptr d => uptoBulk d + 1
  | .slice elems spare => uptoBulkAll elems + uptoBulkAll spare + 1
  | .agg parts => uptoBulkAll parts + 1
  | .iface _ d => uptoBulk d + 1
  | .map entries => uptoBulkEntries entries + 1
  | .held _ => 1
def uptoBulkAll {H : Type} : List (DataW H) → Nat
  | [] => 0
  | d :: r => uptoBulk d + uptoBulkAll r
def uptoBulkEntries {H : Type} : List (Lit × DataW H) → Nat
  | [] => 0
  | x :: r => uptoBulkEntry x + uptoBulkEntries r
def uptoBulkEntry {H : Type} : Lit × DataW H → Nat
  | (.string bytes, d) => bytes.length + uptoBulk d + 1
  | (_, d) => uptoBulk d + 1
 end
def uptoSmall : (H : Type) → List (DataW H) → Bool := fun _ ds => decide (uptoBulkAll ds ≤ 1048576)
def OpenSpec.upto (s : _root_.Go.ChangeSpec) : _root_.Go.OpenSpec := { _root_.Go.OpenSpec.ofChange s with cond := some uptoSmall }

/-- 'laws.FnExactGoodPart', WHERE WHAT IT READS IS OF BULK AT MOST 1048576: true; the input reads as it did. -/
def fnExactGoodPartUptoRow : OpenClaim := { program := "ytoomeeoijbkmnaa", sum := "03c55a0a8d24e041d8ff764d72376d79ef89857e38e2113253dd344ca926abf3", func := "loop.example/g00209/laws.FnExactGoodPart", spec := "fnExactGoodPart", apart := false, narrowed := true }
def FnExactGoodPartUptoSaid : Prop := fnExactGoodPartUptoRow.holds Try.pinned (OpenSpec.upto fnExactGoodPartSpec)

/-- 'laws.FnExactEnterPart', WHERE WHAT IT READS IS OF BULK AT MOST 1048576: true; the input reads as it did. -/
def fnExactEnterPartUptoRow : OpenClaim := { program := "ytoomeeoijbkmnaa", sum := "03c55a0a8d24e041d8ff764d72376d79ef89857e38e2113253dd344ca926abf3", func := "loop.example/g00209/laws.FnExactEnterPart", spec := "fnExactEnterPart", apart := false, narrowed := true }
def FnExactEnterPartUptoSaid : Prop := fnExactEnterPartUptoRow.holds Try.pinned (OpenSpec.upto fnExactEnterPartSpec)

/-- 'laws.FnExactExitPart', WHERE WHAT IT READS IS OF BULK AT MOST 1048576: true; the input reads as it did. -/
def fnExactExitPartUptoRow : OpenClaim := { program := "ytoomeeoijbkmnaa", sum := "03c55a0a8d24e041d8ff764d72376d79ef89857e38e2113253dd344ca926abf3", func := "loop.example/g00209/laws.FnExactExitPart", spec := "fnExactExitPart", apart := false, narrowed := true }
def FnExactExitPartUptoSaid : Prop := fnExactExitPartUptoRow.holds Try.pinned (OpenSpec.upto fnExactExitPartSpec)

/-- 'laws.FnExactFindHandle', WHERE WHAT IT READS IS OF BULK AT MOST 1048576: true; the input reads as it did. -/
def fnExactFindHandleUptoRow : OpenClaim := { program := "ytoomeeoijbkmnaa", sum := "03c55a0a8d24e041d8ff764d72376d79ef89857e38e2113253dd344ca926abf3", func := "loop.example/g00209/laws.FnExactFindHandle", spec := "fnExactFindHandle", apart := false, narrowed := true }
def FnExactFindHandleUptoSaid : Prop := fnExactFindHandleUptoRow.holds Try.pinned (OpenSpec.upto fnExactFindHandleSpec)

/-- 'laws.FnExactReturnHandle', WHERE WHAT IT READS IS OF BULK AT MOST 1048576: true; the input reads as it did. -/
def fnExactReturnHandleUptoRow : OpenClaim := { program := "ytoomeeoijbkmnaa", sum := "03c55a0a8d24e041d8ff764d72376d79ef89857e38e2113253dd344ca926abf3", func := "loop.example/g00209/laws.FnExactReturnHandle", spec := "fnExactReturnHandle", apart := false, narrowed := true }
def FnExactReturnHandleUptoSaid : Prop := fnExactReturnHandleUptoRow.holds Try.pinned (OpenSpec.upto fnExactReturnHandleSpec)

/-- 'laws.FnExactNewHandle', WHERE WHAT IT READS IS OF BULK AT MOST 1048576: true; the input reads as it did. -/
def fnExactNewHandleUptoRow : OpenClaim := { program := "ytoomeeoijbkmnaa", sum := "03c55a0a8d24e041d8ff764d72376d79ef89857e38e2113253dd344ca926abf3", func := "loop.example/g00209/laws.FnExactNewHandle", spec := "fnExactNewHandle", apart := false, narrowed := true }
def FnExactNewHandleUptoSaid : Prop := fnExactNewHandleUptoRow.holds Try.pinned (OpenSpec.upto fnExactNewHandleSpec)

/-- 'laws.FnHandles', WHERE WHAT IT READS IS OF BULK AT MOST 1048576: true; the input reads as it did. -/
def fnHandlesUptoRow : OpenClaim := { program := "ytoomeeoijbkmnaa", sum := "03c55a0a8d24e041d8ff764d72376d79ef89857e38e2113253dd344ca926abf3", func := "loop.example/g00209/laws.FnHandles", spec := "fnHandles", apart := false, narrowed := true }
def FnHandlesUptoSaid : Prop := fnHandlesUptoRow.holds Try.pinned (OpenSpec.upto fnHandlesSpec)

/-- 'laws.FnLent', WHERE WHAT IT READS IS OF BULK AT MOST 1048576: true; the input reads as it did. -/
def fnLentUptoRow : OpenClaim := { program := "ytoomeeoijbkmnaa", sum := "03c55a0a8d24e041d8ff764d72376d79ef89857e38e2113253dd344ca926abf3", func := "loop.example/g00209/laws.FnLent", spec := "fnLent", apart := false, narrowed := true }
def FnLentUptoSaid : Prop := fnLentUptoRow.holds Try.pinned (OpenSpec.upto fnLentSpec)

/-- 'laws.FnExactLendHandle', WHERE WHAT IT READS IS OF BULK AT MOST 1048576: true; the input reads as it did. -/
def fnExactLendHandleUptoRow : OpenClaim := { program := "ytoomeeoijbkmnaa", sum := "03c55a0a8d24e041d8ff764d72376d79ef89857e38e2113253dd344ca926abf3", func := "loop.example/g00209/laws.FnExactLendHandle", spec := "fnExactLendHandle", apart := false, narrowed := true }
def FnExactLendHandleUptoSaid : Prop := fnExactLendHandleUptoRow.holds Try.pinned (OpenSpec.upto fnExactLendHandleSpec)

/-- 'laws.FnExactNewWorld', WHERE WHAT IT READS IS OF BULK AT MOST 1048576: true; the input reads as it did. -/
def fnExactNewWorldUptoRow : OpenClaim := { program := "ytoomeeoijbkmnaa", sum := "03c55a0a8d24e041d8ff764d72376d79ef89857e38e2113253dd344ca926abf3", func := "loop.example/g00209/laws.FnExactNewWorld", spec := "fnExactNewWorld", apart := false, narrowed := true }
def FnExactNewWorldUptoSaid : Prop := fnExactNewWorldUptoRow.holds Try.pinned (OpenSpec.upto fnExactNewWorldSpec)

/-- 'laws.FnExactDropHandle', WHERE WHAT IT READS IS OF BULK AT MOST 1048576: true; the input reads as it did. -/
def fnExactDropHandleUptoRow : OpenClaim := { program := "ytoomeeoijbkmnaa", sum := "03c55a0a8d24e041d8ff764d72376d79ef89857e38e2113253dd344ca926abf3", func := "loop.example/g00209/laws.FnExactDropHandle", spec := "fnExactDropHandle", apart := false, narrowed := true }
def FnExactDropHandleUptoSaid : Prop := fnExactDropHandleUptoRow.holds Try.pinned (OpenSpec.upto fnExactDropHandleSpec)

/-- 'laws.FnExactMoveHandle', WHERE WHAT IT READS IS OF BULK AT MOST 1048576: true; the input reads as it did. -/
def fnExactMoveHandleUptoRow : OpenClaim := { program := "ytoomeeoijbkmnaa", sum := "03c55a0a8d24e041d8ff764d72376d79ef89857e38e2113253dd344ca926abf3", func := "loop.example/g00209/laws.FnExactMoveHandle", spec := "fnExactMoveHandle", apart := false, narrowed := true }
def FnExactMoveHandleUptoSaid : Prop := fnExactMoveHandleUptoRow.holds Try.pinned (OpenSpec.upto fnExactMoveHandleSpec)

end Rows
end Go.Proofs.Ytoomeeoijbkmnaa
