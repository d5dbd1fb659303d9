/-
  No cell of these rows narrows 'for every input' (looked for: loops, veiled, ifaces, maps, wideKeys, modest, calm, conditions, laid).
  DERIVED. THE GIVEN ROWS OF THIS SEAT. 8 by the template 'for every input the law returns true; each argument reads behind the call as it read before'; 0 by the template 'total and deterministic' (their statements: YtdoflfifnkpacaaTotals.lean).
  GIVEN WITH THE SEED: the statements are not yours to turn. If you find one false, say at which input.
  Laid BY PROGRAM, IN A SANDBOX (cutbox-rows.mjs): the forced cells as the released guide's own fill.sh prints them over the translation a79e8a0005cad935… (all of the seat's roots in one cut). By AI agents, Wed Nov 11 2026. No macro, syntax, notation, axiom, sorry.
-/
import Derived.Test.YtdoflfifnkpacaaChecked
import GoSem.Claim
import GoSem.ClaimJoined
import GoSem.ClaimMapViews
import Derived.JoinedTies
import Derived.KernelRfl
namespace Go.Proofs.Ytdoflfifnkpacaa
/- THE CELL 'sum', in the pinned program and in every row, IS THE sha256 OF THE DUMP (.gsa) THAT YtdoflfifnkpacaaProg.lean LOADS. Nothing in Lean hashes anything: it is a label: what it is worth is what the hold of that sum in a sandbox is worth. -/
noncomputable def Try.pinned : Pinned := { name := "ytdoflfifnkpacaa", sum := "a79e8a0005cad935ba189b3d7208215c0a0d5642ac04f94e7ad278931aaf64d6", checked := Try.checked }
namespace Rows
def none {H : Type} : Left H := { results := [], args := [] }

/-- 'laws.FnRoots': WHATEVER THE INPUT: true; the input reads as it did. -/
def fnRootsSpec : ChangeSpec := { name := "fnRoots", fn := fun _ => fun
  | [d] => { results := [.lit (.bool true)], args := [d] }
  | _ => none }
def fnRootsRow : OpenClaim := { program := "ytdoflfifnkpacaa", sum := "a79e8a0005cad935ba189b3d7208215c0a0d5642ac04f94e7ad278931aaf64d6", func := "loop.example/g00209/laws.FnRoots", spec := "fnRoots", plainKeys := false, apart := false }
def FnRootsSaid : Prop := fnRootsRow.holds Try.pinned (OpenSpec.ofChange fnRootsSpec)

/-- ITS FALSE NEIGHBOUR: 'it returns false'. Refute it at one input. -/
def fnRootsWrong : ChangeSpec := { name := "fnRoots", fn := fun _ => fun
  | [d] => { results := [.lit (.bool false)], args := [d] }
  | _ => none }
def FnRootsWrongFalsely : Prop := fnRootsRow.holds Try.pinned (OpenSpec.ofChange fnRootsWrong)

/-- 'laws.FnExactGoodWorld': WHATEVER THE INPUT: true; the input reads as it did. -/
def fnExactGoodWorldSpec : ChangeSpec := { name := "fnExactGoodWorld", fn := fun _ => fun
  | [d] => { results := [.lit (.bool true)], args := [d] }
  | _ => none }
def fnExactGoodWorldRow : OpenClaim := { program := "ytdoflfifnkpacaa", sum := "a79e8a0005cad935ba189b3d7208215c0a0d5642ac04f94e7ad278931aaf64d6", func := "loop.example/g00209/laws.FnExactGoodWorld", spec := "fnExactGoodWorld", plainKeys := false, apart := false }
def FnExactGoodWorldSaid : Prop := fnExactGoodWorldRow.holds Try.pinned (OpenSpec.ofChange fnExactGoodWorldSpec)

/-- ITS FALSE NEIGHBOUR: 'it returns false'. Refute it at one input. -/
def fnExactGoodWorldWrong : ChangeSpec := { name := "fnExactGoodWorld", fn := fun _ => fun
  | [d] => { results := [.lit (.bool false)], args := [d] }
  | _ => none }
def FnExactGoodWorldWrongFalsely : Prop := fnExactGoodWorldRow.holds Try.pinned (OpenSpec.ofChange fnExactGoodWorldWrong)

/-- 'laws.FnRounded': WHATEVER THE INPUT: true; the input reads as it did. -/
def fnRoundedSpec : ChangeSpec := { name := "fnRounded", fn := fun _ => fun
  | [d] => { results := [.lit (.bool true)], args := [d] }
  | _ => none }
def fnRoundedRow : OpenClaim := { program := "ytdoflfifnkpacaa", sum := "a79e8a0005cad935ba189b3d7208215c0a0d5642ac04f94e7ad278931aaf64d6", func := "loop.example/g00209/laws.FnRounded", spec := "fnRounded", recurses := true, plainKeys := false, apart := false }
def FnRoundedSaid : Prop := fnRoundedRow.holds Try.pinned (OpenSpec.ofChange fnRoundedSpec)

/-- ITS FALSE NEIGHBOUR: 'it returns false'. Refute it at one input. -/
def fnRoundedWrong : ChangeSpec := { name := "fnRounded", fn := fun _ => fun
  | [d] => { results := [.lit (.bool false)], args := [d] }
  | _ => none }
def FnRoundedWrongFalsely : Prop := fnRoundedRow.holds Try.pinned (OpenSpec.ofChange fnRoundedWrong)

/-- 'laws.FnExactOwnersOf': WHATEVER THE INPUT: true; the input reads as it did. -/
def fnExactOwnersOfSpec : ChangeSpec := { name := "fnExactOwnersOf", fn := fun _ => fun
  | [d1, d2] => { results := [.lit (.bool true)], args := [d1, d2] }
  | _ => none }
def fnExactOwnersOfRow : OpenClaim := { program := "ytdoflfifnkpacaa", sum := "a79e8a0005cad935ba189b3d7208215c0a0d5642ac04f94e7ad278931aaf64d6", func := "loop.example/g00209/laws.FnExactOwnersOf", spec := "fnExactOwnersOf", plainKeys := false, apart := false }
def FnExactOwnersOfSaid : Prop := fnExactOwnersOfRow.holds Try.pinned (OpenSpec.ofChange fnExactOwnersOfSpec)

/-- ITS FALSE NEIGHBOUR: 'it returns false'. Refute it at one input. -/
def fnExactOwnersOfWrong : ChangeSpec := { name := "fnExactOwnersOf", fn := fun _ => fun
  | [d1, d2] => { results := [.lit (.bool false)], args := [d1, d2] }
  | _ => none }
def FnExactOwnersOfWrongFalsely : Prop := fnExactOwnersOfRow.holds Try.pinned (OpenSpec.ofChange fnExactOwnersOfWrong)

/-- 'laws.FnOwned': WHATEVER THE INPUT: true; the input reads as it did. -/
def fnOwnedSpec : ChangeSpec := { name := "fnOwned", fn := fun _ => fun
  | [d] => { results := [.lit (.bool true)], args := [d] }
  | _ => none }
def fnOwnedRow : OpenClaim := { program := "ytdoflfifnkpacaa", sum := "a79e8a0005cad935ba189b3d7208215c0a0d5642ac04f94e7ad278931aaf64d6", func := "loop.example/g00209/laws.FnOwned", spec := "fnOwned", plainKeys := false, apart := false }
def FnOwnedSaid : Prop := fnOwnedRow.holds Try.pinned (OpenSpec.ofChange fnOwnedSpec)

/-- ITS FALSE NEIGHBOUR: 'it returns false'. Refute it at one input. -/
def fnOwnedWrong : ChangeSpec := { name := "fnOwned", fn := fun _ => fun
  | [d] => { results := [.lit (.bool false)], args := [d] }
  | _ => none }
def FnOwnedWrongFalsely : Prop := fnOwnedRow.holds Try.pinned (OpenSpec.ofChange fnOwnedWrong)

/-- 'laws.FnGiven': WHATEVER THE INPUT: true; the input reads as it did. -/
def fnGivenSpec : ChangeSpec := { name := "fnGiven", fn := fun _ => fun
  | [d] => { results := [.lit (.bool true)], args := [d] }
  | _ => none }
def fnGivenRow : OpenClaim := { program := "ytdoflfifnkpacaa", sum := "a79e8a0005cad935ba189b3d7208215c0a0d5642ac04f94e7ad278931aaf64d6", func := "loop.example/g00209/laws.FnGiven", spec := "fnGiven", plainKeys := false, apart := false }
def FnGivenSaid : Prop := fnGivenRow.holds Try.pinned (OpenSpec.ofChange fnGivenSpec)

/-- ITS FALSE NEIGHBOUR: 'it returns false'. Refute it at one input. -/
def fnGivenWrong : ChangeSpec := { name := "fnGiven", fn := fun _ => fun
  | [d] => { results := [.lit (.bool false)], args := [d] }
  | _ => none }
def FnGivenWrongFalsely : Prop := fnGivenRow.holds Try.pinned (OpenSpec.ofChange fnGivenWrong)

/-- 'laws.FnExactPlayWorld': WHATEVER THE INPUT: true; the input reads as it did. -/
def fnExactPlayWorldSpec : ChangeSpec := { name := "fnExactPlayWorld", fn := fun _ => fun
  | [d1, d2] => { results := [.lit (.bool true)], args := [d1, d2] }
  | _ => none }
def fnExactPlayWorldRow : OpenClaim := { program := "ytdoflfifnkpacaa", sum := "a79e8a0005cad935ba189b3d7208215c0a0d5642ac04f94e7ad278931aaf64d6", func := "loop.example/g00209/laws.FnExactPlayWorld", spec := "fnExactPlayWorld", plainKeys := false, apart := false }
def FnExactPlayWorldSaid : Prop := fnExactPlayWorldRow.holds Try.pinned (OpenSpec.ofChange fnExactPlayWorldSpec)

/-- ITS FALSE NEIGHBOUR: 'it returns false'. Refute it at one input. -/
def fnExactPlayWorldWrong : ChangeSpec := { name := "fnExactPlayWorld", fn := fun _ => fun
  | [d1, d2] => { results := [.lit (.bool false)], args := [d1, d2] }
  | _ => none }
def FnExactPlayWorldWrongFalsely : Prop := fnExactPlayWorldRow.holds Try.pinned (OpenSpec.ofChange fnExactPlayWorldWrong)

/-- 'laws.FnExactDoAct': WHATEVER THE INPUT: true; the input reads as it did. -/
def fnExactDoActSpec : ChangeSpec := { name := "fnExactDoAct", fn := fun _ => fun
  | [d1, d2] => { results := [.lit (.bool true)], args := [d1, d2] }
  | _ => none }
def fnExactDoActRow : OpenClaim := { program := "ytdoflfifnkpacaa", sum := "a79e8a0005cad935ba189b3d7208215c0a0d5642ac04f94e7ad278931aaf64d6", func := "loop.example/g00209/laws.FnExactDoAct", spec := "fnExactDoAct", plainKeys := false, apart := false }
def FnExactDoActSaid : Prop := fnExactDoActRow.holds Try.pinned (OpenSpec.ofChange fnExactDoActSpec)

/-- ITS FALSE NEIGHBOUR: 'it returns false'. Refute it at one input. -/
def fnExactDoActWrong : ChangeSpec := { name := "fnExactDoAct", fn := fun _ => fun
  | [d1, d2] => { results := [.lit (.bool false)], args := [d1, d2] }
  | _ => none }
def FnExactDoActWrongFalsely : Prop := fnExactDoActRow.holds Try.pinned (OpenSpec.ofChange fnExactDoActWrong)

/- THE SECOND FORM. 'bulk': how many values and letters a reading holds, each counted each time it is reached (what is shared counts as often as it is met; a slice's spare places count too). A statement '..UptoSaid' is the law's where the arguments, and the package variables that the reading takes, are together of bulk at most 1048576: NARROWER than '..Said'. Prove '..Said' where nothing that the law and all that it calls make is longer than what came in: it says more and counts as full. Else prove '..UptoSaid'. A law counts once. -/
mutual
def uptoBulk {H : Type} : DataW H → Nat
  | .lit (.string bytes) => bytes.length + 1
  | .lit _ => 1
  | .nil => 1
  | .ptr d => uptoBulk d + 1
  | .slice elems spare => uptoBulkAll elems + uptoBulkAll spare + 1
  | .agg parts => uptoBulkAll parts + 1
  | .iface _ d => uptoBulk d + 1
  | .map entries => uptoBulkEntries entries + 1
  | .held _ => 1
def uptoBulkAll {H : Type} : List (DataW H) → Nat
  | [] => 0
  | d :: r => uptoBulk d + uptoBulkAll r
def uptoBulkEntries {H : Type} : List (Lit × DataW H) → Nat
  | [] => 0
  | x :: r => uptoBulkEntry x + uptoBulkEntries r
def uptoBulkEntry {H : Type} : Lit × DataW H → Nat
  | (.string bytes, d) => bytes.length + uptoBulk d + 1
  | (_, d) => uptoBulk d + 1
 end
def uptoSmall : (H : Type) → List (DataW H) → Bool := fun _ ds => decide (uptoBulkAll ds ≤ 1048576)
def OpenSpec.upto (s : _root_.Go.ChangeSpec) : _root_.Go.OpenSpec := { _root_.Go.OpenSpec.ofChange s with cond := some uptoSmall }

/-- 'laws.FnRoots', WHERE WHAT IT READS IS OF BULK AT MOST 1048576: true; the input reads as it did. -/
def fnRootsUptoRow : OpenClaim := { program := "ytdoflfifnkpacaa", sum := "a79e8a0005cad935ba189b3d7208215c0a0d5642ac04f94e7ad278931aaf64d6", func := "loop.example/g00209/laws.FnRoots", spec := "fnRoots", plainKeys := false, apart := false, narrowed := true }
def FnRootsUptoSaid : Prop := fnRootsUptoRow.holds Try.pinned (OpenSpec.upto fnRootsSpec)

/-- 'laws.FnExactGoodWorld', WHERE WHAT IT READS IS OF BULK AT MOST 1048576: true; the input reads as it did. -/
def fnExactGoodWorldUptoRow : OpenClaim := { program := "ytdoflfifnkpacaa", sum := "a79e8a0005cad935ba189b3d7208215c0a0d5642ac04f94e7ad278931aaf64d6", func := "loop.example/g00209/laws.FnExactGoodWorld", spec := "fnExactGoodWorld", plainKeys := false, apart := false, narrowed := true }
def FnExactGoodWorldUptoSaid : Prop := fnExactGoodWorldUptoRow.holds Try.pinned (OpenSpec.upto fnExactGoodWorldSpec)

/-- 'laws.FnRounded', WHERE WHAT IT READS IS OF BULK AT MOST 1048576: true; the input reads as it did. -/
def fnRoundedUptoRow : OpenClaim := { program := "ytdoflfifnkpacaa", sum := "a79e8a0005cad935ba189b3d7208215c0a0d5642ac04f94e7ad278931aaf64d6", func := "loop.example/g00209/laws.FnRounded", spec := "fnRounded", recurses := true, plainKeys := false, apart := false, narrowed := true }
def FnRoundedUptoSaid : Prop := fnRoundedUptoRow.holds Try.pinned (OpenSpec.upto fnRoundedSpec)

/-- 'laws.FnExactOwnersOf', WHERE WHAT IT READS IS OF BULK AT MOST 1048576: true; the input reads as it did. -/
def fnExactOwnersOfUptoRow : OpenClaim := { program := "ytdoflfifnkpacaa", sum := "a79e8a0005cad935ba189b3d7208215c0a0d5642ac04f94e7ad278931aaf64d6", func := "loop.example/g00209/laws.FnExactOwnersOf", spec := "fnExactOwnersOf", plainKeys := false, apart := false, narrowed := true }
def FnExactOwnersOfUptoSaid : Prop := fnExactOwnersOfUptoRow.holds Try.pinned (OpenSpec.upto fnExactOwnersOfSpec)

/-- 'laws.FnOwned', WHERE WHAT IT READS IS OF BULK AT MOST 1048576: true; the input reads as it did. -/
def fnOwnedUptoRow : OpenClaim := { program := "ytdoflfifnkpacaa", sum := "a79e8a0005cad935ba189b3d7208215c0a0d5642ac04f94e7ad278931aaf64d6", func := "loop.example/g00209/laws.FnOwned", spec := "fnOwned", plainKeys := false, apart := false, narrowed := true }
def FnOwnedUptoSaid : Prop := fnOwnedUptoRow.holds Try.pinned (OpenSpec.upto fnOwnedSpec)

/-- 'laws.FnGiven', WHERE WHAT IT READS IS OF BULK AT MOST 1048576: true; the input reads as it did. -/
def fnGivenUptoRow : OpenClaim := { program := "ytdoflfifnkpacaa", sum := "a79e8a0005cad935ba189b3d7208215c0a0d5642ac04f94e7ad278931aaf64d6", func := "loop.example/g00209/laws.FnGiven", spec := "fnGiven", plainKeys := false, apart := false, narrowed := true }
def FnGivenUptoSaid : Prop := fnGivenUptoRow.holds Try.pinned (OpenSpec.upto fnGivenSpec)

/-- 'laws.FnExactPlayWorld', WHERE WHAT IT READS IS OF BULK AT MOST 1048576: true; the input reads as it did. -/
def fnExactPlayWorldUptoRow : OpenClaim := { program := "ytdoflfifnkpacaa", sum := "a79e8a0005cad935ba189b3d7208215c0a0d5642ac04f94e7ad278931aaf64d6", func := "loop.example/g00209/laws.FnExactPlayWorld", spec := "fnExactPlayWorld", plainKeys := false, apart := false, narrowed := true }
def FnExactPlayWorldUptoSaid : Prop := fnExactPlayWorldUptoRow.holds Try.pinned (OpenSpec.upto fnExactPlayWorldSpec)

/-- 'laws.FnExactDoAct', WHERE WHAT IT READS IS OF BULK AT MOST 1048576: true; the input reads as it did. -/
def fnExactDoActUptoRow : OpenClaim := { program := "ytdoflfifnkpacaa", sum := "a79e8a0005cad935ba189b3d7208215c0a0d5642ac04f94e7ad278931aaf64d6", func := "loop.example/g00209/laws.FnExactDoAct", spec := "fnExactDoAct", plainKeys := false, apart := false, narrowed := true }
def FnExactDoActUptoSaid : Prop := fnExactDoActUptoRow.holds Try.pinned (OpenSpec.upto fnExactDoActSpec)

end Rows
end Go.Proofs.Ytdoflfifnkpacaa
