/-
  DERIVED. GIVEN WITH THE SEED: THE CARDS: each row of YtljdidlkiknknaaDoorRows.lean that lists a variable, with what it lists TIED to the program's text (the seventh form; the later family's looks); each row that meets fmt, with fmt's text TOLD by the authors' own Lean function (tested against real Go, not proved from fmt's source: count such statements apart). THE CARD IS WHAT COUNTS. Prove the row's statement (the work); the ties are given (YtljdidlkiknknaaDoorTie.lean); close each card by the builder's one call (the guide's Derived/Test/ToyasCard.lean, 'card_holds'). Laid BY PROGRAM, IN A SANDBOX (cutbox-door.mjs). By AI agents, Wed Nov 11 2026. No macro, syntax, notation, axiom, sorry.
-/
import Derived.Test.YtljdidlkiknknaaDoorRows
import GoSem.ClaimSeven
namespace Go.Proofs.YtljdidlkiknknaaDoor
namespace Rows

/-- THE TIED CARD OF 'laws.FnExactFitsType'. -/
def fnExactFitsTypeCard : Claim7 := { stood := { row := fnExactFitsTypeRow, standIns := [], harness := (true, "885d3ef68198a08e0a9504c48359ecc87d8a1127f079a7206ae41e1b870df506"), looks := true }, kinds := [], alts := [], laidByText := true, laidKinds := [.data, .pinned], laidTests := true, laidLooks := .later }
def FnExactFitsTypeCardSaid : Prop := Claim7.holds Tryd.pinned (.plain (OpenSpec.ofChange fnExactFitsTypeSpec)) fnExactFitsTypeCard

/-- THE TIED CARD OF 'laws.FnExactCountIn'. -/
def fnExactCountInCard : Claim7 := { stood := { row := fnExactCountInRow, standIns := [], harness := (true, "885d3ef68198a08e0a9504c48359ecc87d8a1127f079a7206ae41e1b870df506"), looks := true }, kinds := [], alts := [], laidByText := true, laidKinds := [.data, .pinned], laidTests := true, laidLooks := .later }
def FnExactCountInCardSaid : Prop := Claim7.holds Tryd.pinned (.plain (OpenSpec.ofChange fnExactCountInSpec)) fnExactCountInCard

/-- THE TIED CARD OF 'laws.FnExactSameValue'. -/
def fnExactSameValueCard : Claim7 := { stood := { row := fnExactSameValueRow, standIns := [], harness := (true, "885d3ef68198a08e0a9504c48359ecc87d8a1127f079a7206ae41e1b870df506"), looks := true }, kinds := [], alts := [], laidByText := true, laidKinds := [.data, .pinned], laidTests := true, laidLooks := .later }
def FnExactSameValueCardSaid : Prop := Claim7.holds Tryd.pinned (.plain (OpenSpec.ofChange fnExactSameValueSpec)) fnExactSameValueCard

/-- THE TIED CARD OF 'laws.FnExactGoodSignature'. -/
def fnExactGoodSignatureCard : Claim7 := { stood := { row := fnExactGoodSignatureRow, standIns := [], harness := (true, "885d3ef68198a08e0a9504c48359ecc87d8a1127f079a7206ae41e1b870df506"), looks := true }, kinds := [], alts := [], laidByText := true, laidKinds := [.data, .data, .data, .sentinel, .sentinel], laidTests := true, laidLooks := .later }
def FnExactGoodSignatureCardSaid : Prop := Claim7.holds Tryd.pinned (.plain (OpenSpec.ofChange fnExactGoodSignatureSpec)) fnExactGoodSignatureCard

/-- THE TIED CARD OF 'laws.FnExactSubtypeOf'. -/
def fnExactSubtypeOfCard : Claim7 := { stood := { row := fnExactSubtypeOfRow, standIns := [], harness := (true, "885d3ef68198a08e0a9504c48359ecc87d8a1127f079a7206ae41e1b870df506"), looks := true }, kinds := [], alts := [], laidByText := true, laidKinds := [.data, .data, .data, .sentinel, .sentinel], laidTests := true, laidLooks := .later }
def FnExactSubtypeOfCardSaid : Prop := Claim7.holds Tryd.pinned (.plain (OpenSpec.ofChange fnExactSubtypeOfSpec)) fnExactSubtypeOfCard

/-- THE TIED CARD OF 'laws.FnExactValueText'. -/
def fnExactValueTextCard : Claim7 := { stood := { row := fnExactValueTextRow, standIns := [], harness := (true, "885d3ef68198a08e0a9504c48359ecc87d8a1127f079a7206ae41e1b870df506"), looks := true }, kinds := [], alts := [], laidByText := true, laidKinds := [.data, .data, .data, .data, .pinned], laidTests := true, laidLooks := .later }
def FnExactValueTextCardSaid : Prop := Claim7.holds Tryd.pinned (.plain (OpenSpec.ofChange fnExactValueTextSpec)) fnExactValueTextCard

/-- THE SECOND FORM's CARD OF 'laws.FnExactFitsType'. -/
def fnExactFitsTypeUptoCard : Claim7 := { stood := { row := fnExactFitsTypeUptoRow, standIns := [], harness := (true, "885d3ef68198a08e0a9504c48359ecc87d8a1127f079a7206ae41e1b870df506"), looks := true }, kinds := [], alts := [], laidByText := true, laidKinds := [.data, .pinned], laidTests := true, laidLooks := .later }
def FnExactFitsTypeUptoCardSaid : Prop := Claim7.holds Tryd.pinned (.plain (OpenSpec.upto fnExactFitsTypeSpec)) fnExactFitsTypeUptoCard

/-- THE SECOND FORM's CARD OF 'laws.FnExactCountIn'. -/
def fnExactCountInUptoCard : Claim7 := { stood := { row := fnExactCountInUptoRow, standIns := [], harness := (true, "885d3ef68198a08e0a9504c48359ecc87d8a1127f079a7206ae41e1b870df506"), looks := true }, kinds := [], alts := [], laidByText := true, laidKinds := [.data, .pinned], laidTests := true, laidLooks := .later }
def FnExactCountInUptoCardSaid : Prop := Claim7.holds Tryd.pinned (.plain (OpenSpec.upto fnExactCountInSpec)) fnExactCountInUptoCard

/-- THE SECOND FORM's CARD OF 'laws.FnExactSameValue'. -/
def fnExactSameValueUptoCard : Claim7 := { stood := { row := fnExactSameValueUptoRow, standIns := [], harness := (true, "885d3ef68198a08e0a9504c48359ecc87d8a1127f079a7206ae41e1b870df506"), looks := true }, kinds := [], alts := [], laidByText := true, laidKinds := [.data, .pinned], laidTests := true, laidLooks := .later }
def FnExactSameValueUptoCardSaid : Prop := Claim7.holds Tryd.pinned (.plain (OpenSpec.upto fnExactSameValueSpec)) fnExactSameValueUptoCard

/-- THE SECOND FORM's CARD OF 'laws.FnExactGoodSignature'. -/
def fnExactGoodSignatureUptoCard : Claim7 := { stood := { row := fnExactGoodSignatureUptoRow, standIns := [], harness := (true, "885d3ef68198a08e0a9504c48359ecc87d8a1127f079a7206ae41e1b870df506"), looks := true }, kinds := [], alts := [], laidByText := true, laidKinds := [.data, .data, .data, .sentinel, .sentinel], laidTests := true, laidLooks := .later }
def FnExactGoodSignatureUptoCardSaid : Prop := Claim7.holds Tryd.pinned (.plain (OpenSpec.upto fnExactGoodSignatureSpec)) fnExactGoodSignatureUptoCard

/-- THE SECOND FORM's CARD OF 'laws.FnExactSubtypeOf'. -/
def fnExactSubtypeOfUptoCard : Claim7 := { stood := { row := fnExactSubtypeOfUptoRow, standIns := [], harness := (true, "885d3ef68198a08e0a9504c48359ecc87d8a1127f079a7206ae41e1b870df506"), looks := true }, kinds := [], alts := [], laidByText := true, laidKinds := [.data, .data, .data, .sentinel, .sentinel], laidTests := true, laidLooks := .later }
def FnExactSubtypeOfUptoCardSaid : Prop := Claim7.holds Tryd.pinned (.plain (OpenSpec.upto fnExactSubtypeOfSpec)) fnExactSubtypeOfUptoCard

/-- THE SECOND FORM's CARD OF 'laws.FnExactValueText'. -/
def fnExactValueTextUptoCard : Claim7 := { stood := { row := fnExactValueTextUptoRow, standIns := [], harness := (true, "885d3ef68198a08e0a9504c48359ecc87d8a1127f079a7206ae41e1b870df506"), looks := true }, kinds := [], alts := [], laidByText := true, laidKinds := [.data, .data, .data, .data, .pinned], laidTests := true, laidLooks := .later }
def FnExactValueTextUptoCardSaid : Prop := Claim7.holds Tryd.pinned (.plain (OpenSpec.upto fnExactValueTextSpec)) fnExactValueTextUptoCard
end Rows
end Go.Proofs.YtljdidlkiknknaaDoor
