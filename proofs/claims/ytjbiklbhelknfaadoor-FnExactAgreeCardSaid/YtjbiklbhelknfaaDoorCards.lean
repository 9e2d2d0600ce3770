/-
  DERIVED. GIVEN WITH THE SEED: THE CARDS: each row of YtjbiklbhelknfaaDoorRows.lean that lists a variable, with what it lists TIED to the program's text (the seventh form; the later family's looks); each row that meets fmt, with fmt's text TOLD by the authors' own Lean function (tested against real Go, not proved from fmt's source: count such statements apart). THE CARD IS WHAT COUNTS. Prove the row's statement (the work); the ties are given (YtjbiklbhelknfaaDoorTie.lean); close each card by the builder's one call (the guide's Derived/Test/ToyasCard.lean, 'card_holds'). Laid BY PROGRAM, IN A SANDBOX (cutbox-door.mjs). By AI agents, Wed Nov 11 2026. No macro, syntax, notation, axiom, sorry.
-/
import Derived.Test.YtjbiklbhelknfaaDoorRows
import GoSem.ClaimSeven
namespace Go.Proofs.YtjbiklbhelknfaaDoor
namespace Rows

/-- THE TIED CARD OF 'laws.FnExactPutMessage'. -/
def fnExactPutMessageCard : Claim7 := { stood := { row := fnExactPutMessageRow, standIns := [], harness := (true, "69690de8bb2ce89a53c4f1427a2aece10e98ec3d4970b2561b8f029f3fd69923"), looks := false }, kinds := [], alts := [], laidByText := true, laidKinds := [.data], laidTests := true, laidLooks := .later }
def FnExactPutMessageCardSaid : Prop := Claim7.holds Tryd.pinned (.plain (OpenSpec.ofChange fnExactPutMessageSpec)) fnExactPutMessageCard

/-- THE TIED CARD OF 'laws.FnExactHashToField'. -/
def fnExactHashToFieldCard : Claim7 := { stood := { row := fnExactHashToFieldRow, standIns := [], harness := (true, "69690de8bb2ce89a53c4f1427a2aece10e98ec3d4970b2561b8f029f3fd69923"), looks := false }, kinds := [], alts := [], laidByText := true, laidKinds := [.data], laidTests := true, laidLooks := .later }
def FnExactHashToFieldCardSaid : Prop := Claim7.holds Tryd.pinned (.plain (OpenSpec.ofChange fnExactHashToFieldSpec)) fnExactHashToFieldCard

/-- THE TIED CARD OF 'laws.FnExactAgree'. -/
def fnExactAgreeCard : Claim7 := { stood := { row := fnExactAgreeRow, standIns := [], harness := (true, "69690de8bb2ce89a53c4f1427a2aece10e98ec3d4970b2561b8f029f3fd69923"), looks := false }, kinds := [], alts := [], laidByText := true, laidKinds := [.data, .data], laidTests := true, laidLooks := .later }
def FnExactAgreeCardSaid : Prop := Claim7.holds Tryd.pinned (.plain (OpenSpec.ofChange fnExactAgreeSpec)) fnExactAgreeCard

/-- THE SECOND FORM's CARD OF 'laws.FnExactPutMessage'. -/
def fnExactPutMessageUptoCard : Claim7 := { stood := { row := fnExactPutMessageUptoRow, standIns := [], harness := (true, "69690de8bb2ce89a53c4f1427a2aece10e98ec3d4970b2561b8f029f3fd69923"), looks := false }, kinds := [], alts := [], laidByText := true, laidKinds := [.data], laidTests := true, laidLooks := .later }
def FnExactPutMessageUptoCardSaid : Prop := Claim7.holds Tryd.pinned (.plain (OpenSpec.upto fnExactPutMessageSpec)) fnExactPutMessageUptoCard

/-- THE SECOND FORM's CARD OF 'laws.FnExactHashToField'. -/
def fnExactHashToFieldUptoCard : Claim7 := { stood := { row := fnExactHashToFieldUptoRow, standIns := [], harness := (true, "69690de8bb2ce89a53c4f1427a2aece10e98ec3d4970b2561b8f029f3fd69923"), looks := false }, kinds := [], alts := [], laidByText := true, laidKinds := [.data], laidTests := true, laidLooks := .later }
def FnExactHashToFieldUptoCardSaid : Prop := Claim7.holds Tryd.pinned (.plain (OpenSpec.upto fnExactHashToFieldSpec)) fnExactHashToFieldUptoCard

/-- THE SECOND FORM's CARD OF 'laws.FnExactAgree'. -/
def fnExactAgreeUptoCard : Claim7 := { stood := { row := fnExactAgreeUptoRow, standIns := [], harness := (true, "69690de8bb2ce89a53c4f1427a2aece10e98ec3d4970b2561b8f029f3fd69923"), looks := false }, kinds := [], alts := [], laidByText := true, laidKinds := [.data, .data], laidTests := true, laidLooks := .later }
def FnExactAgreeUptoCardSaid : Prop := Claim7.holds Tryd.pinned (.plain (OpenSpec.upto fnExactAgreeSpec)) fnExactAgreeUptoCard
end Rows
end Go.Proofs.YtjbiklbhelknfaaDoor
