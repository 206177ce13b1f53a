/-
  DERIVED. GIVEN WITH THE SEED: THE CARDS: each row of YtlfoojgbiafffaaGreatDoorRows.lean that lists a variable, with what it lists TIED to the program's text (the seventh form; the later family's looks); each row that meets fmt, with fmt's text TOLD by the authors' own Lean function (tested against real Go, not proved from fmt's source: count such statements apart). THE CARD IS WHAT COUNTS. Prove the row's statement (the work); the ties are given (YtlfoojgbiafffaaGreatDoorTie.lean); close each card by the builder's one call (the guide's Derived/Test/ToyasCard.lean, 'card_holds'). Laid BY PROGRAM, IN A SANDBOX (cutbox-door.mjs). By AI agents, Wed Nov 11 2026. No macro, syntax, notation, axiom, sorry.
-/
import Derived.Test.YtlfoojgbiafffaaGreatDoorRows
import GoSem.ClaimSeven
namespace Go.Proofs.YtlfoojgbiafffaaGreatDoor
namespace Rows

/-- THE TIED CARD OF 'laws.FnMessages'. -/
def fnMessagesCard : Claim7 := { stood := { row := fnMessagesRow, standIns := [], harness := (true, "4779e24cbbc8c03046c490fdc2b22af72e24fc18d3be570008251a23b9564e73"), looks := true }, kinds := [], alts := [], laidByText := true, laidKinds := [.data, .data, .data, .data, .sentinel, .sentinel, .widerDeep, .widerDeep, .pinned, .pinned], laidTests := true, laidLooks := .later }
def FnMessagesCardSaid : Prop := Claim7.holds Tryz.pinned (.plain (OpenSpec.ofChange fnMessagesSpec)) fnMessagesCard

/-- THE TIED CARD OF 'laws.FnExactReadBulletin'. -/
def fnExactReadBulletinCard : Claim7 := { stood := { row := fnExactReadBulletinRow, standIns := [], harness := (true, "4779e24cbbc8c03046c490fdc2b22af72e24fc18d3be570008251a23b9564e73"), looks := true }, kinds := [], alts := [], laidByText := true, laidKinds := [.data, .data, .data, .data, .sentinel, .sentinel, .widerDeep, .widerDeep, .pinned, .pinned], laidTests := true, laidLooks := .later }
def FnExactReadBulletinCardSaid : Prop := Claim7.holds Tryz.pinned (.plain (OpenSpec.ofChange fnExactReadBulletinSpec)) fnExactReadBulletinCard

/-- THE TIED CARD OF 'laws.FnBulletins'. -/
def fnBulletinsCard : Claim7 := { stood := { row := fnBulletinsRow, standIns := [], harness := (true, "4779e24cbbc8c03046c490fdc2b22af72e24fc18d3be570008251a23b9564e73"), looks := true }, kinds := [], alts := [], laidByText := true, laidKinds := [.data, .data, .data, .data, .sentinel, .sentinel, .widerDeep, .widerDeep, .pinned, .pinned], laidTests := true, laidLooks := .later }
def FnBulletinsCardSaid : Prop := Claim7.holds Tryz.pinned (.plain (OpenSpec.ofChange fnBulletinsSpec)) fnBulletinsCard

/-- THE SECOND FORM's CARD OF 'laws.FnMessages'. -/
def fnMessagesUptoCard : Claim7 := { stood := { row := fnMessagesUptoRow, standIns := [], harness := (true, "4779e24cbbc8c03046c490fdc2b22af72e24fc18d3be570008251a23b9564e73"), looks := true }, kinds := [], alts := [], laidByText := true, laidKinds := [.data, .data, .data, .data, .sentinel, .sentinel, .widerDeep, .widerDeep, .pinned, .pinned], laidTests := true, laidLooks := .later }
def FnMessagesUptoCardSaid : Prop := Claim7.holds Tryz.pinned (.plain (OpenSpec.upto fnMessagesSpec)) fnMessagesUptoCard

/-- THE SECOND FORM's CARD OF 'laws.FnExactReadBulletin'. -/
def fnExactReadBulletinUptoCard : Claim7 := { stood := { row := fnExactReadBulletinUptoRow, standIns := [], harness := (true, "4779e24cbbc8c03046c490fdc2b22af72e24fc18d3be570008251a23b9564e73"), looks := true }, kinds := [], alts := [], laidByText := true, laidKinds := [.data, .data, .data, .data, .sentinel, .sentinel, .widerDeep, .widerDeep, .pinned, .pinned], laidTests := true, laidLooks := .later }
def FnExactReadBulletinUptoCardSaid : Prop := Claim7.holds Tryz.pinned (.plain (OpenSpec.upto fnExactReadBulletinSpec)) fnExactReadBulletinUptoCard

/-- THE SECOND FORM's CARD OF 'laws.FnBulletins'. -/
def fnBulletinsUptoCard : Claim7 := { stood := { row := fnBulletinsUptoRow, standIns := [], harness := (true, "4779e24cbbc8c03046c490fdc2b22af72e24fc18d3be570008251a23b9564e73"), looks := true }, kinds := [], alts := [], laidByText := true, laidKinds := [.data, .data, .data, .data, .sentinel, .sentinel, .widerDeep, .widerDeep, .pinned, .pinned], laidTests := true, laidLooks := .later }
def FnBulletinsUptoCardSaid : Prop := Claim7.holds Tryz.pinned (.plain (OpenSpec.upto fnBulletinsSpec)) fnBulletinsUptoCard
end Rows
end Go.Proofs.YtlfoojgbiafffaaGreatDoor
