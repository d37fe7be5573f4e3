/-
  DERIVED. GIVEN WITH THE SEED: THE CARDS: each row of YtalmddmghdinkaaGreatDoorRows.lean that lists a variable, with what it lists TIED to the program's text (the seventh form; the later family's looks); each row that meets fmt, with fmt's text TOLD by the authors' own Lean function (tested against real Go, not proved from fmt's source: count such statements apart). THE CARD IS WHAT COUNTS. Prove the row's statement (the work); the ties are given (YtalmddmghdinkaaGreatDoorTie.lean); close each card by the builder's one call (the guide's Derived/Test/ToyasCard.lean, 'card_holds'). Laid BY PROGRAM, IN A SANDBOX (cutbox-door.mjs). By AI agents, Wed Nov 11 2026. No macro, syntax, notation, axiom, sorry.
-/
import Derived.Test.YtalmddmghdinkaaGreatDoorRows
import GoSem.ClaimSeven
namespace Go.Proofs.YtalmddmghdinkaaGreatDoor
namespace Rows

/-- THE TIED CARD OF 'gantrylaw33.PromiseTells'. -/
def promiseTellsCard : Claim7 := { stood := { row := promiseTellsRow, standIns := [], harness := (true, "65530d9ec18ffe65f71d4a0d22e57b0c98ffb5bef8efc47813bb5cac28b07949"), looks := true }, kinds := [], alts := [], laidByText := true, laidKinds := [.funcsDeep, .funcs], laidTests := true, laidLooks := .later }
def PromiseTellsCardSaid : Prop := Claim7.holds Tryz.pinned (.plain (OpenSpec.ofChange promiseTellsSpec)) promiseTellsCard

/-- THE TIED CARD OF 'gantrylaw33.PromiseBytes'. -/
def promiseBytesCard : Claim7 := { stood := { row := promiseBytesRow, standIns := [], harness := (true, "65530d9ec18ffe65f71d4a0d22e57b0c98ffb5bef8efc47813bb5cac28b07949"), looks := true }, kinds := [], alts := [], laidByText := true, laidKinds := [.funcsDeep, .funcs], laidTests := true, laidLooks := .later }
def PromiseBytesCardSaid : Prop := Claim7.holds Tryz.pinned (.plain (OpenSpec.ofChange promiseBytesSpec)) promiseBytesCard

/-- THE SECOND FORM's CARD OF 'gantrylaw33.PromiseTells'. -/
def promiseTellsUptoCard : Claim7 := { stood := { row := promiseTellsUptoRow, standIns := [], harness := (true, "65530d9ec18ffe65f71d4a0d22e57b0c98ffb5bef8efc47813bb5cac28b07949"), looks := true }, kinds := [], alts := [], laidByText := true, laidKinds := [.funcsDeep, .funcs], laidTests := true, laidLooks := .later }
def PromiseTellsUptoCardSaid : Prop := Claim7.holds Tryz.pinned (.plain (OpenSpec.upto promiseTellsSpec)) promiseTellsUptoCard

/-- THE SECOND FORM's CARD OF 'gantrylaw33.PromiseBytes'. -/
def promiseBytesUptoCard : Claim7 := { stood := { row := promiseBytesUptoRow, standIns := [], harness := (true, "65530d9ec18ffe65f71d4a0d22e57b0c98ffb5bef8efc47813bb5cac28b07949"), looks := true }, kinds := [], alts := [], laidByText := true, laidKinds := [.funcsDeep, .funcs], laidTests := true, laidLooks := .later }
def PromiseBytesUptoCardSaid : Prop := Claim7.holds Tryz.pinned (.plain (OpenSpec.upto promiseBytesSpec)) promiseBytesUptoCard
end Rows
end Go.Proofs.YtalmddmghdinkaaGreatDoor
