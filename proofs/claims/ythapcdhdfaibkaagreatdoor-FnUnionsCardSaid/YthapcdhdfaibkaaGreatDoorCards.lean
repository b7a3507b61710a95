/-
  DERIVED. GIVEN WITH THE SEED: THE CARDS: each row of YthapcdhdfaibkaaGreatDoorRows.lean that lists a variable, with what it lists TIED to the program's text (the seventh form; the later family's looks); each row that meets fmt, with fmt's text TOLD by the authors' own Lean function (tested against real Go, not proved from fmt's source: count such statements apart). THE CARD IS WHAT COUNTS. Prove the row's statement (the work); the ties are given (YthapcdhdfaibkaaGreatDoorTie.lean); close each card by the builder's one call (the guide's Derived/Test/ToyasCard.lean, 'card_holds'). Laid BY PROGRAM, IN A SANDBOX (cutbox-door.mjs). By AI agents, Wed Nov 11 2026. No macro, syntax, notation, axiom, sorry.
-/
import Derived.Test.YthapcdhdfaibkaaGreatDoorRows
import GoSem.ClaimSeven
namespace Go.Proofs.YthapcdhdfaibkaaGreatDoor
namespace Rows

/-- THE TIED CARD OF 'laws.FnGuards'. -/
def fnGuardsCard : Claim7 := { stood := { row := fnGuardsRow, standIns := [], harness := (true, "1945c236c3a6dead28e8e5aca192477fb0fbaf8fc1e9613cad2bce1d6e203dc8"), looks := false }, kinds := [], alts := [], laidByText := true, laidKinds := [.data, .data, .data], laidTests := true, laidLooks := .later }
def FnGuardsCardSaid : Prop := Claim7.holds Tryz.pinned (.plain (OpenSpec.ofChange fnGuardsSpec)) fnGuardsCard

/-- THE TIED CARD OF 'laws.FnUnions'. -/
def fnUnionsCard : Claim7 := { stood := { row := fnUnionsRow, standIns := [], harness := (true, "1945c236c3a6dead28e8e5aca192477fb0fbaf8fc1e9613cad2bce1d6e203dc8"), looks := false }, kinds := [], alts := [], laidByText := true, laidKinds := [.data, .data, .data], laidTests := true, laidLooks := .later }
def FnUnionsCardSaid : Prop := Claim7.holds Tryz.pinned (.plain (OpenSpec.ofChange fnUnionsSpec)) fnUnionsCard

/-- THE TIED CARD OF 'laws.FnProofs'. -/
def fnProofsCard : Claim7 := { stood := { row := fnProofsRow, standIns := [], harness := (true, "1945c236c3a6dead28e8e5aca192477fb0fbaf8fc1e9613cad2bce1d6e203dc8"), looks := false }, kinds := [], alts := [], laidByText := true, laidKinds := [.data, .data, .data], laidTests := true, laidLooks := .later }
def FnProofsCardSaid : Prop := Claim7.holds Tryz.pinned (.plain (OpenSpec.ofChange fnProofsSpec)) fnProofsCard

/-- THE SECOND FORM's CARD OF 'laws.FnGuards'. -/
def fnGuardsUptoCard : Claim7 := { stood := { row := fnGuardsUptoRow, standIns := [], harness := (true, "1945c236c3a6dead28e8e5aca192477fb0fbaf8fc1e9613cad2bce1d6e203dc8"), looks := false }, kinds := [], alts := [], laidByText := true, laidKinds := [.data, .data, .data], laidTests := true, laidLooks := .later }
def FnGuardsUptoCardSaid : Prop := Claim7.holds Tryz.pinned (.plain (OpenSpec.upto fnGuardsSpec)) fnGuardsUptoCard

/-- THE SECOND FORM's CARD OF 'laws.FnUnions'. -/
def fnUnionsUptoCard : Claim7 := { stood := { row := fnUnionsUptoRow, standIns := [], harness := (true, "1945c236c3a6dead28e8e5aca192477fb0fbaf8fc1e9613cad2bce1d6e203dc8"), looks := false }, kinds := [], alts := [], laidByText := true, laidKinds := [.data, .data, .data], laidTests := true, laidLooks := .later }
def FnUnionsUptoCardSaid : Prop := Claim7.holds Tryz.pinned (.plain (OpenSpec.upto fnUnionsSpec)) fnUnionsUptoCard

/-- THE SECOND FORM's CARD OF 'laws.FnProofs'. -/
def fnProofsUptoCard : Claim7 := { stood := { row := fnProofsUptoRow, standIns := [], harness := (true, "1945c236c3a6dead28e8e5aca192477fb0fbaf8fc1e9613cad2bce1d6e203dc8"), looks := false }, kinds := [], alts := [], laidByText := true, laidKinds := [.data, .data, .data], laidTests := true, laidLooks := .later }
def FnProofsUptoCardSaid : Prop := Claim7.holds Tryz.pinned (.plain (OpenSpec.upto fnProofsSpec)) fnProofsUptoCard
end Rows
end Go.Proofs.YthapcdhdfaibkaaGreatDoor
