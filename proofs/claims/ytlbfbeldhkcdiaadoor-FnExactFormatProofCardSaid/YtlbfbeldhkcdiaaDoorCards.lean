/-
  DERIVED. GIVEN WITH THE SEED: THE CARDS: each row of YtlbfbeldhkcdiaaDoorRows.lean that lists a variable, with what it lists TIED to the program's text (the seventh form; the later family's looks); each row that meets fmt, with fmt's text TOLD by the authors' own Lean function (tested against real Go, not proved from fmt's source: count such statements apart). THE CARD IS WHAT COUNTS. Prove the row's statement (the work); the ties are given (YtlbfbeldhkcdiaaDoorTie.lean); close each card by the builder's one call (the guide's Derived/Test/ToyasCard.lean, 'card_holds'). Laid BY PROGRAM, IN A SANDBOX (cutbox-door.mjs). By AI agents, Wed Nov 11 2026. No macro, syntax, notation, axiom, sorry.
-/
import Derived.Test.YtlbfbeldhkcdiaaDoorRows
import GoSem.ClaimSeven
namespace Go.Proofs.YtlbfbeldhkcdiaaDoor
namespace Rows

/-- THE TIED CARD OF 'laws.FnExactFormatRule'. -/
def fnExactFormatRuleCard : Claim7 := { stood := { row := fnExactFormatRuleRow, standIns := [], harness := (true, "e586f2fbcc0684065e6b40611c65ff83417e65defdf694972838e1aabec38485"), looks := false }, kinds := [], alts := [], laidByText := true, laidKinds := [.data, .data, .data], laidTests := true, laidLooks := .later }
def FnExactFormatRuleCardSaid : Prop := Claim7.holds Tryd.pinned (.plain (OpenSpec.ofChange fnExactFormatRuleSpec)) fnExactFormatRuleCard

/-- THE TIED CARD OF 'laws.FnExactFormatUnion'. -/
def fnExactFormatUnionCard : Claim7 := { stood := { row := fnExactFormatUnionRow, standIns := [], harness := (true, "e586f2fbcc0684065e6b40611c65ff83417e65defdf694972838e1aabec38485"), looks := false }, kinds := [], alts := [], laidByText := true, laidKinds := [.data, .data, .data], laidTests := true, laidLooks := .later }
def FnExactFormatUnionCardSaid : Prop := Claim7.holds Tryd.pinned (.plain (OpenSpec.ofChange fnExactFormatUnionSpec)) fnExactFormatUnionCard

/-- THE TIED CARD OF 'laws.FnExactFormatGuarded'. -/
def fnExactFormatGuardedCard : Claim7 := { stood := { row := fnExactFormatGuardedRow, standIns := [], harness := (true, "e586f2fbcc0684065e6b40611c65ff83417e65defdf694972838e1aabec38485"), looks := false }, kinds := [], alts := [], laidByText := true, laidKinds := [.data, .data, .data], laidTests := true, laidLooks := .later }
def FnExactFormatGuardedCardSaid : Prop := Claim7.holds Tryd.pinned (.plain (OpenSpec.ofChange fnExactFormatGuardedSpec)) fnExactFormatGuardedCard

/-- THE TIED CARD OF 'laws.FnExactFormatProof'. -/
def fnExactFormatProofCard : Claim7 := { stood := { row := fnExactFormatProofRow, standIns := [], harness := (true, "e586f2fbcc0684065e6b40611c65ff83417e65defdf694972838e1aabec38485"), looks := false }, kinds := [], alts := [], laidByText := true, laidKinds := [.data, .data, .data], laidTests := true, laidLooks := .later }
def FnExactFormatProofCardSaid : Prop := Claim7.holds Tryd.pinned (.plain (OpenSpec.ofChange fnExactFormatProofSpec)) fnExactFormatProofCard

/-- THE SECOND FORM's CARD OF 'laws.FnExactFormatRule'. -/
def fnExactFormatRuleUptoCard : Claim7 := { stood := { row := fnExactFormatRuleUptoRow, standIns := [], harness := (true, "e586f2fbcc0684065e6b40611c65ff83417e65defdf694972838e1aabec38485"), looks := false }, kinds := [], alts := [], laidByText := true, laidKinds := [.data, .data, .data], laidTests := true, laidLooks := .later }
def FnExactFormatRuleUptoCardSaid : Prop := Claim7.holds Tryd.pinned (.plain (OpenSpec.upto fnExactFormatRuleSpec)) fnExactFormatRuleUptoCard

/-- THE SECOND FORM's CARD OF 'laws.FnExactFormatUnion'. -/
def fnExactFormatUnionUptoCard : Claim7 := { stood := { row := fnExactFormatUnionUptoRow, standIns := [], harness := (true, "e586f2fbcc0684065e6b40611c65ff83417e65defdf694972838e1aabec38485"), looks := false }, kinds := [], alts := [], laidByText := true, laidKinds := [.data, .data, .data], laidTests := true, laidLooks := .later }
def FnExactFormatUnionUptoCardSaid : Prop := Claim7.holds Tryd.pinned (.plain (OpenSpec.upto fnExactFormatUnionSpec)) fnExactFormatUnionUptoCard

/-- THE SECOND FORM's CARD OF 'laws.FnExactFormatGuarded'. -/
def fnExactFormatGuardedUptoCard : Claim7 := { stood := { row := fnExactFormatGuardedUptoRow, standIns := [], harness := (true, "e586f2fbcc0684065e6b40611c65ff83417e65defdf694972838e1aabec38485"), looks := false }, kinds := [], alts := [], laidByText := true, laidKinds := [.data, .data, .data], laidTests := true, laidLooks := .later }
def FnExactFormatGuardedUptoCardSaid : Prop := Claim7.holds Tryd.pinned (.plain (OpenSpec.upto fnExactFormatGuardedSpec)) fnExactFormatGuardedUptoCard

/-- THE SECOND FORM's CARD OF 'laws.FnExactFormatProof'. -/
def fnExactFormatProofUptoCard : Claim7 := { stood := { row := fnExactFormatProofUptoRow, standIns := [], harness := (true, "e586f2fbcc0684065e6b40611c65ff83417e65defdf694972838e1aabec38485"), looks := false }, kinds := [], alts := [], laidByText := true, laidKinds := [.data, .data, .data], laidTests := true, laidLooks := .later }
def FnExactFormatProofUptoCardSaid : Prop := Claim7.holds Tryd.pinned (.plain (OpenSpec.upto fnExactFormatProofSpec)) fnExactFormatProofUptoCard
end Rows
end Go.Proofs.YtlbfbeldhkcdiaaDoor
