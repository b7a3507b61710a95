/-
  No cell of these rows narrows 'for every input' (looked for: loops, veiled, ifaces, maps, wideKeys, modest, calm, conditions, laid).
  DERIVED. THE GIVEN ROWS OF THIS SEAT. 11 by the template 'for every input the law returns true; each argument reads behind the call as it read before'; 0 by the template 'total and deterministic' (their statements: YtnagfcajnbkdoaaTotals.lean).
  GIVEN WITH THE SEED: the statements are not yours to turn. If you find one false, say at which input.
  Laid BY PROGRAM, IN A SANDBOX (cutbox-rows.mjs): the forced cells as the released guide's own fill.sh prints them over the translation ae223313cfc761dc… (all of the seat's roots in one cut). By AI agents, Wed Nov 11 2026. No macro, syntax, notation, axiom, sorry.
-/
import Derived.Test.YtnagfcajnbkdoaaChecked
import GoSem.Claim
import GoSem.ClaimJoined
import GoSem.ClaimMapViews
import Derived.JoinedTies
import Derived.KernelRfl
namespace Go.Proofs.Ytnagfcajnbkdoaa
/- THE CELL 'sum', in the pinned program and in every row, IS THE sha256 OF THE DUMP (.gsa) THAT YtnagfcajnbkdoaaProg.lean LOADS. Nothing in Lean hashes anything: it is a label: what it is worth is what the hold of that sum in a sandbox is worth. -/
noncomputable def Try.pinned : Pinned := { name := "ytnagfcajnbkdoaa", sum := "ae223313cfc761dcf0694636a348b47b61dd4b34fbeeade7aa80956d905dfe9d", checked := Try.checked }
namespace Rows
def none {H : Type} : Left H := { results := [], args := [] }

/-- 'laws.FnExactDropAtom': WHATEVER THE INPUT: true; the input reads as it did. -/
def fnExactDropAtomSpec : ChangeSpec := { name := "fnExactDropAtom", fn := fun _ => fun
  | [d1, d2] => { results := [.lit (.bool true)], args := [d1, d2] }
  | _ => none }
def fnExactDropAtomRow : OpenClaim := { program := "ytnagfcajnbkdoaa", sum := "ae223313cfc761dcf0694636a348b47b61dd4b34fbeeade7aa80956d905dfe9d", func := "loop.example/g01989/laws.FnExactDropAtom", spec := "fnExactDropAtom", apart := false }
def FnExactDropAtomSaid : Prop := fnExactDropAtomRow.holds Try.pinned (OpenSpec.ofChange fnExactDropAtomSpec)

/-- ITS FALSE NEIGHBOUR: 'it returns false'. Refute it at one input. -/
def fnExactDropAtomWrong : ChangeSpec := { name := "fnExactDropAtom", fn := fun _ => fun
  | [d1, d2] => { results := [.lit (.bool false)], args := [d1, d2] }
  | _ => none }
def FnExactDropAtomWrongFalsely : Prop := fnExactDropAtomRow.holds Try.pinned (OpenSpec.ofChange fnExactDropAtomWrong)

/-- 'laws.FnExactEqualReached': WHATEVER THE INPUT: true; the input reads as it did. -/
def fnExactEqualReachedSpec : ChangeSpec := { name := "fnExactEqualReached", fn := fun _ => fun
  | [d1, d2] => { results := [.lit (.bool true)], args := [d1, d2] }
  | _ => none }
def fnExactEqualReachedRow : OpenClaim := { program := "ytnagfcajnbkdoaa", sum := "ae223313cfc761dcf0694636a348b47b61dd4b34fbeeade7aa80956d905dfe9d", func := "loop.example/g01989/laws.FnExactEqualReached", spec := "fnExactEqualReached", unfollowed := true, recurses := true, apart := false }
def FnExactEqualReachedSaid : Prop := fnExactEqualReachedRow.holds Try.pinned (OpenSpec.ofChange fnExactEqualReachedSpec)

/-- ITS FALSE NEIGHBOUR: 'it returns false'. Refute it at one input. -/
def fnExactEqualReachedWrong : ChangeSpec := { name := "fnExactEqualReached", fn := fun _ => fun
  | [d1, d2] => { results := [.lit (.bool false)], args := [d1, d2] }
  | _ => none }
def FnExactEqualReachedWrongFalsely : Prop := fnExactEqualReachedRow.holds Try.pinned (OpenSpec.ofChange fnExactEqualReachedWrong)

/-- 'laws.FnExactIsMapping': WHATEVER THE INPUT: true; the input reads as it did. -/
def fnExactIsMappingSpec : ChangeSpec := { name := "fnExactIsMapping", fn := fun _ => fun
  | [d1, d2, d3, d4] => { results := [.lit (.bool true)], args := [d1, d2, d3, d4] }
  | _ => none }
def fnExactIsMappingRow : OpenClaim := { program := "ytnagfcajnbkdoaa", sum := "ae223313cfc761dcf0694636a348b47b61dd4b34fbeeade7aa80956d905dfe9d", func := "loop.example/g01989/laws.FnExactIsMapping", spec := "fnExactIsMapping", unfollowed := true, recurses := true, apart := false }
def FnExactIsMappingSaid : Prop := fnExactIsMappingRow.holds Try.pinned (OpenSpec.ofChange fnExactIsMappingSpec)

/-- ITS FALSE NEIGHBOUR: 'it returns false'. Refute it at one input. -/
def fnExactIsMappingWrong : ChangeSpec := { name := "fnExactIsMapping", fn := fun _ => fun
  | [d1, d2, d3, d4] => { results := [.lit (.bool false)], args := [d1, d2, d3, d4] }
  | _ => none }
def FnExactIsMappingWrongFalsely : Prop := fnExactIsMappingRow.holds Try.pinned (OpenSpec.ofChange fnExactIsMappingWrong)

/-- 'laws.FnExactDeriveFact': WHATEVER THE INPUT: true; the input reads as it did. -/
def fnExactDeriveFactSpec : ChangeSpec := { name := "fnExactDeriveFact", fn := fun _ => fun
  | [d1, d2, d3, d4] => { results := [.lit (.bool true)], args := [d1, d2, d3, d4] }
  | _ => none }
def fnExactDeriveFactRow : OpenClaim := { program := "ytnagfcajnbkdoaa", sum := "ae223313cfc761dcf0694636a348b47b61dd4b34fbeeade7aa80956d905dfe9d", func := "loop.example/g01989/laws.FnExactDeriveFact", spec := "fnExactDeriveFact", unfollowed := true, recurses := true, apart := false }
def FnExactDeriveFactSaid : Prop := fnExactDeriveFactRow.holds Try.pinned (OpenSpec.ofChange fnExactDeriveFactSpec)

/-- ITS FALSE NEIGHBOUR: 'it returns false'. Refute it at one input. -/
def fnExactDeriveFactWrong : ChangeSpec := { name := "fnExactDeriveFact", fn := fun _ => fun
  | [d1, d2, d3, d4] => { results := [.lit (.bool false)], args := [d1, d2, d3, d4] }
  | _ => none }
def FnExactDeriveFactWrongFalsely : Prop := fnExactDeriveFactRow.holds Try.pinned (OpenSpec.ofChange fnExactDeriveFactWrong)

/-- 'laws.FnExactOpenAccesses': WHATEVER THE INPUT: true; the input reads as it did. -/
def fnExactOpenAccessesSpec : ChangeSpec := { name := "fnExactOpenAccesses", fn := fun _ => fun
  | [d1, d2, d3] => { results := [.lit (.bool true)], args := [d1, d2, d3] }
  | _ => none }
def fnExactOpenAccessesRow : OpenClaim := { program := "ytnagfcajnbkdoaa", sum := "ae223313cfc761dcf0694636a348b47b61dd4b34fbeeade7aa80956d905dfe9d", func := "loop.example/g01989/laws.FnExactOpenAccesses", spec := "fnExactOpenAccesses", unfollowed := true, recurses := true, apart := false }
def FnExactOpenAccessesSaid : Prop := fnExactOpenAccessesRow.holds Try.pinned (OpenSpec.ofChange fnExactOpenAccessesSpec)

/-- ITS FALSE NEIGHBOUR: 'it returns false'. Refute it at one input. -/
def fnExactOpenAccessesWrong : ChangeSpec := { name := "fnExactOpenAccesses", fn := fun _ => fun
  | [d1, d2, d3] => { results := [.lit (.bool false)], args := [d1, d2, d3] }
  | _ => none }
def FnExactOpenAccessesWrongFalsely : Prop := fnExactOpenAccessesRow.holds Try.pinned (OpenSpec.ofChange fnExactOpenAccessesWrong)

/-- 'laws.FnExactSatisfiesRules': WHATEVER THE INPUT: true; the input reads as it did. -/
def fnExactSatisfiesRulesSpec : ChangeSpec := { name := "fnExactSatisfiesRules", fn := fun _ => fun
  | [d1, d2, d3] => { results := [.lit (.bool true)], args := [d1, d2, d3] }
  | _ => none }
def fnExactSatisfiesRulesRow : OpenClaim := { program := "ytnagfcajnbkdoaa", sum := "ae223313cfc761dcf0694636a348b47b61dd4b34fbeeade7aa80956d905dfe9d", func := "loop.example/g01989/laws.FnExactSatisfiesRules", spec := "fnExactSatisfiesRules", inPlace := ["slices.overlaps[loop.example/g01989/impl.Fact]"], unfollowed := true, recurses := true, apart := false }
def FnExactSatisfiesRulesSaid : Prop := fnExactSatisfiesRulesRow.holds Try.pinned (OpenSpec.ofChange fnExactSatisfiesRulesSpec)

/-- ITS FALSE NEIGHBOUR: 'it returns false'. Refute it at one input. -/
def fnExactSatisfiesRulesWrong : ChangeSpec := { name := "fnExactSatisfiesRules", fn := fun _ => fun
  | [d1, d2, d3] => { results := [.lit (.bool false)], args := [d1, d2, d3] }
  | _ => none }
def FnExactSatisfiesRulesWrongFalsely : Prop := fnExactSatisfiesRulesRow.holds Try.pinned (OpenSpec.ofChange fnExactSatisfiesRulesWrong)

/-- 'laws.FnExactMissingFacts': WHATEVER THE INPUT: true; the input reads as it did. -/
def fnExactMissingFactsSpec : ChangeSpec := { name := "fnExactMissingFacts", fn := fun _ => fun
  | [d1, d2, d3] => { results := [.lit (.bool true)], args := [d1, d2, d3] }
  | _ => none }
def fnExactMissingFactsRow : OpenClaim := { program := "ytnagfcajnbkdoaa", sum := "ae223313cfc761dcf0694636a348b47b61dd4b34fbeeade7aa80956d905dfe9d", func := "loop.example/g01989/laws.FnExactMissingFacts", spec := "fnExactMissingFacts", inPlace := ["slices.overlaps[loop.example/g01989/impl.Fact]"], unfollowed := true, recurses := true, apart := false }
def FnExactMissingFactsSaid : Prop := fnExactMissingFactsRow.holds Try.pinned (OpenSpec.ofChange fnExactMissingFactsSpec)

/-- ITS FALSE NEIGHBOUR: 'it returns false'. Refute it at one input. -/
def fnExactMissingFactsWrong : ChangeSpec := { name := "fnExactMissingFacts", fn := fun _ => fun
  | [d1, d2, d3] => { results := [.lit (.bool false)], args := [d1, d2, d3] }
  | _ => none }
def FnExactMissingFactsWrongFalsely : Prop := fnExactMissingFactsRow.holds Try.pinned (OpenSpec.ofChange fnExactMissingFactsWrong)

/-- 'laws.FnExactStartReach': WHATEVER THE INPUT: true; the input reads as it did. -/
def fnExactStartReachSpec : ChangeSpec := { name := "fnExactStartReach", fn := fun _ => fun
  | [d] => { results := [.lit (.bool true)], args := [d] }
  | _ => none }
def fnExactStartReachRow : OpenClaim := { program := "ytnagfcajnbkdoaa", sum := "ae223313cfc761dcf0694636a348b47b61dd4b34fbeeade7aa80956d905dfe9d", func := "loop.example/g01989/laws.FnExactStartReach", spec := "fnExactStartReach", recurses := true, apart := false }
def FnExactStartReachSaid : Prop := fnExactStartReachRow.holds Try.pinned (OpenSpec.ofChange fnExactStartReachSpec)

/-- ITS FALSE NEIGHBOUR: 'it returns false'. Refute it at one input. -/
def fnExactStartReachWrong : ChangeSpec := { name := "fnExactStartReach", fn := fun _ => fun
  | [d] => { results := [.lit (.bool false)], args := [d] }
  | _ => none }
def FnExactStartReachWrongFalsely : Prop := fnExactStartReachRow.holds Try.pinned (OpenSpec.ofChange fnExactStartReachWrong)

/-- 'laws.FnExactCloseFacts': WHATEVER THE INPUT: true; the input reads as it did. -/
def fnExactCloseFactsSpec : ChangeSpec := { name := "fnExactCloseFacts", fn := fun _ => fun
  | [d1, d2, d3] => { results := [.lit (.bool true)], args := [d1, d2, d3] }
  | _ => none }
def fnExactCloseFactsRow : OpenClaim := { program := "ytnagfcajnbkdoaa", sum := "ae223313cfc761dcf0694636a348b47b61dd4b34fbeeade7aa80956d905dfe9d", func := "loop.example/g01989/laws.FnExactCloseFacts", spec := "fnExactCloseFacts", inPlace := ["slices.overlaps[loop.example/g01989/impl.Fact]"], unfollowed := true, recurses := true, apart := false }
def FnExactCloseFactsSaid : Prop := fnExactCloseFactsRow.holds Try.pinned (OpenSpec.ofChange fnExactCloseFactsSpec)

/-- ITS FALSE NEIGHBOUR: 'it returns false'. Refute it at one input. -/
def fnExactCloseFactsWrong : ChangeSpec := { name := "fnExactCloseFacts", fn := fun _ => fun
  | [d1, d2, d3] => { results := [.lit (.bool false)], args := [d1, d2, d3] }
  | _ => none }
def FnExactCloseFactsWrongFalsely : Prop := fnExactCloseFactsRow.holds Try.pinned (OpenSpec.ofChange fnExactCloseFactsWrong)

/-- 'laws.FnExactIsUnion': WHATEVER THE INPUT: true; the input reads as it did. -/
def fnExactIsUnionSpec : ChangeSpec := { name := "fnExactIsUnion", fn := fun _ => fun
  | [d1, d2] => { results := [.lit (.bool true)], args := [d1, d2] }
  | _ => none }
def fnExactIsUnionRow : OpenClaim := { program := "ytnagfcajnbkdoaa", sum := "ae223313cfc761dcf0694636a348b47b61dd4b34fbeeade7aa80956d905dfe9d", func := "loop.example/g01989/laws.FnExactIsUnion", spec := "fnExactIsUnion", unfollowed := true, recurses := true, apart := false }
def FnExactIsUnionSaid : Prop := fnExactIsUnionRow.holds Try.pinned (OpenSpec.ofChange fnExactIsUnionSpec)

/-- ITS FALSE NEIGHBOUR: 'it returns false'. Refute it at one input. -/
def fnExactIsUnionWrong : ChangeSpec := { name := "fnExactIsUnion", fn := fun _ => fun
  | [d1, d2] => { results := [.lit (.bool false)], args := [d1, d2] }
  | _ => none }
def FnExactIsUnionWrongFalsely : Prop := fnExactIsUnionRow.holds Try.pinned (OpenSpec.ofChange fnExactIsUnionWrong)

/-- 'laws.FnExactIsGuarded': WHATEVER THE INPUT: true; the input reads as it did. -/
def fnExactIsGuardedSpec : ChangeSpec := { name := "fnExactIsGuarded", fn := fun _ => fun
  | [d1, d2] => { results := [.lit (.bool true)], args := [d1, d2] }
  | _ => none }
def fnExactIsGuardedRow : OpenClaim := { program := "ytnagfcajnbkdoaa", sum := "ae223313cfc761dcf0694636a348b47b61dd4b34fbeeade7aa80956d905dfe9d", func := "loop.example/g01989/laws.FnExactIsGuarded", spec := "fnExactIsGuarded", unfollowed := true, recurses := true, apart := false }
def FnExactIsGuardedSaid : Prop := fnExactIsGuardedRow.holds Try.pinned (OpenSpec.ofChange fnExactIsGuardedSpec)

/-- ITS FALSE NEIGHBOUR: 'it returns false'. Refute it at one input. -/
def fnExactIsGuardedWrong : ChangeSpec := { name := "fnExactIsGuarded", fn := fun _ => fun
  | [d1, d2] => { results := [.lit (.bool false)], args := [d1, d2] }
  | _ => none }
def FnExactIsGuardedWrongFalsely : Prop := fnExactIsGuardedRow.holds Try.pinned (OpenSpec.ofChange fnExactIsGuardedWrong)

/- THE SECOND FORM. 'bulk': how many values and letters a reading holds, each counted each time it is reached (what is shared counts as often as it is met; a slice's spare places count too). A statement '..UptoSaid' is the law's where the arguments, and the package variables that the reading takes, are together of bulk at most 1048576: NARROWER than '..Said'. Prove '..Said' where nothing that the law and all that it calls make is longer than what came in: it says more and counts as full. Else prove '..UptoSaid'. A law counts once. -/
mutual
def uptoBulk {H : Type} : DataW H → Nat
  | .lit (.string bytes) => bytes.length + 1
  | .lit _ => 1
  | .nil => 1
  | .ptr d => uptoBulk d + 1
  | .slice elems spare => uptoBulkAll elems + uptoBulkAll spare + 1
  | .agg parts => uptoBulkAll parts + 1
  | .iface _ d => uptoBulk d + 1
  | .map entries => uptoBulkEntries entries + 1
  | .held _ => 1
def uptoBulkAll {H : Type} : List (DataW H) → Nat
  | [] => 0
  | d :: r => uptoBulk d + uptoBulkAll r
def uptoBulkEntries {H : Type} : List (Lit × DataW H) → Nat
  | [] => 0
  | x :: r => uptoBulkEntry x + uptoBulkEntries r
def uptoBulkEntry {H : Type} : Lit × DataW H → Nat
  | (.string bytes, d) => bytes.length + uptoBulk d + 1
  | (_, d) => uptoBulk d + 1
 end
def uptoSmall : (H : Type) → List (DataW H) → Bool := fun _ ds => decide (uptoBulkAll ds ≤ 1048576)
def OpenSpec.upto (s : _root_.Go.ChangeSpec) : _root_.Go.OpenSpec := { _root_.Go.OpenSpec.ofChange s with cond := some uptoSmall }

/-- 'laws.FnExactDropAtom', WHERE WHAT IT READS IS OF BULK AT MOST 1048576: true; the input reads as it did. -/
def fnExactDropAtomUptoRow : OpenClaim := { program := "ytnagfcajnbkdoaa", sum := "ae223313cfc761dcf0694636a348b47b61dd4b34fbeeade7aa80956d905dfe9d", func := "loop.example/g01989/laws.FnExactDropAtom", spec := "fnExactDropAtom", apart := false, narrowed := true }
def FnExactDropAtomUptoSaid : Prop := fnExactDropAtomUptoRow.holds Try.pinned (OpenSpec.upto fnExactDropAtomSpec)

/-- 'laws.FnExactEqualReached', WHERE WHAT IT READS IS OF BULK AT MOST 1048576: true; the input reads as it did. -/
def fnExactEqualReachedUptoRow : OpenClaim := { program := "ytnagfcajnbkdoaa", sum := "ae223313cfc761dcf0694636a348b47b61dd4b34fbeeade7aa80956d905dfe9d", func := "loop.example/g01989/laws.FnExactEqualReached", spec := "fnExactEqualReached", unfollowed := true, recurses := true, apart := false, narrowed := true }
def FnExactEqualReachedUptoSaid : Prop := fnExactEqualReachedUptoRow.holds Try.pinned (OpenSpec.upto fnExactEqualReachedSpec)

/-- 'laws.FnExactIsMapping', WHERE WHAT IT READS IS OF BULK AT MOST 1048576: true; the input reads as it did. -/
def fnExactIsMappingUptoRow : OpenClaim := { program := "ytnagfcajnbkdoaa", sum := "ae223313cfc761dcf0694636a348b47b61dd4b34fbeeade7aa80956d905dfe9d", func := "loop.example/g01989/laws.FnExactIsMapping", spec := "fnExactIsMapping", unfollowed := true, recurses := true, apart := false, narrowed := true }
def FnExactIsMappingUptoSaid : Prop := fnExactIsMappingUptoRow.holds Try.pinned (OpenSpec.upto fnExactIsMappingSpec)

/-- 'laws.FnExactDeriveFact', WHERE WHAT IT READS IS OF BULK AT MOST 1048576: true; the input reads as it did. -/
def fnExactDeriveFactUptoRow : OpenClaim := { program := "ytnagfcajnbkdoaa", sum := "ae223313cfc761dcf0694636a348b47b61dd4b34fbeeade7aa80956d905dfe9d", func := "loop.example/g01989/laws.FnExactDeriveFact", spec := "fnExactDeriveFact", unfollowed := true, recurses := true, apart := false, narrowed := true }
def FnExactDeriveFactUptoSaid : Prop := fnExactDeriveFactUptoRow.holds Try.pinned (OpenSpec.upto fnExactDeriveFactSpec)

/-- 'laws.FnExactOpenAccesses', WHERE WHAT IT READS IS OF BULK AT MOST 1048576: true; the input reads as it did. -/
def fnExactOpenAccessesUptoRow : OpenClaim := { program := "ytnagfcajnbkdoaa", sum := "ae223313cfc761dcf0694636a348b47b61dd4b34fbeeade7aa80956d905dfe9d", func := "loop.example/g01989/laws.FnExactOpenAccesses", spec := "fnExactOpenAccesses", unfollowed := true, recurses := true, apart := false, narrowed := true }
def FnExactOpenAccessesUptoSaid : Prop := fnExactOpenAccessesUptoRow.holds Try.pinned (OpenSpec.upto fnExactOpenAccessesSpec)

/-- 'laws.FnExactSatisfiesRules', WHERE WHAT IT READS IS OF BULK AT MOST 1048576: true; the input reads as it did. -/
def fnExactSatisfiesRulesUptoRow : OpenClaim := { program := "ytnagfcajnbkdoaa", sum := "ae223313cfc761dcf0694636a348b47b61dd4b34fbeeade7aa80956d905dfe9d", func := "loop.example/g01989/laws.FnExactSatisfiesRules", spec := "fnExactSatisfiesRules", inPlace := ["slices.overlaps[loop.example/g01989/impl.Fact]"], unfollowed := true, recurses := true, apart := false, narrowed := true }
def FnExactSatisfiesRulesUptoSaid : Prop := fnExactSatisfiesRulesUptoRow.holds Try.pinned (OpenSpec.upto fnExactSatisfiesRulesSpec)

/-- 'laws.FnExactMissingFacts', WHERE WHAT IT READS IS OF BULK AT MOST 1048576: true; the input reads as it did. -/
def fnExactMissingFactsUptoRow : OpenClaim := { program := "ytnagfcajnbkdoaa", sum := "ae223313cfc761dcf0694636a348b47b61dd4b34fbeeade7aa80956d905dfe9d", func := "loop.example/g01989/laws.FnExactMissingFacts", spec := "fnExactMissingFacts", inPlace := ["slices.overlaps[loop.example/g01989/impl.Fact]"], unfollowed := true, recurses := true, apart := false, narrowed := true }
def FnExactMissingFactsUptoSaid : Prop := fnExactMissingFactsUptoRow.holds Try.pinned (OpenSpec.upto fnExactMissingFactsSpec)

/-- 'laws.FnExactStartReach', WHERE WHAT IT READS IS OF BULK AT MOST 1048576: true; the input reads as it did. -/
def fnExactStartReachUptoRow : OpenClaim := { program := "ytnagfcajnbkdoaa", sum := "ae223313cfc761dcf0694636a348b47b61dd4b34fbeeade7aa80956d905dfe9d", func := "loop.example/g01989/laws.FnExactStartReach", spec := "fnExactStartReach", recurses := true, apart := false, narrowed := true }
def FnExactStartReachUptoSaid : Prop := fnExactStartReachUptoRow.holds Try.pinned (OpenSpec.upto fnExactStartReachSpec)

/-- 'laws.FnExactCloseFacts', WHERE WHAT IT READS IS OF BULK AT MOST 1048576: true; the input reads as it did. -/
def fnExactCloseFactsUptoRow : OpenClaim := { program := "ytnagfcajnbkdoaa", sum := "ae223313cfc761dcf0694636a348b47b61dd4b34fbeeade7aa80956d905dfe9d", func := "loop.example/g01989/laws.FnExactCloseFacts", spec := "fnExactCloseFacts", inPlace := ["slices.overlaps[loop.example/g01989/impl.Fact]"], unfollowed := true, recurses := true, apart := false, narrowed := true }
def FnExactCloseFactsUptoSaid : Prop := fnExactCloseFactsUptoRow.holds Try.pinned (OpenSpec.upto fnExactCloseFactsSpec)

/-- 'laws.FnExactIsUnion', WHERE WHAT IT READS IS OF BULK AT MOST 1048576: true; the input reads as it did. -/
def fnExactIsUnionUptoRow : OpenClaim := { program := "ytnagfcajnbkdoaa", sum := "ae223313cfc761dcf0694636a348b47b61dd4b34fbeeade7aa80956d905dfe9d", func := "loop.example/g01989/laws.FnExactIsUnion", spec := "fnExactIsUnion", unfollowed := true, recurses := true, apart := false, narrowed := true }
def FnExactIsUnionUptoSaid : Prop := fnExactIsUnionUptoRow.holds Try.pinned (OpenSpec.upto fnExactIsUnionSpec)

/-- 'laws.FnExactIsGuarded', WHERE WHAT IT READS IS OF BULK AT MOST 1048576: true; the input reads as it did. -/
def fnExactIsGuardedUptoRow : OpenClaim := { program := "ytnagfcajnbkdoaa", sum := "ae223313cfc761dcf0694636a348b47b61dd4b34fbeeade7aa80956d905dfe9d", func := "loop.example/g01989/laws.FnExactIsGuarded", spec := "fnExactIsGuarded", unfollowed := true, recurses := true, apart := false, narrowed := true }
def FnExactIsGuardedUptoSaid : Prop := fnExactIsGuardedUptoRow.holds Try.pinned (OpenSpec.upto fnExactIsGuardedSpec)

end Rows
end Go.Proofs.Ytnagfcajnbkdoaa
