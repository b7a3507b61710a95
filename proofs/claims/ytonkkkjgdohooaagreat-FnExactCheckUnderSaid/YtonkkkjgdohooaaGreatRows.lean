/-
  No cell of these rows narrows 'for every input' (looked for: loops, veiled, ifaces, maps, wideKeys, modest, calm, conditions, laid).
  DERIVED. THE GIVEN ROWS OF THIS SEAT. 11 by the template 'for every input the law returns true; each argument reads behind the call as it read before'; 0 by the template 'total and deterministic' (their statements: YtonkkkjgdohooaaGreatTotals.lean).
  GIVEN WITH THE SEED: the statements are not yours to turn. If you find one false, say at which input.
  Laid BY PROGRAM, IN A SANDBOX (cutbox-rows.mjs): the forced cells as the released guide's own fill.sh prints them over the translation 908a93dc1b4209fe… (all of the seat's roots in one cut). By AI agents, Wed Nov 11 2026. No macro, syntax, notation, axiom, sorry.
-/
import Derived.Test.YtonkkkjgdohooaaGreatChecked
import GoSem.Claim
import GoSem.ClaimJoined
import GoSem.ClaimMapViews
import Derived.JoinedTies
import Derived.KernelRfl
namespace Go.Proofs.YtonkkkjgdohooaaGreat
/- THE CELL 'sum', in the pinned program and in every row, IS THE sha256 OF THE DUMP (.gsa) THAT YtonkkkjgdohooaaGreatProg.lean LOADS. Nothing in Lean hashes anything: it is a label: what it is worth is what the hold of that sum in a sandbox is worth. -/
noncomputable def Tryz.pinned : Pinned := { name := "ytonkkkjgdohooaagreat", sum := "908a93dc1b4209fe000961f6d33dfe659ef2b1e17d121b727371b2ed6f1bb5a4", checked := Tryz.checked }
namespace Rows
def none {H : Type} : Left H := { results := [], args := [] }

/-- 'laws.FnExactUnionByParts': WHATEVER THE INPUT: true; the input reads as it did. -/
def fnExactUnionByPartsSpec : ChangeSpec := { name := "fnExactUnionByParts", fn := fun _ => fun
  | [d1, d2, d3, d4] => { results := [.lit (.bool true)], args := [d1, d2, d3, d4] }
  | _ => none }
def fnExactUnionByPartsRow : OpenClaim := { program := "ytonkkkjgdohooaagreat", sum := "908a93dc1b4209fe000961f6d33dfe659ef2b1e17d121b727371b2ed6f1bb5a4", func := "loop.example/g01989/laws.FnExactUnionByParts", spec := "fnExactUnionByParts", inPlace := ["slices.overlaps[loop.example/g01989/impl.Fact]", "slices.overlaps[[]int]"], unfollowed := true, recurses := true, apart := false }
def FnExactUnionByPartsSaid : Prop := fnExactUnionByPartsRow.holds Tryz.pinned (OpenSpec.ofChange fnExactUnionByPartsSpec)

/-- ITS FALSE NEIGHBOUR: 'it returns false'. Refute it at one input. -/
def fnExactUnionByPartsWrong : ChangeSpec := { name := "fnExactUnionByParts", fn := fun _ => fun
  | [d1, d2, d3, d4] => { results := [.lit (.bool false)], args := [d1, d2, d3, d4] }
  | _ => none }
def FnExactUnionByPartsWrongFalsely : Prop := fnExactUnionByPartsRow.holds Tryz.pinned (OpenSpec.ofChange fnExactUnionByPartsWrong)

/-- 'laws.FnExactAnswerablePart': WHATEVER THE INPUT: true; the input reads as it did. -/
def fnExactAnswerablePartSpec : ChangeSpec := { name := "fnExactAnswerablePart", fn := fun _ => fun
  | [d1, d2, d3] => { results := [.lit (.bool true)], args := [d1, d2, d3] }
  | _ => none }
def fnExactAnswerablePartRow : OpenClaim := { program := "ytonkkkjgdohooaagreat", sum := "908a93dc1b4209fe000961f6d33dfe659ef2b1e17d121b727371b2ed6f1bb5a4", func := "loop.example/g01989/laws.FnExactAnswerablePart", spec := "fnExactAnswerablePart", unfollowed := true, recurses := true, apart := false }
def FnExactAnswerablePartSaid : Prop := fnExactAnswerablePartRow.holds Tryz.pinned (OpenSpec.ofChange fnExactAnswerablePartSpec)

/-- ITS FALSE NEIGHBOUR: 'it returns false'. Refute it at one input. -/
def fnExactAnswerablePartWrong : ChangeSpec := { name := "fnExactAnswerablePart", fn := fun _ => fun
  | [d1, d2, d3] => { results := [.lit (.bool false)], args := [d1, d2, d3] }
  | _ => none }
def FnExactAnswerablePartWrongFalsely : Prop := fnExactAnswerablePartRow.holds Tryz.pinned (OpenSpec.ofChange fnExactAnswerablePartWrong)

/-- 'laws.FnExactFindGuardedOrder': WHATEVER THE INPUT: true; the input reads as it did. -/
def fnExactFindGuardedOrderSpec : ChangeSpec := { name := "fnExactFindGuardedOrder", fn := fun _ => fun
  | [d1, d2, d3] => { results := [.lit (.bool true)], args := [d1, d2, d3] }
  | _ => none }
def fnExactFindGuardedOrderRow : OpenClaim := { program := "ytonkkkjgdohooaagreat", sum := "908a93dc1b4209fe000961f6d33dfe659ef2b1e17d121b727371b2ed6f1bb5a4", func := "loop.example/g01989/laws.FnExactFindGuardedOrder", spec := "fnExactFindGuardedOrder", unfollowed := true, recurses := true, apart := false }
def FnExactFindGuardedOrderSaid : Prop := fnExactFindGuardedOrderRow.holds Tryz.pinned (OpenSpec.ofChange fnExactFindGuardedOrderSpec)

/-- ITS FALSE NEIGHBOUR: 'it returns false'. Refute it at one input. -/
def fnExactFindGuardedOrderWrong : ChangeSpec := { name := "fnExactFindGuardedOrder", fn := fun _ => fun
  | [d1, d2, d3] => { results := [.lit (.bool false)], args := [d1, d2, d3] }
  | _ => none }
def FnExactFindGuardedOrderWrongFalsely : Prop := fnExactFindGuardedOrderRow.holds Tryz.pinned (OpenSpec.ofChange fnExactFindGuardedOrderWrong)

/-- 'laws.FnExactMinimalUnion': WHATEVER THE INPUT: true; the input reads as it did. -/
def fnExactMinimalUnionSpec : ChangeSpec := { name := "fnExactMinimalUnion", fn := fun _ => fun
  | [d1, d2] => { results := [.lit (.bool true)], args := [d1, d2] }
  | _ => none }
def fnExactMinimalUnionRow : OpenClaim := { program := "ytonkkkjgdohooaagreat", sum := "908a93dc1b4209fe000961f6d33dfe659ef2b1e17d121b727371b2ed6f1bb5a4", func := "loop.example/g01989/laws.FnExactMinimalUnion", spec := "fnExactMinimalUnion", inPlace := ["slices.overlaps[loop.example/g01989/impl.Fact]"], unfollowed := true, recurses := true, apart := false }
def FnExactMinimalUnionSaid : Prop := fnExactMinimalUnionRow.holds Tryz.pinned (OpenSpec.ofChange fnExactMinimalUnionSpec)

/-- ITS FALSE NEIGHBOUR: 'it returns false'. Refute it at one input. -/
def fnExactMinimalUnionWrong : ChangeSpec := { name := "fnExactMinimalUnion", fn := fun _ => fun
  | [d1, d2] => { results := [.lit (.bool false)], args := [d1, d2] }
  | _ => none }
def FnExactMinimalUnionWrongFalsely : Prop := fnExactMinimalUnionRow.holds Tryz.pinned (OpenSpec.ofChange fnExactMinimalUnionWrong)

/-- 'laws.FnExactIsFeasible': WHATEVER THE INPUT: true; the input reads as it did. -/
def fnExactIsFeasibleSpec : ChangeSpec := { name := "fnExactIsFeasible", fn := fun _ => fun
  | [d1, d2, d3] => { results := [.lit (.bool true)], args := [d1, d2, d3] }
  | _ => none }
def fnExactIsFeasibleRow : OpenClaim := { program := "ytonkkkjgdohooaagreat", sum := "908a93dc1b4209fe000961f6d33dfe659ef2b1e17d121b727371b2ed6f1bb5a4", func := "loop.example/g01989/laws.FnExactIsFeasible", spec := "fnExactIsFeasible", inPlace := ["slices.overlaps[loop.example/g01989/impl.Fact]"], unfollowed := true, recurses := true, apart := false }
def FnExactIsFeasibleSaid : Prop := fnExactIsFeasibleRow.holds Tryz.pinned (OpenSpec.ofChange fnExactIsFeasibleSpec)

/-- ITS FALSE NEIGHBOUR: 'it returns false'. Refute it at one input. -/
def fnExactIsFeasibleWrong : ChangeSpec := { name := "fnExactIsFeasible", fn := fun _ => fun
  | [d1, d2, d3] => { results := [.lit (.bool false)], args := [d1, d2, d3] }
  | _ => none }
def FnExactIsFeasibleWrongFalsely : Prop := fnExactIsFeasibleRow.holds Tryz.pinned (OpenSpec.ofChange fnExactIsFeasibleWrong)

/-- 'laws.FnExactIsFeasibleUnion': WHATEVER THE INPUT: true; the input reads as it did. -/
def fnExactIsFeasibleUnionSpec : ChangeSpec := { name := "fnExactIsFeasibleUnion", fn := fun _ => fun
  | [d1, d2, d3] => { results := [.lit (.bool true)], args := [d1, d2, d3] }
  | _ => none }
def fnExactIsFeasibleUnionRow : OpenClaim := { program := "ytonkkkjgdohooaagreat", sum := "908a93dc1b4209fe000961f6d33dfe659ef2b1e17d121b727371b2ed6f1bb5a4", func := "loop.example/g01989/laws.FnExactIsFeasibleUnion", spec := "fnExactIsFeasibleUnion", inPlace := ["slices.overlaps[loop.example/g01989/impl.Fact]"], unfollowed := true, recurses := true, apart := false }
def FnExactIsFeasibleUnionSaid : Prop := fnExactIsFeasibleUnionRow.holds Tryz.pinned (OpenSpec.ofChange fnExactIsFeasibleUnionSpec)

/-- ITS FALSE NEIGHBOUR: 'it returns false'. Refute it at one input. -/
def fnExactIsFeasibleUnionWrong : ChangeSpec := { name := "fnExactIsFeasibleUnion", fn := fun _ => fun
  | [d1, d2, d3] => { results := [.lit (.bool false)], args := [d1, d2, d3] }
  | _ => none }
def FnExactIsFeasibleUnionWrongFalsely : Prop := fnExactIsFeasibleUnionRow.holds Tryz.pinned (OpenSpec.ofChange fnExactIsFeasibleUnionWrong)

/-- 'laws.FnExactRunOrder': WHATEVER THE INPUT: true; the input reads as it did. -/
def fnExactRunOrderSpec : ChangeSpec := { name := "fnExactRunOrder", fn := fun _ => fun
  | [d1, d2, d3, d4, d5, d6] => { results := [.lit (.bool true)], args := [d1, d2, d3, d4, d5, d6] }
  | _ => none }
def fnExactRunOrderRow : OpenClaim := { program := "ytonkkkjgdohooaagreat", sum := "908a93dc1b4209fe000961f6d33dfe659ef2b1e17d121b727371b2ed6f1bb5a4", func := "loop.example/g01989/laws.FnExactRunOrder", spec := "fnExactRunOrder", inPlace := ["slices.overlaps[loop.example/g01989/impl.Fact]", "slices.overlaps[[]int]"], unfollowed := true, recurses := true, apart := false }
def FnExactRunOrderSaid : Prop := fnExactRunOrderRow.holds Tryz.pinned (OpenSpec.ofChange fnExactRunOrderSpec)

/-- ITS FALSE NEIGHBOUR: 'it returns false'. Refute it at one input. -/
def fnExactRunOrderWrong : ChangeSpec := { name := "fnExactRunOrder", fn := fun _ => fun
  | [d1, d2, d3, d4, d5, d6] => { results := [.lit (.bool false)], args := [d1, d2, d3, d4, d5, d6] }
  | _ => none }
def FnExactRunOrderWrongFalsely : Prop := fnExactRunOrderRow.holds Tryz.pinned (OpenSpec.ofChange fnExactRunOrderWrong)

/-- 'laws.FnExactCheckUnder': WHATEVER THE INPUT: true; the input reads as it did. -/
def fnExactCheckUnderSpec : ChangeSpec := { name := "fnExactCheckUnder", fn := fun _ => fun
  | [d1, d2, d3, d4, d5] => { results := [.lit (.bool true)], args := [d1, d2, d3, d4, d5] }
  | _ => none }
def fnExactCheckUnderRow : OpenClaim := { program := "ytonkkkjgdohooaagreat", sum := "908a93dc1b4209fe000961f6d33dfe659ef2b1e17d121b727371b2ed6f1bb5a4", func := "loop.example/g01989/laws.FnExactCheckUnder", spec := "fnExactCheckUnder", inPlace := ["slices.overlaps[loop.example/g01989/impl.Fact]", "slices.overlaps[[]int]"], unfollowed := true, recurses := true, apart := false }
def FnExactCheckUnderSaid : Prop := fnExactCheckUnderRow.holds Tryz.pinned (OpenSpec.ofChange fnExactCheckUnderSpec)

/-- ITS FALSE NEIGHBOUR: 'it returns false'. Refute it at one input. -/
def fnExactCheckUnderWrong : ChangeSpec := { name := "fnExactCheckUnder", fn := fun _ => fun
  | [d1, d2, d3, d4, d5] => { results := [.lit (.bool false)], args := [d1, d2, d3, d4, d5] }
  | _ => none }
def FnExactCheckUnderWrongFalsely : Prop := fnExactCheckUnderRow.holds Tryz.pinned (OpenSpec.ofChange fnExactCheckUnderWrong)

/-- 'laws.FnExactHelpfulMethods': WHATEVER THE INPUT: true; the input reads as it did. -/
def fnExactHelpfulMethodsSpec : ChangeSpec := { name := "fnExactHelpfulMethods", fn := fun _ => fun
  | [d1, d2, d3, d4] => { results := [.lit (.bool true)], args := [d1, d2, d3, d4] }
  | _ => none }
def fnExactHelpfulMethodsRow : OpenClaim := { program := "ytonkkkjgdohooaagreat", sum := "908a93dc1b4209fe000961f6d33dfe659ef2b1e17d121b727371b2ed6f1bb5a4", func := "loop.example/g01989/laws.FnExactHelpfulMethods", spec := "fnExactHelpfulMethods", inPlace := ["slices.overlaps[loop.example/g01989/impl.Fact]"], unfollowed := true, recurses := true, apart := false }
def FnExactHelpfulMethodsSaid : Prop := fnExactHelpfulMethodsRow.holds Tryz.pinned (OpenSpec.ofChange fnExactHelpfulMethodsSpec)

/-- ITS FALSE NEIGHBOUR: 'it returns false'. Refute it at one input. -/
def fnExactHelpfulMethodsWrong : ChangeSpec := { name := "fnExactHelpfulMethods", fn := fun _ => fun
  | [d1, d2, d3, d4] => { results := [.lit (.bool false)], args := [d1, d2, d3, d4] }
  | _ => none }
def FnExactHelpfulMethodsWrongFalsely : Prop := fnExactHelpfulMethodsRow.holds Tryz.pinned (OpenSpec.ofChange fnExactHelpfulMethodsWrong)

/-- 'laws.FnExactRunGuarded': WHATEVER THE INPUT: true; the input reads as it did. -/
def fnExactRunGuardedSpec : ChangeSpec := { name := "fnExactRunGuarded", fn := fun _ => fun
  | [d1, d2, d3, d4] => { results := [.lit (.bool true)], args := [d1, d2, d3, d4] }
  | _ => none }
def fnExactRunGuardedRow : OpenClaim := { program := "ytonkkkjgdohooaagreat", sum := "908a93dc1b4209fe000961f6d33dfe659ef2b1e17d121b727371b2ed6f1bb5a4", func := "loop.example/g01989/laws.FnExactRunGuarded", spec := "fnExactRunGuarded", inPlace := ["slices.overlaps[loop.example/g01989/impl.Fact]", "slices.overlaps[[]int]"], unfollowed := true, recurses := true, apart := false }
def FnExactRunGuardedSaid : Prop := fnExactRunGuardedRow.holds Tryz.pinned (OpenSpec.ofChange fnExactRunGuardedSpec)

/-- ITS FALSE NEIGHBOUR: 'it returns false'. Refute it at one input. -/
def fnExactRunGuardedWrong : ChangeSpec := { name := "fnExactRunGuarded", fn := fun _ => fun
  | [d1, d2, d3, d4] => { results := [.lit (.bool false)], args := [d1, d2, d3, d4] }
  | _ => none }
def FnExactRunGuardedWrongFalsely : Prop := fnExactRunGuardedRow.holds Tryz.pinned (OpenSpec.ofChange fnExactRunGuardedWrong)

/-- 'laws.FnExactFeasibleAnswers': WHATEVER THE INPUT: true; the input reads as it did. -/
def fnExactFeasibleAnswersSpec : ChangeSpec := { name := "fnExactFeasibleAnswers", fn := fun _ => fun
  | [d1, d2, d3, d4] => { results := [.lit (.bool true)], args := [d1, d2, d3, d4] }
  | _ => none }
def fnExactFeasibleAnswersRow : OpenClaim := { program := "ytonkkkjgdohooaagreat", sum := "908a93dc1b4209fe000961f6d33dfe659ef2b1e17d121b727371b2ed6f1bb5a4", func := "loop.example/g01989/laws.FnExactFeasibleAnswers", spec := "fnExactFeasibleAnswers", inPlace := ["slices.overlaps[loop.example/g01989/impl.Fact]", "slices.overlaps[[]int]"], unfollowed := true, recurses := true, apart := false }
def FnExactFeasibleAnswersSaid : Prop := fnExactFeasibleAnswersRow.holds Tryz.pinned (OpenSpec.ofChange fnExactFeasibleAnswersSpec)

/-- ITS FALSE NEIGHBOUR: 'it returns false'. Refute it at one input. -/
def fnExactFeasibleAnswersWrong : ChangeSpec := { name := "fnExactFeasibleAnswers", fn := fun _ => fun
  | [d1, d2, d3, d4] => { results := [.lit (.bool false)], args := [d1, d2, d3, d4] }
  | _ => none }
def FnExactFeasibleAnswersWrongFalsely : Prop := fnExactFeasibleAnswersRow.holds Tryz.pinned (OpenSpec.ofChange fnExactFeasibleAnswersWrong)

/- THE SECOND FORM. 'bulk': how many values and letters a reading holds, each counted each time it is reached (what is shared counts as often as it is met; a slice's spare places count too). A statement '..UptoSaid' is the law's where the arguments, and the package variables that the reading takes, are together of bulk at most 1048576: NARROWER than '..Said'. Prove '..Said' where nothing that the law and all that it calls make is longer than what came in: it says more and counts as full. Else prove '..UptoSaid'. A law counts once. -/
mutual
def uptoBulk {H : Type} : DataW H → Nat
  | .lit (.string bytes) => bytes.length + 1
  | .lit _ => 1
  | .nil => 1
  | .ptr d => uptoBulk d + 1
  | .slice elems spare => uptoBulkAll elems + uptoBulkAll spare + 1
  | .agg parts => uptoBulkAll parts + 1
  | .iface _ d => uptoBulk d + 1
  | .map entries => uptoBulkEntries entries + 1
  | .held _ => 1
def uptoBulkAll {H : Type} : List (DataW H) → Nat
  | [] => 0
  | d :: r => uptoBulk d + uptoBulkAll r
def uptoBulkEntries {H : Type} : List (Lit × DataW H) → Nat
  | [] => 0
  | x :: r => uptoBulkEntry x + uptoBulkEntries r
def uptoBulkEntry {H : Type} : Lit × DataW H → Nat
  | (.string bytes, d) => bytes.length + uptoBulk d + 1
  | (_, d) => uptoBulk d + 1
 end
def uptoSmall : (H : Type) → List (DataW H) → Bool := fun _ ds => decide (uptoBulkAll ds ≤ 1048576)
def OpenSpec.upto (s : _root_.Go.ChangeSpec) : _root_.Go.OpenSpec := { _root_.Go.OpenSpec.ofChange s with cond := some uptoSmall }

/-- 'laws.FnExactUnionByParts', WHERE WHAT IT READS IS OF BULK AT MOST 1048576: true; the input reads as it did. -/
def fnExactUnionByPartsUptoRow : OpenClaim := { program := "ytonkkkjgdohooaagreat", sum := "908a93dc1b4209fe000961f6d33dfe659ef2b1e17d121b727371b2ed6f1bb5a4", func := "loop.example/g01989/laws.FnExactUnionByParts", spec := "fnExactUnionByParts", inPlace := ["slices.overlaps[loop.example/g01989/impl.Fact]", "slices.overlaps[[]int]"], unfollowed := true, recurses := true, apart := false, narrowed := true }
def FnExactUnionByPartsUptoSaid : Prop := fnExactUnionByPartsUptoRow.holds Tryz.pinned (OpenSpec.upto fnExactUnionByPartsSpec)

/-- 'laws.FnExactAnswerablePart', WHERE WHAT IT READS IS OF BULK AT MOST 1048576: true; the input reads as it did. -/
def fnExactAnswerablePartUptoRow : OpenClaim := { program := "ytonkkkjgdohooaagreat", sum := "908a93dc1b4209fe000961f6d33dfe659ef2b1e17d121b727371b2ed6f1bb5a4", func := "loop.example/g01989/laws.FnExactAnswerablePart", spec := "fnExactAnswerablePart", unfollowed := true, recurses := true, apart := false, narrowed := true }
def FnExactAnswerablePartUptoSaid : Prop := fnExactAnswerablePartUptoRow.holds Tryz.pinned (OpenSpec.upto fnExactAnswerablePartSpec)

/-- 'laws.FnExactFindGuardedOrder', WHERE WHAT IT READS IS OF BULK AT MOST 1048576: true; the input reads as it did. -/
def fnExactFindGuardedOrderUptoRow : OpenClaim := { program := "ytonkkkjgdohooaagreat", sum := "908a93dc1b4209fe000961f6d33dfe659ef2b1e17d121b727371b2ed6f1bb5a4", func := "loop.example/g01989/laws.FnExactFindGuardedOrder", spec := "fnExactFindGuardedOrder", unfollowed := true, recurses := true, apart := false, narrowed := true }
def FnExactFindGuardedOrderUptoSaid : Prop := fnExactFindGuardedOrderUptoRow.holds Tryz.pinned (OpenSpec.upto fnExactFindGuardedOrderSpec)

/-- 'laws.FnExactMinimalUnion', WHERE WHAT IT READS IS OF BULK AT MOST 1048576: true; the input reads as it did. -/
def fnExactMinimalUnionUptoRow : OpenClaim := { program := "ytonkkkjgdohooaagreat", sum := "908a93dc1b4209fe000961f6d33dfe659ef2b1e17d121b727371b2ed6f1bb5a4", func := "loop.example/g01989/laws.FnExactMinimalUnion", spec := "fnExactMinimalUnion", inPlace := ["slices.overlaps[loop.example/g01989/impl.Fact]"], unfollowed := true, recurses := true, apart := false, narrowed := true }
def FnExactMinimalUnionUptoSaid : Prop := fnExactMinimalUnionUptoRow.holds Tryz.pinned (OpenSpec.upto fnExactMinimalUnionSpec)

/-- 'laws.FnExactIsFeasible', WHERE WHAT IT READS IS OF BULK AT MOST 1048576: true; the input reads as it did. -/
def fnExactIsFeasibleUptoRow : OpenClaim := { program := "ytonkkkjgdohooaagreat", sum := "908a93dc1b4209fe000961f6d33dfe659ef2b1e17d121b727371b2ed6f1bb5a4", func := "loop.example/g01989/laws.FnExactIsFeasible", spec := "fnExactIsFeasible", inPlace := ["slices.overlaps[loop.example/g01989/impl.Fact]"], unfollowed := true, recurses := true, apart := false, narrowed := true }
def FnExactIsFeasibleUptoSaid : Prop := fnExactIsFeasibleUptoRow.holds Tryz.pinned (OpenSpec.upto fnExactIsFeasibleSpec)

/-- 'laws.FnExactIsFeasibleUnion', WHERE WHAT IT READS IS OF BULK AT MOST 1048576: true; the input reads as it did. -/
def fnExactIsFeasibleUnionUptoRow : OpenClaim := { program := "ytonkkkjgdohooaagreat", sum := "908a93dc1b4209fe000961f6d33dfe659ef2b1e17d121b727371b2ed6f1bb5a4", func := "loop.example/g01989/laws.FnExactIsFeasibleUnion", spec := "fnExactIsFeasibleUnion", inPlace := ["slices.overlaps[loop.example/g01989/impl.Fact]"], unfollowed := true, recurses := true, apart := false, narrowed := true }
def FnExactIsFeasibleUnionUptoSaid : Prop := fnExactIsFeasibleUnionUptoRow.holds Tryz.pinned (OpenSpec.upto fnExactIsFeasibleUnionSpec)

/-- 'laws.FnExactRunOrder', WHERE WHAT IT READS IS OF BULK AT MOST 1048576: true; the input reads as it did. -/
def fnExactRunOrderUptoRow : OpenClaim := { program := "ytonkkkjgdohooaagreat", sum := "908a93dc1b4209fe000961f6d33dfe659ef2b1e17d121b727371b2ed6f1bb5a4", func := "loop.example/g01989/laws.FnExactRunOrder", spec := "fnExactRunOrder", inPlace := ["slices.overlaps[loop.example/g01989/impl.Fact]", "slices.overlaps[[]int]"], unfollowed := true, recurses := true, apart := false, narrowed := true }
def FnExactRunOrderUptoSaid : Prop := fnExactRunOrderUptoRow.holds Tryz.pinned (OpenSpec.upto fnExactRunOrderSpec)

/-- 'laws.FnExactCheckUnder', WHERE WHAT IT READS IS OF BULK AT MOST 1048576: true; the input reads as it did. -/
def fnExactCheckUnderUptoRow : OpenClaim := { program := "ytonkkkjgdohooaagreat", sum := "908a93dc1b4209fe000961f6d33dfe659ef2b1e17d121b727371b2ed6f1bb5a4", func := "loop.example/g01989/laws.FnExactCheckUnder", spec := "fnExactCheckUnder", inPlace := ["slices.overlaps[loop.example/g01989/impl.Fact]", "slices.overlaps[[]int]"], unfollowed := true, recurses := true, apart := false, narrowed := true }
def FnExactCheckUnderUptoSaid : Prop := fnExactCheckUnderUptoRow.holds Tryz.pinned (OpenSpec.upto fnExactCheckUnderSpec)

/-- 'laws.FnExactHelpfulMethods', WHERE WHAT IT READS IS OF BULK AT MOST 1048576: true; the input reads as it did. -/
def fnExactHelpfulMethodsUptoRow : OpenClaim := { program := "ytonkkkjgdohooaagreat", sum := "908a93dc1b4209fe000961f6d33dfe659ef2b1e17d121b727371b2ed6f1bb5a4", func := "loop.example/g01989/laws.FnExactHelpfulMethods", spec := "fnExactHelpfulMethods", inPlace := ["slices.overlaps[loop.example/g01989/impl.Fact]"], unfollowed := true, recurses := true, apart := false, narrowed := true }
def FnExactHelpfulMethodsUptoSaid : Prop := fnExactHelpfulMethodsUptoRow.holds Tryz.pinned (OpenSpec.upto fnExactHelpfulMethodsSpec)

/-- 'laws.FnExactRunGuarded', WHERE WHAT IT READS IS OF BULK AT MOST 1048576: true; the input reads as it did. -/
def fnExactRunGuardedUptoRow : OpenClaim := { program := "ytonkkkjgdohooaagreat", sum := "908a93dc1b4209fe000961f6d33dfe659ef2b1e17d121b727371b2ed6f1bb5a4", func := "loop.example/g01989/laws.FnExactRunGuarded", spec := "fnExactRunGuarded", inPlace := ["slices.overlaps[loop.example/g01989/impl.Fact]", "slices.overlaps[[]int]"], unfollowed := true, recurses := true, apart := false, narrowed := true }
def FnExactRunGuardedUptoSaid : Prop := fnExactRunGuardedUptoRow.holds Tryz.pinned (OpenSpec.upto fnExactRunGuardedSpec)

/-- 'laws.FnExactFeasibleAnswers', WHERE WHAT IT READS IS OF BULK AT MOST 1048576: true; the input reads as it did. -/
def fnExactFeasibleAnswersUptoRow : OpenClaim := { program := "ytonkkkjgdohooaagreat", sum := "908a93dc1b4209fe000961f6d33dfe659ef2b1e17d121b727371b2ed6f1bb5a4", func := "loop.example/g01989/laws.FnExactFeasibleAnswers", spec := "fnExactFeasibleAnswers", inPlace := ["slices.overlaps[loop.example/g01989/impl.Fact]", "slices.overlaps[[]int]"], unfollowed := true, recurses := true, apart := false, narrowed := true }
def FnExactFeasibleAnswersUptoSaid : Prop := fnExactFeasibleAnswersUptoRow.holds Tryz.pinned (OpenSpec.upto fnExactFeasibleAnswersSpec)

end Rows
end Go.Proofs.YtonkkkjgdohooaaGreat
