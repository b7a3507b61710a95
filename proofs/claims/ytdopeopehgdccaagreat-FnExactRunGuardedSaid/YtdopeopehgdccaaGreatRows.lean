/-
  No cell of these rows narrows 'for every input' (looked for: loops, veiled, ifaces, maps, wideKeys, modest, calm, conditions, laid).
  DERIVED. THE GIVEN ROWS OF THIS SEAT. 5 by the template 'for every input the law returns true; each argument reads behind the call as it read before'; 0 by the template 'total and deterministic' (their statements: YtdopeopehgdccaaGreatTotals.lean).
  GIVEN WITH THE SEED: the statements are not yours to turn. If you find one false, say at which input.
  Laid BY PROGRAM, IN A SANDBOX (cutbox-rows.mjs): the forced cells as the released guide's own fill.sh prints them over the translation def00bd85c9ac8a4… (all of the seat's roots in one cut). By AI agents, Wed Nov 11 2026. No macro, syntax, notation, axiom, sorry.
-/
import Derived.Test.YtdopeopehgdccaaGreatChecked
import GoSem.Claim
import GoSem.ClaimJoined
import GoSem.ClaimMapViews
import Derived.JoinedTies
import Derived.KernelRfl
namespace Go.Proofs.YtdopeopehgdccaaGreat
/- THE CELL 'sum', in the pinned program and in every row, IS THE sha256 OF THE DUMP (.gsa) THAT YtdopeopehgdccaaGreatProg.lean LOADS. Nothing in Lean hashes anything: it is a label: what it is worth is what the hold of that sum in a sandbox is worth. -/
noncomputable def Tryz.pinned : Pinned := { name := "ytdopeopehgdccaagreat", sum := "def00bd85c9ac8a462104f888dcc1fe2110011b339240e6cffea9acf0be85b69", checked := Tryz.checked }
namespace Rows
def none {H : Type} : Left H := { results := [], args := [] }

/-- 'laws.FnExactUnionByParts': WHATEVER THE INPUT: true; the input reads as it did. -/
def fnExactUnionByPartsSpec : ChangeSpec := { name := "fnExactUnionByParts", fn := fun _ => fun
  | [d1, d2, d3, d4] => { results := [.lit (.bool true)], args := [d1, d2, d3, d4] }
  | _ => none }
def fnExactUnionByPartsRow : OpenClaim := { program := "ytdopeopehgdccaagreat", sum := "def00bd85c9ac8a462104f888dcc1fe2110011b339240e6cffea9acf0be85b69", func := "loop.example/g01989/laws.FnExactUnionByParts", spec := "fnExactUnionByParts", inPlace := ["slices.overlaps[loop.example/g01989/impl.Fact]", "slices.overlaps[[]int]"], unfollowed := true, recurses := true, apart := false }
def FnExactUnionByPartsSaid : Prop := fnExactUnionByPartsRow.holds Tryz.pinned (OpenSpec.ofChange fnExactUnionByPartsSpec)

/-- ITS FALSE NEIGHBOUR: 'it returns false'. Refute it at one input. -/
def fnExactUnionByPartsWrong : ChangeSpec := { name := "fnExactUnionByParts", fn := fun _ => fun
  | [d1, d2, d3, d4] => { results := [.lit (.bool false)], args := [d1, d2, d3, d4] }
  | _ => none }
def FnExactUnionByPartsWrongFalsely : Prop := fnExactUnionByPartsRow.holds Tryz.pinned (OpenSpec.ofChange fnExactUnionByPartsWrong)

/-- 'laws.FnExactRunOrder': WHATEVER THE INPUT: true; the input reads as it did. -/
def fnExactRunOrderSpec : ChangeSpec := { name := "fnExactRunOrder", fn := fun _ => fun
  | [d1, d2, d3, d4, d5, d6] => { results := [.lit (.bool true)], args := [d1, d2, d3, d4, d5, d6] }
  | _ => none }
def fnExactRunOrderRow : OpenClaim := { program := "ytdopeopehgdccaagreat", sum := "def00bd85c9ac8a462104f888dcc1fe2110011b339240e6cffea9acf0be85b69", func := "loop.example/g01989/laws.FnExactRunOrder", spec := "fnExactRunOrder", inPlace := ["slices.overlaps[loop.example/g01989/impl.Fact]", "slices.overlaps[[]int]"], unfollowed := true, recurses := true, apart := false }
def FnExactRunOrderSaid : Prop := fnExactRunOrderRow.holds Tryz.pinned (OpenSpec.ofChange fnExactRunOrderSpec)

/-- ITS FALSE NEIGHBOUR: 'it returns false'. Refute it at one input. -/
def fnExactRunOrderWrong : ChangeSpec := { name := "fnExactRunOrder", fn := fun _ => fun
  | [d1, d2, d3, d4, d5, d6] => { results := [.lit (.bool false)], args := [d1, d2, d3, d4, d5, d6] }
  | _ => none }
def FnExactRunOrderWrongFalsely : Prop := fnExactRunOrderRow.holds Tryz.pinned (OpenSpec.ofChange fnExactRunOrderWrong)

/-- 'laws.FnExactHelpfulMethods': WHATEVER THE INPUT: true; the input reads as it did. -/
def fnExactHelpfulMethodsSpec : ChangeSpec := { name := "fnExactHelpfulMethods", fn := fun _ => fun
  | [d1, d2, d3, d4] => { results := [.lit (.bool true)], args := [d1, d2, d3, d4] }
  | _ => none }
def fnExactHelpfulMethodsRow : OpenClaim := { program := "ytdopeopehgdccaagreat", sum := "def00bd85c9ac8a462104f888dcc1fe2110011b339240e6cffea9acf0be85b69", func := "loop.example/g01989/laws.FnExactHelpfulMethods", spec := "fnExactHelpfulMethods", inPlace := ["slices.overlaps[loop.example/g01989/impl.Fact]"], unfollowed := true, recurses := true, apart := false }
def FnExactHelpfulMethodsSaid : Prop := fnExactHelpfulMethodsRow.holds Tryz.pinned (OpenSpec.ofChange fnExactHelpfulMethodsSpec)

/-- ITS FALSE NEIGHBOUR: 'it returns false'. Refute it at one input. -/
def fnExactHelpfulMethodsWrong : ChangeSpec := { name := "fnExactHelpfulMethods", fn := fun _ => fun
  | [d1, d2, d3, d4] => { results := [.lit (.bool false)], args := [d1, d2, d3, d4] }
  | _ => none }
def FnExactHelpfulMethodsWrongFalsely : Prop := fnExactHelpfulMethodsRow.holds Tryz.pinned (OpenSpec.ofChange fnExactHelpfulMethodsWrong)

/-- 'laws.FnExactRunGuarded': WHATEVER THE INPUT: true; the input reads as it did. -/
def fnExactRunGuardedSpec : ChangeSpec := { name := "fnExactRunGuarded", fn := fun _ => fun
  | [d1, d2, d3, d4] => { results := [.lit (.bool true)], args := [d1, d2, d3, d4] }
  | _ => none }
def fnExactRunGuardedRow : OpenClaim := { program := "ytdopeopehgdccaagreat", sum := "def00bd85c9ac8a462104f888dcc1fe2110011b339240e6cffea9acf0be85b69", func := "loop.example/g01989/laws.FnExactRunGuarded", spec := "fnExactRunGuarded", inPlace := ["slices.overlaps[loop.example/g01989/impl.Fact]", "slices.overlaps[[]int]"], unfollowed := true, recurses := true, apart := false }
def FnExactRunGuardedSaid : Prop := fnExactRunGuardedRow.holds Tryz.pinned (OpenSpec.ofChange fnExactRunGuardedSpec)

/-- ITS FALSE NEIGHBOUR: 'it returns false'. Refute it at one input. -/
def fnExactRunGuardedWrong : ChangeSpec := { name := "fnExactRunGuarded", fn := fun _ => fun
  | [d1, d2, d3, d4] => { results := [.lit (.bool false)], args := [d1, d2, d3, d4] }
  | _ => none }
def FnExactRunGuardedWrongFalsely : Prop := fnExactRunGuardedRow.holds Tryz.pinned (OpenSpec.ofChange fnExactRunGuardedWrong)

/-- 'laws.FnExactFeasibleAnswers': WHATEVER THE INPUT: true; the input reads as it did. -/
def fnExactFeasibleAnswersSpec : ChangeSpec := { name := "fnExactFeasibleAnswers", fn := fun _ => fun
  | [d1, d2, d3, d4] => { results := [.lit (.bool true)], args := [d1, d2, d3, d4] }
  | _ => none }
def fnExactFeasibleAnswersRow : OpenClaim := { program := "ytdopeopehgdccaagreat", sum := "def00bd85c9ac8a462104f888dcc1fe2110011b339240e6cffea9acf0be85b69", func := "loop.example/g01989/laws.FnExactFeasibleAnswers", spec := "fnExactFeasibleAnswers", inPlace := ["slices.overlaps[loop.example/g01989/impl.Fact]", "slices.overlaps[[]int]"], unfollowed := true, recurses := true, apart := false }
def FnExactFeasibleAnswersSaid : Prop := fnExactFeasibleAnswersRow.holds Tryz.pinned (OpenSpec.ofChange fnExactFeasibleAnswersSpec)

/-- ITS FALSE NEIGHBOUR: 'it returns false'. Refute it at one input. -/
def fnExactFeasibleAnswersWrong : ChangeSpec := { name := "fnExactFeasibleAnswers", fn := fun _ => fun
  | [d1, d2, d3, d4] => { results := [.lit (.bool false)], args := [d1, d2, d3, d4] }
  | _ => none }
def FnExactFeasibleAnswersWrongFalsely : Prop := fnExactFeasibleAnswersRow.holds Tryz.pinned (OpenSpec.ofChange fnExactFeasibleAnswersWrong)

/- THE SECOND FORM. 'bulk': how many values and letters a reading holds, each counted each time it is reached (what is shared counts as often as it is met; a slice's spare places count too). A statement '..UptoSaid' is the law's where the arguments, and the package variables that the reading takes, are together of bulk at most 1048576: NARROWER than '..Said'. Prove '..Said' where nothing that the law and all that it calls make is longer than what came in: it says more and counts as full. Else prove '..UptoSaid'. A law counts once. -/
mutual
def uptoBulk {H : Type} : DataW H → Nat
  | .lit (.string bytes) => bytes.length + 1
  | .lit _ => 1
  | .nil => 1
  | .ptr d => uptoBulk d + 1
  | .slice elems spare => uptoBulkAll elems + uptoBulkAll spare + 1
  | .agg parts => uptoBulkAll parts + 1
  | .iface _ d => uptoBulk d + 1
  | .map entries => uptoBulkEntries entries + 1
  | .held _ => 1
def uptoBulkAll {H : Type} : List (DataW H) → Nat
  | [] => 0
  | d :: r => uptoBulk d + uptoBulkAll r
def uptoBulkEntries {H : Type} : List (Lit × DataW H) → Nat
  | [] => 0
  | x :: r => uptoBulkEntry x + uptoBulkEntries r
def uptoBulkEntry {H : Type} : Lit × DataW H → Nat
  | (.string bytes, d) => bytes.length + uptoBulk d + 1
  | (_, d) => uptoBulk d + 1
 end
def uptoSmall : (H : Type) → List (DataW H) → Bool := fun _ ds => decide (uptoBulkAll ds ≤ 1048576)
def OpenSpec.upto (s : _root_.Go.ChangeSpec) : _root_.Go.OpenSpec := { _root_.Go.OpenSpec.ofChange s with cond := some uptoSmall }

/-- 'laws.FnExactUnionByParts', WHERE WHAT IT READS IS OF BULK AT MOST 1048576: true; the input reads as it did. -/
def fnExactUnionByPartsUptoRow : OpenClaim := { program := "ytdopeopehgdccaagreat", sum := "def00bd85c9ac8a462104f888dcc1fe2110011b339240e6cffea9acf0be85b69", func := "loop.example/g01989/laws.FnExactUnionByParts", spec := "fnExactUnionByParts", inPlace := ["slices.overlaps[loop.example/g01989/impl.Fact]", "slices.overlaps[[]int]"], unfollowed := true, recurses := true, apart := false, narrowed := true }
def FnExactUnionByPartsUptoSaid : Prop := fnExactUnionByPartsUptoRow.holds Tryz.pinned (OpenSpec.upto fnExactUnionByPartsSpec)

/-- 'laws.FnExactRunOrder', WHERE WHAT IT READS IS OF BULK AT MOST 1048576: true; the input reads as it did. -/
def fnExactRunOrderUptoRow : OpenClaim := { program := "ytdopeopehgdccaagreat", sum := "def00bd85c9ac8a462104f888dcc1fe2110011b339240e6cffea9acf0be85b69", func := "loop.example/g01989/laws.FnExactRunOrder", spec := "fnExactRunOrder", inPlace := ["slices.overlaps[loop.example/g01989/impl.Fact]", "slices.overlaps[[]int]"], unfollowed := true, recurses := true, apart := false, narrowed := true }
def FnExactRunOrderUptoSaid : Prop := fnExactRunOrderUptoRow.holds Tryz.pinned (OpenSpec.upto fnExactRunOrderSpec)

/-- 'laws.FnExactHelpfulMethods', WHERE WHAT IT READS IS OF BULK AT MOST 1048576: true; the input reads as it did. -/
def fnExactHelpfulMethodsUptoRow : OpenClaim := { program := "ytdopeopehgdccaagreat", sum := "def00bd85c9ac8a462104f888dcc1fe2110011b339240e6cffea9acf0be85b69", func := "loop.example/g01989/laws.FnExactHelpfulMethods", spec := "fnExactHelpfulMethods", inPlace := ["slices.overlaps[loop.example/g01989/impl.Fact]"], unfollowed := true, recurses := true, apart := false, narrowed := true }
def FnExactHelpfulMethodsUptoSaid : Prop := fnExactHelpfulMethodsUptoRow.holds Tryz.pinned (OpenSpec.upto fnExactHelpfulMethodsSpec)

/-- 'laws.FnExactRunGuarded', WHERE WHAT IT READS IS OF BULK AT MOST 1048576: true; the input reads as it did. -/
def fnExactRunGuardedUptoRow : OpenClaim := { program := "ytdopeopehgdccaagreat", sum := "def00bd85c9ac8a462104f888dcc1fe2110011b339240e6cffea9acf0be85b69", func := "loop.example/g01989/laws.FnExactRunGuarded", spec := "fnExactRunGuarded", inPlace := ["slices.overlaps[loop.example/g01989/impl.Fact]", "slices.overlaps[[]int]"], unfollowed := true, recurses := true, apart := false, narrowed := true }
def FnExactRunGuardedUptoSaid : Prop := fnExactRunGuardedUptoRow.holds Tryz.pinned (OpenSpec.upto fnExactRunGuardedSpec)

/-- 'laws.FnExactFeasibleAnswers', WHERE WHAT IT READS IS OF BULK AT MOST 1048576: true; the input reads as it did. -/
def fnExactFeasibleAnswersUptoRow : OpenClaim := { program := "ytdopeopehgdccaagreat", sum := "def00bd85c9ac8a462104f888dcc1fe2110011b339240e6cffea9acf0be85b69", func := "loop.example/g01989/laws.FnExactFeasibleAnswers", spec := "fnExactFeasibleAnswers", inPlace := ["slices.overlaps[loop.example/g01989/impl.Fact]", "slices.overlaps[[]int]"], unfollowed := true, recurses := true, apart := false, narrowed := true }
def FnExactFeasibleAnswersUptoSaid : Prop := fnExactFeasibleAnswersUptoRow.holds Tryz.pinned (OpenSpec.upto fnExactFeasibleAnswersSpec)

end Rows
end Go.Proofs.YtdopeopehgdccaaGreat
