/-
  No cell of these rows narrows 'for every input' (looked for: loops, veiled, ifaces, maps, wideKeys, modest, calm, conditions, laid).
  DERIVED. THE GIVEN ROWS OF THIS SEAT. 7 by the template 'for every input the law returns true; each argument reads behind the call as it read before'; 0 by the template 'total and deterministic' (their statements: YtfnagmokplpnjaaGreatTotals.lean).
  GIVEN WITH THE SEED: the statements are not yours to turn. If you find one false, say at which input.
  Laid BY PROGRAM, IN A SANDBOX (cutbox-rows.mjs): the forced cells as the released guide's own fill.sh prints them over the translation 774acaca7a9ff9e3… (all of the seat's roots in one cut). By AI agents, Wed Nov 11 2026. No macro, syntax, notation, axiom, sorry.
-/
import Derived.Test.YtfnagmokplpnjaaGreatChecked
import GoSem.Claim
import GoSem.ClaimJoined
import GoSem.ClaimMapViews
import Derived.JoinedTies
import Derived.KernelRfl
namespace Go.Proofs.YtfnagmokplpnjaaGreat
/- THE CELL 'sum', in the pinned program and in every row, IS THE sha256 OF THE DUMP (.gsa) THAT YtfnagmokplpnjaaGreatProg.lean LOADS. Nothing in Lean hashes anything: it is a label: what it is worth is what the hold of that sum in a sandbox is worth. -/
noncomputable def Tryz.pinned : Pinned := { name := "ytfnagmokplpnjaagreat", sum := "774acaca7a9ff9e3108ca613ca77ec2b3c7b0990835725979ba97050edf4e42f", checked := Tryz.checked }
namespace Rows
def none {H : Type} : Left H := { results := [], args := [] }

/-- 'laws.FnExactCheckProof': WHATEVER THE INPUT: true; the input reads as it did. -/
def fnExactCheckProofSpec : ChangeSpec := { name := "fnExactCheckProof", fn := fun _ => fun
  | [d1, d2, d3, d4, d5, d6, d7] => { results := [.lit (.bool true)], args := [d1, d2, d3, d4, d5, d6, d7] }
  | _ => none }
def fnExactCheckProofRow : OpenClaim := { program := "ytfnagmokplpnjaagreat", sum := "774acaca7a9ff9e3108ca613ca77ec2b3c7b0990835725979ba97050edf4e42f", func := "loop.example/g01989/laws.FnExactCheckProof", spec := "fnExactCheckProof", unfollowed := true, recurses := true, apart := false }
def FnExactCheckProofSaid : Prop := fnExactCheckProofRow.holds Tryz.pinned (OpenSpec.ofChange fnExactCheckProofSpec)

/-- ITS FALSE NEIGHBOUR: 'it returns false'. Refute it at one input. -/
def fnExactCheckProofWrong : ChangeSpec := { name := "fnExactCheckProof", fn := fun _ => fun
  | [d1, d2, d3, d4, d5, d6, d7] => { results := [.lit (.bool false)], args := [d1, d2, d3, d4, d5, d6, d7] }
  | _ => none }
def FnExactCheckProofWrongFalsely : Prop := fnExactCheckProofRow.holds Tryz.pinned (OpenSpec.ofChange fnExactCheckProofWrong)

/-- 'laws.FnExactStepReach': WHATEVER THE INPUT: true; the input reads as it did. -/
def fnExactStepReachSpec : ChangeSpec := { name := "fnExactStepReach", fn := fun _ => fun
  | [d1, d2, d3, d4] => { results := [.lit (.bool true)], args := [d1, d2, d3, d4] }
  | _ => none }
def fnExactStepReachRow : OpenClaim := { program := "ytfnagmokplpnjaagreat", sum := "774acaca7a9ff9e3108ca613ca77ec2b3c7b0990835725979ba97050edf4e42f", func := "loop.example/g01989/laws.FnExactStepReach", spec := "fnExactStepReach", inPlace := ["slices.overlaps[loop.example/g01989/impl.Fact]"], unfollowed := true, recurses := true, apart := false }
def FnExactStepReachSaid : Prop := fnExactStepReachRow.holds Tryz.pinned (OpenSpec.ofChange fnExactStepReachSpec)

/-- ITS FALSE NEIGHBOUR: 'it returns false'. Refute it at one input. -/
def fnExactStepReachWrong : ChangeSpec := { name := "fnExactStepReach", fn := fun _ => fun
  | [d1, d2, d3, d4] => { results := [.lit (.bool false)], args := [d1, d2, d3, d4] }
  | _ => none }
def FnExactStepReachWrongFalsely : Prop := fnExactStepReachRow.holds Tryz.pinned (OpenSpec.ofChange fnExactStepReachWrong)

/-- 'laws.FnExactIsReached': WHATEVER THE INPUT: true; the input reads as it did. -/
def fnExactIsReachedSpec : ChangeSpec := { name := "fnExactIsReached", fn := fun _ => fun
  | [d1, d2, d3, d4, d5] => { results := [.lit (.bool true)], args := [d1, d2, d3, d4, d5] }
  | _ => none }
def fnExactIsReachedRow : OpenClaim := { program := "ytfnagmokplpnjaagreat", sum := "774acaca7a9ff9e3108ca613ca77ec2b3c7b0990835725979ba97050edf4e42f", func := "loop.example/g01989/laws.FnExactIsReached", spec := "fnExactIsReached", inPlace := ["slices.overlaps[loop.example/g01989/impl.Fact]"], unfollowed := true, recurses := true, apart := false }
def FnExactIsReachedSaid : Prop := fnExactIsReachedRow.holds Tryz.pinned (OpenSpec.ofChange fnExactIsReachedSpec)

/-- ITS FALSE NEIGHBOUR: 'it returns false'. Refute it at one input. -/
def fnExactIsReachedWrong : ChangeSpec := { name := "fnExactIsReached", fn := fun _ => fun
  | [d1, d2, d3, d4, d5] => { results := [.lit (.bool false)], args := [d1, d2, d3, d4, d5] }
  | _ => none }
def FnExactIsReachedWrongFalsely : Prop := fnExactIsReachedRow.holds Tryz.pinned (OpenSpec.ofChange fnExactIsReachedWrong)

/-- 'laws.FnExactReachUnder': WHATEVER THE INPUT: true; the input reads as it did. -/
def fnExactReachUnderSpec : ChangeSpec := { name := "fnExactReachUnder", fn := fun _ => fun
  | [d1, d2, d3, d4, d5] => { results := [.lit (.bool true)], args := [d1, d2, d3, d4, d5] }
  | _ => none }
def fnExactReachUnderRow : OpenClaim := { program := "ytfnagmokplpnjaagreat", sum := "774acaca7a9ff9e3108ca613ca77ec2b3c7b0990835725979ba97050edf4e42f", func := "loop.example/g01989/laws.FnExactReachUnder", spec := "fnExactReachUnder", inPlace := ["slices.overlaps[loop.example/g01989/impl.Fact]"], unfollowed := true, recurses := true, apart := false }
def FnExactReachUnderSaid : Prop := fnExactReachUnderRow.holds Tryz.pinned (OpenSpec.ofChange fnExactReachUnderSpec)

/-- ITS FALSE NEIGHBOUR: 'it returns false'. Refute it at one input. -/
def fnExactReachUnderWrong : ChangeSpec := { name := "fnExactReachUnder", fn := fun _ => fun
  | [d1, d2, d3, d4, d5] => { results := [.lit (.bool false)], args := [d1, d2, d3, d4, d5] }
  | _ => none }
def FnExactReachUnderWrongFalsely : Prop := fnExactReachUnderRow.holds Tryz.pinned (OpenSpec.ofChange fnExactReachUnderWrong)

/-- 'laws.FnExactProveReach': WHATEVER THE INPUT: true; the input reads as it did. -/
def fnExactProveReachSpec : ChangeSpec := { name := "fnExactProveReach", fn := fun _ => fun
  | [d1, d2, d3, d4, d5, d6] => { results := [.lit (.bool true)], args := [d1, d2, d3, d4, d5, d6] }
  | _ => none }
def fnExactProveReachRow : OpenClaim := { program := "ytfnagmokplpnjaagreat", sum := "774acaca7a9ff9e3108ca613ca77ec2b3c7b0990835725979ba97050edf4e42f", func := "loop.example/g01989/laws.FnExactProveReach", spec := "fnExactProveReach", inPlace := ["slices.overlaps[loop.example/g01989/impl.Fact]"], unfollowed := true, recurses := true, apart := false }
def FnExactProveReachSaid : Prop := fnExactProveReachRow.holds Tryz.pinned (OpenSpec.ofChange fnExactProveReachSpec)

/-- ITS FALSE NEIGHBOUR: 'it returns false'. Refute it at one input. -/
def fnExactProveReachWrong : ChangeSpec := { name := "fnExactProveReach", fn := fun _ => fun
  | [d1, d2, d3, d4, d5, d6] => { results := [.lit (.bool false)], args := [d1, d2, d3, d4, d5, d6] }
  | _ => none }
def FnExactProveReachWrongFalsely : Prop := fnExactProveReachRow.holds Tryz.pinned (OpenSpec.ofChange fnExactProveReachWrong)

/-- 'laws.FnExactIsFeasibleUnder': WHATEVER THE INPUT: true; the input reads as it did. -/
def fnExactIsFeasibleUnderSpec : ChangeSpec := { name := "fnExactIsFeasibleUnder", fn := fun _ => fun
  | [d1, d2, d3, d4] => { results := [.lit (.bool true)], args := [d1, d2, d3, d4] }
  | _ => none }
def fnExactIsFeasibleUnderRow : OpenClaim := { program := "ytfnagmokplpnjaagreat", sum := "774acaca7a9ff9e3108ca613ca77ec2b3c7b0990835725979ba97050edf4e42f", func := "loop.example/g01989/laws.FnExactIsFeasibleUnder", spec := "fnExactIsFeasibleUnder", inPlace := ["slices.overlaps[loop.example/g01989/impl.Fact]"], unfollowed := true, recurses := true, apart := false }
def FnExactIsFeasibleUnderSaid : Prop := fnExactIsFeasibleUnderRow.holds Tryz.pinned (OpenSpec.ofChange fnExactIsFeasibleUnderSpec)

/-- ITS FALSE NEIGHBOUR: 'it returns false'. Refute it at one input. -/
def fnExactIsFeasibleUnderWrong : ChangeSpec := { name := "fnExactIsFeasibleUnder", fn := fun _ => fun
  | [d1, d2, d3, d4] => { results := [.lit (.bool false)], args := [d1, d2, d3, d4] }
  | _ => none }
def FnExactIsFeasibleUnderWrongFalsely : Prop := fnExactIsFeasibleUnderRow.holds Tryz.pinned (OpenSpec.ofChange fnExactIsFeasibleUnderWrong)

/-- 'laws.FnExactAnswersUnder': WHATEVER THE INPUT: true; the input reads as it did. -/
def fnExactAnswersUnderSpec : ChangeSpec := { name := "fnExactAnswersUnder", fn := fun _ => fun
  | [d1, d2, d3, d4, d5] => { results := [.lit (.bool true)], args := [d1, d2, d3, d4, d5] }
  | _ => none }
def fnExactAnswersUnderRow : OpenClaim := { program := "ytfnagmokplpnjaagreat", sum := "774acaca7a9ff9e3108ca613ca77ec2b3c7b0990835725979ba97050edf4e42f", func := "loop.example/g01989/laws.FnExactAnswersUnder", spec := "fnExactAnswersUnder", inPlace := ["slices.overlaps[loop.example/g01989/impl.Fact]", "slices.overlaps[[]int]"], unfollowed := true, recurses := true, apart := false }
def FnExactAnswersUnderSaid : Prop := fnExactAnswersUnderRow.holds Tryz.pinned (OpenSpec.ofChange fnExactAnswersUnderSpec)

/-- ITS FALSE NEIGHBOUR: 'it returns false'. Refute it at one input. -/
def fnExactAnswersUnderWrong : ChangeSpec := { name := "fnExactAnswersUnder", fn := fun _ => fun
  | [d1, d2, d3, d4, d5] => { results := [.lit (.bool false)], args := [d1, d2, d3, d4, d5] }
  | _ => none }
def FnExactAnswersUnderWrongFalsely : Prop := fnExactAnswersUnderRow.holds Tryz.pinned (OpenSpec.ofChange fnExactAnswersUnderWrong)

/- THE SECOND FORM. 'bulk': how many values and letters a reading holds, each counted each time it is reached (what is shared counts as often as it is met; a slice's spare places count too). A statement '..UptoSaid' is the law's where the arguments, and the package variables that the reading takes, are together of bulk at most 1048576: NARROWER than '..Said'. Prove '..Said' where nothing that the law and all that it calls make is longer than what came in: it says more and counts as full. Else prove '..UptoSaid'. A law counts once. -/
mutual
def uptoBulk {H : Type} : DataW H → Nat
  | .lit (.string bytes) => bytes.length + 1
  | .lit _ => 1
  | .nil => 1
  | .ptr d => uptoBulk d + 1
  | .slice elems spare => uptoBulkAll elems + uptoBulkAll spare + 1
  | .agg parts => uptoBulkAll parts + 1
  | .iface _ d => uptoBulk d + 1
  | .map entries => uptoBulkEntries entries + 1
  | .held _ => 1
def uptoBulkAll {H : Type} : List (DataW H) → Nat
  | [] => 0
  | d :: r => uptoBulk d + uptoBulkAll r
def uptoBulkEntries {H : Type} : List (Lit × DataW H) → Nat
  | [] => 0
  | x :: r => uptoBulkEntry x + uptoBulkEntries r
def uptoBulkEntry {H : Type} : Lit × DataW H → Nat
  | (.string bytes, d) => bytes.length + uptoBulk d + 1
  | (_, d) => uptoBulk d + 1
 end
def uptoSmall : (H : Type) → List (DataW H) → Bool := fun _ ds => decide (uptoBulkAll ds ≤ 1048576)
def OpenSpec.upto (s : _root_.Go.ChangeSpec) : _root_.Go.OpenSpec := { _root_.Go.OpenSpec.ofChange s with cond := some uptoSmall }

/-- 'laws.FnExactCheckProof', WHERE WHAT IT READS IS OF BULK AT MOST 1048576: true; the input reads as it did. -/
def fnExactCheckProofUptoRow : OpenClaim := { program := "ytfnagmokplpnjaagreat", sum := "774acaca7a9ff9e3108ca613ca77ec2b3c7b0990835725979ba97050edf4e42f", func := "loop.example/g01989/laws.FnExactCheckProof", spec := "fnExactCheckProof", unfollowed := true, recurses := true, apart := false, narrowed := true }
def FnExactCheckProofUptoSaid : Prop := fnExactCheckProofUptoRow.holds Tryz.pinned (OpenSpec.upto fnExactCheckProofSpec)

/-- 'laws.FnExactStepReach', WHERE WHAT IT READS IS OF BULK AT MOST 1048576: true; the input reads as it did. -/
def fnExactStepReachUptoRow : OpenClaim := { program := "ytfnagmokplpnjaagreat", sum := "774acaca7a9ff9e3108ca613ca77ec2b3c7b0990835725979ba97050edf4e42f", func := "loop.example/g01989/laws.FnExactStepReach", spec := "fnExactStepReach", inPlace := ["slices.overlaps[loop.example/g01989/impl.Fact]"], unfollowed := true, recurses := true, apart := false, narrowed := true }
def FnExactStepReachUptoSaid : Prop := fnExactStepReachUptoRow.holds Tryz.pinned (OpenSpec.upto fnExactStepReachSpec)

/-- 'laws.FnExactIsReached', WHERE WHAT IT READS IS OF BULK AT MOST 1048576: true; the input reads as it did. -/
def fnExactIsReachedUptoRow : OpenClaim := { program := "ytfnagmokplpnjaagreat", sum := "774acaca7a9ff9e3108ca613ca77ec2b3c7b0990835725979ba97050edf4e42f", func := "loop.example/g01989/laws.FnExactIsReached", spec := "fnExactIsReached", inPlace := ["slices.overlaps[loop.example/g01989/impl.Fact]"], unfollowed := true, recurses := true, apart := false, narrowed := true }
def FnExactIsReachedUptoSaid : Prop := fnExactIsReachedUptoRow.holds Tryz.pinned (OpenSpec.upto fnExactIsReachedSpec)

/-- 'laws.FnExactReachUnder', WHERE WHAT IT READS IS OF BULK AT MOST 1048576: true; the input reads as it did. -/
def fnExactReachUnderUptoRow : OpenClaim := { program := "ytfnagmokplpnjaagreat", sum := "774acaca7a9ff9e3108ca613ca77ec2b3c7b0990835725979ba97050edf4e42f", func := "loop.example/g01989/laws.FnExactReachUnder", spec := "fnExactReachUnder", inPlace := ["slices.overlaps[loop.example/g01989/impl.Fact]"], unfollowed := true, recurses := true, apart := false, narrowed := true }
def FnExactReachUnderUptoSaid : Prop := fnExactReachUnderUptoRow.holds Tryz.pinned (OpenSpec.upto fnExactReachUnderSpec)

/-- 'laws.FnExactProveReach', WHERE WHAT IT READS IS OF BULK AT MOST 1048576: true; the input reads as it did. -/
def fnExactProveReachUptoRow : OpenClaim := { program := "ytfnagmokplpnjaagreat", sum := "774acaca7a9ff9e3108ca613ca77ec2b3c7b0990835725979ba97050edf4e42f", func := "loop.example/g01989/laws.FnExactProveReach", spec := "fnExactProveReach", inPlace := ["slices.overlaps[loop.example/g01989/impl.Fact]"], unfollowed := true, recurses := true, apart := false, narrowed := true }
def FnExactProveReachUptoSaid : Prop := fnExactProveReachUptoRow.holds Tryz.pinned (OpenSpec.upto fnExactProveReachSpec)

/-- 'laws.FnExactIsFeasibleUnder', WHERE WHAT IT READS IS OF BULK AT MOST 1048576: true; the input reads as it did. -/
def fnExactIsFeasibleUnderUptoRow : OpenClaim := { program := "ytfnagmokplpnjaagreat", sum := "774acaca7a9ff9e3108ca613ca77ec2b3c7b0990835725979ba97050edf4e42f", func := "loop.example/g01989/laws.FnExactIsFeasibleUnder", spec := "fnExactIsFeasibleUnder", inPlace := ["slices.overlaps[loop.example/g01989/impl.Fact]"], unfollowed := true, recurses := true, apart := false, narrowed := true }
def FnExactIsFeasibleUnderUptoSaid : Prop := fnExactIsFeasibleUnderUptoRow.holds Tryz.pinned (OpenSpec.upto fnExactIsFeasibleUnderSpec)

/-- 'laws.FnExactAnswersUnder', WHERE WHAT IT READS IS OF BULK AT MOST 1048576: true; the input reads as it did. -/
def fnExactAnswersUnderUptoRow : OpenClaim := { program := "ytfnagmokplpnjaagreat", sum := "774acaca7a9ff9e3108ca613ca77ec2b3c7b0990835725979ba97050edf4e42f", func := "loop.example/g01989/laws.FnExactAnswersUnder", spec := "fnExactAnswersUnder", inPlace := ["slices.overlaps[loop.example/g01989/impl.Fact]", "slices.overlaps[[]int]"], unfollowed := true, recurses := true, apart := false, narrowed := true }
def FnExactAnswersUnderUptoSaid : Prop := fnExactAnswersUnderUptoRow.holds Tryz.pinned (OpenSpec.upto fnExactAnswersUnderSpec)

end Rows
end Go.Proofs.YtfnagmokplpnjaaGreat
