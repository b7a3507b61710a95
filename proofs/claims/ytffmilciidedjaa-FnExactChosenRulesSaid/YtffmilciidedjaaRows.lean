/-
  No cell of these rows narrows 'for every input' (looked for: loops, veiled, ifaces, maps, wideKeys, modest, calm, conditions, laid).
  DERIVED. THE GIVEN ROWS OF THIS SEAT. 7 by the template 'for every input the law returns true; each argument reads behind the call as it read before'; 0 by the template 'total and deterministic' (their statements: YtffmilciidedjaaTotals.lean).
  GIVEN WITH THE SEED: the statements are not yours to turn. If you find one false, say at which input.
  Laid BY PROGRAM, IN A SANDBOX (cutbox-rows.mjs): the forced cells as the released guide's own fill.sh prints them over the translation 3eeebe57cd1b3a2e… (all of the seat's roots in one cut). By AI agents, Wed Nov 11 2026. No macro, syntax, notation, axiom, sorry.
-/
import Derived.Test.YtffmilciidedjaaChecked
import GoSem.Claim
import GoSem.ClaimJoined
import GoSem.ClaimMapViews
import Derived.JoinedTies
import Derived.KernelRfl
namespace Go.Proofs.Ytffmilciidedjaa
/- THE CELL 'sum', in the pinned program and in every row, IS THE sha256 OF THE DUMP (.gsa) THAT YtffmilciidedjaaProg.lean LOADS. Nothing in Lean hashes anything: it is a label: what it is worth is what the hold of that sum in a sandbox is worth. -/
noncomputable def Try.pinned : Pinned := { name := "ytffmilciidedjaa", sum := "3eeebe57cd1b3a2ee3f17ad36bcf044c90aa00f5e29a80b1b67b67ada6d39a2a", checked := Try.checked }
namespace Rows
def none {H : Type} : Left H := { results := [], args := [] }

/-- 'laws.FnExactIsRule': WHATEVER THE INPUT: true; the input reads as it did. -/
def fnExactIsRuleSpec : ChangeSpec := { name := "fnExactIsRule", fn := fun _ => fun
  | [d1, d2] => { results := [.lit (.bool true)], args := [d1, d2] }
  | _ => none }
def fnExactIsRuleRow : OpenClaim := { program := "ytffmilciidedjaa", sum := "3eeebe57cd1b3a2ee3f17ad36bcf044c90aa00f5e29a80b1b67b67ada6d39a2a", func := "loop.example/g01989/laws.FnExactIsRule", spec := "fnExactIsRule", unfollowed := true, recurses := true, apart := false }
def FnExactIsRuleSaid : Prop := fnExactIsRuleRow.holds Try.pinned (OpenSpec.ofChange fnExactIsRuleSpec)

/-- ITS FALSE NEIGHBOUR: 'it returns false'. Refute it at one input. -/
def fnExactIsRuleWrong : ChangeSpec := { name := "fnExactIsRule", fn := fun _ => fun
  | [d1, d2] => { results := [.lit (.bool false)], args := [d1, d2] }
  | _ => none }
def FnExactIsRuleWrongFalsely : Prop := fnExactIsRuleRow.holds Try.pinned (OpenSpec.ofChange fnExactIsRuleWrong)

/-- 'laws.FnExactAreRules': WHATEVER THE INPUT: true; the input reads as it did. -/
def fnExactAreRulesSpec : ChangeSpec := { name := "fnExactAreRules", fn := fun _ => fun
  | [d1, d2] => { results := [.lit (.bool true)], args := [d1, d2] }
  | _ => none }
def fnExactAreRulesRow : OpenClaim := { program := "ytffmilciidedjaa", sum := "3eeebe57cd1b3a2ee3f17ad36bcf044c90aa00f5e29a80b1b67b67ada6d39a2a", func := "loop.example/g01989/laws.FnExactAreRules", spec := "fnExactAreRules", unfollowed := true, recurses := true, apart := false }
def FnExactAreRulesSaid : Prop := fnExactAreRulesRow.holds Try.pinned (OpenSpec.ofChange fnExactAreRulesSpec)

/-- ITS FALSE NEIGHBOUR: 'it returns false'. Refute it at one input. -/
def fnExactAreRulesWrong : ChangeSpec := { name := "fnExactAreRules", fn := fun _ => fun
  | [d1, d2] => { results := [.lit (.bool false)], args := [d1, d2] }
  | _ => none }
def FnExactAreRulesWrongFalsely : Prop := fnExactAreRulesRow.holds Try.pinned (OpenSpec.ofChange fnExactAreRulesWrong)

/-- 'laws.FnExactChosenRules': WHATEVER THE INPUT: true; the input reads as it did. -/
def fnExactChosenRulesSpec : ChangeSpec := { name := "fnExactChosenRules", fn := fun _ => fun
  | [d1, d2] => { results := [.lit (.bool true)], args := [d1, d2] }
  | _ => none }
def fnExactChosenRulesRow : OpenClaim := { program := "ytffmilciidedjaa", sum := "3eeebe57cd1b3a2ee3f17ad36bcf044c90aa00f5e29a80b1b67b67ada6d39a2a", func := "loop.example/g01989/laws.FnExactChosenRules", spec := "fnExactChosenRules", apart := false }
def FnExactChosenRulesSaid : Prop := fnExactChosenRulesRow.holds Try.pinned (OpenSpec.ofChange fnExactChosenRulesSpec)

/-- ITS FALSE NEIGHBOUR: 'it returns false'. Refute it at one input. -/
def fnExactChosenRulesWrong : ChangeSpec := { name := "fnExactChosenRules", fn := fun _ => fun
  | [d1, d2] => { results := [.lit (.bool false)], args := [d1, d2] }
  | _ => none }
def FnExactChosenRulesWrongFalsely : Prop := fnExactChosenRulesRow.holds Try.pinned (OpenSpec.ofChange fnExactChosenRulesWrong)

/-- 'laws.FnExactIsWithinQuota': WHATEVER THE INPUT: true; the input reads as it did. -/
def fnExactIsWithinQuotaSpec : ChangeSpec := { name := "fnExactIsWithinQuota", fn := fun _ => fun
  | [d1, d2] => { results := [.lit (.bool true)], args := [d1, d2] }
  | _ => none }
def fnExactIsWithinQuotaRow : OpenClaim := { program := "ytffmilciidedjaa", sum := "3eeebe57cd1b3a2ee3f17ad36bcf044c90aa00f5e29a80b1b67b67ada6d39a2a", func := "loop.example/g01989/laws.FnExactIsWithinQuota", spec := "fnExactIsWithinQuota", unfollowed := true, recurses := true, apart := false }
def FnExactIsWithinQuotaSaid : Prop := fnExactIsWithinQuotaRow.holds Try.pinned (OpenSpec.ofChange fnExactIsWithinQuotaSpec)

/-- ITS FALSE NEIGHBOUR: 'it returns false'. Refute it at one input. -/
def fnExactIsWithinQuotaWrong : ChangeSpec := { name := "fnExactIsWithinQuota", fn := fun _ => fun
  | [d1, d2] => { results := [.lit (.bool false)], args := [d1, d2] }
  | _ => none }
def FnExactIsWithinQuotaWrongFalsely : Prop := fnExactIsWithinQuotaRow.holds Try.pinned (OpenSpec.ofChange fnExactIsWithinQuotaWrong)

/-- 'laws.FnExactImpliedBy': WHATEVER THE INPUT: true; the input reads as it did. -/
def fnExactImpliedBySpec : ChangeSpec := { name := "fnExactImpliedBy", fn := fun _ => fun
  | [d1, d2, d3] => { results := [.lit (.bool true)], args := [d1, d2, d3] }
  | _ => none }
def fnExactImpliedByRow : OpenClaim := { program := "ytffmilciidedjaa", sum := "3eeebe57cd1b3a2ee3f17ad36bcf044c90aa00f5e29a80b1b67b67ada6d39a2a", func := "loop.example/g01989/laws.FnExactImpliedBy", spec := "fnExactImpliedBy", unfollowed := true, recurses := true, apart := false }
def FnExactImpliedBySaid : Prop := fnExactImpliedByRow.holds Try.pinned (OpenSpec.ofChange fnExactImpliedBySpec)

/-- ITS FALSE NEIGHBOUR: 'it returns false'. Refute it at one input. -/
def fnExactImpliedByWrong : ChangeSpec := { name := "fnExactImpliedBy", fn := fun _ => fun
  | [d1, d2, d3] => { results := [.lit (.bool false)], args := [d1, d2, d3] }
  | _ => none }
def FnExactImpliedByWrongFalsely : Prop := fnExactImpliedByRow.holds Try.pinned (OpenSpec.ofChange fnExactImpliedByWrong)

/-- 'laws.FnExactDropAtom': WHATEVER THE INPUT: true; the input reads as it did. -/
def fnExactDropAtomSpec : ChangeSpec := { name := "fnExactDropAtom", fn := fun _ => fun
  | [d1, d2] => { results := [.lit (.bool true)], args := [d1, d2] }
  | _ => none }
def fnExactDropAtomRow : OpenClaim := { program := "ytffmilciidedjaa", sum := "3eeebe57cd1b3a2ee3f17ad36bcf044c90aa00f5e29a80b1b67b67ada6d39a2a", func := "loop.example/g01989/laws.FnExactDropAtom", spec := "fnExactDropAtom", apart := false }
def FnExactDropAtomSaid : Prop := fnExactDropAtomRow.holds Try.pinned (OpenSpec.ofChange fnExactDropAtomSpec)

/-- ITS FALSE NEIGHBOUR: 'it returns false'. Refute it at one input. -/
def fnExactDropAtomWrong : ChangeSpec := { name := "fnExactDropAtom", fn := fun _ => fun
  | [d1, d2] => { results := [.lit (.bool false)], args := [d1, d2] }
  | _ => none }
def FnExactDropAtomWrongFalsely : Prop := fnExactDropAtomRow.holds Try.pinned (OpenSpec.ofChange fnExactDropAtomWrong)

/-- 'laws.FnExactTupleOf': WHATEVER THE INPUT: true; the input reads as it did. -/
def fnExactTupleOfSpec : ChangeSpec := { name := "fnExactTupleOf", fn := fun _ => fun
  | [d1, d2] => { results := [.lit (.bool true)], args := [d1, d2] }
  | _ => none }
def fnExactTupleOfRow : OpenClaim := { program := "ytffmilciidedjaa", sum := "3eeebe57cd1b3a2ee3f17ad36bcf044c90aa00f5e29a80b1b67b67ada6d39a2a", func := "loop.example/g01989/laws.FnExactTupleOf", spec := "fnExactTupleOf", apart := false }
def FnExactTupleOfSaid : Prop := fnExactTupleOfRow.holds Try.pinned (OpenSpec.ofChange fnExactTupleOfSpec)

/-- ITS FALSE NEIGHBOUR: 'it returns false'. Refute it at one input. -/
def fnExactTupleOfWrong : ChangeSpec := { name := "fnExactTupleOf", fn := fun _ => fun
  | [d1, d2] => { results := [.lit (.bool false)], args := [d1, d2] }
  | _ => none }
def FnExactTupleOfWrongFalsely : Prop := fnExactTupleOfRow.holds Try.pinned (OpenSpec.ofChange fnExactTupleOfWrong)

/- THE SECOND FORM. 'bulk': how many values and letters a reading holds, each counted each time it is reached (what is shared counts as often as it is met; a slice's spare places count too). A statement '..UptoSaid' is the law's where the arguments, and the package variables that the reading takes, are together of bulk at most 1048576: NARROWER than '..Said'. Prove '..Said' where nothing that the law and all that it calls make is longer than what came in: it says more and counts as full. Else prove '..UptoSaid'. A law counts once. -/
mutual
def uptoBulk {H : Type} : DataW H → Nat
  | .lit (.string bytes) => bytes.length + 1
  | .lit _ => 1
  | .nil => 1
  | .ptr d => uptoBulk d + 1
  | .slice elems spare => uptoBulkAll elems + uptoBulkAll spare + 1
  | .agg parts => uptoBulkAll parts + 1
  | .iface _ d => uptoBulk d + 1
  | .map entries => uptoBulkEntries entries + 1
  | .held _ => 1
def uptoBulkAll {H : Type} : List (DataW H) → Nat
  | [] => 0
  | d :: r => uptoBulk d + uptoBulkAll r
def uptoBulkEntries {H : Type} : List (Lit × DataW H) → Nat
  | [] => 0
  | x :: r => uptoBulkEntry x + uptoBulkEntries r
def uptoBulkEntry {H : Type} : Lit × DataW H → Nat
  | (.string bytes, d) => bytes.length + uptoBulk d + 1
  | (_, d) => uptoBulk d + 1
 end
def uptoSmall : (H : Type) → List (DataW H) → Bool := fun _ ds => decide (uptoBulkAll ds ≤ 1048576)
def OpenSpec.upto (s : _root_.Go.ChangeSpec) : _root_.Go.OpenSpec := { _root_.Go.OpenSpec.ofChange s with cond := some uptoSmall }

/-- 'laws.FnExactIsRule', WHERE WHAT IT READS IS OF BULK AT MOST 1048576: true; the input reads as it did. -/
def fnExactIsRuleUptoRow : OpenClaim := { program := "ytffmilciidedjaa", sum := "3eeebe57cd1b3a2ee3f17ad36bcf044c90aa00f5e29a80b1b67b67ada6d39a2a", func := "loop.example/g01989/laws.FnExactIsRule", spec := "fnExactIsRule", unfollowed := true, recurses := true, apart := false, narrowed := true }
def FnExactIsRuleUptoSaid : Prop := fnExactIsRuleUptoRow.holds Try.pinned (OpenSpec.upto fnExactIsRuleSpec)

/-- 'laws.FnExactAreRules', WHERE WHAT IT READS IS OF BULK AT MOST 1048576: true; the input reads as it did. -/
def fnExactAreRulesUptoRow : OpenClaim := { program := "ytffmilciidedjaa", sum := "3eeebe57cd1b3a2ee3f17ad36bcf044c90aa00f5e29a80b1b67b67ada6d39a2a", func := "loop.example/g01989/laws.FnExactAreRules", spec := "fnExactAreRules", unfollowed := true, recurses := true, apart := false, narrowed := true }
def FnExactAreRulesUptoSaid : Prop := fnExactAreRulesUptoRow.holds Try.pinned (OpenSpec.upto fnExactAreRulesSpec)

/-- 'laws.FnExactChosenRules', WHERE WHAT IT READS IS OF BULK AT MOST 1048576: true; the input reads as it did. -/
def fnExactChosenRulesUptoRow : OpenClaim := { program := "ytffmilciidedjaa", sum := "3eeebe57cd1b3a2ee3f17ad36bcf044c90aa00f5e29a80b1b67b67ada6d39a2a", func := "loop.example/g01989/laws.FnExactChosenRules", spec := "fnExactChosenRules", apart := false, narrowed := true }
def FnExactChosenRulesUptoSaid : Prop := fnExactChosenRulesUptoRow.holds Try.pinned (OpenSpec.upto fnExactChosenRulesSpec)

/-- 'laws.FnExactIsWithinQuota', WHERE WHAT IT READS IS OF BULK AT MOST 1048576: true; the input reads as it did. -/
def fnExactIsWithinQuotaUptoRow : OpenClaim := { program := "ytffmilciidedjaa", sum := "3eeebe57cd1b3a2ee3f17ad36bcf044c90aa00f5e29a80b1b67b67ada6d39a2a", func := "loop.example/g01989/laws.FnExactIsWithinQuota", spec := "fnExactIsWithinQuota", unfollowed := true, recurses := true, apart := false, narrowed := true }
def FnExactIsWithinQuotaUptoSaid : Prop := fnExactIsWithinQuotaUptoRow.holds Try.pinned (OpenSpec.upto fnExactIsWithinQuotaSpec)

/-- 'laws.FnExactImpliedBy', WHERE WHAT IT READS IS OF BULK AT MOST 1048576: true; the input reads as it did. -/
def fnExactImpliedByUptoRow : OpenClaim := { program := "ytffmilciidedjaa", sum := "3eeebe57cd1b3a2ee3f17ad36bcf044c90aa00f5e29a80b1b67b67ada6d39a2a", func := "loop.example/g01989/laws.FnExactImpliedBy", spec := "fnExactImpliedBy", unfollowed := true, recurses := true, apart := false, narrowed := true }
def FnExactImpliedByUptoSaid : Prop := fnExactImpliedByUptoRow.holds Try.pinned (OpenSpec.upto fnExactImpliedBySpec)

/-- 'laws.FnExactDropAtom', WHERE WHAT IT READS IS OF BULK AT MOST 1048576: true; the input reads as it did. -/
def fnExactDropAtomUptoRow : OpenClaim := { program := "ytffmilciidedjaa", sum := "3eeebe57cd1b3a2ee3f17ad36bcf044c90aa00f5e29a80b1b67b67ada6d39a2a", func := "loop.example/g01989/laws.FnExactDropAtom", spec := "fnExactDropAtom", apart := false, narrowed := true }
def FnExactDropAtomUptoSaid : Prop := fnExactDropAtomUptoRow.holds Try.pinned (OpenSpec.upto fnExactDropAtomSpec)

/-- 'laws.FnExactTupleOf', WHERE WHAT IT READS IS OF BULK AT MOST 1048576: true; the input reads as it did. -/
def fnExactTupleOfUptoRow : OpenClaim := { program := "ytffmilciidedjaa", sum := "3eeebe57cd1b3a2ee3f17ad36bcf044c90aa00f5e29a80b1b67b67ada6d39a2a", func := "loop.example/g01989/laws.FnExactTupleOf", spec := "fnExactTupleOf", apart := false, narrowed := true }
def FnExactTupleOfUptoSaid : Prop := fnExactTupleOfUptoRow.holds Try.pinned (OpenSpec.upto fnExactTupleOfSpec)

end Rows
end Go.Proofs.Ytffmilciidedjaa
