/-
  No cell of these rows narrows 'for every input' (looked for: loops, veiled, ifaces, maps, wideKeys, modest, calm, conditions, laid).
  DERIVED. THE GIVEN ROWS OF THIS SEAT. 2 by the template 'for every input the law returns true; each argument reads behind the call as it read before'; 0 by the template 'total and deterministic' (their statements: YtlcfbfbdnnoifaaTotals.lean).
  GIVEN WITH THE SEED: the statements are not yours to turn. If you find one false, say at which input.
  Laid BY PROGRAM, IN A SANDBOX (cutbox-rows.mjs): the forced cells as the released guide's own fill.sh prints them over the translation 19f07bd4b8875c7b… (all of the seat's roots in one cut). By AI agents, Wed Nov 11 2026. No macro, syntax, notation, axiom, sorry.
-/
import Derived.Test.YtlcfbfbdnnoifaaChecked
import GoSem.Claim
import GoSem.ClaimJoined
import GoSem.ClaimMapViews
import Derived.JoinedTies
import Derived.KernelRfl
namespace Go.Proofs.Ytlcfbfbdnnoifaa
/- THE CELL 'sum', in the pinned program and in every row, IS THE sha256 OF THE DUMP (.gsa) THAT YtlcfbfbdnnoifaaProg.lean LOADS. Nothing in Lean hashes anything: it is a label: what it is worth is what the hold of that sum in a sandbox is worth. -/
noncomputable def Try.pinned : Pinned := { name := "ytlcfbfbdnnoifaa", sum := "19f07bd4b8875c7b540382f31ae42de2e5f726550ebd6d9b16861c6c5399ab59", checked := Try.checked }
namespace Rows
def none {H : Type} : Left H := { results := [], args := [] }

/-- 'laws.FnExactDropAtom': WHATEVER THE INPUT: true; the input reads as it did. -/
def fnExactDropAtomSpec : ChangeSpec := { name := "fnExactDropAtom", fn := fun _ => fun
  | [d1, d2] => { results := [.lit (.bool true)], args := [d1, d2] }
  | _ => none }
def fnExactDropAtomRow : OpenClaim := { program := "ytlcfbfbdnnoifaa", sum := "19f07bd4b8875c7b540382f31ae42de2e5f726550ebd6d9b16861c6c5399ab59", func := "loop.example/g01989/laws.FnExactDropAtom", spec := "fnExactDropAtom", apart := false }
def FnExactDropAtomSaid : Prop := fnExactDropAtomRow.holds Try.pinned (OpenSpec.ofChange fnExactDropAtomSpec)

/-- ITS FALSE NEIGHBOUR: 'it returns false'. Refute it at one input. -/
def fnExactDropAtomWrong : ChangeSpec := { name := "fnExactDropAtom", fn := fun _ => fun
  | [d1, d2] => { results := [.lit (.bool false)], args := [d1, d2] }
  | _ => none }
def FnExactDropAtomWrongFalsely : Prop := fnExactDropAtomRow.holds Try.pinned (OpenSpec.ofChange fnExactDropAtomWrong)

/-- 'laws.FnExactFreezeQuery': WHATEVER THE INPUT: true; the input reads as it did. -/
def fnExactFreezeQuerySpec : ChangeSpec := { name := "fnExactFreezeQuery", fn := fun _ => fun
  | [d] => { results := [.lit (.bool true)], args := [d] }
  | _ => none }
def fnExactFreezeQueryRow : OpenClaim := { program := "ytlcfbfbdnnoifaa", sum := "19f07bd4b8875c7b540382f31ae42de2e5f726550ebd6d9b16861c6c5399ab59", func := "loop.example/g01989/laws.FnExactFreezeQuery", spec := "fnExactFreezeQuery", inPlace := ["slices.overlaps[loop.example/g01989/impl.Fact]"], unfollowed := true, recurses := true, apart := false }
def FnExactFreezeQuerySaid : Prop := fnExactFreezeQueryRow.holds Try.pinned (OpenSpec.ofChange fnExactFreezeQuerySpec)

/-- ITS FALSE NEIGHBOUR: 'it returns false'. Refute it at one input. -/
def fnExactFreezeQueryWrong : ChangeSpec := { name := "fnExactFreezeQuery", fn := fun _ => fun
  | [d] => { results := [.lit (.bool false)], args := [d] }
  | _ => none }
def FnExactFreezeQueryWrongFalsely : Prop := fnExactFreezeQueryRow.holds Try.pinned (OpenSpec.ofChange fnExactFreezeQueryWrong)

/- THE SECOND FORM. 'bulk': how many values and letters a reading holds, each counted each time it is reached (what is shared counts as often as it is met; a slice's spare places count too). A statement '..UptoSaid' is the law's where the arguments, and the package variables that the reading takes, are together of bulk at most 1048576: NARROWER than '..Said'. Prove '..Said' where nothing that the law and all that it calls make is longer than what came in: it says more and counts as full. Else prove '..UptoSaid'. A law counts once. -/
mutual
def uptoBulk {H : Type} : DataW H → Nat
  | .lit (.string bytes) => bytes.length + 1
  | .lit _ => 1
  | .nil => 1
  | .ptr d => uptoBulk d + 1
  | .slice elems spare => uptoBulkAll elems + uptoBulkAll spare + 1
  | .agg parts => uptoBulkAll parts + 1
  | .iface _ d => uptoBulk d + 1
  | .map entries => uptoBulkEntries entries + 1
  | .held _ => 1
def uptoBulkAll {H : Type} : List (DataW H) → Nat
  | [] => 0
  | d :: r => uptoBulk d + uptoBulkAll r
def uptoBulkEntries {H : Type} : List (Lit × DataW H) → Nat
  | [] => 0
  | x :: r => uptoBulkEntry x + uptoBulkEntries r
def uptoBulkEntry {H : Type} : Lit × DataW H → Nat
  | (.string bytes, d) => bytes.length + uptoBulk d + 1
  | (_, d) => uptoBulk d + 1
 end
def uptoSmall : (H : Type) → List (DataW H) → Bool := fun _ ds => decide (uptoBulkAll ds ≤ 1048576)
def OpenSpec.upto (s : _root_.Go.ChangeSpec) : _root_.Go.OpenSpec := { _root_.Go.OpenSpec.ofChange s with cond := some uptoSmall }

/-- 'laws.FnExactDropAtom', WHERE WHAT IT READS IS OF BULK AT MOST 1048576: true; the input reads as it did. -/
def fnExactDropAtomUptoRow : OpenClaim := { program := "ytlcfbfbdnnoifaa", sum := "19f07bd4b8875c7b540382f31ae42de2e5f726550ebd6d9b16861c6c5399ab59", func := "loop.example/g01989/laws.FnExactDropAtom", spec := "fnExactDropAtom", apart := false, narrowed := true }
def FnExactDropAtomUptoSaid : Prop := fnExactDropAtomUptoRow.holds Try.pinned (OpenSpec.upto fnExactDropAtomSpec)

/-- 'laws.FnExactFreezeQuery', WHERE WHAT IT READS IS OF BULK AT MOST 1048576: true; the input reads as it did. -/
def fnExactFreezeQueryUptoRow : OpenClaim := { program := "ytlcfbfbdnnoifaa", sum := "19f07bd4b8875c7b540382f31ae42de2e5f726550ebd6d9b16861c6c5399ab59", func := "loop.example/g01989/laws.FnExactFreezeQuery", spec := "fnExactFreezeQuery", inPlace := ["slices.overlaps[loop.example/g01989/impl.Fact]"], unfollowed := true, recurses := true, apart := false, narrowed := true }
def FnExactFreezeQueryUptoSaid : Prop := fnExactFreezeQueryUptoRow.holds Try.pinned (OpenSpec.upto fnExactFreezeQuerySpec)

end Rows
end Go.Proofs.Ytlcfbfbdnnoifaa
