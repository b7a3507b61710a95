import Derived.Test.YtonkkkjgdohooaaGreatDr
import Derived.Test.YtonkkkjgdohooaaGreatBl
namespace Go.Proofs.YtonkkkjgdohooaaGreat
set_option linter.unusedVariables false
set_option linter.unusedSimpArgs false
def refB (facts n : List (Int × List Int)) (b : List Int × List Int) : Bool := n.any fun a => hasF facts (factO a b)
def grdA (s : List Int) (g : (List Int × List (Int × List Int)) × List (Int × List Int)) (facts : List (Int × List Int)) : List (List Int) :=
  if okGuard s g && okFacts s facts then tupF g.1.1 ((bindsF g.1.2 facts).filter fun b => !refB facts g.2 b) else []
def refR (s : List Int) (g : (List Int × List (Int × List Int)) × List (Int × List Int)) (facts : List (Int × List Int)) (t : List Int) : Bool := okGuard s g && (hasT (ansR s g.1 facts) t && !hasT (grdA s g facts) t)
end Go.Proofs.YtonkkkjgdohooaaGreat
