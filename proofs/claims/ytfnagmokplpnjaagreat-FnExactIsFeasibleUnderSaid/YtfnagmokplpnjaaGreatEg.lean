/- Plain: the answers on what is reached by calls and rules. No program in sight. -/
import Derived.Test.YtfnagmokplpnjaaGreatEa
import Derived.Test.YtfnagmokplpnjaaGreatEf
import Derived.Test.YtfnagmokplpnjaaGreatDs
namespace Go.Proofs.YtfnagmokplpnjaaGreat
set_option linter.unusedVariables false
set_option linter.unusedSimpArgs false
abbrev constF (q : List Int × List (Int × List Int)) : List Int := termsF (fun t => inR t 0 9) q.2
def ansU (s : List Int) (l : List Mth) (rules : List Rul) (q : List Int × List (Int × List Int)) (facts : List Fct) : List (List Int) :=
  if okUnd s l rules facts && okQuery s q then tupF q.1 (bindsF q.2 (uFin l rules facts (constF q)).1) else []
attribute [local irreducible] uFin
section
variable {s : List Int} {l : List Mth} {rules : List Rul} {facts : List Fct} {seeds : List Int} {q : List Int × List (Int × List Int)}
theorem nInv.asc {S : NoS} (h : nInv s S) : ascF S.1 := by rw [h.fold]; exact fold_asc .nil
end
end Go.Proofs.YtfnagmokplpnjaaGreat
