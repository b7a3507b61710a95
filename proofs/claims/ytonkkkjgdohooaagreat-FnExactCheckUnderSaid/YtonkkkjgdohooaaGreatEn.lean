import Derived.Test.YtonkkkjgdohooaaGreatEa
import Derived.Test.YtonkkkjgdohooaaGreatEf
import Derived.Test.YtonkkkjgdohooaaGreatDs
section
namespace Go.Proofs.YtonkkkjgdohooaaGreat
set_option linter.unusedVariables false
set_option linter.unusedSimpArgs false
abbrev constF (q : List Int × List (Int × List Int)) : List Int := termsF (fun t => inR t 0 9) q.2
def ansU (s : List Int) (l : List Mth) (rules : List Rul) (q : List Int × List (Int × List Int)) (facts : List Fct) : List (List Int) :=
  if okUnd s l rules facts && okQuery s q then tupF q.1 (bindsF q.2 (uFin l rules facts (constF q)).1) else []
attribute [local irreducible] uFin
section
variable {s : List Int} {l : List Mth} {rules : List Rul} {facts : List Fct} {seeds : List Int} {q : List Int × List (Int × List Int)}
theorem nInv.asc {S : NoS} (h : nInv s S) : ascF S.1 := by rw [h.fold]; exact fold_asc .nil
end
end Go.Proofs.YtonkkkjgdohooaaGreat
end
section
namespace Go.Proofs.YtonkkkjgdohooaaGreat
set_option linter.unusedVariables false
set_option linter.unusedSimpArgs false
section
variable {s : List Int} {l : List Mth} {rules : List Rul} {facts : List Fct} {seeds u v : List Int} {q : List Int × List (Int × List Int)} {atoms : List (Int × List Int)} {b : List Int × List Int} {n : Nat}
theorem uFin_invF (hm : okMeths s l = true) (hr : okRules s rules = true) (hf : finF s facts) : uInv s (uFin l rules facts seeds) := uInv_all hm hr hf 6000
end
def feasU (s : List Int) (l : List Mth) (rules : List Rul) (q : List Int × List (Int × List Int)) : Bool :=
  (okMeths s l && okRules s rules) && (okQuery s q && (fzB (constF q) q.2 && (bindsF q.2 (uFin l rules (closeF rules (fzF (constF q) q.2)) (constF q)).1).any (hitB q.1 (q.1.map (valO (fzV (constF q) q.2, fzX (constF q) q.2))))))
end Go.Proofs.YtonkkkjgdohooaaGreat
end
