import Derived.Test.YtonkkkjgdohooaaGreatBd
namespace Go.Proofs.YtonkkkjgdohooaaGreat
set_option linter.unusedVariables false
set_option linter.unusedSimpArgs false
def codeT : List Int → Nat
  | [] => 0
  | v :: l => v.toNat + 10 * codeT l
section
variable {s : List Int} {facts atoms : List (Int × List Int)} {a : Int × List Int} {l : List (List Int × List Int)} {b : List Int × List Int} {g h n : Nat}
/-- at most so many facts go with an atom -/
abbrev Few (a : Int × List Int) (facts : List (Int × List Int)) : Prop := ∀ b, (ext1 b a facts).length ≤ 1000
end
end Go.Proofs.YtonkkkjgdohooaaGreat
