import Derived.Test.YtonkkkjgdohooaaGreatBe
namespace Go.Proofs.YtonkkkjgdohooaaGreat
open Go.RowKit
set_option linter.unusedVariables false
section
variable {P : Program} {n : Nat} {w0 : World} {L0 : List Nat} {fr : Fr} {H : List HP}
end
end Go.Proofs.YtonkkkjgdohooaaGreat
