/- A literal of two owned elements. -/
import Derived.Test.YtonkkkjgdohooaaGreatBb
namespace Go.Proofs.YtonkkkjgdohooaaGreat
open Go.RowKit
set_option linter.unusedVariables false
end Go.Proofs.YtonkkkjgdohooaaGreat
