/- A literal of two owned elements. -/
import Derived.Test.YtfnagmokplpnjaaGreatBb
namespace Go.Proofs.YtfnagmokplpnjaaGreat
open Go.RowKit
set_option linter.unusedVariables false
end Go.Proofs.YtfnagmokplpnjaaGreat
