import Derived.Test.YtdopeopehgdccaaGreatBb
namespace Go.Proofs.YtdopeopehgdccaaGreat
open Go.RowKit
set_option linter.unusedVariables false
end Go.Proofs.YtdopeopehgdccaaGreat
