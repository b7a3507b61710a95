import Derived.Test.YtdopeopehgdccaaBe
namespace Go.Proofs.Ytdopeopehgdccaa
open Go.RowKit
set_option linter.unusedVariables false
section
variable {P : Program} {n : Nat} {w0 : World} {L0 : List Nat} {fr : Fr} {H : List HP}
end
end Go.Proofs.Ytdopeopehgdccaa
