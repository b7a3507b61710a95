import Derived.Test.YtlcfbfbdnnoifaaGreatBe
import Derived.Test.YtlcfbfbdnnoifaaGreatBb
namespace Go.Proofs.YtlcfbfbdnnoifaaGreat
open Go.RowKit
set_option linter.unusedVariables false
set_option linter.unusedSimpArgs false
set_option maxHeartbeats 2000000
attribute [local irreducible] Nop Yd Yp Ent Has Tr FnP FnP2 Src
end Go.Proofs.YtlcfbfbdnnoifaaGreat
