import Derived.Test.YtlcfbfbdnnoifaaGreatT14
import Derived.Test.YtlcfbfbdnnoifaaGreatT16
import Derived.Test.YtlcfbfbdnnoifaaGreatBd
namespace Go.Proofs.YtlcfbfbdnnoifaaGreat
open Go.RowKit
set_option linter.unusedVariables false
set_option linter.unusedSimpArgs false
set_option maxHeartbeats 2000000
attribute [local irreducible] Nop Yd Yp Ent Has Tr FnP FnP2 Src closeF closeIt missF missR closeR
end Go.Proofs.YtlcfbfbdnnoifaaGreat
