import Derived.Test.YtnagfcajnbkdoaaT12
import Derived.Test.YtnagfcajnbkdoaaT9
import Derived.Test.YtnagfcajnbkdoaaT7
import Derived.Test.YtnagfcajnbkdoaaBd
namespace Go.Proofs.Ytnagfcajnbkdoaa
open Go.RowKit
set_option linter.unusedVariables false
set_option linter.unusedSimpArgs false
set_option maxHeartbeats 2000000
attribute [local irreducible] Nop Yd Yp Ent Has Tr FnP FnP2 Src listsF opnF opn1 opnR chainB
end Go.Proofs.Ytnagfcajnbkdoaa
