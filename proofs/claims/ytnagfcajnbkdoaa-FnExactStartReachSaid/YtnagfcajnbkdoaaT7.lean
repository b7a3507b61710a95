import Derived.Test.YtnagfcajnbkdoaaT4
import Derived.Test.YtnagfcajnbkdoaaT5
import Derived.Test.YtnagfcajnbkdoaaBc
namespace Go.Proofs.Ytnagfcajnbkdoaa
open Go.RowKit
set_option linter.unusedVariables false
set_option linter.unusedSimpArgs false
set_option maxHeartbeats 2000000
attribute [local irreducible] Nop Yd Yp Ent Has Tr FnP FnP2 Src
end Go.Proofs.Ytnagfcajnbkdoaa
