import Derived.Test.YtnagfcajnbkdoaaT4
import Derived.Test.YtnagfcajnbkdoaaT5
import Derived.Test.YtnagfcajnbkdoaaDf
namespace Go.Proofs.Ytnagfcajnbkdoaa
open Go.RowKit
set_option linter.unusedVariables false
set_option linter.unusedSimpArgs false
attribute [local irreducible] Nop Yd Yp Ent Has Tr FnP FnP2 Src
end Go.Proofs.Ytnagfcajnbkdoaa
