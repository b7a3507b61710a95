import Derived.Test.YtonkkkjgdohooaaGreatBs
import Derived.Test.YtonkkkjgdohooaaGreatT3
import Derived.Test.YtonkkkjgdohooaaGreatT5
import Derived.Test.YtonkkkjgdohooaaGreatBd
namespace Go.Proofs.YtonkkkjgdohooaaGreat
open Go.RowKit
set_option linter.unusedVariables false
set_option linter.unusedSimpArgs false
set_option maxHeartbeats 2000000
attribute [local irreducible] Nop Yd Yp Ent Has Tr FnP FnP2 Src
theorem t_cmp_isNaN_int {x : Int} : Tr Tryz.prog 333 [.int .i64 x] (fun w L => True) [] (κ := Unit) (fun k => True) (fun k => .bool (false)) (fun k => []) := by
  refine Tr.intro Tryz.func333 rfl (n := 6) rfl (by decide +kernel) bl (fr := [(0, .int .i64 x)]) rfl fun w L hR => (Ew Z1 (Eas rfl rfl (Ev Z4 (Emv rfl rfl (Emv rfl rfl (Ey rfl ((Y.neq rfl rfl).yd) (Eas rfl rfl ?_)))))))
  exact Eu (E.ret (Fb rfl rfl (by simp)))
end Go.Proofs.YtonkkkjgdohooaaGreat
