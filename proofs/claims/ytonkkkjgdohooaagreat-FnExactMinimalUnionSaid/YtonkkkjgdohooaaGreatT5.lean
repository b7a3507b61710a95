import Derived.Test.YtonkkkjgdohooaaGreatT1
import Derived.Test.YtonkkkjgdohooaaGreatBc
namespace Go.Proofs.YtonkkkjgdohooaaGreat
open Go.RowKit
set_option linter.unusedVariables false
set_option linter.unusedSimpArgs false
set_option maxHeartbeats 2000000
attribute [local irreducible] Nop Yd Yp Ent Has Tr FnP FnP2 Src
theorem t_impl_isValue {n : Int} : Tr Tryz.prog 260 [.int .i64 n] (fun w L => True) [] (κ := Unit) (fun k => True) (fun k => .bool (inR n 0 9)) (fun k => []) := by
  refine Tr.intro Tryz.func260 rfl (n := 5) rfl (by decide +kernel) (Nat.le_of_ble_eq_true rfl) (fr := [(0, .int .i64 n)]) rfl fun w L hR => (E.seq (E.region (l := [0]) rfl (E.y rfl rfl (by decide) ((Y.as rfl).yd) (E.nil (E.thn (E.seq (E.region (l := [0, 1, 2]) rfl (E.y rfl rfl (by decide) ((Y.mv rfl).yd) (E.st rfl rfl (N.call0 t_impl_within rfl rfl rfl (by decide) (fun w Lp hA => trivial)) (fun _ _ => (E.y rfl rfl (by decide) ((Y.as rfl).yd) ?_)))))))))))
  exact E.nil (E.thn (E.ret (F.r1 (Back.refl _ _) rfl rfl () trivial rfl (J := _) (.refl _) (.inl rfl))))
end Go.Proofs.YtonkkkjgdohooaaGreat
