import Derived.Test.YtmogfmnamhhbnaaDoorT60
import Derived.Test.YtmogfmnamhhbnaaDoorEl
import Derived.Test.YtmogfmnamhhbnaaDoorT1
import Derived.Test.YtmogfmnamhhbnaaDoorBc
import Derived.Test.YtmogfmnamhhbnaaDoorBd
namespace Go.Proofs.YtmogfmnamhhbnaaDoor
open Go.RowKit
set_option linter.unusedVariables false
set_option linter.unusedSimpArgs false
set_option maxHeartbeats 2000000
attribute [local irreducible] Nop Yd Yp Ent Has Tr FnP FnP2 Src listsF opnF opn1 opnR chainB
theorem t_impl_FormatInt_g {n : Int} : Tr Tryd.prog 32 [.int .i64 n] (fun w L => I64 n ∧ RoPt w L gPow powC) [] (κ := Unit) (fun k => True) (fun k => strV (textI n)) (fun k => []) := by
  refine Tr.intro Tryd.func32 rfl (n := 5) rfl (by decide +kernel) (Nat.le_of_ble_eq_true rfl) (fr := [(0, .int .i64 n)]) rfl fun w L hR => ?_
  obtain ⟨i6n, htab⟩ := hR
  refine E.seq (E.region (l := [0]) rfl (E.y rfl rfl (by decide) ((Y.as rfl).yd) (E.nil (E.thn (E.seq (E.region (l := [0, 1, 2]) rfl (E.y rfl rfl (by decide) ((Y.mv rfl).yd) (E.st rfl rfl (N.call0 tr_itoaG rfl rfl rfl (by decide) (fun w Lp hA => ⟨i6n, hA.rop htab⟩)) (fun _ _ => (E.y rfl rfl (by decide) ((Y.as rfl).yd) ?_))))))))))
  exact E.nil (E.thn (E.ret (F.r1 (Back.refl _ _) rfl rfl () trivial rfl (J := _) (.refl _) (.inl rfl))))
end Go.Proofs.YtmogfmnamhhbnaaDoor
