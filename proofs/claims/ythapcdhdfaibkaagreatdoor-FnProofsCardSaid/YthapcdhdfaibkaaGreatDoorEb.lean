import Derived.Test.YthapcdhdfaibkaaGreatDoorBb
namespace Go.Proofs.YthapcdhdfaibkaaGreatDoor
open Go.RowKit
set_option linter.unusedVariables false
theorem ty_under : TyOk Tryz.prog 177 true 8 [.slice none 0 0, .slice none 0 0, .slice none 0 0, .slice none 0 0, .slice none 0 0, .slice none 0 0, .int .i64 0, .slice none 0 0] 176 := M0 (z := .agg #[.slice none 0 0, .slice none 0 0, .slice none 0 0, .slice none 0 0, .slice none 0 0, .slice none 0 0, .int .i64 0, .slice none 0 0]) (by kernel_rfl) (by kernel_rfl) rfl rfl
theorem fo_under_0 : S6 Tryz.prog 177 0 = some (0, 25) := by kernel_rfl
theorem fo_under_1 : S6 Tryz.prog 177 1 = some (1, 74) := by kernel_rfl
theorem fo_under_2 : S6 Tryz.prog 177 2 = some (2, 31) := by kernel_rfl
theorem fo_under_3 : S6 Tryz.prog 177 3 = some (3, 90) := by kernel_rfl
theorem fo_under_4 : S6 Tryz.prog 177 4 = some (7, 79) := by kernel_rfl
theorem pl_under : a0D Tryz.prog 177 = some [(0, 1), (1, 1), (2, 1), (3, 4), (7, 1)] := by kernel_rfl
theorem ty_Punder : TyOk Tryz.prog 178 false 1 [.pointer none] 8 := M0 (z := .pointer none) (by kernel_rfl) (by kernel_rfl) rfl rfl
section
variable {P : Program} {n : Nat} {w0 wb : World} {L0 Lb : List Nat} {fr : Fr} {H : List HP} {fn : Func} {κ : Type} {φ : κ → Prop} {ret : κ → Value} {post : κ → List HP}
theorem b8f (hb : Y5 w0 L0 wb Lb) {e : Exit} (hres : fn.results = #[]) (k : κ) (hk : φ k) (hr : .tuple #[] = ret k) {J : List HP} (hH : H.Perm (post k ++ J)) (he : e = .ret ∨ e = .normal) : Ent n w0 L0 fr H (bodyPost P fn (Fin φ ret post wb Lb) e) :=
 a2V hb he k hk hr hH fun a w h1 _ => by rw [results_none hres]
end
end Go.Proofs.YthapcdhdfaibkaaGreatDoor
