import Derived.Test.YtdopeopehgdccaaGreatBb
namespace Go.Proofs.YtdopeopehgdccaaGreat
open Go.RowKit
set_option linter.unusedVariables false
theorem ty_under : TyOk Tryz.prog 220 true 8 [.slice none 0 0, .slice none 0 0, .slice none 0 0, .slice none 0 0, .slice none 0 0, .slice none 0 0, .int .i64 0, .slice none 0 0] 176 := TyOk.mk' (z := .agg #[.slice none 0 0, .slice none 0 0, .slice none 0 0, .slice none 0 0, .slice none 0 0, .slice none 0 0, .int .i64 0, .slice none 0 0]) (by kernel_rfl) (by kernel_rfl) rfl rfl
theorem fo_under_0 : I3 Tryz.prog 220 0 = some (0, 32) := by kernel_rfl
theorem fo_under_1 : I3 Tryz.prog 220 1 = some (1, 76) := by kernel_rfl
theorem fo_under_2 : I3 Tryz.prog 220 2 = some (2, 36) := by kernel_rfl
theorem fo_under_3 : I3 Tryz.prog 220 3 = some (3, 218) := by kernel_rfl
theorem fo_under_4 : I3 Tryz.prog 220 4 = some (7, 208) := by kernel_rfl
theorem pl_under : a1u Tryz.prog 220 = some [(0, 1), (1, 1), (2, 1), (3, 4), (7, 1)] := by kernel_rfl
theorem ty_Punder : TyOk Tryz.prog 221 false 1 [.pointer none] 8 := TyOk.mk' (z := .pointer none) (by kernel_rfl) (by kernel_rfl) rfl rfl
section
variable {P : Program} {n : Nat} {w0 wb : World} {L0 Lb : List Nat} {fr : Fr} {H : List HP} {fn : Func} {κ : Type} {φ : κ → Prop} {ret : κ → Value} {post : κ → List HP}
theorem F.r0 (hb : R8 w0 L0 wb Lb) {e : Exit} (hres : fn.results = #[]) (k : κ) (hk : φ k) (hr : .tuple #[] = ret k) {J : List HP} (hH : H.Perm (post k ++ J)) (he : e = .ret ∨ e = .normal) : Ent n w0 L0 fr H (bodyPost P fn (Fin φ ret post wb Lb) e) :=
  a2W hb he k hk hr hH fun a w h1 _ => by rw [results_none hres]
end
end Go.Proofs.YtdopeopehgdccaaGreat
