import Derived.Test.YtlfhopooaejpfaaGreatBb
namespace Go.Proofs.YtlfhopooaejpfaaGreat
open Go.RowKit
set_option linter.unusedVariables false
theorem ty_under : TyOk Tryz.prog 128 true 8 [.slice none 0 0, .slice none 0 0, .slice none 0 0, .slice none 0 0, .slice none 0 0, .slice none 0 0, .int .i64 0, .slice none 0 0] 176 := O2 (z := .agg #[.slice none 0 0, .slice none 0 0, .slice none 0 0, .slice none 0 0, .slice none 0 0, .slice none 0 0, .int .i64 0, .slice none 0 0]) (by kernel_rfl) (by kernel_rfl) rfl rfl
theorem fo_under_0 : U2 Tryz.prog 128 0 = some (0, 25) := by kernel_rfl
theorem fo_under_1 : U2 Tryz.prog 128 1 = some (1, 51) := by kernel_rfl
theorem fo_under_2 : U2 Tryz.prog 128 2 = some (2, 30) := by kernel_rfl
theorem fo_under_3 : U2 Tryz.prog 128 3 = some (3, 125) := by kernel_rfl
theorem fo_under_4 : U2 Tryz.prog 128 4 = some (7, 126) := by kernel_rfl
theorem pl_under : a0w Tryz.prog 128 = some [(0, 1), (1, 1), (2, 1), (3, 4), (7, 1)] := by kernel_rfl
theorem ty_Punder : TyOk Tryz.prog 129 false 1 [.pointer none] 8 := O2 (z := .pointer none) (by kernel_rfl) (by kernel_rfl) rfl rfl
section
variable {P : Program} {n : Nat} {w0 wb : World} {L0 Lb : List Nat} {fr : Fr} {H : List HP} {fn : Func} {κ : Type} {φ : κ → Prop} {ret : κ → Value} {post : κ → List HP}
theorem c0B (hb : U4 w0 L0 wb Lb) {e : Exit} (hres : fn.results = #[]) (k : κ) (hk : φ k) (hr : .tuple #[] = ret k) {J : List HP} (hH : H.Perm (post k ++ J)) (he : e = .ret ∨ e = .normal) : Ent n w0 L0 fr H (bodyPost P fn (Fin φ ret post wb Lb) e) :=
 a0L hb he k hk hr hH fun a w h1 _ => by rw [results_none hres]
end
end Go.Proofs.YtlfhopooaejpfaaGreat
