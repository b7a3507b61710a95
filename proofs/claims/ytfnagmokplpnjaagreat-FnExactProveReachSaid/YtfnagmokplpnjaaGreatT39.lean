import Derived.Test.YtfnagmokplpnjaaGreatT37
import Derived.Test.YtfnagmokplpnjaaGreatT30
import Derived.Test.YtfnagmokplpnjaaGreatT8
import Derived.Test.YtfnagmokplpnjaaGreatDz
import Derived.Test.YtfnagmokplpnjaaGreatBo
namespace Go.Proofs.YtfnagmokplpnjaaGreat
open Go.RowKit
set_option linter.unusedVariables false
set_option linter.unusedSimpArgs false
set_option maxHeartbeats 2000000
attribute [local irreducible] Nop Yd Yp Ent Has Tr FnP FnP2 Src listsF opnF opn1 opnR chainB
theorem t_impl_copyAccess {a_Method : Int} {a_a_Values : Option Addr} {m_a_Values c_a_Values : Nat} {a_Values : List Int} (hya : a_Values.length ≤ 1048576) : Tr Tryz.prog 111 [.agg #[.int .i64 a_Method, .slice a_a_Values m_a_Values c_a_Values]] (fun w L => I64 a_Method ∧ Ro w L eIs [.slice a_a_Values m_a_Values c_a_Values] a_Values) [] (κ := Option Addr × Nat × Nat) (fun k => True) (fun k => .agg #[.int .i64 a_Method, .slice k.1 k.2.1 k.2.2]) (fun k => [ow eIs [.slice k.1 k.2.1 k.2.2] a_Values]) := by
  refine Tr.intro Tryz.func111 rfl (n := 9) rfl (by decide +kernel) (Nat.le_of_ble_eq_true rfl) (fr := [(0, .agg #[.int .i64 a_Method, .slice a_a_Values m_a_Values c_a_Values])]) rfl fun w L hR => ?_
  obtain ⟨i6a_Method, ha_Values⟩ := hR
  obtain ⟨rfl, la_Values⟩ := ha_Values.slen
  refine E.seq (E.region (l := [0, 1]) rfl (E.st rfl rfl (N.box (cs := [_, _]) rfl (by decide) rfl) (fun b1 _ => (E.st rfl rfl (N.alloc ty_Access (by decide)) (fun b2 _ => (E.nil (E.thn (E.seq (D.region (fun j => !(Nat.beq j 6)) mixed (D.yp 0 rfl rfl (by decide) (Y.fld fo_Access_0 ty_I (by decide) rfl) (by kernel_rfl) (D.y 1 rfl rfl (by decide) (Y.ld1 ty_I rfl ((Has.pt (mS m0)).sub (cs' := [_]) 0 rfl) rfl) (by kernel_rfl) (D.yp 2 rfl rfl (by decide) (Y.fld fo_Access_1 ty_Is (by decide) rfl) (by kernel_rfl) (D.y 3 rfl rfl (by decide) (Y.ld1 ty_Is rfl ((Has.pt (mS m0)).sub (cs' := [_]) 1 rfl) rfl) (by kernel_rfl) (D.st 4 rfl rfl (by kernel_rfl) (fun _ => rfl) (N.call (t_Clone_Is (by first | omega | assumption | (constructor <;> omega))) rfl rfl rfl (by decide) rfl (fun w Lp hA => hA.ro ha_Values)) (fun k7 _ => ?_)))))))))))))))
  obtain ⟨a7, m7, c7⟩ := k7
  refine Ent.lenow m0 fun e7 l7 => ?_
  subst e7
  refine D.yp 5 rfl rfl (by decide) (Y.bld (pvs := [_, _]) (cs := [_, _]) ty_Access pl_Access rfl rfl) (by kernel_rfl) (Ent.p1 (D.st 6 rfl rfl (by kernel_rfl) (fun h => by cases h) (N.sto (vs := [_, _]) (cs' := [_, _]) ty_Access rfl rfl rfl rfl rfl (Nat.le_of_ble_eq_true rfl) rfl) (fun _ _ => (D.done (by kernel_rfl) (E.thn (E.ret (Ent.p1 ?_)))))))
  exact F.c1 (Back.refl _ _) rfl rfl (mS m0) ty_Access rfl (_, _, _) trivial rfl (J := _) (.refl _) (.inl rfl)
end Go.Proofs.YtfnagmokplpnjaaGreat
