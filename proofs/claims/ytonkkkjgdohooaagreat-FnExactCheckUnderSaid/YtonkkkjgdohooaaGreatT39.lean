import Derived.Test.YtonkkkjgdohooaaGreatBs
import Derived.Test.YtonkkkjgdohooaaGreatT37
import Derived.Test.YtonkkkjgdohooaaGreatT30
import Derived.Test.YtonkkkjgdohooaaGreatT8
import Derived.Test.YtonkkkjgdohooaaGreatDz
import Derived.Test.YtonkkkjgdohooaaGreatBo
namespace Go.Proofs.YtonkkkjgdohooaaGreat
open Go.RowKit
set_option linter.unusedVariables false
set_option linter.unusedSimpArgs false
set_option maxHeartbeats 2000000
attribute [local irreducible] Nop Yd Yp Ent Has Tr FnP FnP2 Src listsF opnF opn1 opnR chainB
theorem t_impl_copyAccess {a_Method : Int} {a_a_Values : Option Addr} {m_a_Values c_a_Values : Nat} {a_Values : List Int} (hya : a_Values.length ≤ 1048576) : Tr Tryz.prog 324 [.agg #[.int .i64 a_Method, .slice a_a_Values m_a_Values c_a_Values]] (fun w L => I64 a_Method ∧ Ro w L eIs [.slice a_a_Values m_a_Values c_a_Values] a_Values) [] (κ := Option Addr × Nat × Nat) (fun k => True) (fun k => .agg #[.int .i64 a_Method, .slice k.1 k.2.1 k.2.2]) (fun k => [ow eIs [.slice k.1 k.2.1 k.2.2] a_Values]) := by
  refine Tr.intro Tryz.func324 rfl (n := 9) rfl (by decide +kernel) bl (fr := [(0, .agg #[.int .i64 a_Method, .slice a_a_Values m_a_Values c_a_Values])]) rfl fun w L hR => ?_
  obtain ⟨i6a_Method, ha_Values⟩ := hR
  obtain ⟨rfl, la_Values⟩ := ha_Values.slen
  refine Ew Z2 (Est rfl (N.box (cs := [_, _]) rfl dc rfl) (fun b1 _ => (Est rfl (N.alloc ty_Access dc) (fun b2 _ => (Eu (Eq_ (D.region (fun j => !(Nat.beq j 6)) mixed (Dyp 0 rfl (Y.fld fo_Access_0 ty_I dc rfl) (Dy 1 rfl (Y.ld1 ty_I rfl ((Has.pt (mS m0)).sub (cs' := [_]) 0 rfl) rfl) (Dyp 2 rfl (Y.fld fo_Access_1 ty_Is dc rfl) (Dy 3 rfl (Y.ld1 ty_Is rfl ((Has.pt (mS m0)).sub (cs' := [_]) 1 rfl) rfl) (D.st 4 rfl rfl kr (fun _ => rfl) (N.call (t_Clone_Is fc) rfl rfl rfl dc rfl (fun w Lp hA => hA.ro ha_Values)) (fun k7 _ => ?_)))))))))))))
  obtain ⟨a7, m7, c7⟩ := k7
  refine Ent.lenow m0 fun e7 l7 => ?_
  subst e7
  refine Dyp 5 rfl (Y.bld (pvs := [_, _]) (cs := [_, _]) ty_Access pl_Access rfl rfl) (Ent.p1 (D.st 6 rfl rfl kr (fun h => by cases h) (N.sto (vs := [_, _]) (cs' := [_, _]) ty_Access rfl rfl rfl rfl rfl bl rfl) (fun _ _ => (D.done kr (Et (E.ret (Ent.p1 ?_)))))))
  exact F.c1 br rfl rfl (mS m0) ty_Access rfl (_, _, _) trivial rfl (J := _) (.refl _) (.inl rfl)
end Go.Proofs.YtonkkkjgdohooaaGreat
