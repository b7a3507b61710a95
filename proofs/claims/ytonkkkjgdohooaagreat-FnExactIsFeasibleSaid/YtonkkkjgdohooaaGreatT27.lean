import Derived.Test.YtonkkkjgdohooaaGreatT12
import Derived.Test.YtonkkkjgdohooaaGreatBj
import Derived.Test.YtonkkkjgdohooaaGreatT23
import Derived.Test.YtonkkkjgdohooaaGreatDu
namespace Go.Proofs.YtonkkkjgdohooaaGreat
open Go.RowKit
set_option linter.unusedVariables false
set_option linter.unusedSimpArgs false
set_option maxHeartbeats 2000000
attribute [local irreducible] Nop Yd Yp Ent Has Tr FnP FnP2 Src listsF opnF opn1 opnR chainB
theorem t_impl_copyAtom {a_Rel : Int} {a_a_Terms : Option Addr} {m_a_Terms c_a_Terms : Nat} {a_Terms : List Int} (haz : a_Terms.length ≤ 1048576) : Tr Tryz.prog 205 [.agg #[.int .i64 a_Rel, .slice a_a_Terms m_a_Terms c_a_Terms]] (fun w L => I64 a_Rel ∧ Ro w L eIs [.slice a_a_Terms m_a_Terms c_a_Terms] a_Terms) [] (κ := Option Addr × Nat × Nat) (fun k => True) (fun k => .agg #[.int .i64 a_Rel, .slice k.1 k.2.1 k.2.2]) (fun k => [ow eIs [.slice k.1 k.2.1 k.2.2] a_Terms]) := by
  refine Tr.intro Tryz.func205 rfl (n := 9) rfl (by decide +kernel) (Nat.le_of_ble_eq_true rfl) (fr := [(0, .agg #[.int .i64 a_Rel, .slice a_a_Terms m_a_Terms c_a_Terms])]) rfl fun w L hR => ?_
  obtain ⟨i6a_Rel, ha_Terms⟩ := hR
  obtain ⟨rfl, la_Terms⟩ := ha_Terms.slen
  refine E.seq (E.region (l := [0, 1]) rfl (E.st rfl rfl (N.box (cs := [_, _]) rfl (by decide) rfl) (fun b1 _ => (E.st rfl rfl (N.alloc ty_Atom (by decide)) (fun b2 _ => (E.nil (E.thn (E.seq (D.region (fun j => !(Nat.beq j 6)) mixed (D.yp 0 rfl rfl (by decide) (Y.fld fo_Atom_0 ty_I (by decide) rfl) (by kernel_rfl) (D.y 1 rfl rfl (by decide) (Y.ld1 ty_I rfl ((Has.pt (mS m0)).sub (cs' := [_]) 0 rfl) rfl) (by kernel_rfl) (D.yp 2 rfl rfl (by decide) (Y.fld fo_Atom_1 ty_Is (by decide) rfl) (by kernel_rfl) (D.y 3 rfl rfl (by decide) (Y.ld1 ty_Is rfl ((Has.pt (mS m0)).sub (cs' := [_]) 1 rfl) rfl) (by kernel_rfl) (D.st 4 rfl rfl (by kernel_rfl) (fun _ => rfl) (N.call (t_Clone_Is (by first | omega | assumption | (constructor <;> omega))) rfl rfl rfl (by decide) rfl (fun w Lp hA => hA.ro ha_Terms)) (fun k7 _ => ?_)))))))))))))))
  obtain ⟨a7, m7, c7⟩ := k7
  refine Ent.lenow m0 fun e7 l7 => ?_
  subst e7
  refine D.yp 5 rfl rfl (by decide) (Y.bld (pvs := [_, _]) (cs := [_, _]) ty_Atom pl_Atom rfl rfl) (by kernel_rfl) (Ent.p1 (D.st 6 rfl rfl (by kernel_rfl) (fun h => by cases h) (N.sto (vs := [_, _]) (cs' := [_, _]) ty_Atom rfl rfl rfl rfl rfl (Nat.le_of_ble_eq_true rfl) rfl) (fun _ _ => (D.done (by kernel_rfl) (E.thn (E.ret (Ent.p1 ?_)))))))
  exact F.c1 (Back.refl _ _) rfl rfl (mS m0) ty_Atom rfl (_, _, _) trivial rfl (J := _) (.refl _) (.inl rfl)
end Go.Proofs.YtonkkkjgdohooaaGreat
