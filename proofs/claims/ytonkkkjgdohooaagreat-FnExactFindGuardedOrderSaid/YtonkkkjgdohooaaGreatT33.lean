import Derived.Test.YtonkkkjgdohooaaGreatBs
import Derived.Test.YtonkkkjgdohooaaGreatT6
import Derived.Test.YtonkkkjgdohooaaGreatBd
import Derived.Test.YtonkkkjgdohooaaGreatBe
import Derived.Test.YtonkkkjgdohooaaGreatEf
import Derived.Test.YtonkkkjgdohooaaGreatBb
import Derived.Test.YtonkkkjgdohooaaGreatT11
import Derived.Test.YtonkkkjgdohooaaGreatT8
import Derived.Test.YtonkkkjgdohooaaGreatT4
import Derived.Test.YtonkkkjgdohooaaGreatT5
import Derived.Test.YtonkkkjgdohooaaGreatBc
import Derived.Test.YtonkkkjgdohooaaGreatDr
import Derived.Test.YtonkkkjgdohooaaGreatDw
import Derived.Test.YtonkkkjgdohooaaGreatBm
namespace Go.Proofs.YtonkkkjgdohooaaGreat
open Go.RowKit
set_option linter.unusedVariables false
set_option linter.unusedSimpArgs false
set_option maxHeartbeats 2000000
attribute [local irreducible] Nop Yd Yp Ent Has Tr FnP FnP2 Src listsF opnF opn1 opnR chainB
theorem t_laws_markGuarded {a_a_Query_Head : Option Addr} {m_a_Query_Head c_a_Query_Head : Nat} {a_Query_Head : List Int} {a_a_Query_Atoms : Option Addr} {m_a_Query_Atoms c_a_Query_Atoms : Nat} {a_Query_Atoms : List (Int × List Int)} {a_a_Not : Option Addr} {m_a_Not c_a_Not : Nat} {a_Not : List (Int × List Int)} {v : Int} : Tr Tryz.prog 47 [.agg #[.slice a_a_Query_Head m_a_Query_Head c_a_Query_Head, .slice a_a_Query_Atoms m_a_Query_Atoms c_a_Query_Atoms, .slice a_a_Not m_a_Not c_a_Not], .int .i64 v] (fun w L => 0 ≤ v ∧ v + ((totS cE_I a_Query_Head + totS cE_Atom a_Query_Atoms + totS cE_Atom a_Not : Nat) : Int) ≤ 4611686018427387904) [ow eIs [.slice a_a_Query_Head m_a_Query_Head c_a_Query_Head] a_Query_Head, ow eAtoms [.slice a_a_Query_Atoms m_a_Query_Atoms c_a_Query_Atoms] a_Query_Atoms, ow eAtoms [.slice a_a_Not m_a_Not c_a_Not] a_Not] (κ := Unit) (fun k => True) (fun k => .int .i64 (v + ((totS cE_I a_Query_Head + totS cE_Atom a_Query_Atoms + totS cE_Atom a_Not : Nat) : Int))) (fun k => [ow eIs [.slice a_a_Query_Head m_a_Query_Head c_a_Query_Head] (mkL cE_I mE_I a_Query_Head v), ow eAtoms [.slice a_a_Query_Atoms m_a_Query_Atoms c_a_Query_Atoms] (mkL cE_Atom mE_Atom a_Query_Atoms (v + ((totS cE_I a_Query_Head : Nat) : Int))), ow eAtoms [.slice a_a_Not m_a_Not c_a_Not] (mkL cE_Atom mE_Atom a_Not (v + ((totS cE_I a_Query_Head : Nat) : Int) + ((totS cE_Atom a_Query_Atoms : Nat) : Int)))]) := by
  refine Tr.intro Tryz.func47 rfl (n := 14) rfl (by decide +kernel) bl (fr := [(0, .agg #[.slice a_a_Query_Head m_a_Query_Head c_a_Query_Head, .slice a_a_Query_Atoms m_a_Query_Atoms c_a_Query_Atoms, .slice a_a_Not m_a_Not c_a_Not]), (1, .int .i64 v)]) rfl fun w L hR => ?_
  obtain ⟨as0, as1⟩ := hR
  refine Ent.lenow m0 fun ea_Query_Head la_Query_Head => ?_
  subst ea_Query_Head
  refine Ent.lenow (mS m0) fun ea_Query_Atoms la_Query_Atoms => ?_
  subst ea_Query_Atoms
  refine Ent.lenow (mS (mS m0)) fun ea_Not la_Not => ?_
  subst ea_Not
  refine Ew Z2 (Est rfl (N.box (cs := [_, _, _]) rfl dc rfl) (fun b2 _ => (Eas rfl rfl (Ev Z5 (Ey rfl ((Y.fld fo_Guarded_0 ty_Query dc rfl).yd) (Ey rfl (Y.ldS (cs := [_, _]) ty_Query rfl ((Has.pt m0).sub (cs' := [_, _]) 0 rfl) rfl) (Emv rfl rfl (Ent.p2 (Ent.p2 (Est rfl (N.call (pre := [_, _]) t_laws_markQuery rfl rfl rfl dc rfl (fun w Lp hA => ⟨(by first | assumption | omega), (by first | assumption | omega)⟩)) (fun _ _ => (Eas rfl rfl (Ev Z5 (Ey rfl ((Y.fld fo_Guarded_1 ty_Atoms dc rfl).yd) (Ey rfl (Y.ld1 ty_Atoms rfl ((Has.pt (mS (mS m0))).sub (cs' := [_]) 2 rfl) rfl) (Emv rfl rfl (Ent.p3 (Est rfl (N.call (pre := [_]) t_laws_markAtomS rfl rfl rfl dc rfl (fun w Lp hA => ⟨(by first | assumption | omega), (by first | assumption | omega)⟩)) (fun _ _ => (Eas rfl rfl ?_))))))))))))))))))))
  refine Ev Z2 (Emv rfl rfl (Eas rfl rfl (Eu (E.ret (Ent.cv (congrArg (ow eAtoms [_]) (show mkL cE_Atom mE_Atom a_Not (v + ((totS cE_I a_Query_Head + totS cE_Atom a_Query_Atoms : Nat) : Int)) = mkL cE_Atom mE_Atom a_Not (v + ((totS cE_I a_Query_Head : Nat) : Int) + ((totS cE_Atom a_Query_Atoms : Nat) : Int)) from by first | rfl | omega | (congr 1; omega))) (Ent.p2 (Ent.p2 ?_)))))))
  exact Fg rfl rfl () (by rw [show (v + ((totS cE_I a_Query_Head + totS cE_Atom a_Query_Atoms + totS cE_Atom a_Not : Nat) : Int)) = ((v + ((totS cE_I a_Query_Head + totS cE_Atom a_Query_Atoms : Nat) : Int)) + (totS cE_Atom a_Not : Nat)) from (by first | rfl | omega | (congr 1; omega))]; try rfl) rfl
end Go.Proofs.YtonkkkjgdohooaaGreat
