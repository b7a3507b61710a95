import Derived.Test.YtonkkkjgdohooaaGreatT6
import Derived.Test.YtonkkkjgdohooaaGreatBd
import Derived.Test.YtonkkkjgdohooaaGreatBe
import Derived.Test.YtonkkkjgdohooaaGreatEf
import Derived.Test.YtonkkkjgdohooaaGreatT11
import Derived.Test.YtonkkkjgdohooaaGreatBb
import Derived.Test.YtonkkkjgdohooaaGreatT8
import Derived.Test.YtonkkkjgdohooaaGreatT4
import Derived.Test.YtonkkkjgdohooaaGreatT5
import Derived.Test.YtonkkkjgdohooaaGreatBc
import Derived.Test.YtonkkkjgdohooaaGreatDr
import Derived.Test.YtonkkkjgdohooaaGreatBh
import Derived.Test.YtonkkkjgdohooaaGreatDs
import Derived.Test.YtonkkkjgdohooaaGreatBi
namespace Go.Proofs.YtonkkkjgdohooaaGreat
open Go.RowKit
set_option linter.unusedVariables false
set_option linter.unusedSimpArgs false
set_option maxHeartbeats 2000000
attribute [local irreducible] Nop Yd Yp Ent Has Tr FnP FnP2 Src listsF opnF opn1 opnR chainB
theorem t_spec_l3Atom {rel : Int} {a_terms : Option Addr} {m_terms c_terms : Nat} {terms : List Int} (hz : terms.length ≤ 1048576) : Tr Tryz.prog 107 [.int .i64 rel, .slice a_terms m_terms c_terms] (fun w L => I64 rel ∧ Ro w L eIs [.slice a_terms m_terms c_terms] terms) [] (κ := Option Addr × Nat × Nat) (fun k => True) (fun k => .agg #[.int .i64 rel, .slice k.1 k.2.1 k.2.2]) (fun k => [ow eIs [.slice k.1 k.2.1 k.2.2] terms]) := by
  refine Tr.intro Tryz.func107 rfl (n := 10) rfl (by decide +kernel) (Nat.le_of_ble_eq_true rfl) (fr := [(0, .int .i64 rel), (1, .slice a_terms m_terms c_terms)]) rfl fun w L hR => ?_
  obtain ⟨i6rel, hterms⟩ := hR
  obtain ⟨rfl, lterms⟩ := hterms.slen
  refine E.seq (E.region (l := [0]) rfl (E.st rfl rfl (N.alloc ty_Atom (by decide)) (fun b4 _ => (E.nil (E.thn (E.seq (E.region (l := [0, 1, 2, 3, 4, 5]) rfl (E.y rfl rfl (by decide) ((Y.mv rfl).yd) (E.st rfl rfl (N.bsl (pvs := []) (cs := []) us_Is ty_I rfl (by decide) (by decide) (fillZ rfl rfl) rfl (by decide)) (fun b6 _ => (Ent.drop (E.y rfl rfl (by decide) ((Y.mv rfl).yd) (E.st rfl rfl (N.pushR0 (E := Enc.int) Plain.int us_Is ty_I rfl rfl rfl hterms (by first | omega | (simp only [List.length_map, List.length_take, List.length_append, List.length_drop, List.length_cons, List.length_nil]; omega)) (by first | omega | (simp only [List.length_map, List.length_take, List.length_append, List.length_drop, List.length_cons, List.length_nil]; omega)) (by decide)) (fun p8 _ => (E.y rfl rfl (by decide) ((Y.bld (pvs := [_, _]) (cs := [_, _]) ty_Atom pl_Atom rfl rfl).yd) (Ent.p1 (E.st rfl rfl (N.sto (vs := [_, _]) (cs' := [_, _]) ty_Atom rfl rfl rfl rfl rfl (Nat.le_of_ble_eq_true rfl) rfl) (fun _ _ => (E.nil (E.thn (E.ret (Ent.p1 ?_))))))))))))))))))))))
  exact F.c1 (Back.refl _ _) rfl rfl (mS m0) ty_Atom rfl (_, _, _) trivial rfl (J := _) (.refl _) (.inl rfl)
end Go.Proofs.YtonkkkjgdohooaaGreat
