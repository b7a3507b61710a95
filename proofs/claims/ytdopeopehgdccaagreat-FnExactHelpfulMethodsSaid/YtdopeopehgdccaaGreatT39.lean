import Derived.Test.YtdopeopehgdccaaGreatBs
import Derived.Test.YtdopeopehgdccaaGreatT37
import Derived.Test.YtdopeopehgdccaaGreatT30
import Derived.Test.YtdopeopehgdccaaGreatT8
import Derived.Test.YtdopeopehgdccaaGreatDz
import Derived.Test.YtdopeopehgdccaaGreatBo
namespace Go.Proofs.YtdopeopehgdccaaGreat
open Go.RowKit
set_option linter.all false
set_option maxHeartbeats 2000000
attribute [local irreducible] Nop Yd Yp Ent Has Tr FnP FnP2 Src j7 d7 J2 Y5 E0
theorem a5O {u0 : Int} {y7 : Option Addr} {B3 y6 : Nat} {x9 : List Int} (hya : x9.length ≤ 1048576) : Tr Tryz.prog 308 [.agg #[.int .i64 u0, .slice y7 B3 y6]] (fun w L => I64 u0 ∧ Ro w L eIs [.slice y7 B3 y6] x9) [] (κ := Option Addr × Nat × Nat) (fun k => True) (fun k => .agg #[.int .i64 u0, .slice k.1 k.2.1 k.2.2]) (fun k => [ow eIs [.slice k.1 k.2.1 k.2.2] x9]) := by
 refine Tr.intro Tryz.func308 rfl (n := 9) rfl (by decide +kernel) bl (fr := [(0, .agg #[.int .i64 u0, .slice y7 B3 y6])]) rfl fun w L hR => ?_
 obtain ⟨O7, D5⟩ := hR
 obtain ⟨rfl, W0⟩ := D5.slen
 refine Ew Z2 (Est rfl (N.box (cs := [_, _]) rfl dc rfl) (fun b1 _ => (Est rfl (N.alloc ty_Access dc) (fun b2 _ => (Eu (Eq_ (D.region (fun j => !(Nat.beq j 6)) mixed (Dyp 0 rfl (Y.fld fo_Access_0 f6 dc rfl) (Dy 1 rfl (Y.ld1 f6 rfl ((Has.pt (mS m0)).sub (cs' := [_]) 0 rfl) rfl) (Dyp 2 rfl (Y.fld fo_Access_1 ty_Is dc rfl) (Dy 3 rfl (Y.ld1 ty_Is rfl ((Has.pt (mS m0)).sub (cs' := [_]) 1 rfl) rfl) (D.st 4 rfl rfl kr (fun _ => rfl) (N.call (a1R fc) rfl rfl rfl dc rfl (fun w Lp hA => hA.ro D5)) (fun k7 _ => ?_)))))))))))))
 obtain ⟨a7, m7, c7⟩ := k7
 refine Ent.lenow m0 fun e7 l7 => ?_
 subst e7
 refine Dyp 5 rfl (Y.bld (pvs := [_, _]) (cs := [_, _]) ty_Access a5p rfl rfl) (Ent.p1 (D.st 6 rfl rfl kr (fun h => by cases h) (N.sto (vs := [_, _]) (cs' := [_, _]) ty_Access rfl rfl rfl rfl rfl bl rfl) (fun _ _ => (D.done kr (Et (E.ret (Ent.p1 ?_)))))))
 exact F.c1 br rfl rfl (mS m0) ty_Access rfl (_, _, _) trivial rfl (J := _) (.refl _) (.inl rfl)
end Go.Proofs.YtdopeopehgdccaaGreat
