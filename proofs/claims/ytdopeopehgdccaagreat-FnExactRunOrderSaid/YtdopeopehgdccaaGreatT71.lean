import Derived.Test.YtdopeopehgdccaaGreatBe
import Derived.Test.YtdopeopehgdccaaGreatBd
import Derived.Test.YtdopeopehgdccaaGreatBb
import Derived.Test.YtdopeopehgdccaaGreatBs
import Derived.Test.YtdopeopehgdccaaGreatT70
import Derived.Test.YtdopeopehgdccaaGreatT12
import Derived.Test.YtdopeopehgdccaaGreatT17
import Derived.Test.YtdopeopehgdccaaGreatT11
import Derived.Test.YtdopeopehgdccaaGreatT13
import Derived.Test.YtdopeopehgdccaaGreatT16
import Derived.Test.YtdopeopehgdccaaGreatDs
import Derived.Test.YtdopeopehgdccaaGreatBh
section
namespace Go.Proofs.YtdopeopehgdccaaGreat
open Go.RowKit
set_option linter.unusedVariables false
section
variable {P : Program} {n : Nat} {w0 : World} {L0 : List Nat} {fr : Fr} {H : List HP}
end
end Go.Proofs.YtdopeopehgdccaaGreat
end
section
namespace Go.Proofs.YtdopeopehgdccaaGreat
def b3i {α : Type} (l : List α) (i : Int) : List α := if inR i 0 ((l.length : Int) - 1) then l.take i.toNat ++ l.drop (i + 1).toNat else l
end Go.Proofs.YtdopeopehgdccaaGreat
end
section
namespace Go.Proofs.YtdopeopehgdccaaGreat
open Go.RowKit
set_option linter.unusedVariables false
end Go.Proofs.YtdopeopehgdccaaGreat
end
section
namespace Go.Proofs.YtdopeopehgdccaaGreat
open Go.RowKit
set_option linter.all false
set_option maxHeartbeats 2000000
attribute [local irreducible] Nop Yd Yp Ent Has Tr FnP FnP2 Src M5 V6 Y1 a0b D2
variable {l : List (Int × List Int × Int × Int × Int)} {d6 : List (Int × List Int)} {s i8 : List Int} {m_s c_s m_l c_l u7 o6 s5 o0 : Nat} {a_s a_l o7 o1 : Option Addr}
theorem a4A (hz : E0 (fun x => x.2.length) d6 ≤ 1048576) : Tr Tryz.prog 177 [.slice a_s m_s c_s, .slice a_l m_l c_l, .agg #[.slice o7 u7 o6, .slice o1 s5 o0]] (fun w L => Ro w L eIs [.slice a_s m_s c_s] s ∧ Ro w L z8 [.slice a_l m_l c_l] l ∧ Ro w L eIs [.slice o7 u7 o6] i8 ∧ Ro w L C3 [.slice o1 s5 o0] d6) [] (κ := Unit) (fun k => True) (fun k => .bool (D6 s l && E2 s (i8, d6))) (fun k => []) := by
 refine Tr.intro Tryz.func177 rfl (n := 15) rfl (by decide +kernel) bl (fr := [(0, .slice a_s m_s c_s), (1, .slice a_l m_l c_l), (2, .agg #[.slice o7 u7 o6, .slice o1 s5 o0])]) rfl fun w L hR => ?_
 obtain ⟨hs, hl, x8, t8⟩ := hR
 obtain ⟨rfl, ls⟩ := hs.slen
 obtain ⟨rfl, ll⟩ := hl.slen
 obtain ⟨rfl, P9⟩ := x8.slen
 obtain ⟨rfl, M9⟩ := t8.slen
 refine Ew Z2 (Est rfl (N.box (cs := [_, _]) rfl dc rfl) (fun b5 _ => (Eas rfl rfl (Ev Z9 (Emv rfl rfl (Emv rfl rfl (Est rfl (N.call0 a3B rfl rfl rfl dc (fun w Lp hA => ⟨hA.ro hs, hA.ro hl⟩)) (fun _ _ => (Ent.b (fun q9 => ?_) (fun q9 => ?_))))))))))
 ·refine Emv rfl rfl (Emv rfl rfl (Ey rfl (Y.ldS (cs := [_, _]) ty_Query rfl (Has.pt m0) rfl) (Est rfl (N.call0 (a5g fc) rfl rfl rfl dc (fun w Lp hA => ⟨hA.ro hs, hA.ro x8, hA.ro t8⟩)) (fun _ _ => (Ey rfl ((Y.pkt rfl rfl).yd) (Eas rfl rfl ?_))))))
  exact Eu (E.ret (Fb rfl rfl (by grind [d1, d2, t1, t2])))
 ·refine Emv rfl rfl (Es rfl (Es rfl (Es rfl (Ey rfl ((Y.pkf rfl rfl).yd) (Eas rfl rfl ?_)))))
  exact Eu (E.ret (Fb rfl rfl (by grind [d1, d2, t1, t2])))
theorem a6A (hz : E0 (fun x => x.2.length) d6 ≤ 1048576) : Tr Tryz.prog 141 [.slice a_s m_s c_s, .slice a_l m_l c_l, .agg #[.slice o7 u7 o6, .slice o1 s5 o0]] (fun w L => Ro w L eIs [.slice a_s m_s c_s] s ∧ Ro w L z8 [.slice a_l m_l c_l] l ∧ Ro w L eIs [.slice o7 u7 o6] i8 ∧ Ro w L C3 [.slice o1 s5 o0] d6) [] (κ := Unit) (fun k => True) (fun k => .bool (D6 s l && E2 s (i8, d6))) (fun k => []) := by
 refine Tr.intro Tryz.func141 rfl (n := 15) rfl (by decide +kernel) bl (fr := [(0, .slice a_s m_s c_s), (1, .slice a_l m_l c_l), (2, .agg #[.slice o7 u7 o6, .slice o1 s5 o0])]) rfl fun w L hR => ?_
 obtain ⟨hs, hl, x8, t8⟩ := hR
 obtain ⟨rfl, ls⟩ := hs.slen
 obtain ⟨rfl, ll⟩ := hl.slen
 obtain ⟨rfl, P9⟩ := x8.slen
 obtain ⟨rfl, M9⟩ := t8.slen
 refine Ew Z2 (Est rfl (N.box (cs := [_, _]) rfl dc rfl) (fun b5 _ => (Eas rfl rfl (Ev Z9 (Emv rfl rfl (Emv rfl rfl (Est rfl (N.call0 a1d rfl rfl rfl dc (fun w Lp hA => ⟨hA.ro hs, hA.ro hl⟩)) (fun _ _ => (Ent.b (fun q9 => ?_) (fun q9 => ?_))))))))))
 ·refine Emv rfl rfl (Emv rfl rfl (Ey rfl (Y.ldS (cs := [_, _]) ty_Query rfl (Has.pt m0) rfl) (Est rfl (N.call0 (a5Q fc) rfl rfl rfl dc (fun w Lp hA => ⟨hA.ro hs, hA.ro x8, hA.ro t8⟩)) (fun _ _ => (Ey rfl ((Y.pkt rfl rfl).yd) (Eas rfl rfl ?_))))))
  exact Eu (E.ret (Fb rfl rfl (by grind [d1, d2, t1, t2])))
 ·refine Emv rfl rfl (Es rfl (Es rfl (Es rfl (Ey rfl ((Y.pkf rfl rfl).yd) (Eas rfl rfl ?_)))))
  exact Eu (E.ret (Fb rfl rfl (by grind [d1, d2, t1, t2])))
end Go.Proofs.YtdopeopehgdccaaGreat
end
