import Derived.Test.YtdopeopehgdccaaGreatBs
import Derived.Test.YtdopeopehgdccaaGreatT71
import Derived.Test.YtdopeopehgdccaaGreatT24
namespace Go.Proofs.YtdopeopehgdccaaGreat
open Go.RowKit
set_option linter.all false
set_option maxHeartbeats 2000000
attribute [local irreducible] Nop Yd Yp Ent Has Tr FnP FnP2 Src K9 U8 W3 X6 E0
theorem a5F {a_s : Option Addr} {m_s c_s : Nat} {s : List Int} {a_l : Option Addr} {m_l c_l : Nat} {l : List (Int × List Int × Int × Int × Int)} {l2 : Option Addr} {o1 l0 : Nat} {d9 : List Int} {j8 : Option Addr} {n9 j7 : Nat} {d4 : List (Int × List Int)} (hz : C8 (fun x => x.2.length) d4 ≤ 1048576) : Tr Tryz.prog 131 [.slice a_s m_s c_s, .slice a_l m_l c_l, .agg #[.slice l2 o1 l0, .slice j8 n9 j7]] (fun w L => Ro w L eIs [.slice a_s m_s c_s] s ∧ Ro w L x9 [.slice a_l m_l c_l] l ∧ Ro w L eIs [.slice l2 o1 l0] d9 ∧ Ro w L s3 [.slice j8 n9 j7] d4) [] (κ := Unit) (fun k => True) (fun k => .bool ((L4 s l (d9, d4) && a1D (G2 s l (d9, d4), F5 s l (d9, d4)) (d9, d4)))) (fun k => []) := by
 refine Tr.intro Tryz.func131 rfl (n := 22) rfl (by decide +kernel) bl (fr := [(0, .slice a_s m_s c_s), (1, .slice a_l m_l c_l), (2, .agg #[.slice l2 o1 l0, .slice j8 n9 j7])]) rfl fun w L hR => ?_
 obtain ⟨hs, hl, o3, n8⟩ := hR
 obtain ⟨rfl, ls⟩ := hs.slen
 obtain ⟨rfl, ll⟩ := hl.slen
 obtain ⟨rfl, E9⟩ := o3.slen
 obtain ⟨rfl, D1⟩ := n8.slen
 refine Ew Z2 (Est rfl (N.box (cs := [_, _]) rfl dc rfl) (fun b5 _ => (Eas rfl rfl (Ev Z10 (Emv rfl rfl (Emv rfl rfl (Ey rfl (Y.ldS (cs := [_, _]) ty_Query rfl (Has.pt m0) rfl) (Est rfl (N.call (a3H fo) rfl rfl rfl dc rfl (fun w Lp hA => ⟨hA.ro hs, hA.ro hl, hA.ro o3, hA.ro n8⟩)) (fun k13 _ => ?_)))))))))
 obtain ⟨⟨a13_0, m13_0, c13_0⟩, ⟨a13_1, m13_1, c13_1⟩⟩ := k13
 refine Ent.lenow m0 fun e13_0 l13_0 => ?_
 subst e13_0
 refine Ent.lenow (mS m0) fun e13_1 l13_1 => ?_
 subst e13_1
 refine Emv rfl rfl (Ey rfl ((Y.ext rfl rfl).yd) (Ey rfl ((Y.ext rfl rfl).yd) (Est rfl (N.alloc ty_Query dc) (fun b7 _ => (Est rfl (N.sto (vs := [_, _]) (cs' := [_, _]) ty_Query rfl rfl rfl rfl rfl bl rfl) (fun _ _ => (Eas rfl rfl (Ent.b (fun q8 => ?_) (fun q8 => ?_)))))))))
 ·obtain ⟨jp0, jq0⟩ := a7u q8
  have jp := C1 jp0
  have jq := C1 jq0
  have jpz : C8 (fun x => x.2.length) (F5 s l (d9, d4)) ≤ 1048576 := Nat.le_trans (a5v jp.2.2) (Nat.le_trans (Nat.mul_le_mul_left 4 jp.1) dc)
  refine Ev Z7 (Emv rfl rfl (Emv rfl rfl (Ey rfl (Y.ldS (cs := [_, _]) ty_Query rfl (Has.pt m0) rfl) (Ey rfl (Y.ldS (cs := [_, _]) ty_Query rfl (Has.pt (mS (mS (mS m0)))) rfl) (Est rfl (N.call0 (a6r jp.1 jp.2.2 jp.2.1 jq.1 jq.2.2 jq.2.1 jpz fo) rfl rfl rfl dc (fun w Lp hA => ⟨hA.ow (mS m0), hA.ow (mS (mS m0)), hA.ro o3, hA.ro n8⟩)) (fun _ _ => (Ey rfl ((Y.pkt rfl rfl).yd) (Eas rfl rfl ?_))))))))
  exact Eu (E.ret (Fb rfl rfl (by first | (rw [q8]; rfl) | simp [q8])))
 ·refine Ev Z7 (Emv rfl rfl (Emv rfl rfl (Es rfl (Es rfl (Es rfl (Ey rfl ((Y.pkf rfl rfl).yd) (Eas rfl rfl ?_)))))))
  exact Eu (E.ret (Fb rfl rfl (by first | (rw [q8]; rfl) | simp [q8])))
end Go.Proofs.YtdopeopehgdccaaGreat
