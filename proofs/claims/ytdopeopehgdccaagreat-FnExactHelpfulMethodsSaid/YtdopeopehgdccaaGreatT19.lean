import Derived.Test.YtdopeopehgdccaaGreatBs
import Derived.Test.YtdopeopehgdccaaGreatT17
import Derived.Test.YtdopeopehgdccaaGreatT12
import Derived.Test.YtdopeopehgdccaaGreatT11
import Derived.Test.YtdopeopehgdccaaGreatT15
import Derived.Test.YtdopeopehgdccaaGreatT4
import Derived.Test.YtdopeopehgdccaaGreatT5
import Derived.Test.YtdopeopehgdccaaGreatDx
namespace Go.Proofs.YtdopeopehgdccaaGreat
open Go.RowKit
set_option linter.all false
set_option maxHeartbeats 2000000
attribute [local irreducible] Nop Yd Yp Ent Has Tr FnP FnP2 Src j7 d7 J2 Y5 E0
theorem a9j {a_a : Option Addr} {m_a c_a : Nat} {a : List Int} {a_b : Option Addr} {m_b c_b : Nat} {b : List Int} : Tr Tryz.prog 146 [.slice a_a m_a c_a, .slice a_b m_b c_b] (fun w L => Ro w L eIs [.slice a_a m_a c_a] a ∧ Ro w L eIs [.slice a_b m_b c_b] b) [] (κ := Unit) (fun k => True) (fun k => .bool (ltT a b)) (fun k => []) := by
 refine Tr.intro Tryz.func146 rfl (n := 41) rfl (by decide +kernel) bl (fr := [(0, .slice a_a m_a c_a), (1, .slice a_b m_b c_b)]) rfl fun w L hR => ?_
 obtain ⟨ha, hb⟩ := hR
 obtain ⟨rfl, la⟩ := ha.slen
 obtain ⟨rfl, lb⟩ := hb.slen
 refine Ew Z1 (Eas rfl rfl (Eu (Eq_ (Ew Z1 (Eas rfl rfl (Eu (E.block (E.loop (κ := Nat) (fun g => g ≤ a.length ∧ g ≤ b.length ∧ E6 a b = E6 (a.drop g) (b.drop g)) (fun g => [(0, .slice a_a a.length c_a), (1, .slice a_b b.length c_b), (5, .int .i64 (g : Int))]) (fun g => []) (fun g => a.length - g) 0 ⟨Nat.zero_le _, by simp⟩ ⟨rfl, rfl, rfl, trivial⟩ (.refl _) (fun g pg => ?_)))))))))
 obtain ⟨pk, pa⟩ := pg
 refine Eq_ (Ew Z10 (Emv rfl rfl (Emv rfl rfl (Ey rfl ((Y.len us_Is rfl).yd) (Ey rfl ((Y.lss rfl rfl).yd) (Ent.d (fun q9 => ?_) (fun q9 => ?_)))))))
 ·refine Emv rfl rfl (Emv rfl rfl (Emv rfl rfl (Ey rfl ((Y.len us_Is rfl).yd) (Ey rfl ((Y.lss rfl rfl).yd) (Ent.d (fun q14 => ?_) (fun q14 => ?_))))))
  ·refine Ey rfl ((Y.pkt rfl rfl).yd) (Eu (E.ct rfl (E.skipc (Et (Eq_ (E.block (Eq_ (D.region (fun j => true) mixed (Dyp 0 rfl (Y.mv rfl) (Dyp 1 rfl (Y.mv rfl) ?_))))))))))
   obtain ⟨eb20, eo20, ea20, ei20, eh20⟩ := ha.elemI g om
   refine Dyp 2 rfl (Y.ix us_Is f6 rfl ea20 rfl g rfl om) (Dy 3 rfl (Y.ld1 f6 rfl (eh20 _) rfl) (Dyp 4 rfl (Y.mv rfl) (Dyp 5 rfl (Y.mv rfl) ?_)))
   obtain ⟨eb24, eo24, ea24, ei24, eh24⟩ := hb.elemI g om
   refine Dyp 6 rfl (Y.ix us_Is f6 rfl ea24 rfl g rfl om) (Dy 7 rfl (Y.ld1 f6 rfl (eh24 _) rfl) (Dyp 8 rfl (Y.neq rfl rfl) (Ent.d (fun q26 => ?_) (fun q26 => ?_))))
   ·refine D.done kr (Et (E.ct rfl (Eq_ (D.region (fun j => true) mixed (Dyp 0 rfl (Y.mv rfl) (Dyp 1 rfl (Y.mv rfl) (Dyp 2 rfl (Y.ix us_Is f6 rfl ea20 rfl g rfl om) (Dy 3 rfl (Y.ld1 f6 rfl (eh20 _) rfl) (Dyp 4 rfl (Y.mv rfl) (Dyp 5 rfl (Y.mv rfl) (Dyp 6 rfl (Y.ix us_Is f6 rfl ea24 rfl g rfl om) (Dy 7 rfl (Y.ld1 f6 rfl (eh24 _) rfl) (Dyp 8 rfl (Y.lss rfl rfl) (Dyp 9 rfl (Y.as rfl) ?_))))))))))))))
    exact D.done kr (Et (E.ret (E.blr (E.thr (E.thr (E.blr (E.thr (Fb rfl rfl (by grind [ltT, E6, K3, d1, d2, t1, t2])))))))))
   ·refine D.done kr (Et (E.cf rfl (E.skipc (E.bln (Et (Ez Z3 (Emv rfl rfl (Ey rfl ((Y.add rfl rfl om om).yd) (Eas rfl rfl ?_)))))))))
    exact Eu (E.again br (g + 1) rs (.refl _) ⟨by omega, by grind [E6, K3, d1, d2, t1, t2]⟩ om)
  ·refine Ey rfl ((Y.pkt rfl rfl).yd) (Eu (E.cf rfl (E.exit (E.the (E.the (E.blh (Et (Ew Z6 (Emv rfl rfl (Ey rfl ((Y.len us_Is rfl).yd) (Emv rfl rfl (Ey rfl ((Y.len us_Is rfl).yd) (Ey rfl ((Y.lss rfl rfl).yd) (Eas rfl rfl ?_))))))))))))))
   exact Eu (E.ret (Fb rfl rfl (by grind [ltT, E6, K3, d1, d2, t1, t2])))
 ·refine Emv rfl rfl (Es rfl (Es rfl (Es rfl (Es rfl (Ey rfl ((Y.pkf rfl rfl).yd) (Eu (E.cf rfl (E.exit (E.the (E.the (E.blh (Et (Ew Z6 (Emv rfl rfl (Ey rfl ((Y.len us_Is rfl).yd) (Emv rfl rfl (Ey rfl ((Y.len us_Is rfl).yd) (Ey rfl ((Y.lss rfl rfl).yd) (Eas rfl rfl ?_)))))))))))))))))))
  exact Eu (E.ret (Fb rfl rfl (by grind [ltT, E6, K3, d1, d2, t1, t2])))
end Go.Proofs.YtdopeopehgdccaaGreat
