import Derived.Test.YtonkkkjgdohooaaGreatBe
import Derived.Test.YtonkkkjgdohooaaGreatBs
import Derived.Test.YtonkkkjgdohooaaGreatT19
import Derived.Test.YtonkkkjgdohooaaGreatDw
section
namespace Go.Proofs.YtonkkkjgdohooaaGreat
open Go.RowKit
instance PtIn.app {b : Nat} {T : TypeId} {cs : List Value} {A H : List HP} [h : PtIn b T cs H] : PtIn b T cs (A ++ H) := ⟨List.mem_append.2 (.inr h.out)⟩
instance PtIn.app2 {b : Nat} {T : TypeId} {cs : List Value} {A H : List HP} [h : PtIn b T cs H] : PtIn b T cs (List.append A H) := ⟨List.mem_append.2 (.inr h.out)⟩
end Go.Proofs.YtonkkkjgdohooaaGreat
end
section
namespace Go.Proofs.YtonkkkjgdohooaaGreat
open Go.RowKit
set_option linter.unusedVariables false
set_option linter.unusedSimpArgs false
set_option maxHeartbeats 2000000
attribute [local irreducible] Nop Yd Yp Ent Has Tr FnP FnP2 Src listsF opnF opn1 opnR chainB
theorem t_spec_l10HasTuple {a_l : Option Addr} {m_l c_l : Nat} {l : List (List Int)} {a_t : Option Addr} {m_t c_t : Nat} {t : List Int} : Tr Tryz.prog 154 [.slice a_l m_l c_l, .slice a_t m_t c_t] (fun w L => Ro w L eIss [.slice a_l m_l c_l] l ∧ Ro w L eIs [.slice a_t m_t c_t] t) [] (κ := Unit) (fun k => True) (fun k => .bool (hasT l t)) (fun k => []) := by
  refine Tr.intro Tryz.func154 rfl (n := 18) rfl (by decide +kernel) bl (fr := [(0, .slice a_l m_l c_l), (1, .slice a_t m_t c_t)]) rfl fun w L hR => ?_
  obtain ⟨hl, ht⟩ := hR
  obtain ⟨rfl, ll⟩ := hl.slen
  obtain ⟨rfl, lt⟩ := ht.slen
  refine Ew Z1 (Eas rfl rfl (Eu (Eq_ (Ew Z1 (Eas rfl rfl (Eu (E.block (E.loop (κ := Nat) (fun g => g ≤ l.length ∧ hasT l t = hasT (l.drop g) t) (fun g => [(0, .slice a_l l.length c_l), (1, .slice a_t t.length c_t), (5, .int .i64 (g : Int))]) (fun g => []) (fun g => l.length - g) 0 ⟨Nat.zero_le _, by simp⟩ ⟨rfl, rfl, rfl, trivial⟩ (.refl _) (fun g pg => ?_)))))))))
  obtain ⟨pk, pa⟩ := pg
  refine Eq_ (Ew Z4 (Emv rfl rfl (Emv rfl rfl (Ey rfl ((Y.len us_Iss rfl).yd) (Ey rfl ((Y.lss rfl rfl).yd) (Ent.d (fun q9 => ?_) (fun q9 => ?_)))))))
  · refine Eu (E.ct rfl (E.skipc (Et (Eq_ (E.block (Ew Z6 (Emv rfl rfl (Emv rfl rfl ?_))))))))
    obtain ⟨eb14, eo14, ec14, ea14, er14, el14, eh14⟩ := hl.elem g om
    obtain ⟨xa14, xc14, rfl⟩ := er14.sl
    have := er14.slen.2
    refine Ey rfl ((Y.ix us_Iss ty_Is rfl ea14 rfl g rfl om).yd) (Ey rfl (Y.ld1 ty_Is rfl (eh14 _) rfl) (Emv rfl rfl (Est rfl (N.call0 t_spec_l2Ints rfl rfl rfl dc (fun w Lp hA => ⟨hA.ro er14, hA.ro ht⟩)) (fun _ _ => (Ent.b (fun q17 => ?_) (fun q17 => ?_))))))
    · refine Eu (E.ct rfl (Ew Z1 (Eas rfl rfl ?_)))
      exact Eu (E.ret (E.blr (E.thr (E.thr (E.blr (E.thr (Fb rfl rfl (by grind [hasT, d1, d2, t1, t2]))))))))
    · refine Eu (E.cf rfl (E.skipc (E.bln (Et (Ez Z3 (Emv rfl rfl (Ey rfl ((Y.add rfl rfl om om).yd) (Eas rfl rfl ?_))))))))
      exact Eu (E.again br (g + 1) ⟨rfl, rfl, rfl, trivial⟩ (.refl _) ⟨by omega, by grind [hasT, d1, d2, t1, t2]⟩ om)
  · refine Eu (E.cf rfl (E.exit (E.the (E.the (E.blh (Et (Ew Z1 (Eas rfl rfl ?_))))))))
    exact Eu (E.ret (Fb rfl rfl (by grind [hasT, d1, d2, t1, t2])))
end Go.Proofs.YtonkkkjgdohooaaGreat
end
