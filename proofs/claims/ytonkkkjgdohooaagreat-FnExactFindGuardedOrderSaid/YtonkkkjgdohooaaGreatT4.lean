import Derived.Test.YtonkkkjgdohooaaGreatBs
import Derived.Test.YtonkkkjgdohooaaGreatT1
import Derived.Test.YtonkkkjgdohooaaGreatBc
namespace Go.Proofs.YtonkkkjgdohooaaGreat
open Go.RowKit
set_option linter.unusedVariables false
set_option linter.unusedSimpArgs false
set_option maxHeartbeats 2000000
attribute [local irreducible] Nop Yd Yp Ent Has Tr FnP FnP2 Src
theorem t_laws_markIntS {a_a : Option Addr} {m_a c_a : Nat} {a : List Int} {v : Int} : Tr Tryz.prog 28 [.slice a_a m_a c_a, .int .i64 v] (fun w L => 0 ≤ v ∧ v + ((totS cE_I a : Nat) : Int) ≤ 4611686018427387904) [ow eIs [.slice a_a m_a c_a] a] (κ := Unit) (fun k => True) (fun k => .int .i64 (v + (totS cE_I a : Nat))) (fun k => [ow eIs [.slice a_a m_a c_a] (mkL cE_I mE_I a v)]) := by
  refine Tr.intro Tryz.func28 rfl (n := 19) rfl (by decide +kernel) bl (fr := [(0, .slice a_a m_a c_a), (1, .int .i64 v)]) rfl fun w L hR => ?_
  obtain ⟨as0, as1⟩ := hR
  refine Ent.lenow m0 fun ea la => ?_
  subst ea
  refine Ew Z1 (Eas rfl rfl (Eu (Eq_ (Ew Z1 (Eas rfl rfl (Eu (E.block (E.loop (κ := Nat) (fun g => g ≤ a.length) (fun g => [(0, .slice a_a a.length c_a), (1, .int .i64 (v + (totS cE_I (a.take g) : Nat))), (5, .int .i64 (g : Int))]) (fun g => [ow eIs [.slice a_a a.length c_a] (mkL cE_I mE_I (a.take g) v ++ a.drop g)]) (fun g => a.length - g) 0 (Nat.zero_le _) ⟨rfl, frI (by simp [totS]), rfl, trivial⟩ (.refl _) (fun g pg => ?_)))))))))
  have u1 := totS_le (t := cE_I) (l := a) (g := g)
  have u2 := totS_le (t := cE_I) (l := a) (g := g + 1)
  have hlen : (mkL cE_I mE_I (a.take g) v ++ a.drop g).length = a.length := by rw [List.length_append, mkL_len, ← List.length_append, List.take_append_drop]
  refine Eq_ (Ew Z4 (Emv rfl rfl (Emv rfl rfl (Ey rfl ((Y.len us_Is rfl).yd) (Ey rfl ((Y.lss rfl rfl).yd) (Ent.d (fun q9 => ?_) (fun q9 => ?_)))))))
  · have u3 := totS_step (t := cE_I) (show g < a.length by omega)
    have u4 : cE_I a[g] = 1 := rfl
    refine Eu (E.ct rfl (E.skipc (Et (Eq_ (E.block (Ew Z5 (Emv rfl rfl (Emv rfl rfl (Emv rfl rfl (Ent.adr m0 om fun ab15 ae15 => (Ey rfl ((Y.ix us_Is ty_I rfl ae15 rfl g rfl om).yd) (Est rfl (N.set (E := Enc.int) (j := g) (ex := v + (totS cE_I (a.take g) : Nat)) (ce := [_]) ty_I rfl rfl rfl rfl (Own.int i6) ae15 (Nat.zero_add _) rfl (by simp [mkL_len]; omega)) (fun _ _ => (Eu (Ez Z3 (Emv rfl rfl (Ey rfl ((Y.add rfl rfl om om).yd) (Eas rfl rfl (En (E.bln (Et (Ez Z3 (Emv rfl rfl (Ey rfl ((Y.add rfl rfl om om).yd) (Eas rfl rfl ?_)))))))))))))))))))))))))
    exact Eu (E.again br (g + 1) ⟨rfl, frI om, rfl, trivial⟩ (permOw (mk_set (c := cE_I) (m := mE_I) (show g < a.length by omega) rfl)) om om)
  · refine Eu (E.cf rfl (E.exit (E.the (E.the (E.blh (Et (Ew Z2 (Emv rfl rfl (Eas rfl rfl (Eu (E.ret (Ent.cv (congrArg (ow eIs [_]) (show mkL cE_I mE_I (a.take g) v ++ a.drop g = mkL cE_I mE_I a v from by first | exact mk_all om | (rw [totS_all om]))) ?_))))))))))))
    exact Fg rfl rfl () (by rw [show (v + (totS cE_I a : Nat)) = (v + (totS cE_I (a.take g) : Nat)) from (by first | exact mk_all om | (rw [totS_all om]))]; try rfl) rfl
theorem t_laws_heldIntS {a_a : Option Addr} {m_a c_a : Nat} {a : List Int} {v : Int} (hz : mkL cE_I mE_I a v = a) : Tr Tryz.prog 50 [.slice a_a m_a c_a, .int .i64 v] (fun w L => Ro w L eIs [.slice a_a m_a c_a] a ∧ 0 ≤ v ∧ v + ((totS cE_I a : Nat) : Int) ≤ 4611686018427387904) [] (κ := Unit) (fun k => True) (fun k => .int .i64 (v + (totS cE_I a : Nat))) (fun k => []) := by
  refine Tr.intro Tryz.func50 rfl (n := 21) rfl (by decide +kernel) bl (fr := [(0, .slice a_a m_a c_a), (1, .int .i64 v)]) rfl fun w L hR => ?_
  obtain ⟨ha, as0, as1⟩ := hR
  obtain ⟨rfl, la⟩ := ha.slen
  refine Ew Z1 (Eas rfl rfl (Eu (Eq_ (Ew Z1 (Eas rfl rfl (Eu (E.block (E.loop (κ := Nat) (fun g => g ≤ a.length) (fun g => [(0, .slice a_a a.length c_a), (1, .int .i64 (v + (totS cE_I (a.take g) : Nat))), (5, .int .i64 (g : Int))]) (fun g => []) (fun g => a.length - g) 0 (Nat.zero_le _) ⟨rfl, frI (by simp [totS]), rfl, trivial⟩ (.refl _) (fun g pg => ?_)))))))))
  have u1 := totS_le (t := cE_I) (l := a) (g := g)
  have u2 := totS_le (t := cE_I) (l := a) (g := g + 1)
  refine Eq_ (Ew Z4 (Emv rfl rfl (Emv rfl rfl (Ey rfl ((Y.len us_Is rfl).yd) (Ey rfl ((Y.lss rfl rfl).yd) (Ent.d (fun q9 => ?_) (fun q9 => ?_)))))))
  · have u3 := totS_step (t := cE_I) (show g < a.length by omega)
    have u4 : cE_I a[g] = 1 := rfl
    refine Eu (E.ct rfl (E.skipc (Et (Eq_ (E.block (Eq_ (Ew Z6 (Emv rfl rfl (Emv rfl rfl ?_)))))))))
    obtain ⟨eb14, eo14, ea14, ei14, eh14⟩ := ha.elemI g om
    refine Ey rfl ((Y.ix us_Is ty_I rfl ea14 rfl g rfl om).yd) (Ey rfl (Y.ld1 ty_I rfl (eh14 _) rfl) (Emv rfl rfl (Ey rfl ((Y.neq rfl rfl).yd) (Ent.d (fun q17 => ?_) (fun q17 => ?_)))))
    · exact absurd (mkL_at hz (show g < a.length by omega)).symm q17
    · refine Eu (E.cf rfl (E.skipc (Et (Ez Z3 (Emv rfl rfl (Ey rfl ((Y.add rfl rfl om om).yd) (Eas rfl rfl (En (E.bln (Et (Ez Z3 (Emv rfl rfl (Ey rfl ((Y.add rfl rfl om om).yd) (Eas rfl rfl ?_))))))))))))))
      exact Eu (E.again br (g + 1) ⟨rfl, frI om, rfl, trivial⟩ (.refl _) om om)
  · refine Eu (E.cf rfl (E.exit (E.the (E.the (E.blh (Et (Ew Z2 (Emv rfl rfl (Eas rfl rfl ?_)))))))))
    exact Eu (E.ret (Fg rfl rfl () (congrArg (Value.int .i64) (by rw [totS_all om])) rfl))
end Go.Proofs.YtonkkkjgdohooaaGreat
