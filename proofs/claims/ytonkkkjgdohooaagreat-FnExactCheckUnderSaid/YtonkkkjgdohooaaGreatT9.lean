import Derived.Test.YtonkkkjgdohooaaGreatBs
import Derived.Test.YtonkkkjgdohooaaGreatT8
import Derived.Test.YtonkkkjgdohooaaGreatT6
import Derived.Test.YtonkkkjgdohooaaGreatBd
namespace Go.Proofs.YtonkkkjgdohooaaGreat
open Go.RowKit
set_option linter.unusedVariables false
set_option linter.unusedSimpArgs false
set_option maxHeartbeats 2000000
attribute [local irreducible] Nop Yd Yp Ent Has Tr FnP FnP2 Src
theorem t_impl_HasFact_1 {x_Rel : Int} {a_x_Values : Option Addr} {m_x_Values c_x_Values : Nat} {x_Values : List Int} {b_f : Nat} {f_Rel : Int} {a_f_Values : Option Addr} {m_f_Values c_f_Values : Nat} {f_Values : List Int} : Tr Tryz.prog 283 [.agg #[.int .i64 x_Rel, .slice a_x_Values m_x_Values c_x_Values], .pointer (some ⟨b_f, 0, none⟩)] (fun w L => (I64 x_Rel ∧ Ro w L eIs [.slice a_x_Values m_x_Values c_x_Values] x_Values) ∧ RoPt w L b_f [.int .i64 f_Rel, .slice a_f_Values m_f_Values c_f_Values] ∧ I64 f_Rel ∧ Ro w L eIs [.slice a_f_Values m_f_Values c_f_Values] f_Values) [] (κ := Unit) (fun k => True) (fun k => .bool (decide (cmpF (x_Rel, x_Values) (f_Rel, f_Values) = 0))) (fun k => []) := by
  refine Tr.intro Tryz.func283 rfl (n := 8) rfl (by decide +kernel) bl (fr := [(0, .agg #[.int .i64 x_Rel, .slice a_x_Values m_x_Values c_x_Values]), (1, .pointer (some ⟨b_f, 0, none⟩))]) rfl fun w L hR => ?_
  obtain ⟨⟨i6x_Rel, hx_Values⟩, hb_f, i6f_Rel, hf_Values⟩ := hR
  obtain ⟨rfl, lx_Values⟩ := hx_Values.slen
  obtain ⟨rfl, lf_Values⟩ := hf_Values.slen
  refine Ew Z2 (Est rfl (N.box (cs := [_, _]) rfl dc rfl) (fun b2 _ => (Eas rfl rfl (Ev Z5 (Ey rfl (Y.ldS (cs := [_, _]) ty_Fact rfl (Has.pt m0) rfl) (Ey rfl (Y.ldS (cs := [_, _]) ty_Fact rfl (hb_f.has) rfl) (Est rfl (N.call0 t_impl_CompareFacts rfl rfl rfl dc (fun w Lp hA => ⟨i6x_Rel, hA.ro hx_Values, i6f_Rel, hA.ro hf_Values⟩)) (fun _ _ => (Ey rfl ((Y.eql rfl rfl).yd) (Eas rfl rfl ?_))))))))))
  exact Eu (E.ret (Fg rfl rfl () rfl rfl))
theorem t_impl_HasFact {a_l : Option Addr} {m_l c_l : Nat} {l : List (Int × List Int)} {f_Rel : Int} {a_f_Values : Option Addr} {m_f_Values c_f_Values : Nat} {f_Values : List Int} : Tr Tryz.prog 186 [.slice a_l m_l c_l, .agg #[.int .i64 f_Rel, .slice a_f_Values m_f_Values c_f_Values]] (fun w L => Ro w L eFacts [.slice a_l m_l c_l] l ∧ I64 f_Rel ∧ Ro w L eIs [.slice a_f_Values m_f_Values c_f_Values] f_Values) [] (κ := Unit) (fun k => True) (fun k => .bool (hasF l (f_Rel, f_Values))) (fun k => []) := by
  refine Tr.intro Tryz.func186 rfl (n := 8) rfl (by decide +kernel) bl (fr := [(0, .slice a_l m_l c_l), (1, .agg #[.int .i64 f_Rel, .slice a_f_Values m_f_Values c_f_Values])]) rfl fun w L hR => ?_
  obtain ⟨hl, i6f_Rel, hf_Values⟩ := hR
  obtain ⟨rfl, ll⟩ := hl.slen
  obtain ⟨rfl, lf_Values⟩ := hf_Values.slen
  refine Ew Z2 (Est rfl (N.box (cs := [_, _]) rfl dc rfl) (fun b3 _ => (Eas rfl rfl (Ev Z4 (Emv rfl rfl (Ey rfl ((Y.fn (vs := [_]) rfl).yd) (Est rfl (N.call0 (t_ContainsFunc_Fact (f := (fun z => decide (cmpF z (f_Rel, f_Values) = 0))) (D_f := (fun _ => True)) (by intros; exact trivial)) rfl rfl rfl dc (fun w Lp hA => ⟨hA.ro hl, FnP.ofFact (D := (fun _ => True)) (fun hd => t_impl_HasFact_1) (fun w' hk => ⟨(hA.pt m0).keep hk, i6f_Rel, (hA.ro hf_Values).keep hk⟩)⟩)) (fun _ _ => (Eas rfl rfl ?_)))))))))
  exact Eu (E.ret (Fb rfl rfl (by rfl)))
theorem t_spec_HasFact {a_l : Option Addr} {m_l c_l : Nat} {l : List (Int × List Int)} {f_Rel : Int} {a_f_Values : Option Addr} {m_f_Values c_f_Values : Nat} {f_Values : List Int} : Tr Tryz.prog 176 [.slice a_l m_l c_l, .agg #[.int .i64 f_Rel, .slice a_f_Values m_f_Values c_f_Values]] (fun w L => Ro w L eFacts [.slice a_l m_l c_l] l ∧ I64 f_Rel ∧ Ro w L eIs [.slice a_f_Values m_f_Values c_f_Values] f_Values) [] (κ := Unit) (fun k => True) (fun k => .bool (hasF l (f_Rel, f_Values))) (fun k => []) := by
  refine Tr.intro Tryz.func176 rfl (n := 19) rfl (by decide +kernel) bl (fr := [(0, .slice a_l m_l c_l), (1, .agg #[.int .i64 f_Rel, .slice a_f_Values m_f_Values c_f_Values])]) rfl fun w L hR => ?_
  obtain ⟨hl, i6f_Rel, hf_Values⟩ := hR
  obtain ⟨rfl, ll⟩ := hl.slen
  obtain ⟨rfl, lf_Values⟩ := hf_Values.slen
  refine Ew Z2 (Est rfl (N.box (cs := [_, _]) rfl dc rfl) (fun b3 _ => (Eas rfl rfl (Eu (Eq_ (Ew Z1 (Eas rfl rfl (Eu (E.block (E.loop (κ := Nat) (fun g => g ≤ l.length ∧ hasF l (f_Rel, f_Values) = hasF (l.drop g) (f_Rel, f_Values)) (fun g => [(0, .slice a_l l.length c_l), (3, .pointer (some ⟨b3, 0, none⟩)), (5, .int .i64 (g : Int))]) (fun g => [pt b3 132 [.int .i64 f_Rel, .slice a_f_Values f_Values.length c_f_Values]]) (fun g => l.length - g) 0 ⟨Nat.zero_le _, by simp⟩ ⟨rfl, rfl, rfl, trivial⟩ (.refl _) (fun g pg => ?_)))))))))))
  obtain ⟨pk, pa⟩ := pg
  refine Eq_ (Ew Z4 (Emv rfl rfl (Emv rfl rfl (Ey rfl ((Y.len us_Facts rfl).yd) (Ey rfl ((Y.lss rfl rfl).yd) (Ent.d (fun q9 => ?_) (fun q9 => ?_)))))))
  · refine Eu (E.ct rfl (E.skipc (Et (Eq_ (E.block (Eq_ (D.region (fun j => true) mixed (Dyp 0 rfl (Y.mv rfl) (Dyp 1 rfl (Y.mv rfl) ?_)))))))))
    obtain ⟨eb14, eo14, ec14, ea14, er14, el14, eh14⟩ := hl.elem g om
    obtain ⟨xa14_0, xc14_0, rfl, ei14_0, xh14_0⟩ := Ro.pFact er14
    have := xh14_0.slen.2
    refine Dyp 2 rfl (Y.ix us_Facts ty_Fact rfl ea14 rfl g rfl om) (Dy 3 rfl (Y.ldS (cs := [_, _]) ty_Fact rfl (eh14 _) rfl) (Dy 4 rfl (Y.ldS (cs := [_, _]) ty_Fact rfl (Has.pt m0) rfl) (D.st 5 rfl rfl kr (fun _ => rfl) (N.call0 t_spec_CompareFacts rfl rfl rfl dc (fun w Lp hA => ⟨ei14_0, hA.ro xh14_0, i6f_Rel, hA.ro hf_Values⟩)) (fun _ _ => (Dyp 6 rfl (Y.eql rfl rfl) (Ent.d (fun q18 => ?_) (fun q18 => ?_)))))))
    · refine D.done kr (Et (E.ct rfl (Ew Z1 (Eas rfl rfl ?_))))
      exact Eu (E.ret (E.blr (E.thr (E.thr (E.blr (E.thr (Fb rfl rfl (by grind [hasF, d1, d2, t1, t2]))))))))
    · refine D.done kr (Et (E.cf rfl (E.skipc (E.bln (Et (Ez Z3 (Emv rfl rfl (Ey rfl ((Y.add rfl rfl om om).yd) (Eas rfl rfl ?_)))))))))
      exact Eu (E.again br (g + 1) ⟨rfl, rfl, rfl, trivial⟩ (.refl _) ⟨by omega, by grind [hasF, d1, d2, t1, t2]⟩ om)
  · refine Eu (E.cf rfl (E.exit (E.the (E.the (E.blh (Et (Ew Z1 (Eas rfl rfl ?_))))))))
    exact Eu (E.ret (Fb rfl rfl (by grind [hasF, d1, d2, t1, t2])))
end Go.Proofs.YtonkkkjgdohooaaGreat
