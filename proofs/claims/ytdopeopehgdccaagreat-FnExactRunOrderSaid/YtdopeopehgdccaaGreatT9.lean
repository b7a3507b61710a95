import Derived.Test.YtdopeopehgdccaaGreatBs
import Derived.Test.YtdopeopehgdccaaGreatT8
import Derived.Test.YtdopeopehgdccaaGreatT6
import Derived.Test.YtdopeopehgdccaaGreatBd
namespace Go.Proofs.YtdopeopehgdccaaGreat
open Go.RowKit
set_option linter.all false
set_option maxHeartbeats 2000000
attribute [local irreducible] Nop Yd Yp Ent Has Tr FnP FnP2 Src
variable {j7 : Int} {l : List (Int × List Int)} {f6 : List Int} {u6 r7 m_l c_l : Nat} {r8 a_l : Option Addr}
theorem a4h {a1f : Int} {M6 : Option Addr} {M7 M8 : Nat} {a0d : List Int} {b_f : Nat} : Tr Tryz.prog 214 [.agg #[.int .i64 a1f, .slice M6 M7 M8], .pointer (some ⟨b_f, 0, none⟩)] (fun w L => (I64 a1f ∧ Ro w L eIs [.slice M6 M7 M8] a0d) ∧ RoPt w L b_f [.int .i64 j7, .slice r8 u6 r7] ∧ I64 j7 ∧ Ro w L eIs [.slice r8 u6 r7] f6) [] (κ := Unit) (fun k => True) (fun k => .bool (decide (G8 (a1f, a0d) (j7, f6) = 0))) (fun k => []) := by
 refine Tr.intro Tryz.func214 rfl (n := 8) rfl (by decide +kernel) bl (fr := [(0, .agg #[.int .i64 a1f, .slice M6 M7 M8]), (1, .pointer (some ⟨b_f, 0, none⟩))]) rfl fun w L hR => ?_
 obtain ⟨⟨a5V, W7⟩, hb_f, C9, s4⟩ := hR
 obtain ⟨rfl, a6u⟩ := W7.slen
 obtain ⟨rfl, N9⟩ := s4.slen
 refine Ew Z2 (Est rfl (N.box (cs := [_, _]) rfl dc rfl) (fun b2 _ => (Eas rfl rfl (Ev Z5 (Ey rfl (Y.ldS (cs := [_, _]) ty_Fact rfl (Has.pt m0) rfl) (Ey rfl (Y.ldS (cs := [_, _]) ty_Fact rfl (hb_f.has) rfl) (Est rfl (N.call0 Y2 rfl rfl rfl dc (fun w Lp hA => ⟨a5V, hA.ro W7, C9, hA.ro s4⟩)) (fun _ _ => (Ey rfl ((Y.eql rfl rfl).yd) (Eas rfl rfl ?_))))))))))
 exact Eu (E.ret (Fg rfl rfl () rfl rfl))
theorem a5e : Tr Tryz.prog 126 [.slice a_l m_l c_l, .agg #[.int .i64 j7, .slice r8 u6 r7]] (fun w L => Ro w L j9 [.slice a_l m_l c_l] l ∧ I64 j7 ∧ Ro w L eIs [.slice r8 u6 r7] f6) [] (κ := Unit) (fun k => True) (fun k => .bool (F1 l (j7, f6))) (fun k => []) := by
 refine Tr.intro Tryz.func126 rfl (n := 8) rfl (by decide +kernel) bl (fr := [(0, .slice a_l m_l c_l), (1, .agg #[.int .i64 j7, .slice r8 u6 r7])]) rfl fun w L hR => ?_
 obtain ⟨hl, C9, s4⟩ := hR
 obtain ⟨rfl, ll⟩ := hl.slen
 obtain ⟨rfl, N9⟩ := s4.slen
 refine Ew Z2 (Est rfl (N.box (cs := [_, _]) rfl dc rfl) (fun b3 _ => (Eas rfl rfl (Ev Z4 (Emv rfl rfl (Ey rfl ((Y.fn (vs := [_]) rfl).yd) (Est rfl (N.call0 (a2H (f := (fun z => decide (G8 z (j7, f6) = 0))) (D_f := (fun _ => True)) (by intros; exact trivial)) rfl rfl rfl dc (fun w Lp hA => ⟨hA.ro hl, FnP.ofFact (D := (fun _ => True)) (fun hd => a4h) (fun w' hk => ⟨(hA.pt m0).keep hk, C9, (hA.ro s4).keep hk⟩)⟩)) (fun _ _ => (Eas rfl rfl ?_)))))))))
 exact Eu (E.ret (Fb rfl rfl (by rfl)))
theorem a5K : Tr Tryz.prog 115 [.slice a_l m_l c_l, .agg #[.int .i64 j7, .slice r8 u6 r7]] (fun w L => Ro w L j9 [.slice a_l m_l c_l] l ∧ I64 j7 ∧ Ro w L eIs [.slice r8 u6 r7] f6) [] (κ := Unit) (fun k => True) (fun k => .bool (F1 l (j7, f6))) (fun k => []) := by
 refine Tr.intro Tryz.func115 rfl (n := 19) rfl (by decide +kernel) bl (fr := [(0, .slice a_l m_l c_l), (1, .agg #[.int .i64 j7, .slice r8 u6 r7])]) rfl fun w L hR => ?_
 obtain ⟨hl, C9, s4⟩ := hR
 obtain ⟨rfl, ll⟩ := hl.slen
 obtain ⟨rfl, N9⟩ := s4.slen
 refine Ew Z2 (Est rfl (N.box (cs := [_, _]) rfl dc rfl) (fun b3 _ => (Eas rfl rfl (Eu (Eq_ (Ew Z1 (Eas rfl rfl (Eu (E.block (E.loop (κ := Nat) (fun g => g ≤ l.length ∧ F1 l (j7, f6) = F1 (l.drop g) (j7, f6)) (fun g => [(0, .slice a_l l.length c_l), (3, .pointer (some ⟨b3, 0, none⟩)), (5, .int .i64 (g : Int))]) (fun g => [pt b3 115 [.int .i64 j7, .slice r8 f6.length r7]]) (fun g => l.length - g) 0 ⟨Nat.zero_le _, by simp⟩ ⟨rfl, rfl, rfl, trivial⟩ (.refl _) (fun g pg => ?_)))))))))))
 obtain ⟨pk, pa⟩ := pg
 refine Eq_ (Ew Z4 (Emv rfl rfl (Emv rfl rfl (Ey rfl ((Y.len us_Facts rfl).yd) (Ey rfl ((Y.lss rfl rfl).yd) (Ent.d (fun q9 => ?_) (fun q9 => ?_)))))))
 ·refine Eu (E.ct rfl (E.skipc (Et (Eq_ (E.block (Eq_ (D.region (fun j => true) mixed (Dyp 0 rfl (Y.mv rfl) (Dyp 1 rfl (Y.mv rfl) ?_)))))))))
  obtain ⟨eb14, eo14, ec14, ea14, er14, el14, eh14⟩ := hl.elem g om
  obtain ⟨xa14_0, xc14_0, rfl, ei14_0, xh14_0⟩ := Ro.pFact er14
  have := xh14_0.slen.2
  refine Dyp 2 rfl (Y.ix us_Facts ty_Fact rfl ea14 rfl g rfl om) (Dy 3 rfl (Y.ldS (cs := [_, _]) ty_Fact rfl (eh14 _) rfl) (Dy 4 rfl (Y.ldS (cs := [_, _]) ty_Fact rfl (Has.pt m0) rfl) (D.st 5 rfl rfl kr (fun _ => rfl) (N.call0 S8 rfl rfl rfl dc (fun w Lp hA => ⟨ei14_0, hA.ro xh14_0, C9, hA.ro s4⟩)) (fun _ _ => (Dyp 6 rfl (Y.eql rfl rfl) (Ent.d (fun q18 => ?_) (fun q18 => ?_)))))))
  ·refine D.done kr (Et (E.ct rfl (Ew Z1 (Eas rfl rfl ?_))))
   exact Eu (E.ret (E.blr (E.thr (E.thr (E.blr (E.thr (Fb rfl rfl (by grind [F1, d1, d2, t1, t2]))))))))
  ·refine D.done kr (Et (E.cf rfl (E.skipc (E.bln (Et (Ez Z3 (Emv rfl rfl (Ey rfl ((Y.add rfl rfl om om).yd) (Eas rfl rfl ?_)))))))))
   exact Eu (E.again br (g + 1) rs (.refl _) ⟨by omega, by grind [F1, d1, d2, t1, t2]⟩ om)
 ·refine Eu (E.cf rfl (E.exit (E.the (E.the (E.blh (Et (Ew Z1 (Eas rfl rfl ?_))))))))
  exact Eu (E.ret (Fb rfl rfl (by grind [F1, d1, d2, t1, t2])))
end Go.Proofs.YtdopeopehgdccaaGreat
