import Derived.Test.YtdopeopehgdccaaBs
import Derived.Test.YtdopeopehgdccaaT8
import Derived.Test.YtdopeopehgdccaaT6
import Derived.Test.YtdopeopehgdccaaBd
namespace Go.Proofs.Ytdopeopehgdccaa
open Go.RowKit
set_option linter.all false
set_option maxHeartbeats 2000000
attribute [local irreducible] Nop Yd Yp Ent Has Tr FnP FnP2 Src
theorem V0 {a_l : Option Addr} {m_l c_l : Nat} {l : List (Int × List Int)} {b9 : Int} {d4 : Option Addr} {d9 c8 : Nat} {b8 : List Int} : Tr Try.prog 37 [.slice a_l m_l c_l, .agg #[.int .i64 b9, .slice d4 d9 c8]] (fun w L => Ro w L j4 [.slice a_l m_l c_l] l ∧ I64 b9 ∧ Ro w L eIs [.slice d4 d9 c8] b8) [] (κ := Unit) (fun k => True) (fun k => .bool (v5 l (b9, b8))) (fun k => []) := by
 refine Tr.intro Try.func37 rfl (n := 19) rfl (by decide +kernel) bl (fr := [(0, .slice a_l m_l c_l), (1, .agg #[.int .i64 b9, .slice d4 d9 c8])]) rfl fun w L hR => ?_
 obtain ⟨hl, p5, f6⟩ := hR
 obtain ⟨rfl, ll⟩ := hl.slen
 obtain ⟨rfl, u5⟩ := f6.slen
 refine Ew Z2 (Est rfl (N.box (cs := [_, _]) rfl dc rfl) (fun b3 _ => (Eas rfl rfl (Eu (Eq_ (Ew Z1 (Eas rfl rfl (Eu (E.block (E.loop (κ := Nat) (fun g => g ≤ l.length ∧ v5 l (b9, b8) = v5 (l.drop g) (b9, b8)) (fun g => [(0, .slice a_l l.length c_l), (3, .pointer (some ⟨b3, 0, none⟩)), (5, .int .i64 (g : Int))]) (fun g => [pt b3 37 [.int .i64 b9, .slice d4 b8.length c8]]) (fun g => l.length - g) 0 ⟨Nat.zero_le _, by simp⟩ ⟨rfl, rfl, rfl, trivial⟩ (.refl _) (fun g pg => ?_)))))))))))
 obtain ⟨pk, pa⟩ := pg
 refine Eq_ (Ew Z4 (Emv rfl rfl (Emv rfl rfl (Ey rfl ((Y.len us_Facts rfl).yd) (Ey rfl ((Y.lss rfl rfl).yd) (Ent.d (fun q9 => ?_) (fun q9 => ?_)))))))
 ·refine Eu (E.ct rfl (E.skipc (Et (Eq_ (E.block (Eq_ (D.region (fun j => true) n0 (Dyp 0 rfl (Y.mv rfl) (Dyp 1 rfl (Y.mv rfl) ?_)))))))))
  obtain ⟨eb14, eo14, ec14, ea14, er14, el14, eh14⟩ := hl.elem g om
  obtain ⟨xa14_0, xc14_0, rfl, ei14_0, xh14_0⟩ := Ro.pFact er14
  have := xh14_0.slen.2
  refine Dyp 2 rfl (Y.ix us_Facts ty_Fact rfl ea14 rfl g rfl om) (Dy 3 rfl (Y.ldS (cs := [_, _]) ty_Fact rfl (eh14 _) rfl) (Dy 4 rfl (Y.ldS (cs := [_, _]) ty_Fact rfl (Has.pt m0) rfl) (D.st 5 rfl rfl kr (fun _ => rfl) (N.call0 x8 rfl rfl rfl dc (fun w Lp hA => ⟨ei14_0, hA.ro xh14_0, p5, hA.ro f6⟩)) (fun _ _ => (Dyp 6 rfl (Y.eql rfl rfl) (Ent.d (fun q18 => ?_) (fun q18 => ?_)))))))
  ·refine D.done kr (Et (E.ct rfl (Ew Z1 (Eas rfl rfl ?_))))
   exact Eu (E.ret (E.blr (E.thr (E.thr (E.blr (E.thr (Fb rfl rfl (by grind [v5, d1, d2, t1, t2]))))))))
  ·refine D.done kr (Et (E.cf rfl (E.skipc (E.bln (Et (Ez Z3 (Emv rfl rfl (Ey rfl ((Y.add rfl rfl om om).yd) (Eas rfl rfl ?_)))))))))
   exact Eu (E.again br (g + 1) rs (.refl _) ⟨by omega, by grind [v5, d1, d2, t1, t2]⟩ om)
 ·refine Eu (E.cf rfl (E.exit (E.the (E.the (E.blh (Et (Ew Z1 (Eas rfl rfl ?_))))))))
  exact Eu (E.ret (Fb rfl rfl (by grind [v5, d1, d2, t1, t2])))
end Go.Proofs.Ytdopeopehgdccaa
