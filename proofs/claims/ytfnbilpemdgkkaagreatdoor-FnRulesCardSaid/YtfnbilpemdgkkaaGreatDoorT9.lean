import Derived.Test.YtfnbilpemdgkkaaGreatDoorT8
section
namespace Go.Proofs.YtfnbilpemdgkkaaGreatDoor
open Go.RowKit
set_option linter.all false
set_option maxHeartbeats 2000000
attribute [local irreducible] Nop Yd Yp Ent Has Tr FnP FnP2 Src
theorem a1L {a_s : Option Addr} {m_s c_s : Nat} {s : List Int} (hz : s.length ≤ 1048576) : Tr Tryz.prog 134 [.slice a_s m_s c_s] (fun w L => Ro w L eIs [.slice a_s m_s c_s] s) [] (κ := Option Addr × Nat × Nat) (fun k => True) (fun k => .slice k.1 k.2.1 k.2.2) (fun k => [ow eIs [.slice k.1 k.2.1 k.2.2] s]) := by
 refine f8 Tryz.func134 rfl (n := 8) rfl (by decide +kernel) bl (fr := [(0, .slice a_s m_s c_s)]) rfl fun w L hR => ?_
 have hs := hR
 obtain ⟨rfl, ls⟩ := hs.slen
 refine Ew Z1 (Ei rfl (Eu (Eq_ (Ew Z2 (Em rfl (Ey rfl ((b3O us_Is rfl rfl).yd) (r5 (fun q4 => ?_) (fun q4 => ?_))))))))
 ·refine Eu (l3 rfl (Ew Z1 (Ei rfl (Eu (E.ret (j0 (o1 (A := []) (Own.nil (E := Enc.int) (e := tI) (a := none)) rfl (f9 (congrArg (ow eIs [_]) (show _ = s by (cases a_s with | none => exact hs.none_nil.symm | some x => cases q4))) ?_))))))))
  exact Fg rfl rfl (none, 0, 0) rfl rfl
 ·refine Eu (l4 rfl (d9 (Et (Ew Z4 (Est rfl (Nb [] [] us_Is f4 rfl rfl) (fun b5 _ => (Ent.drop (Em rfl (Est rfl (a7r (E := Enc.int) Plain.int us_Is f4 rfl rfl rfl hs bn bn dc) (fun p7 _ => (Ei rfl ?_)))))))))))
  exact Eu (E.ret (Fg rfl rfl (_, _, _) rfl rfl))
end Go.Proofs.YtfnbilpemdgkkaaGreatDoor
end
section
namespace Go.Proofs.YtfnbilpemdgkkaaGreatDoor
open Go.RowKit
set_option linter.all false
set_option maxHeartbeats 2000000
attribute [local irreducible] Nop Yd Yp Ent Has Tr FnP FnP2 Src
variable {d6 : Int} {l : List (Int × List Int)} {c8 : List Int} {m8 j9 m_l c_l : Nat} {k6 a_l : Option Addr}
theorem a3o {a0l : Int} {N7 : Option Addr} {N8 N9 : Nat} {a0O : List Int} {b_f : Nat} : Tr Tryz.prog 181 [.agg #[.int .i64 a0l, .slice N7 N8 N9], .pointer (some ⟨b_f, 0, none⟩)] (fun w L => (I64 a0l ∧ Ro w L eIs [.slice N7 N8 N9] a0O) ∧ RoPt w L b_f [.int .i64 d6, .slice k6 m8 j9] ∧ I64 d6 ∧ Ro w L eIs [.slice k6 m8 j9] c8) [] (κ := Unit) (fun k => True) (fun k => .bool (decide (C0 (a0l, a0O) (d6, c8) = 0))) (fun k => []) := by
 refine f8 Tryz.func181 rfl (n := 8) rfl (by decide +kernel) bl (fr := [(0, .agg #[.int .i64 a0l, .slice N7 N8 N9]), (1, .pointer (some ⟨b_f, 0, none⟩))]) rfl fun w L hR => ?_
 obtain ⟨⟨a4T, Y6⟩, hb_f, t8, m6⟩ := hR
 obtain ⟨rfl, b0a⟩ := Y6.slen
 obtain ⟨rfl, D3⟩ := m6.slen
 refine Ew Z2 (Est rfl (N.box (cs := [_, _]) rfl dc rfl) (fun b2 _ => (Ei rfl (Ev Z5 (Ey rfl (l8 (cs := [_, _]) ty_Fact rfl (Has.pt m0) rfl) (Ey rfl (l8 (cs := [_, _]) ty_Fact rfl (hb_f.has) rfl) (Est rfl (f5 G2 rfl rfl rfl dc (fun w Lp hA => ⟨a4T, hA.ro Y6, t8, hA.ro m6⟩)) (fun _ _ => (Ey rfl ((Y.eql rfl rfl).yd) (Ei rfl ?_))))))))))
 exact Eu (E.ret (Fg rfl rfl () rfl rfl))
theorem a1w : Tr Tryz.prog 147 [.slice a_l m_l c_l, .agg #[.int .i64 d6, .slice k6 m8 j9]] (fun w L => Ro w L f6 [.slice a_l m_l c_l] l ∧ I64 d6 ∧ Ro w L eIs [.slice k6 m8 j9] c8) [] (κ := Unit) (fun k => True) (fun k => .bool (w5 l (d6, c8))) (fun k => []) := by
 refine f8 Tryz.func147 rfl (n := 8) rfl (by decide +kernel) bl (fr := [(0, .slice a_l m_l c_l), (1, .agg #[.int .i64 d6, .slice k6 m8 j9])]) rfl fun w L hR => ?_
 obtain ⟨hl, t8, m6⟩ := hR
 obtain ⟨rfl, ll⟩ := hl.slen
 obtain ⟨rfl, D3⟩ := m6.slen
 refine Ew Z2 (Est rfl (N.box (cs := [_, _]) rfl dc rfl) (fun b3 _ => (Ei rfl (Ev Z4 (Em rfl (Ey rfl ((Y.fn (vs := [_]) rfl).yd) (Est rfl (f5 (a2f (f := (fun z => decide (C0 z (d6, c8) = 0))) (D_f := (fun _ => True)) (by intros; exact trivial)) rfl rfl rfl dc (fun w Lp hA => ⟨hA.ro hl, a4k (D := (fun _ => True)) (fun hd => a3o) (fun w' hk => ⟨(hA.pt m0).keep hk, t8, (hA.ro m6).keep hk⟩)⟩)) (fun _ _ => (Ei rfl ?_)))))))))
 exact Eu (E.ret (Fb rfl rfl (by rfl)))
theorem Q7 : Tr Tryz.prog 67 [.slice a_l m_l c_l, .agg #[.int .i64 d6, .slice k6 m8 j9]] (fun w L => Ro w L f6 [.slice a_l m_l c_l] l ∧ I64 d6 ∧ Ro w L eIs [.slice k6 m8 j9] c8) [] (κ := Unit) (fun k => True) (fun k => .bool (w5 l (d6, c8))) (fun k => []) := by
 refine f8 Tryz.func67 rfl (n := 19) rfl (by decide +kernel) bl (fr := [(0, .slice a_l m_l c_l), (1, .agg #[.int .i64 d6, .slice k6 m8 j9])]) rfl fun w L hR => ?_
 obtain ⟨hl, t8, m6⟩ := hR
 obtain ⟨rfl, ll⟩ := hl.slen
 obtain ⟨rfl, D3⟩ := m6.slen
 refine Ew Z2 (Est rfl (N.box (cs := [_, _]) rfl dc rfl) (fun b3 _ => (Ei rfl (Eu (Eq_ (Ew Z1 (Ei rfl (Eu (E.block (E.loop (κ := Nat) (fun g => g ≤ l.length ∧ w5 l (d6, c8) = w5 (l.drop g) (d6, c8)) (fun g => [(0, .slice a_l l.length c_l), (3, .pointer (some ⟨b3, 0, none⟩)), (5, .int .i64 (g : Int))]) (fun g => [pt b3 44 [.int .i64 d6, .slice k6 c8.length j9]]) (fun g => l.length - g) 0 ⟨Nat.zero_le _, by simp⟩ ⟨rfl, rfl, rfl, trivial⟩ (.refl _) (fun g pg => ?_)))))))))))
 obtain ⟨pk, pa⟩ := pg
 refine Eq_ (Ew Z4 (Em rfl (Em rfl (Ey rfl ((Y.len us_Facts rfl).yd) (Ey rfl ((Y.lss rfl rfl).yd) (j8 (fun q9 => ?_) (fun q9 => ?_)))))))
 ·refine Eu (l3 rfl (d9 (Et (Eq_ (E.block (Eq_ (D.region (fun j => true) mixed (Dyp 0 rfl (g0 rfl) (Dyp 1 rfl (g0 rfl) ?_)))))))))
  obtain ⟨eb14, eo14, ec14, ea14, er14, el14, eh14⟩ := hl.elem g om
  obtain ⟨xa14_0, xc14_0, rfl, ei14_0, xh14_0⟩ := y8 er14
  have := xh14_0.slen.2
  refine Dyp 2 rfl (r8 us_Facts ty_Fact rfl ea14 rfl g rfl om) (Dy 3 rfl (l8 (cs := [_, _]) ty_Fact rfl (eh14 _) rfl) (Dy 4 rfl (l8 (cs := [_, _]) ty_Fact rfl (Has.pt m0) rfl) (w3 5 rfl rfl kr (fun _ => rfl) (f5 B3 rfl rfl rfl dc (fun w Lp hA => ⟨ei14_0, hA.ro xh14_0, t8, hA.ro m6⟩)) (fun _ _ => (Dyp 6 rfl (Y.eql rfl rfl) (j8 (fun q18 => ?_) (fun q18 => ?_)))))))
  ·refine o3 kr (Et (l3 rfl (Ew Z1 (Ei rfl ?_))))
   exact Eu (E.ret (w8 (j0 (j0 (w8 (j0 (Fb rfl rfl (by grind [w5, d1, d2, t1, t2]))))))))
  ·refine o3 kr (Et (l4 rfl (d9 (o2 (Et (Ez Z3 (Em rfl (Ey rfl ((Y.add rfl rfl om om).yd) (Ei rfl ?_)))))))))
   exact Eu (u7 br (g + 1) rs (.refl _) ⟨by omega, by grind [w5, d1, d2, t1, t2]⟩ om)
 ·refine Eu (l4 rfl (E.exit (n8 (n8 (w7 (Et (Ew Z1 (Ei rfl ?_))))))))
  exact Eu (E.ret (Fb rfl rfl (by grind [w5, d1, d2, t1, t2])))
end Go.Proofs.YtfnbilpemdgkkaaGreatDoor
end
