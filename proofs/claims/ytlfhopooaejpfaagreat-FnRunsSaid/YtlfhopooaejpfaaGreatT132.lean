import Derived.Test.YtlfhopooaejpfaaGreatT8
import Derived.Test.YtlfhopooaejpfaaGreatT6
section
namespace Go.Proofs.YtlfhopooaejpfaaGreat
open Go.RowKit
set_option linter.all false
set_option maxHeartbeats 2000000
attribute [local irreducible] Nop Yd Yp Ent Has Tr FnP FnP2 Src
variable {l3 : Int} {l : List (Int × List Int)} {f6 : List Int} {B8 x6 m_l c_l : Nat} {y4 a_l : Option Addr}
theorem a6q {a2j : Int} {Q9 : Option Addr} {R0 R1 : Nat} {a0L : List Int} {b_f : Nat} : Tr Tryz.prog 227 [.agg #[.int .i64 a2j, .slice Q9 R0 R1], .pointer (some ⟨b_f, 0, none⟩)] (fun w L => (I64 a2j ∧ Ro w L eIs [.slice Q9 R0 R1] a0L) ∧ RoPt w L b_f [.int .i64 l3, .slice y4 B8 x6] ∧ I64 l3 ∧ Ro w L eIs [.slice y4 B8 x6] f6) [] (κ := Unit) (fun k => True) (fun k => .bool (decide (K4 (a2j, a0L) (l3, f6) = 0))) (fun k => []) := by
 refine Tr.intro Tryz.func227 rfl (n := 8) rfl (by decide +kernel) bl (fr := [(0, .agg #[.int .i64 a2j, .slice Q9 R0 R1]), (1, .pointer (some ⟨b_f, 0, none⟩))]) rfl fun w L hR => ?_
 obtain ⟨⟨a7T, a0i⟩, hb_f, H7, y9⟩ := hR
 obtain ⟨rfl, a8E⟩ := a0i.slen
 obtain ⟨rfl, S1⟩ := y9.slen
 refine Ew Z2 (Est rfl (N.box (cs := [_, _]) rfl dc rfl) (fun b2 _ => (Ei rfl (Ev Z5 (Ey rfl (o0 (cs := [_, _]) ty_Fact rfl (Has.pt m0) rfl) (Ey rfl (o0 (cs := [_, _]) ty_Fact rfl (hb_f.has) rfl) (Est rfl (k6 a0v rfl rfl rfl dc (fun w Lp hA => ⟨a7T, hA.ro a0i, H7, hA.ro y9⟩)) (fun _ _ => (Ey rfl ((Y.eql rfl rfl).yd) (Ei rfl ?_))))))))))
 exact Eu (E.ret (Fg rfl rfl () rfl rfl))
theorem a7D : Tr Tryz.prog 185 [.slice a_l m_l c_l, .agg #[.int .i64 l3, .slice y4 B8 x6]] (fun w L => Ro w L r7 [.slice a_l m_l c_l] l ∧ I64 l3 ∧ Ro w L eIs [.slice y4 B8 x6] f6) [] (κ := Unit) (fun k => True) (fun k => .bool (I2 l (l3, f6))) (fun k => []) := by
 refine Tr.intro Tryz.func185 rfl (n := 8) rfl (by decide +kernel) bl (fr := [(0, .slice a_l m_l c_l), (1, .agg #[.int .i64 l3, .slice y4 B8 x6])]) rfl fun w L hR => ?_
 obtain ⟨hl, H7, y9⟩ := hR
 obtain ⟨rfl, ll⟩ := hl.slen
 obtain ⟨rfl, S1⟩ := y9.slen
 refine Ew Z2 (Est rfl (N.box (cs := [_, _]) rfl dc rfl) (fun b3 _ => (Ei rfl (Ev Z4 (Em rfl (Ey rfl ((Y.fn (vs := [_]) rfl).yd) (Est rfl (k6 (a4F (f := (fun z => decide (K4 z (l3, f6) = 0))) (D_f := (fun _ => True)) (by intros; exact trivial)) rfl rfl rfl dc (fun w Lp hA => ⟨hA.ro hl, a4m (D := (fun _ => True)) (fun hd => a6q) (fun w' hk => ⟨(hA.pt m0).keep hk, H7, (hA.ro y9).keep hk⟩)⟩)) (fun _ _ => (Ei rfl ?_)))))))))
 exact Eu (E.ret (Fb rfl rfl (by rfl)))
theorem a3k : Tr Tryz.prog 71 [.slice a_l m_l c_l, .agg #[.int .i64 l3, .slice y4 B8 x6]] (fun w L => Ro w L r7 [.slice a_l m_l c_l] l ∧ I64 l3 ∧ Ro w L eIs [.slice y4 B8 x6] f6) [] (κ := Unit) (fun k => True) (fun k => .bool (I2 l (l3, f6))) (fun k => []) := by
 refine Tr.intro Tryz.func71 rfl (n := 19) rfl (by decide +kernel) bl (fr := [(0, .slice a_l m_l c_l), (1, .agg #[.int .i64 l3, .slice y4 B8 x6])]) rfl fun w L hR => ?_
 obtain ⟨hl, H7, y9⟩ := hR
 obtain ⟨rfl, ll⟩ := hl.slen
 obtain ⟨rfl, S1⟩ := y9.slen
 refine Ew Z2 (Est rfl (N.box (cs := [_, _]) rfl dc rfl) (fun b3 _ => (Ei rfl (Eu (Eq_ (Ew Z1 (Ei rfl (Eu (E.block (E.loop (κ := Nat) (fun g => g ≤ l.length ∧ I2 l (l3, f6) = I2 (l.drop g) (l3, f6)) (fun g => [(0, .slice a_l l.length c_l), (3, .pointer (some ⟨b3, 0, none⟩)), (5, .int .i64 (g : Int))]) (fun g => [pt b3 91 [.int .i64 l3, .slice y4 f6.length x6]]) (fun g => l.length - g) 0 ⟨Nat.zero_le _, by simp⟩ ⟨rfl, rfl, rfl, trivial⟩ (.refl _) (fun g pg => ?_)))))))))))
 obtain ⟨pk, pa⟩ := pg
 refine Eq_ (Ew Z4 (Em rfl (Em rfl (Ey rfl ((Y.len us_Facts rfl).yd) (Ey rfl ((Y.lss rfl rfl).yd) (n0 (fun q9 => ?_) (fun q9 => ?_)))))))
 ·refine Eu (l4 rfl (i8 (Et (Eq_ (E.block (Eq_ (D.region (fun j => true) mixed (Dyp 0 rfl (j4 rfl) (Dyp 1 rfl (j4 rfl) ?_)))))))))
  obtain ⟨eb14, eo14, ec14, ea14, er14, el14, eh14⟩ := hl.elem g om
  obtain ⟨xa14_0, xc14_0, rfl, ei14_0, xh14_0⟩ := L4 er14
  have := xh14_0.slen.2
  refine Dyp 2 rfl (o6 us_Facts ty_Fact rfl ea14 rfl g rfl om) (Dy 3 rfl (o0 (cs := [_, _]) ty_Fact rfl (eh14 _) rfl) (Dy 4 rfl (o0 (cs := [_, _]) ty_Fact rfl (Has.pt m0) rfl) (u7 5 rfl rfl kr (fun _ => rfl) (k6 S5 rfl rfl rfl dc (fun w Lp hA => ⟨ei14_0, hA.ro xh14_0, H7, hA.ro y9⟩)) (fun _ _ => (Dyp 6 rfl (Y.eql rfl rfl) (n0 (fun q18 => ?_) (fun q18 => ?_)))))))
  ·refine o3 kr (Et (l4 rfl (Ew Z1 (Ei rfl ?_))))
   exact Eu (E.ret (t7 (l0 (l0 (t7 (l0 (Fb rfl rfl (by grind [I2, d1, d2, t1, t2]))))))))
  ·refine o3 kr (Et (l6 rfl (i8 (o4 (Et (Ez Z3 (Em rfl (Ey rfl ((Y.add rfl rfl om om).yd) (Ei rfl ?_)))))))))
   exact Eu (u9 br (g + 1) rs (.refl _) ⟨by omega, by grind [I2, d1, d2, t1, t2]⟩ om)
 ·refine Eu (l6 rfl (E.exit (n8 (n8 (w5 (Et (Ew Z1 (Ei rfl ?_))))))))
  exact Eu (E.ret (Fb rfl rfl (by grind [I2, d1, d2, t1, t2])))
end Go.Proofs.YtlfhopooaejpfaaGreat
end
section
namespace Go.Proofs.YtlfhopooaejpfaaGreat
open Go.RowKit
set_option linter.all false
set_option maxHeartbeats 2000000
attribute [local irreducible] Nop Yd Yp Ent Has Tr FnP FnP2 Src M0 S8 V1 W0 G4
theorem a4n {a_a : Option Addr} {m_a c_a : Nat} {a : List (Int × List Int)} {a_b : Option Addr} {m_b c_b : Nat} {b : List (Int × List Int)} : Tr Tryz.prog 18 [.slice a_a m_a c_a, .slice a_b m_b c_b] (fun w L => Ro w L r7 [.slice a_a m_a c_a] a ∧ Ro w L r7 [.slice a_b m_b c_b] b) [] (κ := Unit) (fun k => True) (fun k => .bool (a.all (fun x => I2 b x))) (fun k => []) := by
 refine Tr.intro Tryz.func18 rfl (n := 19) rfl (by decide +kernel) bl (fr := [(0, .slice a_a m_a c_a), (1, .slice a_b m_b c_b)]) rfl fun w L hR => ?_
 obtain ⟨ha, hb⟩ := hR
 obtain ⟨rfl, la⟩ := ha.slen
 obtain ⟨rfl, lb⟩ := hb.slen
 refine Ew Z1 (Ei rfl (Eu (Eq_ (Ew Z1 (Ei rfl (Eu (E.block (E.loop (κ := Nat) (fun g => g ≤ a.length ∧ a.all (fun x => I2 b x) = (a.drop g).all (fun x => I2 b x)) (fun g => [(0, .slice a_a a.length c_a), (1, .slice a_b b.length c_b), (5, .int .i64 (g : Int))]) (fun g => []) (fun g => a.length - g) 0 ⟨Nat.zero_le _, by simp⟩ ⟨rfl, rfl, rfl, trivial⟩ (.refl _) (fun g pg => ?_)))))))))
 obtain ⟨pk, pa⟩ := pg
 refine Eq_ (Ew Z4 (Em rfl (Em rfl (Ey rfl ((Y.len us_Facts rfl).yd) (Ey rfl ((Y.lss rfl rfl).yd) (n0 (fun q9 => ?_) (fun q9 => ?_)))))))
 ·refine Eu (l4 rfl (i8 (Et (Eq_ (E.block (Ew Z7 (Em rfl (Em rfl (Em rfl ?_)))))))))
  obtain ⟨eb15, eo15, ec15, ea15, er15, el15, eh15⟩ := ha.elem g om
  obtain ⟨xa15_0, xc15_0, rfl, ei15_0, xh15_0⟩ := L4 er15
  have := xh15_0.slen.2
  refine Ey rfl ((o6 us_Facts ty_Fact rfl ea15 rfl g rfl om).yd) (Ey rfl (o0 (cs := [_, _]) ty_Fact rfl (eh15 _) rfl) (Est rfl (k6 a3k rfl rfl rfl dc (fun w Lp hA => ⟨hA.ro hb, ei15_0, hA.ro xh15_0⟩)) (fun _ _ => (Ent.b (fun q17 => ?_) (fun q17 => ?_)))))
  ·refine Ey rfl ((Y.not (b := true) rfl).yd) (Eu (l6 rfl (i8 (o4 (Et (Ez Z3 (Em rfl (Ey rfl ((Y.add rfl rfl om om).yd) (Ei rfl ?_)))))))))
   exact Eu (u9 br (g + 1) rs (.refl _) ⟨by omega, by grind [d1, d2, t1, t2]⟩ om)
  ·refine Ey rfl ((Y.not (b := false) rfl).yd) (Eu (l4 rfl (Ew Z1 (Ei rfl ?_))))
   exact Eu (E.ret (t7 (l0 (l0 (t7 (l0 (Fb rfl rfl (by grind [D9, d1, d2, t1, t2]))))))))
 ·refine Eu (l6 rfl (E.exit (n8 (n8 (w5 (Et (Ew Z1 (Ei rfl ?_))))))))
  exact Eu (E.ret (Fb rfl rfl (by grind [D9, d1, d2, t1, t2])))
end Go.Proofs.YtlfhopooaejpfaaGreat
end
