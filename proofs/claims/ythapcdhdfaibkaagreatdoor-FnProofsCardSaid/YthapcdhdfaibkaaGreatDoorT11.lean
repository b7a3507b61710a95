import Derived.Test.YthapcdhdfaibkaaGreatDoorT8
import Derived.Test.YthapcdhdfaibkaaGreatDoorBf
section
namespace Go.Proofs.YthapcdhdfaibkaaGreatDoor
open Go.RowKit
set_option linter.all false
set_option maxHeartbeats 2000000
attribute [local irreducible] Nop Yd Yp Ent Has Tr FnP FnP2 Src
variable {s : List Int} {m_s c_s : Nat} {a_s : Option Addr}
theorem a5Y (hz : s.length ≤ 1048576) : Tr Tryz.prog 242 [.slice a_s m_s c_s] (fun w L => Ro w L eIs [.slice a_s m_s c_s] s) [] (κ := Option Addr × Nat × Nat) (fun k => True) (fun k => .slice k.1 k.2.1 k.2.2) (fun k => [ow eIs [.slice k.1 k.2.1 k.2.2] s]) := by
 refine Tr.intro Tryz.func242 rfl (n := 8) rfl (by decide +kernel) bl (fr := [(0, .slice a_s m_s c_s)]) rfl fun w L hR => ?_
 have hs := hR
 obtain ⟨rfl, ls⟩ := hs.slen
 refine Ew Z1 (Ei rfl (Eu (Eq_ (Ew Z2 (Em rfl (Ey rfl ((b8e us_Is rfl rfl).yd) (Ent.b (fun q4 => ?_) (fun q4 => ?_))))))))
 ·refine Eu (n8 rfl (Ew Z1 (Ei rfl (Eu (E.ret (n0 (u9 (A := []) (Own.nil (E := Enc.int) (e := tI) (a := none)) rfl (j4 (congrArg (ow eIs [_]) (show _ = s by (cases a_s with | none => exact hs.none_nil.symm | some x => cases q4))) ?_))))))))
  exact Fg rfl rfl (none, 0, 0) rfl rfl
 ·refine Eu (o0 rfl (i7 (Et (Ew Z4 (Est rfl (Nb [] [] us_Is f9 rfl rfl) (fun b5 _ => (Ent.drop (Em rfl (Est rfl (W1 (E := Enc.int) Plain.int us_Is f9 rfl rfl rfl hs bn bn dc) (fun p7 _ => (Ei rfl ?_)))))))))))
  exact Eu (E.ret (Fg rfl rfl (_, _, _) rfl rfl))
theorem b4m {v : Int} : Tr Tryz.prog 234 [.slice a_s m_s c_s, .int .i64 v] (fun w L => Ro w L eIs [.slice a_s m_s c_s] s) [] (κ := Unit) (fun k => True) (fun k => .int .i64 (M6 (fun x => decide (x = v)) s)) (fun k => []) := by
 refine Tr.intro Tryz.func234 rfl (n := 19) rfl (by decide +kernel) bl (fr := [(0, .slice a_s m_s c_s), (1, .int .i64 v)]) rfl fun w L hR => ?_
 have hs := hR
 obtain ⟨rfl, ls⟩ := hs.slen
 refine Ew Z1 (Ei rfl (Eu (Eq_ (Ew Z3 (Em rfl (Ey rfl ((Y.len us_Is rfl).yd) (Em rfl (Eu (E.block (E.loop (κ := Nat) (fun g => g ≤ s.length ∧ ∀ x ∈ s.take g, decide (x = v) = false) (fun g => [(0, .slice a_s s.length c_s), (1, .int .i64 v), (7, .int .i64 (↑s.length : Int)), (8, .int .i64 (g : Int))]) (fun g => []) (fun g => s.length - g) 0 ⟨by omega, by simp⟩ ⟨rfl, rfl, rfl, rfl, trivial⟩ (.refl _) (fun g pg => ?_)))))))))))
 obtain ⟨pk, pa⟩ := pg
 refine Ew Z1 (Ey rfl ((Y.lss rfl rfl).yd) (o3 (fun q9 => ?_) (fun q9 => ?_)))
 ·refine Eu (Eq_ (n8 rfl (i7 (Et (Eq_ (E.block (Ew Z2 (Em rfl (Ei rfl (Ev Z6 (Em rfl (Em rfl (Em rfl ?_)))))))))))))
  obtain ⟨eb14, eo14, ea14, ei14, eh14⟩ := hs.elemI g om
  refine Ey rfl ((v8 us_Is f9 rfl ea14 rfl g rfl om).yd) (Ey rfl (g9 f9 rfl (eh14 _) rfl) (Ey rfl ((Y.eql rfl rfl).yd) (o3 (fun q16 => ?_) (fun q16 => ?_))))
  ·refine Eu (n8 rfl (Ew Z2 (Em rfl (Ei rfl ?_))))
   exact Eu (E.ret (y8 (n0 (n0 (y8 (n0 (Fg rfl rfl () (congrArg (Value.int .i64) (by exact V9 (p := fun x => decide (x = v)) om pa (decide_eq_true om))) rfl)))))))
  ·refine Eu (o0 rfl (i7 (s9 (Et (Ez Z2 (Ey rfl ((Y.add rfl rfl om om).yd) (Em rfl ?_)))))))
   exact Eu (x6 br (g + 1) rs (.refl _) ⟨by omega, W2 (p := fun x => decide (x = v)) om pa (decide_eq_false om)⟩ om)
 ·refine Eu (Eq_ (o0 rfl (E.exit (q1 (q1 (y4 (Et (Ew Z1 (Ei rfl ?_)))))))))
  exact Eu (E.ret (Fg rfl rfl () (congrArg (Value.int .i64) (by exact S9 om pa)) rfl))
theorem b1w {t : Int} : Tr Tryz.prog 98 [.int .i64 t] (fun w L => True) [] (κ := Unit) (fun k => True) (fun k => .bool (inR t 10 17)) (fun k => []) := by
 refine Tr.intro Tryz.func98 rfl (n := 5) rfl (by decide +kernel) bl (fr := [(0, .int .i64 t)]) rfl fun w L hR => (Ew Z1 (Ei rfl (Ev Z3 (Em rfl (Est rfl (l0 G0 rfl rfl rfl dc tv) (fun _ _ => (Ei rfl ?_)))))))
 exact Eu (E.ret (Fg rfl rfl () rfl rfl))
end Go.Proofs.YthapcdhdfaibkaaGreatDoor
end
section
namespace Go.Proofs.YthapcdhdfaibkaaGreatDoor
open Go.RowKit
set_option linter.all false
set_option maxHeartbeats 2000000
attribute [local irreducible] Nop Yd Yp Ent Has Tr FnP FnP2 Src
variable {l8 : Int} {l : List (Int × List Int)} {f0 : List Int} {w3 s7 m_l c_l : Nat} {s8 a_l : Option Addr}
theorem a7F {a1u : Int} {Q7 : Option Addr} {Q8 Q9 : Nat} {a0q : List Int} {b_f : Nat} : Tr Tryz.prog 200 [.agg #[.int .i64 a1u, .slice Q7 Q8 Q9], .pointer (some ⟨b_f, 0, none⟩)] (fun w L => (I64 a1u ∧ Ro w L eIs [.slice Q7 Q8 Q9] a0q) ∧ RoPt w L b_f [.int .i64 l8, .slice s8 w3 s7] ∧ I64 l8 ∧ Ro w L eIs [.slice s8 w3 s7] f0) [] (κ := Unit) (fun k => True) (fun k => .bool (decide (J2 (a1u, a0q) (l8, f0) = 0))) (fun k => []) := by
 refine Tr.intro Tryz.func200 rfl (n := 8) rfl (by decide +kernel) bl (fr := [(0, .agg #[.int .i64 a1u, .slice Q7 Q8 Q9]), (1, .pointer (some ⟨b_f, 0, none⟩))]) rfl fun w L hR => ?_
 obtain ⟨⟨a5A, a0g⟩, hb_f, C3, v6⟩ := hR
 obtain ⟨rfl, a7a⟩ := a0g.slen
 obtain ⟨rfl, J1⟩ := v6.slen
 refine Ew Z2 (Est rfl (N.box (cs := [_, _]) rfl dc rfl) (fun b2 _ => (Ei rfl (Ev Z5 (Ey rfl (o6 (cs := [_, _]) ty_Fact rfl (Has.pt m0) rfl) (Ey rfl (o6 (cs := [_, _]) ty_Fact rfl (hb_f.has) rfl) (Est rfl (l0 R8 rfl rfl rfl dc (fun w Lp hA => ⟨a5A, hA.ro a0g, C3, hA.ro v6⟩)) (fun _ _ => (Ey rfl ((Y.eql rfl rfl).yd) (Ei rfl ?_))))))))))
 exact Eu (E.ret (Fg rfl rfl () rfl rfl))
theorem a2f : Tr Tryz.prog 78 [.slice a_l m_l c_l, .agg #[.int .i64 l8, .slice s8 w3 s7]] (fun w L => Ro w L m8 [.slice a_l m_l c_l] l ∧ I64 l8 ∧ Ro w L eIs [.slice s8 w3 s7] f0) [] (κ := Unit) (fun k => True) (fun k => .bool (F3 l (l8, f0))) (fun k => []) := by
 refine Tr.intro Tryz.func78 rfl (n := 8) rfl (by decide +kernel) bl (fr := [(0, .slice a_l m_l c_l), (1, .agg #[.int .i64 l8, .slice s8 w3 s7])]) rfl fun w L hR => ?_
 obtain ⟨hl, C3, v6⟩ := hR
 obtain ⟨rfl, ll⟩ := hl.slen
 obtain ⟨rfl, J1⟩ := v6.slen
 refine Ew Z2 (Est rfl (N.box (cs := [_, _]) rfl dc rfl) (fun b3 _ => (Ei rfl (Ev Z4 (Em rfl (Ey rfl ((Y.fn (vs := [_]) rfl).yd) (Est rfl (l0 (a3g (f := (fun z => decide (J2 z (l8, f0) = 0))) (D_f := (fun _ => True)) (by intros; exact trivial)) rfl rfl rfl dc (fun w Lp hA => ⟨hA.ro hl, a3Z (D := (fun _ => True)) (fun hd => a7F) (fun w' hk => ⟨(hA.pt m0).keep hk, C3, (hA.ro v6).keep hk⟩)⟩)) (fun _ _ => (Ei rfl ?_)))))))))
 exact Eu (E.ret (Fb rfl rfl (by rfl)))
theorem a0B : Tr Tryz.prog 63 [.slice a_l m_l c_l, .agg #[.int .i64 l8, .slice s8 w3 s7]] (fun w L => Ro w L m8 [.slice a_l m_l c_l] l ∧ I64 l8 ∧ Ro w L eIs [.slice s8 w3 s7] f0) [] (κ := Unit) (fun k => True) (fun k => .bool (F3 l (l8, f0))) (fun k => []) := by
 refine Tr.intro Tryz.func63 rfl (n := 19) rfl (by decide +kernel) bl (fr := [(0, .slice a_l m_l c_l), (1, .agg #[.int .i64 l8, .slice s8 w3 s7])]) rfl fun w L hR => ?_
 obtain ⟨hl, C3, v6⟩ := hR
 obtain ⟨rfl, ll⟩ := hl.slen
 obtain ⟨rfl, J1⟩ := v6.slen
 refine Ew Z2 (Est rfl (N.box (cs := [_, _]) rfl dc rfl) (fun b3 _ => (Ei rfl (Eu (Eq_ (Ew Z1 (Ei rfl (Eu (E.block (E.loop (κ := Nat) (fun g => g ≤ l.length ∧ F3 l (l8, f0) = F3 (l.drop g) (l8, f0)) (fun g => [(0, .slice a_l l.length c_l), (3, .pointer (some ⟨b3, 0, none⟩)), (5, .int .i64 (g : Int))]) (fun g => [pt b3 85 [.int .i64 l8, .slice s8 f0.length s7]]) (fun g => l.length - g) 0 ⟨Nat.zero_le _, by simp⟩ ⟨rfl, rfl, rfl, trivial⟩ (.refl _) (fun g pg => ?_)))))))))))
 obtain ⟨pk, pa⟩ := pg
 refine Eq_ (Ew Z4 (Em rfl (Em rfl (Ey rfl ((Y.len us_Facts rfl).yd) (Ey rfl ((Y.lss rfl rfl).yd) (o3 (fun q9 => ?_) (fun q9 => ?_)))))))
 ·refine Eu (n8 rfl (i7 (Et (Eq_ (E.block (Eq_ (D.region (fun j => true) mixed (Dyp 0 rfl (i8 rfl) (Dyp 1 rfl (i8 rfl) ?_)))))))))
  obtain ⟨eb14, eo14, ec14, ea14, er14, el14, eh14⟩ := hl.elem g om
  obtain ⟨xa14_0, xc14_0, rfl, ei14_0, xh14_0⟩ := K8 er14
  have := xh14_0.slen.2
  refine Dyp 2 rfl (v8 us_Facts ty_Fact rfl ea14 rfl g rfl om) (Dy 3 rfl (o6 (cs := [_, _]) ty_Fact rfl (eh14 _) rfl) (Dy 4 rfl (o6 (cs := [_, _]) ty_Fact rfl (Has.pt m0) rfl) (t6 5 rfl rfl kr (fun _ => rfl) (l0 P0 rfl rfl rfl dc (fun w Lp hA => ⟨ei14_0, hA.ro xh14_0, C3, hA.ro v6⟩)) (fun _ _ => (Dyp 6 rfl (Y.eql rfl rfl) (o3 (fun q18 => ?_) (fun q18 => ?_)))))))
  ·refine r9 kr (Et (n8 rfl (Ew Z1 (Ei rfl ?_))))
   exact Eu (E.ret (y8 (n0 (n0 (y8 (n0 (Fb rfl rfl (by grind [F3, d1, d2, t1, t2]))))))))
  ·refine r9 kr (Et (o0 rfl (i7 (s9 (Et (Ez Z3 (Em rfl (Ey rfl ((Y.add rfl rfl om om).yd) (Ei rfl ?_)))))))))
   exact Eu (x6 br (g + 1) rs (.refl _) ⟨by omega, by grind [F3, d1, d2, t1, t2]⟩ om)
 ·refine Eu (o0 rfl (E.exit (q1 (q1 (y4 (Et (Ew Z1 (Ei rfl ?_))))))))
  exact Eu (E.ret (Fb rfl rfl (by grind [F3, d1, d2, t1, t2])))
end Go.Proofs.YthapcdhdfaibkaaGreatDoor
end
section
namespace Go.Proofs.YthapcdhdfaibkaaGreatDoor
open Go.RowKit
set_option linter.all false
set_option maxHeartbeats 2000000
attribute [local irreducible] Nop Yd Yp Ent Has Tr FnP FnP2 Src o2 c8 N0 a0b E6
variable {x : Int} {l : List Int} {m_l c_l : Nat} {a_l : Option Addr}
theorem a6V : Tr Tryz.prog 99 [.slice a_l m_l c_l, .int .i64 x] (fun w L => Ro w L eIs [.slice a_l m_l c_l] l) [] (κ := Unit) (fun k => True) (fun k => .bool (L9 l x)) (fun k => []) := by
 refine Tr.intro Tryz.func99 rfl (n := 18) rfl (by decide +kernel) bl (fr := [(0, .slice a_l m_l c_l), (1, .int .i64 x)]) rfl fun w L hR => ?_
 have hl := hR
 obtain ⟨rfl, ll⟩ := hl.slen
 refine Ew Z1 (Ei rfl (Eu (Eq_ (Ew Z1 (Ei rfl (Eu (E.block (E.loop (κ := Nat) (fun g => g ≤ l.length ∧ L9 l x = L9 (l.drop g) x) (fun g => [(0, .slice a_l l.length c_l), (1, .int .i64 x), (5, .int .i64 (g : Int))]) (fun g => []) (fun g => l.length - g) 0 ⟨Nat.zero_le _, by simp⟩ ⟨rfl, rfl, rfl, trivial⟩ (.refl _) (fun g pg => ?_)))))))))
 obtain ⟨pk, pa⟩ := pg
 refine Eq_ (Ew Z4 (Em rfl (Em rfl (Ey rfl ((Y.len us_Is rfl).yd) (Ey rfl ((Y.lss rfl rfl).yd) (o3 (fun q9 => ?_) (fun q9 => ?_)))))))
 ·refine Eu (n8 rfl (i7 (Et (Eq_ (E.block (Ew Z6 (Em rfl (Em rfl ?_))))))))
  obtain ⟨eb14, eo14, ea14, ei14, eh14⟩ := hl.elemI g om
  refine Ey rfl ((v8 us_Is f9 rfl ea14 rfl g rfl om).yd) (Ey rfl (g9 f9 rfl (eh14 _) rfl) (Em rfl (Ey rfl ((Y.eql rfl rfl).yd) (o3 (fun q17 => ?_) (fun q17 => ?_)))))
  ·refine Eu (n8 rfl (Ew Z1 (Ei rfl ?_)))
   exact Eu (E.ret (y8 (n0 (n0 (y8 (n0 (Fb rfl rfl (by grind [L9, d1, d2, t1, t2]))))))))
  ·refine Eu (o0 rfl (i7 (s9 (Et (Ez Z3 (Em rfl (Ey rfl ((Y.add rfl rfl om om).yd) (Ei rfl ?_))))))))
   exact Eu (x6 br (g + 1) rs (.refl _) ⟨by omega, by grind [L9, d1, d2, t1, t2]⟩ om)
 ·refine Eu (o0 rfl (E.exit (q1 (q1 (y4 (Et (Ew Z1 (Ei rfl ?_))))))))
  exact Eu (E.ret (Fb rfl rfl (by grind [L9, d1, d2, t1, t2])))
theorem a1h (hz : l.length ≤ 1073741824) : Tr Tryz.prog 169 [.slice a_l m_l c_l, .int .i64 x] (fun w L => I64 x) [ow eIs [.slice a_l m_l c_l] l] (κ := Option Addr × Nat × Nat) (fun k => True) (fun k => .slice k.1 k.2.1 k.2.2) (fun k => [ow eIs [.slice k.1 k.2.1 k.2.2] (E4 l x)]) := by
 refine Tr.intro Tryz.func169 rfl (n := 47) rfl (by decide +kernel) bl (fr := [(0, .slice a_l m_l c_l), (1, .int .i64 x)]) rfl fun w L hR => ?_
 have i6x := hR
 refine d7 m0 fun el ll => ?_
 subst el
 refine Ew Z1 (Ei rfl (Eu (Eq_ (Ew Z3 (Em rfl (Em rfl (Est rfl (l0 a6V rfl rfl rfl dc (fun w Lp hA => hA.ow m0)) (fun _ _ => (Ent.b (fun q10 => ?_) (fun q10 => ?_))))))))))
 ·refine Eu (n8 rfl (Ew Z2 (Em rfl (Ei rfl (Eu (E.ret (n0 (j4 (congrArg (ow eIs [_]) (show _ = E4 l x by grind [E4, a0c, W6, a0i, d1, d2, t1, t2])) ?_))))))))
  exact Fg rfl rfl (_, _, _) rfl rfl
 ·refine P3 (A := [_]) rfl fun wb1 Lb1 hB1 hA1 => ?_
  have rb1 : Ro wb1 Lb1 eIs [.slice a_l l.length c_l] l := hA1.ow m0
  refine Eu (o0 rfl (i7 (Et (Ew Z2 (Est rfl (Nb [] [] us_Is f9 rfl rfl) (fun b12 _ => (Ent.drop (Ei rfl (Ev Z1 (Ei rfl (Eu (Eq_ (Ew Z1 (Ei rfl (Eu (E.block (u9 (A := []) (Own.nil (E := Enc.int) (e := tI) (a := (some ⟨b12, 0, none⟩))) rfl (j4 (congrArg (ow eIs [_]) (show [] = O5 (fun y => decide (x < y)) x (l.take 0) from by first | rfl | (simp; done) | grind [E4, a0c, W6, a0i, d1, d2, t1, t2])) (E.loop (κ := Nat × Option Addr × Nat × Nat) (fun g => g.1 ≤ l.length ∧ True) (fun g => [(0, .slice a_l l.length c_l), (1, .int .i64 x), (5, .slice g.2.1 g.2.2.1 g.2.2.2), (6, .bool ((l.take g.1).any (fun y => decide (x < y)))), (7, .int .i64 (↑g.1 : Int))]) (fun g => [ow eIs [.slice g.2.1 g.2.2.1 g.2.2.2] (O5 (fun y => decide (x < y)) x (l.take g.1))]) (fun g => l.length - g.1) (0, (some ⟨b12, 0, none⟩), 0, 0) ⟨Nat.zero_le _, by simp⟩ ⟨rfl, rfl, rfl, frB (by first | rfl | (simp; done) | grind [E4, a0c, W6, a0i, d1, d2, t1, t2]), rfl, trivial⟩ (.refl _) (fun g pg => ?_))))))))))))))))))))
  obtain ⟨g, aA0_0, mA0_0, cA0_0⟩ := g
  try dsimp only at pg
  try dsimp only
  obtain ⟨pk, pa⟩ := pg
  have jp := List.length_take_le g l
  have ji := a5U (p := (fun y => decide (x < y))) (f := x) (l := l.take g)
  refine d7 m0 fun eaA0_0 laA0_0 => ?_
  subst eaA0_0
  refine Eq_ (Ew Z4 (Em rfl (Em rfl (Ey rfl ((Y.len us_Is rfl).yd) (Ey rfl ((Y.lss rfl rfl).yd) (o3 (fun q16 => ?_) (fun q16 => ?_)))))))
  ·refine Eu (n8 rfl (i7 (Et (Eq_ (E.block (Eq_ (Ew Z10 (Em rfl (Ent.b (fun q19 => ?_) (fun q19 => ?_))))))))))
   ·refine Ey rfl ((Y.not (b := true) rfl).yd) (Em rfl (Es rfl (Es rfl (Es rfl (Es rfl (Es rfl (Es rfl (Ey rfl ((t7 rfl rfl).yd) (Eu (o0 rfl (i7 (Et (Ez Z8 (Em rfl (Em rfl (Em rfl ?_))))))))))))))))
    obtain ⟨eb36, eo36, ea36, ei36, eh36⟩ := rb1.elemI g om
    refine Ey rfl ((v8 us_Is f9 rfl ea36 rfl g rfl om).yd) (Ey rfl (g9 f9 rfl (eh36 _) rfl) (Est rfl (Nb [_] [_] us_Is f9 rfl rfl) (fun b38 _ => (d9 (Est rfl (C7 (E := Enc.int) (ex := l[g]) us_Is f9 rfl rfl rfl (Own.int ei36) rfl bn bn dc) (fun p39 _ => (Ei rfl (En (s9 (Et (Ez Z3 (Em rfl (Ey rfl ((Y.add rfl rfl om om).yd) (Ei rfl (Eu (j4 (congrArg (ow eIs [_]) (show (O5 (fun y => decide (x < y)) x (l.take g)) ++ [l[g]] = O5 (fun y => decide (x < y)) x (l.take (g + 1)) from by grind [E4, a0c, W6, a0i, d1, d2, t1, t2])) ?_))))))))))))))))
    exact x6 br (g + 1, p39.1, ((O5 (fun y => decide (x < y)) x (l.take g)).length + 1), p39.2) ⟨rfl, rfl, rfl, frB (by grind [E4, a0c, W6, a0i, d1, d2, t1, t2]), rfl, trivial⟩ (.refl _) ⟨oz, trivial⟩ oz
   ·refine Ey rfl ((Y.not (b := false) rfl).yd) (Em rfl (Em rfl (Em rfl ?_)))
    obtain ⟨eb24, eo24, ea24, ei24, eh24⟩ := rb1.elemI g om
    refine Ey rfl ((v8 us_Is f9 rfl ea24 rfl g rfl om).yd) (Ey rfl (g9 f9 rfl (eh24 _) rfl) (Em rfl (Ey rfl ((Y.gtr rfl rfl).yd) (o3 (fun q27 => ?_) (fun q27 => ?_)))))
    ·refine Ey rfl ((t8 rfl rfl).yd) (Eu (n8 rfl (Ew Z5 (Em rfl (Em rfl (Est rfl (Nb [_] [_] us_Is f9 rfl rfl) (fun b31 _ => (d9 (Est rfl (C7 (E := Enc.int) (ex := x) us_Is f9 rfl rfl rfl (Own.int i6x) rfl bn bn dc) (fun p32 _ => (Ei rfl (Eu (Ez Z1 (Ei rfl (Eu (Ez Z8 (Em rfl (Em rfl (Em rfl (Ey rfl ((v8 us_Is f9 rfl ea24 rfl g rfl om).yd) (Ey rfl (g9 f9 rfl (eh24 _) rfl) (Est rfl (Nb [_] [_] us_Is f9 rfl rfl) (fun b38 _ => (d9 (Est rfl (C7 (E := Enc.int) (ex := l[g]) us_Is f9 rfl rfl rfl (Own.int ei24) rfl bn bn dc) (fun p39 _ => (Ei rfl (En (s9 (Et (Ez Z3 (Em rfl (Ey rfl ((Y.add rfl rfl om om).yd) (Ei rfl (Eu (j4 (congrArg (ow eIs [_]) (show ((O5 (fun y => decide (x < y)) x (l.take g)) ++ [x]) ++ [l[g]] = O5 (fun y => decide (x < y)) x (l.take (g + 1)) from by grind [E4, a0c, W6, a0i, d1, d2, t1, t2])) ?_))))))))))))))))))))))))))))))))))))
     exact x6 br (g + 1, p39.1, (((O5 (fun y => decide (x < y)) x (l.take g)).length + 1) + 1), p39.2) ⟨rfl, rfl, rfl, frB (by grind [E4, a0c, W6, a0i, d1, d2, t1, t2]), rfl, trivial⟩ (.refl _) ⟨oz, trivial⟩ oz
    ·refine Ey rfl ((t8 rfl rfl).yd) (Eu (o0 rfl (i7 (Et (Ez Z8 (Em rfl (Em rfl (Em rfl (Ey rfl ((v8 us_Is f9 rfl ea24 rfl g rfl om).yd) (Ey rfl (g9 f9 rfl (eh24 _) rfl) (Est rfl (Nb [_] [_] us_Is f9 rfl rfl) (fun b38 _ => (d9 (Est rfl (C7 (E := Enc.int) (ex := l[g]) us_Is f9 rfl rfl rfl (Own.int ei24) rfl bn bn dc) (fun p39 _ => (Ei rfl (En (s9 (Et (Ez Z3 (Em rfl (Ey rfl ((Y.add rfl rfl om om).yd) (Ei rfl (Eu (j4 (congrArg (ow eIs [_]) (show (O5 (fun y => decide (x < y)) x (l.take g)) ++ [l[g]] = O5 (fun y => decide (x < y)) x (l.take (g + 1)) from by grind [E4, a0c, W6, a0i, d1, d2, t1, t2])) ?_)))))))))))))))))))))))))
     exact x6 br (g + 1, p39.1, ((O5 (fun y => decide (x < y)) x (l.take g)).length + 1), p39.2) ⟨rfl, rfl, rfl, frB (by grind [E4, a0c, W6, a0i, d1, d2, t1, t2]), rfl, trivial⟩ (.refl _) ⟨oz, trivial⟩ oz
  ·refine Eu (o0 rfl (E.exit (q1 (q1 (y4 (Et (Eq_ (Ew Z2 (Em rfl (Ent.b (fun q40 => ?_) (fun q40 => ?_)))))))))))
   ·refine Ey rfl ((Y.not (b := true) rfl).yd) (Eu (o0 rfl (i7 (Et (Ew Z2 (Em rfl (Ei rfl (Eu (E.ret (j4 (congrArg (ow eIs [_]) (show _ = E4 l x by grind [E4, a0c, W6, a0i, d1, d2, t1, t2])) ?_))))))))))
    exact F.r1 hB1 rfl rfl (_, _, _) trivial rfl (J := _) (.refl _) (.inl rfl)
   ·refine Ey rfl ((Y.not (b := false) rfl).yd) (Eu (n8 rfl (Ez Z5 (Em rfl (Em rfl (Est rfl (Nb [_] [_] us_Is f9 rfl rfl) (fun b44 _ => (d9 (Est rfl (C7 (E := Enc.int) (ex := x) us_Is f9 rfl rfl rfl (Own.int i6x) rfl bn bn dc) (fun p45 _ => (Ei rfl (Ev Z2 (Em rfl (Ei rfl (Eu (E.ret (j4 (congrArg (ow eIs [_]) (show _ = E4 l x by grind [E4, a0c, W6, a0i, d1, d2, t1, t2])) ?_)))))))))))))))))
    exact F.r1 hB1 rfl rfl (_, _, _) trivial rfl (J := _) (.refl _) (.inl rfl)
theorem b0z {a4s : Option Addr} {a8g a4t : Nat} {b1Q : List Int} {a3C : Option Addr} {a7b a3D : Nat} {F7 : List (Int × List Int)} (hz : a0m (fun x => x.2.length) F7 ≤ 1048576) : Tr Tryz.prog 96 [.agg #[.slice a4s a8g a4t, .slice a3C a7b a3D]] (fun w L => Ro w L eIs [.slice a4s a8g a4t] b1Q ∧ Ro w L Z0 [.slice a3C a7b a3D] F7) [] (κ := Option Addr × Nat × Nat) (fun k => True) (fun k => .slice k.1 k.2.1 k.2.2) (fun k => [ow eIs [.slice k.1 k.2.1 k.2.2] (G5 (fun t => inR t 10 17) F7)]) := by
 refine Tr.intro Tryz.func96 rfl (n := 47) rfl (by decide +kernel) bl (fr := [(0, .agg #[.slice a4s a8g a4t, .slice a3C a7b a3D])]) rfl fun w L hR => ?_
 obtain ⟨b7b, a8h⟩ := hR
 obtain ⟨rfl, b9Z⟩ := b7b.slen
 obtain ⟨rfl, b9P⟩ := a8h.slen
 have jv := a8h.i64A
 refine Ew Z2 (Est rfl (N.box (cs := [_, _]) rfl dc rfl) (fun b1 _ => (Ei rfl (Ev Z2 (Est rfl (Nb [] [] us_Is f9 rfl rfl) (fun b6 _ => (Ent.drop (Ei rfl (Eu (Eq_ (Ew Z1 (Ei rfl (Eu (E.block (u9 (A := []) (Own.nil (E := Enc.int) (e := tI) (a := (some ⟨b6, 0, none⟩))) rfl (j4 (congrArg (ow eIs [_]) (show [] = H6 (((F7.take 0).flatMap (fun a : Int × List Int => a.2)).filter (fun t => inR t 10 17)) from by first | rfl | (simp; done) | grind [G5, a2D, Y4, d1, d2, t1, t2])) (E.loop (κ := Nat × Option Addr × Nat × Nat) (fun g => g.1 ≤ F7.length ∧ True) (fun g => [(1, .pointer (some ⟨b1, 0, none⟩)), (3, .slice g.2.1 g.2.2.1 g.2.2.2), (4, .int .i64 (↑g.1 : Int))]) (fun g => [ow eIs [.slice g.2.1 g.2.2.1 g.2.2.2] (H6 (((F7.take g.1).flatMap (fun a : Int × List Int => a.2)).filter (fun t => inR t 10 17))), pt b1 28 [.slice a4s b1Q.length a4t, .slice a3C F7.length a3D]]) (fun g => F7.length - g.1) (0, (some ⟨b6, 0, none⟩), 0, 0) ⟨Nat.zero_le _, by simp⟩ ⟨rfl, rfl, rfl, trivial⟩ (.refl _) (fun g pg => ?_))))))))))))))))))
 obtain ⟨g, aA0_0, mA0_0, cA0_0⟩ := g
 try dsimp only at pg
 try dsimp only
 obtain ⟨pk, pa⟩ := pg
 refine d7 m0 fun eaA0_0 laA0_0 => ?_
 subst eaA0_0
 refine Eq_ (Ew Z5 (Em rfl (Ey rfl ((f5 fo_Query_1 ty_Atoms dc rfl).yd) (Ey rfl (g9 ty_Atoms rfl (Hz (mS m0) 1 rfl) rfl) (Ey rfl ((Y.len us_Atoms rfl).yd) (Ey rfl ((Y.lss rfl rfl).yd) (o3 (fun q11 => ?_) (fun q11 => ?_))))))))
 ·refine Eu (n8 rfl (i7 (Et (Eq_ (E.block (Ew Z1 (Ei rfl (Eu (E.block (j4 (congrArg (ow eIs [_]) (show H6 (((F7.take g).flatMap (fun a : Int × List Int => a.2)).filter (fun t => inR t 10 17)) = H6 (((F7.take g).flatMap (fun a : Int × List Int => a.2)).filter (fun t => inR t 10 17) ++ (F7[g].2.take 0).filter (fun t => inR t 10 17)) from by first | rfl | (simp; done) | grind [G5, a2D, Y4, d1, d2, t1, t2])) (E.loop (κ := Nat × Option Addr × Nat × Nat) (fun h => h.1 ≤ F7[g].2.length ∧ True) (fun h => [(1, .pointer (some ⟨b1, 0, none⟩)), (3, .slice h.2.1 h.2.2.1 h.2.2.2), (4, .int .i64 (g : Int)), (5, .int .i64 (↑h.1 : Int))]) (fun h => [ow eIs [.slice h.2.1 h.2.2.1 h.2.2.2] (H6 (((F7.take g).flatMap (fun a : Int × List Int => a.2)).filter (fun t => inR t 10 17) ++ (F7[g].2.take h.1).filter (fun t => inR t 10 17))), pt b1 28 [.slice a4s b1Q.length a4t, .slice a3C F7.length a3D]]) (fun h => F7[g].2.length - h.1) (0, aA0_0, (H6 (((F7.take g).flatMap (fun a : Int × List Int => a.2)).filter (fun t => inR t 10 17))).length, cA0_0) ⟨Nat.zero_le _, by simp⟩ ⟨rfl, rfl, rfl, rfl, trivial⟩ (.refl _) (fun h ph => ?_))))))))))))
  obtain ⟨h, aA1_0, mA1_0, cA1_0⟩ := h
  try dsimp only at ph
  try dsimp only
  obtain ⟨pk, pa⟩ := ph
  have ju := b2U (is := (fun t => inR t 10 17)) (g := g) (h := h) hz om
  have jw := a5F (l := ((F7.take g).flatMap (fun a : Int × List Int => a.2)).filter (fun t => inR t 10 17) ++ (F7[g].2.take h).filter (fun t => inR t 10 17))
  refine d7 m0 fun eaA1_0 laA1_0 => ?_
  subst eaA1_0
  refine Eq_ (Ew Z9 (Em rfl (Ey rfl ((f5 fo_Query_1 ty_Atoms dc rfl).yd) (Ey rfl (g9 ty_Atoms rfl (Hz (mS m0) 1 rfl) rfl) (Em rfl ?_)))))
  obtain ⟨eb18, eo18, ec18, ea18, er18, el18, eh18⟩ := a8h.elem g om
  obtain ⟨xa18_0, xc18_0, rfl, ei18_0, xh18_0⟩ := b5X er18
  have := xh18_0.slen.2
  refine Ey rfl ((v8 us_Atoms ty_Atom rfl ea18 rfl g rfl om).yd) (Ey rfl ((f5 fo_Atom_1 ty_Is dc rfl).yd) (Ey rfl (g9 ty_Is rfl ((eh18 _).sub (cs' := [_]) 1 rfl) rfl) (Ey rfl ((Y.len us_Is rfl).yd) (Ey rfl ((Y.lss rfl rfl).yd) (o3 (fun q22 => ?_) (fun q22 => ?_))))))
  ·refine Eu (n8 rfl (i7 (Et (Eq_ (E.block (Ew Z10 (Ey rfl ((f5 fo_Query_1 ty_Atoms dc rfl).yd) (Ey rfl (g9 ty_Atoms rfl (Hz (mS m0) 1 rfl) rfl) (Em rfl (Ey rfl ((v8 us_Atoms ty_Atom rfl ea18 rfl g rfl om).yd) (Ey rfl ((f5 fo_Atom_1 ty_Is dc rfl).yd) (Ey rfl (g9 ty_Is rfl ((eh18 _).sub (cs' := [_]) 1 rfl) rfl) (Em rfl ?_)))))))))))))
   obtain ⟨eb32, eo32, ea32, ei32, eh32⟩ := xh18_0.elemI h om
   refine Ey rfl ((v8 us_Is f9 rfl ea32 rfl h rfl om).yd) (Ey rfl (g9 f9 rfl (eh32 _) rfl) (Est rfl (l0 b1w rfl rfl rfl dc tv) (fun _ _ => (Ent.b (fun q34 => ?_) (fun q34 => ?_)))))
   ·refine Eu (n8 rfl (Ez Z12 (Em rfl (Ey rfl ((f5 fo_Query_1 ty_Atoms dc rfl).yd) (Ey rfl (g9 ty_Atoms rfl (Hz (mS m0) 1 rfl) rfl) (Em rfl (Ey rfl ((v8 us_Atoms ty_Atom rfl ea18 rfl g rfl om).yd) (Ey rfl ((f5 fo_Atom_1 ty_Is dc rfl).yd) (Ey rfl (g9 ty_Is rfl ((eh18 _).sub (cs' := [_]) 1 rfl) rfl) (Em rfl (Ey rfl ((v8 us_Is f9 rfl ea32 rfl h rfl om).yd) (Ey rfl (g9 f9 rfl (eh32 _) rfl) (Est rfl (N.call (pre := [_]) (a1h fc) rfl rfl rfl dc rfl (fun w Lp hA => ei32)) (fun k45 _ => ?_))))))))))))))
    obtain ⟨a45, m45, c45⟩ := k45
    refine d7 m0 fun e45 l45 => ?_
    subst e45
    refine Ei rfl (En (s9 (Et (Ez Z3 (Em rfl (Ey rfl ((Y.add rfl rfl om om).yd) (Ei rfl (Eu (j4 (congrArg (ow eIs [_]) (show E4 (H6 (((F7.take g).flatMap (fun a : Int × List Int => a.2)).filter (fun t => inR t 10 17) ++ (F7[g].2.take h).filter (fun t => inR t 10 17))) F7[g].2[h] = H6 (((F7.take g).flatMap (fun a : Int × List Int => a.2)).filter (fun t => inR t 10 17) ++ (F7[g].2.take (h + 1)).filter (fun t => inR t 10 17)) from by grind [G5, a2D, Y4, d1, d2, t1, t2])) (d9 (d9 ?_)))))))))))
    exact Ea (h + 1, a45, (E4 (H6 (((F7.take g).flatMap (fun a : Int × List Int => a.2)).filter (fun t => inR t 10 17) ++ (F7[g].2.take h).filter (fun t => inR t 10 17))) F7[g].2[h]).length, c45) ⟨oz, trivial⟩
   ·refine Eu (o0 rfl (i7 (s9 (Et (Ez Z3 (Em rfl (Ey rfl ((Y.add rfl rfl om om).yd) (Ei rfl (Eu (j4 (congrArg (ow eIs [_]) (show H6 (((F7.take g).flatMap (fun a : Int × List Int => a.2)).filter (fun t => inR t 10 17) ++ (F7[g].2.take h).filter (fun t => inR t 10 17)) = H6 (((F7.take g).flatMap (fun a : Int × List Int => a.2)).filter (fun t => inR t 10 17) ++ (F7[g].2.take (h + 1)).filter (fun t => inR t 10 17)) from by grind [G5, a2D, Y4, d1, d2, t1, t2])) (d9 (d9 ?_))))))))))))
    exact Ea (h + 1, aA1_0, (H6 (((F7.take g).flatMap (fun a : Int × List Int => a.2)).filter (fun t => inR t 10 17) ++ (F7[g].2.take h).filter (fun t => inR t 10 17))).length, cA1_0) ⟨oz, trivial⟩
  ·refine Eu (o0 rfl (E.exit (q1 (q1 (y4 (s9 (Et (Ez Z3 (Em rfl (Ey rfl ((Y.add rfl rfl om om).yd) (Ei rfl (Eu (j4 (congrArg (ow eIs [_]) (show H6 (((F7.take g).flatMap (fun a : Int × List Int => a.2)).filter (fun t => inR t 10 17) ++ (F7[g].2.take h).filter (fun t => inR t 10 17)) = H6 (((F7.take (g + 1)).flatMap (fun a : Int × List Int => a.2)).filter (fun t => inR t 10 17)) from by grind [G5, a2D, Y4, d1, d2, t1, t2])) (d9 (d9 ?_)))))))))))))))
   exact Ea (g + 1, aA1_0, (H6 (((F7.take g).flatMap (fun a : Int × List Int => a.2)).filter (fun t => inR t 10 17) ++ (F7[g].2.take h).filter (fun t => inR t 10 17))).length, cA1_0) ⟨oz, trivial⟩
 ·refine Eu (o0 rfl (E.exit (q1 (q1 (y4 (Et (Ew Z2 (Em rfl (Ei rfl (Eu (E.ret (j4 (congrArg (ow eIs [_]) (show _ = G5 (fun t => inR t 10 17) F7 by grind [G5, a2D, Y4, d1, d2, t1, t2])) ?_))))))))))))
  exact Fg rfl rfl (_, _, _) rfl rfl
theorem a1M {a_s : Option Addr} {m_s c_s : Nat} {s : List Int} {v : Int} : Tr Tryz.prog 124 [.slice a_s m_s c_s, .int .i64 v] (fun w L => Ro w L eIs [.slice a_s m_s c_s] s) [] (κ := Unit) (fun k => True) (fun k => .bool (L9 s v)) (fun k => []) := by
 refine Tr.intro Tryz.func124 rfl (n := 9) rfl (by decide +kernel) bl (fr := [(0, .slice a_s m_s c_s), (1, .int .i64 v)]) rfl fun w L hR => ?_
 have hs := hR
 obtain ⟨rfl, ls⟩ := hs.slen
 refine Ew Z1 (Ei rfl (Ev Z5 (Em rfl (Em rfl (Est rfl (l0 b4m rfl rfl rfl dc (fun w Lp hA => hA.ro hs)) (fun _ _ => (Ey rfl ((Y.geq rfl rfl).yd) (Ei rfl ?_))))))))
 exact Eu (E.ret (Fb rfl rfl (by exact a0Z)))
end Go.Proofs.YthapcdhdfaibkaaGreatDoor
end
