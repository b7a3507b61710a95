import Derived.Test.YtlfhopooaejpfaaGreatT82
section
namespace Go.Proofs.YtlfhopooaejpfaaGreat
open Go.RowKit
set_option linter.unusedVariables false
set_option linter.unusedSimpArgs false
abbrev b5S : TypeId := tRule
abbrev a3d : Enc (Int × Int × Option Addr × Nat × Nat) := Enc.pair Enc.int (Enc.pair Enc.int Enc.rsl)
abbrev a4t : Enc (List (Int × Int × Option Addr × Nat × Nat)) := Enc.sl b5S a3d
def a9m (y : Int × Int × Option Addr × Nat × Nat) : List Value := [.int .i64 y.1, .int .i64 y.2.1, .slice y.2.2.1 y.2.2.2.1 y.2.2.2.2]
theorem b6A : b0z a3d a9m := by
  rintro w cs y L o ⟨_, _, _, _, rfl, rfl, h0, ⟨_, _, _, _, rfl, rfl, h1, h2⟩⟩
  obtain ⟨rfl, _, rfl⟩ := h0
  obtain ⟨rfl, _, rfl⟩ := h1
  obtain ⟨rfl, rfl⟩ := h2
  exact ⟨rfl, rfl⟩
theorem b7H {w : World} {L : List Nat} : ∀ cs x, Ro w L Y6 cs x → ∃ y, (a3d).rep w cs y [] false ∧ cs = a9m y := by
  intro cs x h
  obtain ⟨a0, c0, rfl, i0, i1, r2⟩ := a1z h
  exact ⟨(x.1, x.2.1, (a0, x.2.2.length, c0)), ⟨_, _, [], [], rfl, rfl, ⟨rfl, i0, rfl⟩, ⟨_, _, [], [], rfl, rfl, ⟨rfl, i1, rfl⟩, ⟨rfl, rfl⟩⟩⟩, rfl⟩
theorem b7f {w0 : World} {L0 : List Nat} {cs : List Value} {x : Int × Int × Option Addr × Nat × Nat} (h : Ro w0 L0 a3d cs x) : cs = [.int .i64 x.1, .int .i64 x.2.1, .slice x.2.2.1 x.2.2.2.1 x.2.2.2.2] ∧ I64 x.1 ∧ I64 x.2.1 := by
  obtain ⟨_, _, rfl, h0, g0⟩ := Ro.pair h
  obtain ⟨rfl, j0⟩ := h0.int
  obtain ⟨_, _, rfl, h1, g1⟩ := Ro.pair g0
  obtain ⟨rfl, j1⟩ := h1.int
  obtain rfl := g1.rsl
  exact ⟨rfl, j0, j1⟩
theorem c1B {w0 : World} {L0 : List Nat} {x : Int × Int × Option Addr × Nat × Nat} (h0 : I64 x.1) (h1 : I64 x.2.1) : Ro w0 L0 a3d [.int .i64 x.1, .int .i64 x.2.1, .slice x.2.2.1 x.2.2.2.1 x.2.2.2.2] x := (N6 (P7 h0) (N6 (P7 h1) b3L))
theorem b4c {x : Int × Int × Option Addr × Nat × Nat} (h0 : I64 x.1) (h1 : I64 x.2.1) : Own ([] ++ ([] ++ [])) a3d [.int .i64 x.1, .int .i64 x.2.1, .slice x.2.2.1 x.2.2.2.1 x.2.2.2.2] x := (Own.pair (Own.int h0) (Own.pair (Own.int h1) Own.rsl))
theorem Ro.bRuleB {w : World} {L : List Nat} {cs : List Value} {xs : List (Int × Int × List Int)} (h : Ro w L G9 cs xs) : ∃ ys, Ro w L a4t cs ys ∧ Bor w L Y6 a9m ys xs := b7c (F := a3d) rfl b7H h
theorem At.bRuleB {w0 w : World} {L0 Lp : List Nat} {pre rest : List HP} {a : Option Addr} {m c : Nat} {ys : List (Int × Int × Option Addr × Nat × Nat)} {xs : List (Int × Int × List Int)} (hA : At w0 L0 pre rest w Lp) (hm : Go.Proofs.YtlfhopooaejpfaaGreat.ow a4t [.slice a m c] ys ∈ rest) (hb : Bor w0 L0 Y6 a9m ys xs) : Ro w Lp G9 [.slice a m c] xs := hA.owB b6A rfl hm hb
end Go.Proofs.YtlfhopooaejpfaaGreat
end
section
namespace Go.Proofs.YtlfhopooaejpfaaGreat
open Go.RowKit
set_option linter.all false
set_option maxHeartbeats 2000000
attribute [local irreducible] Nop Yd Yp Ent Has Tr FnP FnP2 Src o6 d7 O0 a0h H2
variable {d4 : List (Int × Int × List Int)} {l : List (Int × List Int × Int × Int × Int)} {a6 : List (Int × List Int)} {s i9 : List Int} {m_rules c_rules m_s c_s m_l c_l y9 u9 w9 t7 : Nat} {a_rules a_s a_l v6 t8 : Option Addr}
theorem a6d {a_set : Option Addr} {m_set c_set : Nat} {set : List Int} {b_rules : Nat} {b_s : Nat} {b_l : Nat} {b_q : Nat} (hin : ∀ i ∈ set, 0 ≤ i ∧ i.toNat < d4.length) (hsl : set.length ≤ 5) (hz : K2 (fun x => x.2.length) a6 ≤ 1048576) : Tr Tryz.prog 81 [.slice a_set m_set c_set, .pointer (some ⟨b_rules, 0, none⟩), .pointer (some ⟨b_s, 0, none⟩), .pointer (some ⟨b_l, 0, none⟩), .pointer (some ⟨b_q, 0, none⟩)] (fun w L => (Ro w L eIs [.slice a_set m_set c_set] set) ∧ RoPt w L b_rules [.slice a_rules m_rules c_rules] ∧ Ro w L G9 [.slice a_rules m_rules c_rules] d4 ∧ RoPt w L b_s [.slice a_s m_s c_s] ∧ Ro w L eIs [.slice a_s m_s c_s] s ∧ RoPt w L b_l [.slice a_l m_l c_l] ∧ Ro w L I4 [.slice a_l m_l c_l] l ∧ RoPt w L b_q [.slice v6 y9 u9, .slice t8 w9 t7] ∧ Ro w L eIs [.slice v6 y9 u9] i9 ∧ Ro w L H9 [.slice t8 w9 t7] a6) [] (κ := Unit) (fun k => True) (fun k => .bool (R9 s l d4 (i9, a6) set)) (fun k => []) := by
 refine Tr.intro Tryz.func81 rfl (n := 30) rfl (by decide +kernel) bl (fr := [(0, .slice a_set m_set c_set), (1, .pointer (some ⟨b_rules, 0, none⟩)), (2, .pointer (some ⟨b_s, 0, none⟩)), (3, .pointer (some ⟨b_l, 0, none⟩)), (4, .pointer (some ⟨b_q, 0, none⟩))]) rfl fun w L hR => ?_
 obtain ⟨hset, hb_rules, hrules, hb_s, hs, hb_l, hl, hb_q, w7, u6⟩ := hR
 obtain ⟨rfl, lset⟩ := hset.slen
 obtain ⟨rfl, lrules⟩ := hrules.slen
 obtain ⟨rfl, ls⟩ := hs.slen
 obtain ⟨rfl, ll⟩ := hl.slen
 obtain ⟨rfl, P6⟩ := w7.slen
 obtain ⟨rfl, M4⟩ := u6.slen
 obtain ⟨rulesB, hrulesB, hB_rules⟩ := Ro.bRuleB hrules
 have jlB := hB_rules.len
 refine Ew Z1 (Ei rfl (Ev Z2 (Est rfl (Nb [] [] us_Rules ty_Rule rfl rfl) (fun b10 _ => (Ent.drop (Ei rfl (Eu (Eq_ (Ew Z3 (Em rfl (Ey rfl ((Y.len us_Is rfl).yd) (Em rfl (Eu (E.block (s7 (A := []) (Own.nil (E := a3d) (e := b5S) (a := (some ⟨b10, 0, none⟩))) rfl (f6 (congrArg (ow a4t [_]) (show [] = selM dRB rulesB (set.take 0) from by rfl)) (E.loop (κ := Nat × Option Addr × Nat × Nat) (fun g => g.1 ≤ set.length ∧ True) (fun g => [(1, .pointer (some ⟨b_rules, 0, none⟩)), (2, .pointer (some ⟨b_s, 0, none⟩)), (3, .pointer (some ⟨b_l, 0, none⟩)), (4, .pointer (some ⟨b_q, 0, none⟩)), (7, .slice g.2.1 g.2.2.1 g.2.2.2), (11, .slice a_set set.length c_set), (12, .int .i64 (↑set.length : Int)), (13, .int .i64 (↑g.1 : Int))]) (fun g => [ow a4t [.slice g.2.1 g.2.2.1 g.2.2.2] (selM dRB rulesB (set.take g.1))]) (fun g => set.length - g.1) (0, (some ⟨b10, 0, none⟩), 0, 0) ⟨Nat.zero_le _, by simp⟩ ⟨rfl, rfl, rfl, rfl, rfl, rfl, rfl, rfl, trivial⟩ (.refl _) (fun g pg => ?_))))))))))))))))))
 obtain ⟨g, aA0_0, mA0_0, cA0_0⟩ := g
 try dsimp only at pg
 try dsimp only
 obtain ⟨pk, pa⟩ := pg
 have jm : (selM dRB rulesB (set.take g)).length = (set.take g).length := List.length_map ..
 have jt0 := List.length_take_le g set
 refine d6 m0 fun eaA0_0 laA0_0 => ?_
 subst eaA0_0
 refine Ew Z1 (Ey rfl ((Y.lss rfl rfl).yd) (n9 (fun q14 => ?_) (fun q14 => ?_)))
 ·have jt := List.length_take_le g set
  obtain ⟨eb15, eo15, ea15, ei15, eh15⟩ := hset.elemI g om
  refine Eu (Eq_ (o0 rfl (f9 (Et (Eq_ (E.block (Ew Z3 (Ey rfl ((w3 us_Is f5 rfl ea15 rfl g rfl om).yd) (Ey rfl (g9 f5 rfl (eh15 _) rfl) (Ei rfl (Eu (Ez Z8 (Em rfl (Ey rfl (g9 ty_Rules rfl (hb_rules.has) rfl) (Em rfl ?_)))))))))))))))
  have jx := hin _ (List.getElem_mem (show g < set.length by omega))
  obtain ⟨eb20, eo20, ec20, ea20, er20, el20, eh20⟩ := hrulesB.elem set[g].toNat om
  obtain ⟨rfl, ei20_0, ei20_1⟩ := b7f er20
  refine Ey rfl ((w3 us_Rules ty_Rule rfl ea20 rfl set[g].toNat om om).yd) (Ey rfl (r9 (cs := [_, _, _]) ty_Rule rfl (eh20 _) rfl) (Est rfl (Nb [_] [_, _, _] us_Rules ty_Rule rfl rfl) (fun b22 _ => (d8 (Est rfl (B2 (E := a3d) (ex := rulesB[set[g].toNat]) us_Rules ty_Rule rfl rfl rfl (b4c (x := rulesB[set[g].toNat]) ei20_0 ei20_1) rfl bn bn dc) (fun p23 _ => (Ei rfl (En (s8 (Et (Ez Z2 (Ey rfl ((Y.add rfl rfl om om).yd) (Em rfl (Eu (f6 (congrArg (ow a4t [_]) (show (selM dRB rulesB (set.take g)) ++ [rulesB[set[g].toNat]] = selM dRB rulesB (set.take (g + 1)) from by exact a6r om om)) ?_)))))))))))))))
  exact Ea (g + 1, p23.1, ((selM dRB rulesB (set.take g)).length + 1), p23.2) ⟨oz, trivial⟩
 ·refine Eu (Eq_ (n8 rfl (E.exit (l3 (l3 (y4 (Et (Ew Z6 (Ey rfl (g9 ty_Is rfl (hb_s.has) rfl) (Ey rfl (g9 ty_Methods rfl (hb_l.has) rfl) (Em rfl (Ey rfl (r9 (cs := [_, _]) ty_Query rfl (hb_q.has) rfl) (f6 (congrArg (ow a4t [_]) (show selM dRB rulesB (set.take g) = selM dRB rulesB set from by rw [List.take_of_length_le om])) ?_)))))))))))))
  have hbs := hB_rules.selM (d := dRB) (d' := dR) (is := set) (fun i hi => by have := hin i hi; omega)
  refine Est rfl (o4 (a0Y fc) rfl rfl rfl dc (fun w Lp hA => ⟨hA.ro hs, hA.ro hl, hA.bRuleB m0 hbs, hA.ro w7, hA.ro u6⟩)) (fun _ _ => (Ei rfl ?_))
  exact Eu (E.ret (Fb rfl rfl (by exact a2S)))
theorem a7a (hz : K2 (fun x => x.2.length) a6 ≤ 1048576) : Tr Tryz.prog 26 [.slice a_s m_s c_s, .slice a_l m_l c_l, .slice a_rules m_rules c_rules, .agg #[.slice v6 y9 u9, .slice t8 w9 t7]] (fun w L => Ro w L eIs [.slice a_s m_s c_s] s ∧ Ro w L I4 [.slice a_l m_l c_l] l ∧ Ro w L G9 [.slice a_rules m_rules c_rules] d4 ∧ Ro w L eIs [.slice v6 y9 u9] i9 ∧ Ro w L H9 [.slice t8 w9 t7] a6) [] (κ := Option Addr × Nat × Nat) (fun k => True) (fun k => .tuple #[.slice k.1 k.2.1 k.2.2, .bool (a1u s l d4 (i9, a6))]) (fun k => [ow eIs [.slice k.1 k.2.1 k.2.2] (W8 s l d4 (i9, a6))]) := by
 refine Tr.intro Tryz.func26 rfl (n := 21) rfl (by decide +kernel) bl (fr := [(0, .slice a_s m_s c_s), (1, .slice a_l m_l c_l), (2, .slice a_rules m_rules c_rules), (3, .agg #[.slice v6 y9 u9, .slice t8 w9 t7])]) rfl fun w L hR => ?_
 obtain ⟨hs, hl, hrules, w7, u6⟩ := hR
 obtain ⟨rfl, ls⟩ := hs.slen
 obtain ⟨rfl, ll⟩ := hl.slen
 obtain ⟨rfl, lrules⟩ := hrules.slen
 obtain ⟨rfl, P6⟩ := w7.slen
 obtain ⟨rfl, M4⟩ := u6.slen
 refine Ew Z6 (Est rfl (N.box (cs := [_]) rfl dc rfl) (fun b4 _ => (Est rfl (N.box (cs := [_]) rfl dc rfl) (fun b5 _ => (Est rfl (N.box (cs := [_]) rfl dc rfl) (fun b6 _ => (Est rfl (N.box (cs := [_, _]) rfl dc rfl) (fun b7 _ => (Ei rfl (Ei rfl (Eu (Eq_ (Ew Z5 (Ey rfl (g9 ty_Is rfl (Has.pt (mS (mS (mS m0)))) rfl) (Ey rfl (g9 ty_Methods rfl (Has.pt (mS (mS m0))) rfl) (Ey rfl (g9 ty_Rules rfl (Has.pt (mS m0)) rfl) (Est rfl (o4 a3q rfl rfl rfl dc (fun w Lp hA => ⟨hA.ro hs, hA.ro hl, hA.ro hrules⟩)) (fun _ _ => (Ent.b (fun q13 => ?_) (fun q13 => ?_))))))))))))))))))))
 ·have j4 := (W5 (Bool.and_eq_true_iff.1 q13).2).2.1
  refine Ey rfl ((Y.not (b := true) rfl).yd) (Eu (n8 rfl (f9 (Et (Ew Z8 (Ey rfl (g9 ty_Rules rfl (Has.pt (mS m0)) rfl) (Ey rfl ((Y.len us_Rules rfl).yd) (Ey rfl ((Y.fn (vs := [_, _, _, _]) rfl).yd) (Est rfl (N.call (a5d (is := (fun set => R9 s l d4 (i9, a6) set)) (D_is := (fun set => (∀ i ∈ set, 0 ≤ i ∧ i.toNat < d4.length) ∧ (set.length ≤ 5) ∧ (K2 (fun x => x.2.length) a6 ≤ 1048576))) fc (by intro x hx h5; exact ⟨fun i hi => by have := hx i hi; omega, h5, hz⟩)) rfl rfl rfl dc rfl (fun w Lp hA => b3M (D := (fun set => (∀ i ∈ set, 0 ≤ i ∧ i.toNat < d4.length) ∧ (set.length ≤ 5) ∧ (K2 (fun x => x.2.length) a6 ≤ 1048576))) (fun hd => a6d hd.1 hd.2.1 hd.2.2) (fun w' hk => ⟨(hA.pt (mS m0)).keep hk, (hA.ro hrules).keep hk, (hA.pt (mS (mS (mS m0)))).keep hk, (hA.ro hs).keep hk, (hA.pt (mS (mS m0))).keep hk, (hA.ro hl).keep hk, (hA.pt m0).keep hk, (hA.ro w7).keep hk, (hA.ro u6).keep hk⟩))) (fun k18 _ => ?_))))))))))
  obtain ⟨a18, m18, c18⟩ := k18
  refine d6 m0 fun e18 l18 => ?_
  subst e18
  refine Ey rfl ((Y.ext rfl rfl).yd) (Ey rfl ((Y.ext rfl rfl).yd) (Ei rfl (Ei rfl (Eu (E.ret (f6 (congrArg (ow eIs [_]) (show _ = W8 s l d4 (i9, a6) by first | exact (a0K (q := (i9, a6)) q13).1 | exact (a0K (q := (i9, a6)) q13).2 | exact (a0K (q := (i9, a6)) q13).1.symm | exact (a0K (q := (i9, a6)) q13).2.symm)) ?_))))))
  exact a6N br rfl rfl rfl (_, _, _) trivial (by rw [show (a1u s l d4 (i9, a6)) = ((hmI (fun set => R9 s l d4 (i9, a6) set) d4.length (2 ^ d4.length)).2) from (by first | exact (a0K (q := (i9, a6)) q13).1 | exact (a0K (q := (i9, a6)) q13).2 | exact (a0K (q := (i9, a6)) q13).1.symm | exact (a0K (q := (i9, a6)) q13).2.symm)]; try rfl) (J := _) (.refl _) (.inl rfl)
 ·refine Ey rfl ((Y.not (b := false) rfl).yd) (Eu (o0 rfl (Ew Z2 (Ei rfl (Ei rfl (Eu (E.ret (s9 (s7 (A := []) (Own.nil (E := Enc.int) (e := tI) (a := none)) rfl (f6 (congrArg (ow eIs [_]) (show _ = W8 s l d4 (i9, a6) by first | exact (a1c (q := (i9, a6)) q13).1 | exact (a1c (q := (i9, a6)) q13).2 | exact (a1c (q := (i9, a6)) q13).1.symm | exact (a1c (q := (i9, a6)) q13).2.symm)) ?_))))))))))
  exact a6N br rfl rfl rfl (none, 0, 0) trivial (by rw [show (a1u s l d4 (i9, a6)) = (false) from (by first | exact (a1c (q := (i9, a6)) q13).1 | exact (a1c (q := (i9, a6)) q13).2 | exact (a1c (q := (i9, a6)) q13).1.symm | exact (a1c (q := (i9, a6)) q13).2.symm)]; try rfl) (J := _) (.refl _) (.inl rfl)
theorem a7d (hz : K2 (fun x => x.2.length) a6 ≤ 1048576) : Tr Tryz.prog 27 [.slice a_s m_s c_s, .slice a_l m_l c_l, .slice a_rules m_rules c_rules, .agg #[.slice v6 y9 u9, .slice t8 w9 t7]] (fun w L => Ro w L eIs [.slice a_s m_s c_s] s ∧ Ro w L I4 [.slice a_l m_l c_l] l ∧ Ro w L G9 [.slice a_rules m_rules c_rules] d4 ∧ Ro w L eIs [.slice v6 y9 u9] i9 ∧ Ro w L H9 [.slice t8 w9 t7] a6) [] (κ := Option Addr × Nat × Nat) (fun k => True) (fun k => .tuple #[.slice k.1 k.2.1 k.2.2, .bool (a1u s l d4 (i9, a6))]) (fun k => [ow eIs [.slice k.1 k.2.1 k.2.2] (W8 s l d4 (i9, a6))]) := by
 refine Tr.intro Tryz.func27 rfl (n := 49) rfl (by decide +kernel) bl (fr := [(0, .slice a_s m_s c_s), (1, .slice a_l m_l c_l), (2, .slice a_rules m_rules c_rules), (3, .agg #[.slice v6 y9 u9, .slice t8 w9 t7])]) rfl fun w L hR => ?_
 obtain ⟨hs, hl, hrules, w7, u6⟩ := hR
 obtain ⟨rfl, ls⟩ := hs.slen
 obtain ⟨rfl, ll⟩ := hl.slen
 obtain ⟨rfl, lrules⟩ := hrules.slen
 obtain ⟨rfl, P6⟩ := w7.slen
 obtain ⟨rfl, M4⟩ := u6.slen
 refine Ew Z3 (Est rfl (N.box (cs := [_, _]) rfl dc rfl) (fun b7 _ => (Ei rfl (Ei rfl (Ev Z2 (Est rfl (Nb [] [] us_Is f5 rfl rfl) (fun b14 _ => (Ent.drop (Ei rfl (Ev Z1 (Ei rfl (Eu (Eq_ (Ew Z5 (Em rfl (Em rfl (Em rfl (Est rfl (o4 a3H rfl rfl rfl dc (fun w Lp hA => ⟨hA.ro hs, hA.ro hl, hA.ro hrules⟩)) (fun _ _ => (Ent.b (fun q18 => ?_) (fun q18 => ?_)))))))))))))))))))))
 ·have j4 := (W5 (Bool.and_eq_true_iff.1 q18).2).2.1
  have j2 : 2 ^ d4.length ≤ 32 := Nat.le_trans (Nat.pow_le_pow_right dc (show d4.length ≤ 5 by omega)) dc
  have jrt := b6d (Bool.and_eq_true_iff.1 q18).2
  refine Ey rfl ((Y.not (b := true) rfl).yd) (Eu (n8 rfl (f9 (Et (Eq_ (Ew Z1 (Ei rfl (Eu (E.block (s7 (A := []) (Own.nil (E := Enc.int) (e := tI) (a := (some ⟨b14, 0, none⟩))) rfl (f6 (congrArg (ow eIs [_]) (show [] = (hmI (R9 s l d4 (i9, a6)) d4.length 0).1 from by rfl)) (E.loop (κ := Nat × Option Addr × Nat × Nat) (fun g => g.1 ≤ (2 ^ d4.length : Nat) ∧ True) (fun g => [(0, .slice a_s s.length c_s), (1, .slice a_l l.length c_l), (2, .slice a_rules d4.length c_rules), (7, .pointer (some ⟨b7, 0, none⟩)), (10, .slice g.2.1 g.2.2.1 g.2.2.2), (11, .bool ((hmI (R9 s l d4 (i9, a6)) d4.length g.1).2)), (12, .int .i64 (↑g.1 : Int))]) (fun g => [ow eIs [.slice g.2.1 g.2.2.1 g.2.2.2] ((hmI (R9 s l d4 (i9, a6)) d4.length g.1).1), pt b7 28 [.slice v6 i9.length u9, .slice t8 a6.length t7]]) (fun g => (2 ^ d4.length : Nat) - g.1) (0, (some ⟨b14, 0, none⟩), 0, 0) ⟨Nat.zero_le _, trivial⟩ ⟨rfl, rfl, rfl, rfl, rfl, frB (by rfl), rfl, trivial⟩ (.refl _) (fun g pg => ?_)))))))))))))
  obtain ⟨g, aA0_0, mA0_0, cA0_0⟩ := g
  try dsimp only at pg
  try dsimp only
  obtain ⟨pk, pa⟩ := pg
  have js := a2o (m := g) (n := d4.length)
  have jm := (a5Q (F := R9 s l d4 (i9, a6)) (n := d4.length) (m := g)).2
  refine d6 m0 fun eaA0_0 laA0_0 => ?_
  subst eaA0_0
  refine Eq_ (Ew Z5 (Em rfl (Em rfl (Ey rfl ((Y.len us_Rules rfl).yd) (Ey rfl ((a9Y rfl rfl om).yd) (Ey rfl ((Y.lss rfl rfl).yd) (n9 (fun q25 => ?_) (fun q25 => ?_))))))))
  ·refine Eu (o0 rfl (f9 (Et (Eq_ (E.block (Ew Z5 (Em rfl (Em rfl (Ey rfl ((Y.len us_Rules rfl).yd) (Est rfl (N.call (a6S fc fc) rfl rfl rfl dc rfl tv) (fun k31 _ => ?_)))))))))))
   obtain ⟨a31, m31, c31⟩ := k31
   refine d6 m0 fun e31 l31 => ?_
   subst e31
   refine Ei rfl (Eu (Eq_ (Ew Z7 (Em rfl (Ent.b (fun q32 => ?_) (fun q32 => ?_))))))
   ·refine Em rfl (Em rfl (Em rfl (Est rfl (o4 a5W rfl rfl rfl dc (fun w Lp hA => ⟨hA.ow m0, hA.ow (mS m0)⟩)) (fun _ _ => (Ent.b (fun q36 => ?_) (fun q36 => ?_))))))
    ·dsimp only [Int.toNat_natCast] at q36
     refine Ey rfl ((Y.not (b := true) rfl).yd) (Ey rfl ((x6 rfl rfl).yd) (Eu (n8 rfl (f9 (Et (Eq_ (D.region (fun j => true) mixed (Dyp 0 rfl (k6 rfl) (Dyp 1 rfl (k6 rfl) (Dyp 2 rfl (k6 rfl) (Dyp 3 rfl (k6 rfl) (Dy 5 rfl (r9 (cs := [_, _]) ty_Query rfl (Has.pt (mS (mS m0))) rfl) (u7 4 rfl rfl kr (fun _ => rfl) (N.call (a3Z fc) rfl rfl rfl dc rfl (fun w Lp hA => hA.ro hrules)) (fun k43 _ => ?_))))))))))))))
     obtain ⟨a43, m43, c43⟩ := k43
     refine d6 m0 fun e43 l43 => ?_
     subst e43
     refine u7 6 rfl rfl kr (fun _ => rfl) (o4 (V2 fc) rfl rfl rfl dc (fun w Lp hA => ⟨hA.ro hs, hA.ro hl, hA.ow m0, hA.ro w7, hA.ro u6⟩)) (fun _ _ => (Ent.b (fun q45 => ?_) (fun q45 => ?_)))
     ·rw [a3j om, a2S] at q45
      refine t6 kr (Et (o0 rfl (Ew Z2 (Em rfl (Ei rfl (Eu (Ez Z1 (Ei rfl (En (s8 (Et (Ez Z3 (Em rfl (Ey rfl ((Y.add rfl rfl om om).yd) (Ei rfl (Eu (Ent.drop (d8 (Ent.drop (f6 (congrArg (ow eIs [_]) (show B5 g d4.length = (hmI (R9 s l d4 (i9, a6)) d4.length (g + 1)).1 from by first | (rw [N9 q32 q45]; done) | (rw [I9 q32 q36]; done) | (rw [N8 q45]; done) | (rw [I8 q36 q45]; done))) (d8 (d8 ?_))))))))))))))))))))))
      exact B0 br (g + 1, a31, (B5 g d4.length).length, c31) ⟨rfl, rfl, rfl, rfl, rfl, frB (by first | (rw [N9 q32 q45]; done) | (rw [I9 q32 q36]; done) | (rw [N8 q45]; done) | (rw [I8 q36 q45]; done)), rfl, trivial⟩ (.refl _) ⟨oz, trivial⟩ oz
     ·rw [a3j om, a2S] at q45
      refine t6 kr (Et (n8 rfl (f9 (s8 (Et (Ez Z3 (Em rfl (Ey rfl ((Y.add rfl rfl om om).yd) (Ei rfl (Eu (Ent.drop (Ent.drop (f6 (congrArg (ow eIs [_]) (show (hmI (R9 s l d4 (i9, a6)) d4.length g).1 = (hmI (R9 s l d4 (i9, a6)) d4.length (g + 1)).1 from by first | (rw [N9 q32 q45]; done) | (rw [I9 q32 q36]; done) | (rw [N8 q45]; done) | (rw [I8 q36 q45]; done))) (d8 (d8 ?_)))))))))))))))
      exact B0 br (g + 1, aA0_0, ((hmI (R9 s l d4 (i9, a6)) d4.length g).1).length, cA0_0) ⟨rfl, rfl, rfl, rfl, rfl, frB (by first | (rw [N9 q32 q45]; done) | (rw [I9 q32 q36]; done) | (rw [N8 q45]; done) | (rw [I8 q36 q45]; done)), rfl, trivial⟩ (.refl _) ⟨oz, trivial⟩ oz
    ·dsimp only [Int.toNat_natCast] at q36
     refine Ey rfl ((Y.not (b := false) rfl).yd) (Ey rfl ((x6 rfl rfl).yd) (Eu (o0 rfl (E.exit (l3 (y4 (Et (Ez Z3 (Em rfl (Ey rfl ((Y.add rfl rfl om om).yd) (Ei rfl (Eu (Ent.drop (f6 (congrArg (ow eIs [_]) (show (hmI (R9 s l d4 (i9, a6)) d4.length g).1 = (hmI (R9 s l d4 (i9, a6)) d4.length (g + 1)).1 from by first | (rw [N9 q32 q45]; done) | (rw [I9 q32 q36]; done) | (rw [N8 q45]; done) | (rw [I8 q36 q45]; done))) (d8 (d8 ?_))))))))))))))))
     exact B0 br (g + 1, aA0_0, ((hmI (R9 s l d4 (i9, a6)) d4.length g).1).length, cA0_0) ⟨rfl, rfl, rfl, rfl, rfl, frB (by first | (rw [N9 q32 q45]; done) | (rw [I9 q32 q36]; done) | (rw [N8 q45]; done) | (rw [I8 q36 q45]; done)), rfl, trivial⟩ (.refl _) ⟨oz, trivial⟩ oz
   ·refine Em rfl (Es rfl (Es rfl (Es rfl (Es rfl (Ey rfl ((z7 rfl rfl).yd) (Eu (n8 rfl (f9 (Et (Eq_ (D.region (fun j => true) mixed (Dyp 0 rfl (k6 rfl) (Dyp 1 rfl (k6 rfl) (Dyp 2 rfl (k6 rfl) (Dyp 3 rfl (k6 rfl) (Dy 5 rfl (r9 (cs := [_, _]) ty_Query rfl (Has.pt (mS (mS m0))) rfl) (u7 4 rfl rfl kr (fun _ => rfl) (N.call (a3Z fc) rfl rfl rfl dc rfl (fun w Lp hA => hA.ro hrules)) (fun k43 _ => ?_))))))))))))))))))
    obtain ⟨a43, m43, c43⟩ := k43
    refine d6 m0 fun e43 l43 => ?_
    subst e43
    refine u7 6 rfl rfl kr (fun _ => rfl) (o4 (V2 fc) rfl rfl rfl dc (fun w Lp hA => ⟨hA.ro hs, hA.ro hl, hA.ow m0, hA.ro w7, hA.ro u6⟩)) (fun _ _ => (Ent.b (fun q45 => ?_) (fun q45 => ?_)))
    ·rw [a3j om, a2S] at q45
     refine t6 kr (Et (o0 rfl (Ew Z2 (Em rfl (Ei rfl (Eu (Ez Z1 (Ei rfl (En (s8 (Et (Ez Z3 (Em rfl (Ey rfl ((Y.add rfl rfl om om).yd) (Ei rfl (Eu (Ent.drop (d8 (Ent.drop (f6 (congrArg (ow eIs [_]) (show B5 g d4.length = (hmI (R9 s l d4 (i9, a6)) d4.length (g + 1)).1 from by first | (rw [N9 q32 q45]; done) | (rw [I9 q32 q36]; done) | (rw [N8 q45]; done) | (rw [I8 q36 q45]; done))) (d8 (d8 ?_))))))))))))))))))))))
     exact B0 br (g + 1, a31, (B5 g d4.length).length, c31) ⟨rfl, rfl, rfl, rfl, rfl, frB (by first | (rw [N9 q32 q45]; done) | (rw [I9 q32 q36]; done) | (rw [N8 q45]; done) | (rw [I8 q36 q45]; done)), rfl, trivial⟩ (.refl _) ⟨oz, trivial⟩ oz
    ·rw [a3j om, a2S] at q45
     refine t6 kr (Et (n8 rfl (f9 (s8 (Et (Ez Z3 (Em rfl (Ey rfl ((Y.add rfl rfl om om).yd) (Ei rfl (Eu (Ent.drop (Ent.drop (f6 (congrArg (ow eIs [_]) (show (hmI (R9 s l d4 (i9, a6)) d4.length g).1 = (hmI (R9 s l d4 (i9, a6)) d4.length (g + 1)).1 from by first | (rw [N9 q32 q45]; done) | (rw [I9 q32 q36]; done) | (rw [N8 q45]; done) | (rw [I8 q36 q45]; done))) (d8 (d8 ?_)))))))))))))))
     exact B0 br (g + 1, aA0_0, ((hmI (R9 s l d4 (i9, a6)) d4.length g).1).length, cA0_0) ⟨rfl, rfl, rfl, rfl, rfl, frB (by first | (rw [N9 q32 q45]; done) | (rw [I9 q32 q36]; done) | (rw [N8 q45]; done) | (rw [I8 q36 q45]; done)), rfl, trivial⟩ (.refl _) ⟨oz, trivial⟩ oz
  ·refine Eu (n8 rfl (E.exit (l3 (l3 (y4 (Et (Ew Z4 (Em rfl (Em rfl (Ei rfl (Ei rfl (Eu (E.ret (f6 (congrArg (ow eIs [_]) (show _ = W8 s l d4 (i9, a6) by (rw [show g = 2 ^ d4.length from by omega]; first | exact (a0K (q := (i9, a6)) q18).1 | exact (a0K (q := (i9, a6)) q18).2 | exact (a0K (q := (i9, a6)) q18).1.symm | exact (a0K (q := (i9, a6)) q18).2.symm))) ?_))))))))))))))
   exact a6N br rfl rfl rfl (_, _, _) trivial (by rw [show (a1u s l d4 (i9, a6)) = ((hmI (R9 s l d4 (i9, a6)) d4.length g).2) from (by (rw [show g = 2 ^ d4.length from by omega]; first | exact (a0K (q := (i9, a6)) q18).1 | exact (a0K (q := (i9, a6)) q18).2 | exact (a0K (q := (i9, a6)) q18).1.symm | exact (a0K (q := (i9, a6)) q18).2.symm))]; try rfl) (J := _) (.refl _) (.inl rfl)
 ·refine Ey rfl ((Y.not (b := false) rfl).yd) (Eu (o0 rfl (Ew Z3 (Em rfl (Ei rfl (Ei rfl (Eu (E.ret (s9 (s7 (A := []) (Own.nil (E := Enc.int) (e := tI) (a := (some ⟨b14, 0, none⟩))) rfl (f6 (congrArg (ow eIs [_]) (show _ = W8 s l d4 (i9, a6) by first | exact (a1c (q := (i9, a6)) q18).1 | exact (a1c (q := (i9, a6)) q18).2 | exact (a1c (q := (i9, a6)) q18).1.symm | exact (a1c (q := (i9, a6)) q18).2.symm)) ?_)))))))))))
  exact a6N br rfl rfl rfl ((some ⟨b14, 0, none⟩), 0, 0) trivial (by rw [show (a1u s l d4 (i9, a6)) = (false) from (by first | exact (a1c (q := (i9, a6)) q18).1 | exact (a1c (q := (i9, a6)) q18).2 | exact (a1c (q := (i9, a6)) q18).1.symm | exact (a1c (q := (i9, a6)) q18).2.symm)]; try rfl) (J := _) (.refl _) (.inl rfl)
end Go.Proofs.YtlfhopooaejpfaaGreat
end
