import Derived.Test.YtlfhopooaejpfaaGreatT121
import Derived.Test.YtlfhopooaejpfaaGreatT19
section
namespace Go.Proofs.YtlfhopooaejpfaaGreat
open Go.RowKit
set_option linter.unusedVariables false
end Go.Proofs.YtlfhopooaejpfaaGreat
end
section
namespace Go.Proofs.YtlfhopooaejpfaaGreat
open Go.RowKit
set_option linter.all false
set_option maxHeartbeats 2000000
attribute [local irreducible] Nop Yd Yp Ent Has Tr FnP FnP2 Src M0 S8 V1 W0 G4
theorem b1P {a_code : Option Addr} {m_code c_code : Nat} {code : List UInt8} : Tr Tryz.prog 5 [.slice a_code m_code c_code] (fun w L => Ro w L U3 [.slice a_code m_code c_code] code) [] (κ := Unit) (fun k => True) (fun k => .bool (decide (1048576 < (code.length : Int)))) (fun k => []) := by
 refine Tr.intro Tryz.func5 rfl (n := 6) rfl (by decide +kernel) bl (fr := [(0, .slice a_code m_code c_code)]) rfl fun w L hR => ?_
 have hcode := hR
 obtain ⟨rfl, lcode⟩ := hcode.slen
 refine Ew Z1 (Ei rfl (Ev Z4 (Em rfl (Ey rfl ((Y.len us_U8s rfl).yd) (Ey rfl ((Y.gtr rfl rfl).yd) (Ei rfl ?_))))))
 exact Eu (E.ret (Fb rfl rfl (by simp_all)))
end Go.Proofs.YtlfhopooaejpfaaGreat
end
section
namespace Go.Proofs.YtlfhopooaejpfaaGreat
open Go.RowKit
set_option linter.all false
set_option maxHeartbeats 2000000
attribute [local irreducible] Nop Yd Yp Ent Has Tr FnP FnP2 Src M0 S8 V1 W0 G4
variable {l : List (Int × List Int × Int × Int × Int)} {a6 : List (Int × List Int)} {s f9 : List Int} {m_s c_s m_l c_l t6 r5 s7 o1 : Nat} {a_s a_l r6 o2 : Option Addr}
theorem a6G (hz : O5 (fun x => x.2.length) a6 ≤ 1048576) : Tr Tryz.prog 115 [.slice a_s m_s c_s, .slice a_l m_l c_l, .agg #[.slice r6 t6 r5, .slice o2 s7 o1]] (fun w L => Ro w L eIs [.slice a_s m_s c_s] s ∧ Ro w L C8 [.slice a_l m_l c_l] l ∧ Ro w L eIs [.slice r6 t6 r5] f9 ∧ Ro w L G8 [.slice o2 s7 o1] a6) [] (κ := Unit) (fun k => True) (fun k => .bool (G5 s l && z8 s (f9, a6))) (fun k => []) := by
 refine Tr.intro Tryz.func115 rfl (n := 15) rfl (by decide +kernel) bl (fr := [(0, .slice a_s m_s c_s), (1, .slice a_l m_l c_l), (2, .agg #[.slice r6 t6 r5, .slice o2 s7 o1])]) rfl fun w L hR => ?_
 obtain ⟨hs, hl, y8, v6⟩ := hR
 obtain ⟨rfl, ls⟩ := hs.slen
 obtain ⟨rfl, ll⟩ := hl.slen
 obtain ⟨rfl, N5⟩ := y8.slen
 obtain ⟨rfl, K9⟩ := v6.slen
 refine Ew Z2 (Est rfl (N.box (cs := [_, _]) rfl dc rfl) (fun b5 _ => (Ei rfl (Ev Z9 (Em rfl (Em rfl (Est rfl (k6 a5A rfl rfl rfl dc (fun w Lp hA => ⟨hA.ro hs, hA.ro hl⟩)) (fun _ _ => (Ent.b (fun q9 => ?_) (fun q9 => ?_))))))))))
 ·refine Em rfl (Em rfl (Ey rfl (o0 (cs := [_, _]) ty_Query rfl (Has.pt m0) rfl) (Est rfl (k6 (a7n fc) rfl rfl rfl dc (fun w Lp hA => ⟨hA.ro hs, hA.ro y8, hA.ro v6⟩)) (fun _ _ => (Ey rfl ((s6 rfl rfl).yd) (Ei rfl ?_))))))
  exact Eu (E.ret (Fb rfl rfl (by grind [d1, d2, t1, t2])))
 ·refine Em rfl (Es rfl (Es rfl (Es rfl (Ey rfl ((r9 rfl rfl).yd) (Ei rfl ?_)))))
  exact Eu (E.ret (Fb rfl rfl (by grind [d1, d2, t1, t2])))
theorem a2d (hz : O5 (fun x => x.2.length) a6 ≤ 1048576) : Tr Tryz.prog 59 [.slice a_s m_s c_s, .slice a_l m_l c_l, .agg #[.slice r6 t6 r5, .slice o2 s7 o1]] (fun w L => Ro w L eIs [.slice a_s m_s c_s] s ∧ Ro w L C8 [.slice a_l m_l c_l] l ∧ Ro w L eIs [.slice r6 t6 r5] f9 ∧ Ro w L G8 [.slice o2 s7 o1] a6) [] (κ := Unit) (fun k => True) (fun k => .bool (G5 s l && z8 s (f9, a6))) (fun k => []) := by
 refine Tr.intro Tryz.func59 rfl (n := 15) rfl (by decide +kernel) bl (fr := [(0, .slice a_s m_s c_s), (1, .slice a_l m_l c_l), (2, .agg #[.slice r6 t6 r5, .slice o2 s7 o1])]) rfl fun w L hR => ?_
 obtain ⟨hs, hl, y8, v6⟩ := hR
 obtain ⟨rfl, ls⟩ := hs.slen
 obtain ⟨rfl, ll⟩ := hl.slen
 obtain ⟨rfl, N5⟩ := y8.slen
 obtain ⟨rfl, K9⟩ := v6.slen
 refine Ew Z2 (Est rfl (N.box (cs := [_, _]) rfl dc rfl) (fun b5 _ => (Ei rfl (Ev Z9 (Em rfl (Em rfl (Est rfl (k6 a2h rfl rfl rfl dc (fun w Lp hA => ⟨hA.ro hs, hA.ro hl⟩)) (fun _ _ => (Ent.b (fun q9 => ?_) (fun q9 => ?_))))))))))
 ·refine Em rfl (Em rfl (Ey rfl (o0 (cs := [_, _]) ty_Query rfl (Has.pt m0) rfl) (Est rfl (k6 (a3F fc) rfl rfl rfl dc (fun w Lp hA => ⟨hA.ro hs, hA.ro y8, hA.ro v6⟩)) (fun _ _ => (Ey rfl ((s6 rfl rfl).yd) (Ei rfl ?_))))))
  exact Eu (E.ret (Fb rfl rfl (by grind [d1, d2, t1, t2])))
 ·refine Em rfl (Es rfl (Es rfl (Es rfl (Ey rfl ((r9 rfl rfl).yd) (Ei rfl ?_)))))
  exact Eu (E.ret (Fb rfl rfl (by grind [d1, d2, t1, t2])))
end Go.Proofs.YtlfhopooaejpfaaGreat
end
section
namespace Go.Proofs.YtlfhopooaejpfaaGreat
open Go.RowKit
set_option linter.unusedVariables false
section
variable {α β : Type} {E : Enc α} {E2 : Enc β} {e2 : TypeId} {n : Nat} {w0 : World} {L0 : List Nat} {fr : Fr} {R : List HP} {G : Act → World → Prop} {e : TypeId} {a : Option Addr} {m c : Nat} {xs : List α} {ys : List (List β)} {cs cx : List Value}
theorem b8J (hx : 0 < xs.length) (h : ∀ b cs cx, a = some ⟨b, 0, none⟩ → m = xs.length → cx.length = xs.length * E.k → cs.take cx.length = cx → Ent n w0 L0 fr (pt b e cs :: els E cx xs :: R) G) : Ent n w0 L0 fr (ow (Enc.sl e E) [.slice a m c] xs :: R) G := fun ac w h1 h2 => by
  obtain ⟨L, ⟨Lo, LR, rfl, ho, hR⟩, hn, hst⟩ := h2
  obtain ⟨ccs, L1, L2, rfl, g1, g2, g3, h0, g4⟩ := a0k ho
  rcases g4 with ⟨_, h3, _⟩ | ⟨g, cur, h2, h3, h4, h5, h6, h7, rfl⟩
  · omega
  · refine h g cur.toList ccs h2 g1 g3.len ?_ ac w h1 ⟨[g] ++ (L2 ++ LR), ⟨[g], L2 ++ LR, rfl, ⟨rfl, h3⟩, L2, LR, rfl, g3, hR⟩, by simpa [List.append_assoc] using hn, by simpa [List.append_assoc] using hst⟩
    rw [g3.len, ← g1, h7]
theorem b7F (j : Nat) (hj : j < ys.length) (h : ∀ oa oc, (cx.drop j).take 1 = [.slice oa (ys[j]'hj).length oc] → Ent n w0 L0 fr (ow (Enc.sl e2 E2) [.slice oa (ys[j]'hj).length oc] (ys[j]'hj) :: R) G) : Ent n w0 L0 fr (els (Enc.sl e2 E2) cx ys :: R) G := fun ac w h1 h2 => by
  obtain ⟨L, ⟨Lo, LR, rfl, ho, hR⟩, hn, hst⟩ := h2
  have hx : ys = ys.take j ++ (ys[j] :: ys.drop (j + 1)) := by simp
  have ho' : C4 (Enc.sl e2 E2) w cx ys Lo true := ho
  rw [hx] at ho'
  obtain ⟨c1, c2, L1, L2, f1, rfl, f3, d1, d2, M1, M2, e1, rfl, e3, e4⟩ := ho'.split
  have hl1 : c1.length = j := by rw [f3.len, List.length_take, Nat.min_eq_left (by omega)]; show j * 1 = j; omega
  obtain ⟨a', m', c', ccs, K1, K2, rfl, rfl, k3⟩ := id e3
  refine h a' c' ?_ ac w h1 ⟨M1 ++ LR, ⟨M1, LR, rfl, e3, hR⟩, ?_, hst.sublist fun b hb => ?_⟩
  · rw [f1, e1, List.drop_left' hl1]; rfl
  · have : (M1 ++ LR).Sublist (L1 ++ (M1 ++ M2) ++ LR) := List.Sublist.append ((List.sublist_append_left M1 M2).trans (List.sublist_append_right L1 _)) (.refl _)
    exact hn.sublist this
  · simp only [List.mem_append] at hb ⊢
    rcases hb with hb | hb
    · exact .inl (.inr (.inl hb))
    · exact .inr hb
theorem b8P {j : Nat} {v : Value} (h : cs.take cx.length = cx) (hj : j < cx.length) (hc : (cx.drop j).take 1 = [v]) : (cs.drop j).take [v].length = [v] := by
  obtain ⟨n, hn⟩ : ∃ n, n = cx.length := ⟨_, rfl⟩
  rw [← hn] at h hj
  subst h
  rw [List.drop_take, List.take_take, Nat.min_eq_left (by omega)] at hc
  exact hc
theorem b8V {H : List HP} {b : Nat} {v : Value} (h : Has w0 L0 H b 0 cs) (j : Nat) (he : (cs.drop j).take [v].length = [v]) : Has w0 L0 H b (0 + j * 1) [v] := by
  rw [Nat.mul_one]; exact h.sub (cs' := [v]) j he
theorem b8G {PB : List Nat} {H : List HP} {b : Nat} {v : Value} (h : O9 w0 L0 PB H b 0 cs) (j : Nat) (he : (cs.drop j).take [v].length = [v]) : O9 w0 L0 PB H b (0 + j * 1) [v] := by
  rw [Nat.mul_one]; exact h.sub (cs' := [v]) j he
end
end Go.Proofs.YtlfhopooaejpfaaGreat
end
section
namespace Go.Proofs.YtlfhopooaejpfaaGreat
open Go.RowKit
set_option linter.all false
set_option maxHeartbeats 2000000
attribute [local irreducible] Nop Yd Yp Ent Has Tr FnP FnP2 Src M0 S8 V1 W0 G4
variable {m_a c_a m_b c_b : Nat} {a_a a_b : Option Addr}
theorem a2W {a : List Int} {b : List Int} : Tr Tryz.prog 28 [.slice a_a m_a c_a, .slice a_b m_b c_b] (fun w L => Ro w L eIs [.slice a_a m_a c_a] a ∧ Ro w L eIs [.slice a_b m_b c_b] b) [] (κ := Unit) (fun k => True) (fun k => .bool (decide (a = b))) (fun k => []) := by
 refine Tr.intro Tryz.func28 rfl (n := 26) rfl (by decide +kernel) bl (fr := [(0, .slice a_a m_a c_a), (1, .slice a_b m_b c_b)]) rfl fun w L hR => ?_
 obtain ⟨ha, hb⟩ := hR
 obtain ⟨rfl, la⟩ := ha.slen
 obtain ⟨rfl, lb⟩ := hb.slen
 refine Ew Z1 (Ei rfl (Eu (Eq_ (Ew Z5 (Em rfl (Ey rfl ((Y.len us_Is rfl).yd) (Em rfl (Ey rfl ((Y.len us_Is rfl).yd) (Ey rfl ((Y.neq rfl rfl).yd) (n0 (fun q10 => ?_) (fun q10 => ?_)))))))))))
 ·refine Eu (l4 rfl (Ew Z1 (Ei rfl ?_)))
  exact Eu (E.ret (l0 (Fb rfl rfl (by grind [d1, d2, t1, t2]))))
 ·refine Eu (l6 rfl (i8 (Et (Eq_ (Ew Z1 (Ei rfl (Eu (E.block (E.loop (κ := Nat) (fun g => g ≤ a.length ∧ a.length = b.length ∧ (a = b ↔ a.drop g = b.drop g)) (fun g => [(0, .slice a_a a.length c_a), (1, .slice a_b b.length c_b), (5, .int .i64 (g : Int))]) (fun g => []) (fun g => a.length - g) 0 ⟨Nat.zero_le _, by exact ⟨by omega, by simp⟩⟩ ⟨rfl, rfl, rfl, trivial⟩ (.refl _) (fun g pg => ?_))))))))))
  obtain ⟨pk, pa⟩ := pg
  refine Eq_ (Ew Z4 (Em rfl (Em rfl (Ey rfl ((Y.len us_Is rfl).yd) (Ey rfl ((Y.lss rfl rfl).yd) (n0 (fun q14 => ?_) (fun q14 => ?_)))))))
  ·refine Eu (l4 rfl (i8 (Et (Eq_ (E.block (Eq_ (D.region (fun j => true) mixed (Dyp 0 rfl (j4 rfl) (Dyp 1 rfl (j4 rfl) ?_)))))))))
   obtain ⟨eb19, eo19, ea19, ei19, eh19⟩ := ha.elemI g om
   refine Dyp 2 rfl (o6 us_Is f0 rfl ea19 rfl g rfl om) (Dy 3 rfl (f8 f0 rfl (eh19 _) rfl) (Dyp 4 rfl (j4 rfl) (Dyp 5 rfl (j4 rfl) ?_)))
   obtain ⟨eb23, eo23, ea23, ei23, eh23⟩ := hb.elemI g om
   refine Dyp 6 rfl (o6 us_Is f0 rfl ea23 rfl g rfl om) (Dy 7 rfl (f8 f0 rfl (eh23 _) rfl) (Dyp 8 rfl (Y.neq rfl rfl) (n0 (fun q25 => ?_) (fun q25 => ?_))))
   ·refine o3 kr (Et (l4 rfl (Ew Z1 (Ei rfl ?_))))
    exact Eu (E.ret (t7 (l0 (l0 (t7 (l0 (Fb rfl rfl (by grind [d1, d2, t1, t2]))))))))
   ·refine o3 kr (Et (l6 rfl (i8 (o4 (Et (Ez Z3 (Em rfl (Ey rfl ((Y.add rfl rfl om om).yd) (Ei rfl ?_)))))))))
    exact Eu (u9 br (g + 1) rs (.refl _) ⟨by omega, by grind [d1, d2, t1, t2]⟩ om)
  ·refine Eu (l6 rfl (E.exit (n8 (n8 (w5 (Et (Ew Z1 (Ei rfl ?_))))))))
   exact Eu (E.ret (Fb rfl rfl (by grind [d1, d2, t1, t2])))
theorem a8J {a : List (List Int)} {b : List (List Int)} : Tr Tryz.prog 15 [.slice a_a m_a c_a, .slice a_b m_b c_b] (fun w L => Ro w L I3 [.slice a_a m_a c_a] a ∧ Ro w L I3 [.slice a_b m_b c_b] b) [] (κ := Unit) (fun k => True) (fun k => .bool (a.all (fun x => b.any fun y => decide (x = y)))) (fun k => []) := by
 refine Tr.intro Tryz.func15 rfl (n := 34) rfl (by decide +kernel) bl (fr := [(0, .slice a_a m_a c_a), (1, .slice a_b m_b c_b)]) rfl fun w L hR => ?_
 obtain ⟨ha, hb⟩ := hR
 obtain ⟨rfl, la⟩ := ha.slen
 obtain ⟨rfl, lb⟩ := hb.slen
 refine Ew Z1 (Ei rfl (Eu (Eq_ (Ew Z1 (Ei rfl (Eu (E.block (E.loop (κ := Nat) (fun g => g ≤ a.length ∧ a.all (fun x => b.any fun y => decide (x = y)) = (a.drop g).all (fun x => b.any fun y => decide (x = y))) (fun g => [(0, .slice a_a a.length c_a), (1, .slice a_b b.length c_b), (5, .int .i64 (g : Int))]) (fun g => []) (fun g => a.length - g) 0 ⟨Nat.zero_le _, by simp⟩ ⟨rfl, rfl, rfl, trivial⟩ (.refl _) (fun g pg => ?_)))))))))
 obtain ⟨pk, pa⟩ := pg
 refine Eq_ (Ew Z4 (Em rfl (Em rfl (Ey rfl ((Y.len us_Iss rfl).yd) (Ey rfl ((Y.lss rfl rfl).yd) (n0 (fun q11 => ?_) (fun q11 => ?_)))))))
 ·refine Eu (l4 rfl (i8 (Et (Eq_ (E.block (Ew Z1 (Ei rfl (Eu (Eq_ (Ew Z1 (Ei rfl (Eu (E.block (E.loop (κ := Nat) (fun h => h ≤ b.length ∧ True) (fun h => [(0, .slice a_a a.length c_a), (1, .slice a_b b.length c_b), (5, .int .i64 (g : Int)), (6, .bool ((b.take h).any fun y => decide (a[g] = y))), (7, .int .i64 (h : Int))]) (fun h => []) (fun h => b.length - h) (0) ⟨Nat.zero_le _, by simp⟩ ⟨rfl, rfl, rfl, frB (by first | rfl | (simp; done) | grind [D9, d1, d2, t1, t2]), rfl, trivial⟩ (.refl _) (fun h ph => ?_)))))))))))))))
  try dsimp only
  obtain ⟨pk, pa⟩ := ph
  refine Eq_ (Ew Z4 (Em rfl (Em rfl (Ey rfl ((Y.len us_Iss rfl).yd) (Ey rfl ((Y.lss rfl rfl).yd) (n0 (fun q17 => ?_) (fun q17 => ?_)))))))
  ·refine Eu (l4 rfl (i8 (Et (Eq_ (E.block (D.region (fun j => true) mixed (Dyp 0 rfl (j4 rfl) (Ent.b (fun q20 => ?_) (fun q20 => ?_)))))))))
   ·refine Dyp 1 rfl (j4 rfl) (Dsk 2 rfl (Dsk 3 rfl (Dsk 4 rfl (Dsk 5 rfl (Dsk 6 rfl (Dsk 7 rfl (Dsk 8 rfl (Dsk 9 rfl (Dsk 10 rfl (Dyp 11 rfl (s6 rfl rfl) (Dyp 12 rfl (G1 rfl) (o3 kr (o4 (Et (Ez Z3 (Em rfl (Ey rfl ((Y.add rfl rfl om om).yd) (Ei rfl ?_))))))))))))))))))
    exact Eu (u9 br (h + 1) ⟨rfl, rfl, rfl, frB (by grind [D9, d1, d2, t1, t2]), rfl, trivial⟩ (.refl _) ⟨oz, trivial⟩ oz)
   ·refine Dyp 1 rfl (j4 rfl) (Dyp 2 rfl (j4 rfl) (Dyp 3 rfl (j4 rfl) ?_))
    obtain ⟨eb24, eo24, ec24, ea24, er24, el24, eh24⟩ := ha.elem g om
    obtain ⟨xa24, xc24, rfl⟩ := er24.sl
    have := er24.slen.2
    refine Dyp 4 rfl (o6 us_Iss ty_Is rfl ea24 rfl g rfl om) (Dy 5 rfl (f8 ty_Is rfl (eh24 _) rfl) (Dyp 6 rfl (j4 rfl) (Dyp 7 rfl (j4 rfl) ?_)))
    obtain ⟨eb28, eo28, ec28, ea28, er28, el28, eh28⟩ := hb.elem h om
    obtain ⟨xa28, xc28, rfl⟩ := er28.sl
    have := er28.slen.2
    refine Dyp 8 rfl (o6 us_Iss ty_Is rfl ea28 rfl h rfl om) (Dy 9 rfl (f8 ty_Is rfl (eh28 _) rfl) (u7 10 rfl rfl kr (fun _ => rfl) (k6 a2W rfl rfl rfl dc (fun w Lp hA => ⟨hA.ro er24, hA.ro er28⟩)) (fun _ _ => (Dyp 11 rfl (r9 rfl rfl) (Dyp 12 rfl (G1 rfl) (Ent.b (fun q6 => ?_) (fun q6 => ?_)))))))
    ·refine o3 kr (o4 (Et (Ez Z3 (Em rfl (Ey rfl ((Y.add rfl rfl om om).yd) (Ei rfl ?_))))))
     exact Eu (u9 br (h + 1) ⟨rfl, rfl, rfl, frB (by grind [D9, d1, d2, t1, t2]), rfl, trivial⟩ (.refl _) ⟨oz, trivial⟩ oz)
    ·refine o3 kr (o4 (Et (Ez Z3 (Em rfl (Ey rfl ((Y.add rfl rfl om om).yd) (Ei rfl ?_))))))
     exact Eu (u9 br (h + 1) ⟨rfl, rfl, rfl, frB (by grind [D9, d1, d2, t1, t2]), rfl, trivial⟩ (.refl _) ⟨oz, trivial⟩ oz)
  ·refine Eu (l6 rfl (E.exit (n8 (n8 (w5 (Et (Ew Z2 (Em rfl (Ent.b (fun q32 => ?_) (fun q32 => ?_))))))))))
   ·refine Ey rfl ((Y.not (b := true) rfl).yd) (Eu (l6 rfl (i8 (o4 (Et (Ez Z3 (Em rfl (Ey rfl ((Y.add rfl rfl om om).yd) (Ei rfl ?_)))))))))
    exact Eu (u9 br (g + 1) rs (.refl _) ⟨by omega, by grind [d1, d2, t1, t2]⟩ om)
   ·refine Ey rfl ((Y.not (b := false) rfl).yd) (Eu (l4 rfl (Ew Z1 (Ei rfl ?_))))
    exact Eu (E.ret (t7 (l0 (l0 (t7 (l0 (Fb rfl rfl (by grind [D9, d1, d2, t1, t2]))))))))
 ·refine Eu (l6 rfl (E.exit (n8 (n8 (w5 (Et (Ew Z1 (Ei rfl ?_))))))))
  exact Eu (E.ret (Fb rfl rfl (by grind [D9, d1, d2, t1, t2])))
end Go.Proofs.YtlfhopooaejpfaaGreat
end
