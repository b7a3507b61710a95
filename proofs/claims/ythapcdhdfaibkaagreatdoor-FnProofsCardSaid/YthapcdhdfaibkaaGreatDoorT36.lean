import Derived.Test.YthapcdhdfaibkaaGreatDoorT13
import Derived.Test.YthapcdhdfaibkaaGreatDoorT10
section
namespace Go.Proofs.YthapcdhdfaibkaaGreatDoor
set_option linter.unusedVariables false
set_option linter.unusedSimpArgs false
def b9C (s : List Int) (a8 : List (Int × List Int)) (out : List (List Int)) (q : List Int × List (Int × List Int)) : List (List Int) := (b9t s q a8).foldl b7R out
def c0M (s : List Int) (u : List (List Int × List (Int × List Int))) (a8 : List (Int × List Int)) : List (List Int) := if a9l s u then u.foldl (b9C s a8) [] else []
end Go.Proofs.YthapcdhdfaibkaaGreatDoor
end
section
namespace Go.Proofs.YthapcdhdfaibkaaGreatDoor
set_option linter.unusedVariables false
set_option linter.unusedSimpArgs false
def a3p (v : List Int) (p : Int × Int) : Bool := decide (at0 v p.1 = p.2)
def v7 (m : Int × List Int × Int × Int × Int) (v : List Int) (f : Int × List Int) : Bool := decide (f.1 = m.1) && (m.2.1.zip v).all (a3p f.2)
theorem a1o {a b : List Int} {p : Int × Int → Bool} {g : Nat} (h : g < a.length) (h2 : g < b.length) : ((a.zip b).drop g).all p = (p (a[g], b[g]) && ((a.zip b).drop (g + 1)).all p) := by
  rw [List.drop_eq_getElem_cons (by simp; omega)]
  simp
theorem a3o {a b : List Int} {p : Int × Int → Bool} {g : Nat} (h : a.length ≤ g) : ((a.zip b).drop g).all p = true := by
  rw [List.drop_eq_nil_of_le (by simp; omega)]; rfl
theorem b3O {α : Type} {s : List α} {p : α → Bool} : s.filter (fun x => !!p x) = s.filter p := by
  congr 1; funext x; cases p x <;> rfl
theorem a4Y {s : List Int} {m : Int × List Int × Int × Int × Int} {f : Int × List Int} (h1 : T0 s m = true) (h2 : B9 s f = true) (e : f.1 = m.1) : ∀ i ∈ m.2.1, 0 ≤ i ∧ i < f.2.length := by
  simp only [T0, a0Q, B9, S0, Bool.and_eq_true, decide_eq_true_eq, Bool.not_eq_true', List.any_eq_false] at h1 h2
  intro i hi
  have h3 := h1.2.2.1 i hi
  have h4 := h2.2.1
  rw [e] at h4
  simp only [inR, Bool.not_eq_true, Bool.and_eq_false_imp, Bool.and_eq_true, decide_eq_true_eq, decide_eq_false_iff_not] at h3
  omega
end Go.Proofs.YthapcdhdfaibkaaGreatDoor
end
section
namespace Go.Proofs.YthapcdhdfaibkaaGreatDoor
open Go.RowKit
set_option linter.all false
set_option maxHeartbeats 2000000
attribute [local irreducible] Nop Yd Yp Ent Has Tr FnP FnP2 Src o2 c8 N0 a0b E6
variable {G6 F0 H2 F1 l8 : Int} {B5 j5 f0 : List Int} {J6 G7 m_values c_values w3 s7 : Nat} {G8 a_values s8 : Option Addr}
theorem b0x (hv : B5.length ≤ j5.length) (hi : l8 = G6 → ∀ i ∈ B5, 0 ≤ i ∧ i < f0.length) : Tr Tryz.prog 208 [.agg #[.int .i64 G6, .slice G8 J6 G7, .int .i64 F0, .int .i64 H2, .int .i64 F1], .slice a_values m_values c_values, .agg #[.int .i64 l8, .slice s8 w3 s7]] (fun w L => I64 G6 ∧ Ro w L eIs [.slice G8 J6 G7] B5 ∧ I64 F0 ∧ I64 H2 ∧ I64 F1 ∧ Ro w L eIs [.slice a_values m_values c_values] j5 ∧ I64 l8 ∧ Ro w L eIs [.slice s8 w3 s7] f0) [] (κ := Unit) (fun k => True) (fun k => .bool (v7 (G6, B5, F0, H2, F1) j5 (l8, f0))) (fun k => []) := by
 refine Tr.intro Tryz.func208 rfl (n := 34) rfl (by decide +kernel) bl (fr := [(0, .agg #[.int .i64 G6, .slice G8 J6 G7, .int .i64 F0, .int .i64 H2, .int .i64 F1]), (1, .slice a_values m_values c_values), (2, .agg #[.int .i64 l8, .slice s8 w3 s7])]) rfl fun w L hR => ?_
 obtain ⟨a2k, K9, a0T, a1t, a0U, hvalues, C3, v6⟩ := hR
 obtain ⟨rfl, a2L⟩ := K9.slen
 obtain ⟨rfl, lvalues⟩ := hvalues.slen
 obtain ⟨rfl, J1⟩ := v6.slen
 refine Ew Z3 (Est rfl (N.box (cs := [_, _, _, _, _]) rfl dc rfl) (fun b3 _ => (Est rfl (N.box (cs := [_, _]) rfl dc rfl) (fun b5 _ => (Ei rfl (Eu (Eq_ (Ew Z5 (Ey rfl ((f5 fo_Fact_0 f9 dc rfl).yd) (Ey rfl (g9 f9 rfl (Hz m0 0 rfl) rfl) (Ey rfl ((f5 fo_Method_0 f9 dc rfl).yd) (Ey rfl (g9 f9 rfl (Hz (mS m0) 0 rfl) rfl) (Ey rfl ((Y.neq rfl rfl).yd) (o3 (fun q12 => ?_) (fun q12 => ?_)))))))))))))))
 ·refine Eu (n8 rfl (Ew Z1 (Ei rfl ?_)))
  exact Eu (E.ret (n0 (Fb rfl rfl (by grind [v7, a1o, a3o, a3p, G1, d1, d2, t1, t2]))))
 ·refine Eu (o0 rfl (i7 (Et (Eq_ (Ew Z1 (Ei rfl (Eu (E.block (E.loop (κ := Nat) (fun g => g ≤ B5.length ∧ (B5.zip j5).all (a3p f0) = ((B5.zip j5).drop g).all (a3p f0)) (fun g => [(1, .slice a_values j5.length c_values), (3, .pointer (some ⟨b3, 0, none⟩)), (5, .pointer (some ⟨b5, 0, none⟩)), (7, .int .i64 (g : Int))]) (fun g => [pt b5 85 [.int .i64 l8, .slice s8 f0.length s7], pt b3 125 [.int .i64 G6, .slice G8 B5.length G7, .int .i64 F0, .int .i64 H2, .int .i64 F1]]) (fun g => B5.length - g) 0 ⟨Nat.zero_le _, by simp⟩ ⟨rfl, rfl, rfl, rfl, trivial⟩ (.refl _) (fun g pg => ?_))))))))))
  obtain ⟨pk, pa⟩ := pg
  refine Eq_ (Ew Z5 (Em rfl (Ey rfl ((f5 fo_Method_1 ty_Is dc rfl).yd) (Ey rfl (g9 ty_Is rfl (Hz (mS m0) 1 rfl) rfl) (Ey rfl ((Y.len us_Is rfl).yd) (Ey rfl ((Y.lss rfl rfl).yd) (o3 (fun q17 => ?_) (fun q17 => ?_))))))))
  ·have hi1 := hi om B5[g] (List.getElem_mem om)
   refine Eu (n8 rfl (i7 (Et (Eq_ (E.block (Eq_ (D.region (fun j => true) mixed (Dyp 0 rfl (f5 fo_Fact_1 ty_Is dc rfl) (Dy 1 rfl (g9 ty_Is rfl (Hz m0 1 rfl) rfl) (Dyp 2 rfl (f5 fo_Method_1 ty_Is dc rfl) (Dy 3 rfl (g9 ty_Is rfl (Hz (mS m0) 1 rfl) rfl) (Dyp 4 rfl (i8 rfl) ?_))))))))))))
   obtain ⟨eb25, eo25, ea25, ei25, eh25⟩ := K9.elemI g om
   refine Dyp 5 rfl (v8 us_Is f9 rfl ea25 rfl g rfl om) (Dy 6 rfl (g9 f9 rfl (eh25 _) rfl) ?_)
   obtain ⟨eb27, eo27, ea27, ei27, eh27⟩ := v6.elemI B5[g].toNat om
   refine Dyp 7 rfl (v8 us_Is f9 rfl ea27 rfl B5[g].toNat om om) (Dy 8 rfl (g9 f9 rfl (eh27 _) rfl) (Dyp 9 rfl (i8 rfl) (Dyp 10 rfl (i8 rfl) ?_)))
   obtain ⟨eb31, eo31, ea31, ei31, eh31⟩ := hvalues.elemI g om
   refine Dyp 11 rfl (v8 us_Is f9 rfl ea31 rfl g rfl om) (Dy 12 rfl (g9 f9 rfl (eh31 _) rfl) (Dyp 13 rfl (Y.neq rfl rfl) (o3 (fun q33 => ?_) (fun q33 => ?_))))
   ·refine r9 kr (Et (n8 rfl (Ew Z1 (Ei rfl ?_))))
    exact Eu (E.ret (y8 (n0 (n0 (y8 (n0 (Fb rfl rfl (by grind [v7, a1o, a3o, a3p, G1, d1, d2, t1, t2]))))))))
   ·refine r9 kr (Et (o0 rfl (i7 (s9 (Et (Ez Z3 (Em rfl (Ey rfl ((Y.add rfl rfl om om).yd) (Ei rfl (Eu (d9 (d9 ?_))))))))))))
    exact x6 br (g + 1) rs (.refl _) ⟨by omega, by grind [a1o, a3p, G1, d1, d2, t1, t2]⟩ om
  ·refine Eu (o0 rfl (E.exit (q1 (q1 (y4 (Et (Ew Z1 (Ei rfl ?_))))))))
   exact Eu (E.ret (Fb rfl rfl (by grind [v7, a1o, a3o, a3p, G1, d1, d2, t1, t2])))
theorem a8e {b_m : Nat} {b_a : Nat} {u7 : Int} {z8 : Option Addr} {B4 z7 : Nat} {w9 : List Int} (hv : B5.length ≤ w9.length) (hi : l8 = G6 → ∀ i ∈ B5, 0 ≤ i ∧ i < f0.length) : Tr Tryz.prog 193 [.agg #[.int .i64 l8, .slice s8 w3 s7], .pointer (some ⟨b_m, 0, none⟩), .pointer (some ⟨b_a, 0, none⟩)] (fun w L => (I64 l8 ∧ Ro w L eIs [.slice s8 w3 s7] f0) ∧ RoPt w L b_m [.int .i64 G6, .slice G8 J6 G7, .int .i64 F0, .int .i64 H2, .int .i64 F1] ∧ I64 G6 ∧ Ro w L eIs [.slice G8 J6 G7] B5 ∧ I64 F0 ∧ I64 H2 ∧ I64 F1 ∧ RoPt w L b_a [.int .i64 u7, .slice z8 B4 z7] ∧ I64 u7 ∧ Ro w L eIs [.slice z8 B4 z7] w9) [] (κ := Unit) (fun k => True) (fun k => .bool (!v7 (G6, B5, F0, H2, F1) w9 (l8, f0))) (fun k => []) := by
 refine Tr.intro Tryz.func193 rfl (n := 32) rfl (by decide +kernel) bl (fr := [(0, .agg #[.int .i64 l8, .slice s8 w3 s7]), (1, .pointer (some ⟨b_m, 0, none⟩)), (2, .pointer (some ⟨b_a, 0, none⟩))]) rfl fun w L hR => ?_
 obtain ⟨⟨C3, v6⟩, hb_m, a2k, K9, a0T, a1t, a0U, hb_a, P2, C4⟩ := hR
 obtain ⟨rfl, J1⟩ := v6.slen
 obtain ⟨rfl, a2L⟩ := K9.slen
 obtain ⟨rfl, W8⟩ := C4.slen
 refine Ew Z2 (Est rfl (N.box (cs := [_, _]) rfl dc rfl) (fun b3 _ => (Ei rfl (Eu (Eq_ (Ew Z5 (Ey rfl ((f5 fo_Fact_0 f9 dc rfl).yd) (Ey rfl (g9 f9 rfl (Hz m0 0 rfl) rfl) (Ey rfl ((f5 fo_Method_0 f9 dc rfl).yd) (Ey rfl (g9 f9 rfl ((hb_m.has).sub (cs' := [_]) 0 rfl) rfl) (Ey rfl ((Y.neq rfl rfl).yd) (o3 (fun q11 => ?_) (fun q11 => ?_)))))))))))))
 ·refine Eu (n8 rfl (Ew Z1 (Ei rfl ?_)))
  exact Eu (E.ret (n0 (Fb rfl rfl (by grind [v7, a1o, a3o, a3p, G1, d1, d2, t1, t2]))))
 ·refine Eu (o0 rfl (i7 (Et (Eq_ (Ew Z4 (Ey rfl ((f5 fo_Method_1 ty_Is dc rfl).yd) (Ey rfl (g9 ty_Is rfl ((hb_m.has).sub (cs' := [_]) 1 rfl) rfl) (Ey rfl ((Y.len us_Is rfl).yd) (Em rfl (Eu (E.block (E.loop (κ := Nat) (fun g => g ≤ B5.length ∧ (B5.zip w9).all (a3p f0) = ((B5.zip w9).drop g).all (a3p f0)) (fun g => [(2, .pointer (some ⟨b_a, 0, none⟩)), (3, .pointer (some ⟨b3, 0, none⟩)), (13, .slice G8 B5.length G7), (14, .int .i64 (↑B5.length : Int)), (15, .int .i64 (g : Int))]) (fun g => [pt b3 85 [.int .i64 l8, .slice s8 f0.length s7]]) (fun g => B5.length - g) 0 ⟨Nat.zero_le _, by simp⟩ ⟨rfl, rfl, rfl, rfl, rfl, trivial⟩ (.refl _) (fun g pg => ?_)))))))))))))
  obtain ⟨pk, pa⟩ := pg
  refine Ew Z1 (Ey rfl ((Y.lss rfl rfl).yd) (o3 (fun q16 => ?_) (fun q16 => ?_)))
  ·have hi1 := hi om B5[g] (List.getElem_mem om)
   refine Eu (Eq_ (n8 rfl (i7 (Et (Eq_ (E.block (Ew Z5 (Em rfl ?_))))))))
   obtain ⟨eb18, eo18, ea18, ei18, eh18⟩ := K9.elemI g om
   refine Ey rfl ((v8 us_Is f9 rfl ea18 rfl g rfl om).yd) (Ey rfl (g9 f9 rfl (eh18 _) rfl) (Ei rfl (Ei rfl (Eu (Eq_ (D.region (fun j => true) mixed (Dyp 0 rfl (f5 fo_Fact_1 ty_Is dc rfl) (Dy 1 rfl (g9 ty_Is rfl (Hz m0 1 rfl) rfl) (Dyp 2 rfl (i8 rfl) ?_)))))))))
   obtain ⟨eb23, eo23, ea23, ei23, eh23⟩ := v6.elemI B5[g].toNat om
   refine Dyp 3 rfl (v8 us_Is f9 rfl ea23 rfl B5[g].toNat om om) (Dy 4 rfl (g9 f9 rfl (eh23 _) rfl) (Dyp 5 rfl (f5 fo_Access_1 ty_Is dc rfl) (Dy 6 rfl (g9 ty_Is rfl ((hb_a.has).sub (cs' := [_]) 1 rfl) rfl) (Dyp 7 rfl (i8 rfl) ?_))))
   obtain ⟨eb28, eo28, ea28, ei28, eh28⟩ := C4.elemI g om
   refine Dyp 8 rfl (v8 us_Is f9 rfl ea28 rfl g rfl om) (Dy 9 rfl (g9 f9 rfl (eh28 _) rfl) (Dyp 10 rfl (Y.neq rfl rfl) (o3 (fun q30 => ?_) (fun q30 => ?_))))
   ·refine r9 kr (Et (n8 rfl (Ew Z1 (Ei rfl ?_))))
    exact Eu (E.ret (y8 (n0 (n0 (y8 (n0 (Fb rfl rfl (by grind [v7, a1o, a3o, a3p, G1, d1, d2, t1, t2]))))))))
   ·refine r9 kr (Et (o0 rfl (i7 (s9 (Et (Ez Z2 (Ey rfl ((Y.add rfl rfl om om).yd) (Em rfl ?_))))))))
    exact Eu (x6 br (g + 1) rs (.refl _) ⟨by omega, by grind [a1o, a3p, G1, d1, d2, t1, t2]⟩ om)
  ·refine Eu (Eq_ (o0 rfl (E.exit (q1 (q1 (y4 (Et (Ew Z1 (Ei rfl ?_)))))))))
   exact Eu (E.ret (Fb rfl rfl (by grind [v7, a1o, a3o, a3p, G1, d1, d2, t1, t2])))
theorem a2x {a_facts : Option Addr} {m_facts c_facts : Nat} {a8 : List (Int × List Int)} (hv : B5.length ≤ j5.length) (hif : ∀ f ∈ a8, f.1 = G6 → ∀ i ∈ B5, 0 ≤ i ∧ i < f.2.length) (hfl : a8.length ≤ 1048576) (hfe : ∀ f ∈ a8, f.2.length ≤ 1048576) : Tr Tryz.prog 87 [.agg #[.int .i64 G6, .slice G8 J6 G7, .int .i64 F0, .int .i64 H2, .int .i64 F1], .slice a_values m_values c_values, .slice a_facts m_facts c_facts] (fun w L => I64 G6 ∧ Ro w L eIs [.slice G8 J6 G7] B5 ∧ I64 F0 ∧ I64 H2 ∧ I64 F1 ∧ Ro w L eIs [.slice a_values m_values c_values] j5 ∧ Ro w L m8 [.slice a_facts m_facts c_facts] a8) [] (κ := Option Addr × Nat × Nat) (fun k => True) (fun k => .slice k.1 k.2.1 k.2.2) (fun k => [ow m8 [.slice k.1 k.2.1 k.2.2] (a8.filter (v7 (G6, B5, F0, H2, F1) j5))]) := by
 refine Tr.intro Tryz.func87 rfl (n := 38) rfl (by decide +kernel) bl (fr := [(0, .agg #[.int .i64 G6, .slice G8 J6 G7, .int .i64 F0, .int .i64 H2, .int .i64 F1]), (1, .slice a_values m_values c_values), (2, .slice a_facts m_facts c_facts)]) rfl fun w L hR => ?_
 obtain ⟨a2k, K9, a0T, a1t, a0U, hvalues, hfacts⟩ := hR
 obtain ⟨rfl, a2L⟩ := K9.slen
 obtain ⟨rfl, lvalues⟩ := hvalues.slen
 obtain ⟨rfl, lfacts⟩ := hfacts.slen
 refine Ew Z2 (Est rfl (N.box (cs := [_, _, _, _, _]) rfl dc rfl) (fun b3 _ => (Ei rfl (Ev Z2 (Est rfl (Nb [] [] us_Facts ty_Fact rfl rfl) (fun b9 _ => (Ent.drop (Ei rfl (Eu (Eq_ (Ew Z1 (Ei rfl (Eu (E.block (u9 (A := []) (Own.nil (E := C9) (e := tFact) (a := (some ⟨b9, 0, none⟩))) rfl (j4 (congrArg (ow m8 [_]) (show [] = (a8.take 0).filter (v7 (G6, B5, F0, H2, F1) j5) from by first | rfl | (simp; done) | grind [d1, d2, t1, t2])) (E.loop (κ := Nat × Option Addr × Nat × Nat) (fun g => g.1 ≤ a8.length ∧ True) (fun g => [(1, .slice a_values j5.length c_values), (2, .slice a_facts a8.length c_facts), (3, .pointer (some ⟨b3, 0, none⟩)), (7, .slice g.2.1 g.2.2.1 g.2.2.2), (8, .int .i64 (↑g.1 : Int))]) (fun g => [ow m8 [.slice g.2.1 g.2.2.1 g.2.2.2] ((a8.take g.1).filter (v7 (G6, B5, F0, H2, F1) j5)), pt b3 125 [.int .i64 G6, .slice G8 B5.length G7, .int .i64 F0, .int .i64 H2, .int .i64 F1]]) (fun g => a8.length - g.1) (0, (some ⟨b9, 0, none⟩), 0, 0) ⟨Nat.zero_le _, by simp⟩ ⟨rfl, rfl, rfl, rfl, rfl, trivial⟩ (.refl _) (fun g pg => ?_))))))))))))))))))
 obtain ⟨g, aA0_0, mA0_0, cA0_0⟩ := g
 try dsimp only at pg
 try dsimp only
 obtain ⟨pk, pa⟩ := pg
 have jf := List.length_filter_le (v7 (G6, B5, F0, H2, F1) j5) (a8.take g)
 have jt := List.length_take_le g a8
 refine d7 m0 fun eaA0_0 laA0_0 => ?_
 subst eaA0_0
 refine Eq_ (Ew Z4 (Em rfl (Em rfl (Ey rfl ((Y.len us_Facts rfl).yd) (Ey rfl ((Y.lss rfl rfl).yd) (o3 (fun q13 => ?_) (fun q13 => ?_)))))))
 ·refine Eu (n8 rfl (i7 (Et (Eq_ (E.block (Eq_ (D.region (fun j => true) mixed (Dy 0 rfl (o6 (cs := [_, _, _, _, _]) ty_Method rfl (Has.pt (mS m0)) rfl) (Dyp 1 rfl (i8 rfl) (Dyp 2 rfl (i8 rfl) (Dyp 3 rfl (i8 rfl) ?_)))))))))))
  obtain ⟨eb20, eo20, ec20, ea20, er20, el20, eh20⟩ := hfacts.elem g om
  obtain ⟨xa20_0, xc20_0, rfl, ei20_0, xh20_0⟩ := K8 er20
  have := xh20_0.slen.2
  refine Dyp 4 rfl (v8 us_Facts ty_Fact rfl ea20 rfl g rfl om) (Dy 5 rfl (o6 (cs := [_, _]) ty_Fact rfl (eh20 _) rfl) (t6 6 rfl rfl kr (fun _ => rfl) (l0 (b0x hv (hif _ (List.getElem_mem om))) rfl rfl rfl dc (fun w Lp hA => ⟨a2k, hA.ro K9, a0T, a1t, a0U, hA.ro hvalues, ei20_0, hA.ro xh20_0⟩)) (fun _ _ => (Ent.b (fun q22 => ?_) (fun q22 => ?_)))))
  ·refine r9 kr (Et (n8 rfl (D.region (fun j => !(Nat.beq j 13)) mixed (Dyp 0 rfl (i8 rfl) (Dyp 1 rfl (i8 rfl) (Dyp 2 rfl (i8 rfl) (Dyp 3 rfl (v8 us_Facts ty_Fact rfl ea20 rfl g rfl om) (Dyp 4 rfl (f5 fo_Fact_0 f9 dc rfl) (Dy 5 rfl (g9 f9 rfl ((eh20 _).sub (cs' := [_]) 0 rfl) rfl) (Dyp 6 rfl (i8 rfl) (Dyp 7 rfl (i8 rfl) (Dyp 8 rfl (v8 us_Facts ty_Fact rfl ea20 rfl g rfl om) (Dyp 9 rfl (f5 fo_Fact_1 ty_Is dc rfl) (Dy 10 rfl (g9 ty_Is rfl ((eh20 _).sub (cs' := [_]) 1 rfl) rfl) (t6 11 rfl rfl kr (fun _ => rfl) (N.call (R1 (hfe _ (List.getElem_mem om))) rfl rfl rfl dc rfl (fun w Lp hA => ⟨ei20_0, hA.ro xh20_0⟩)) (fun k34 _ => ?_))))))))))))))))
   obtain ⟨a34, m34, c34⟩ := k34
   refine d7 m0 fun e34 l34 => ?_
   subst e34
   refine t6 12 rfl rfl kr (fun _ => rfl) (Nb [_] [_, _] us_Facts ty_Fact rfl rfl) (fun b35 _ => (d9 (d9 (j8 (t6 13 rfl rfl kr (fun h => by cases h) (C7 (E := C9) (ex := a8[g]) us_Facts ty_Fact rfl rfl rfl (M3 (x := a8[g]) ei20_0 Own.ow) rfl bn bn dc) (fun p36 _ => (Dyp 14 rfl (C2 rfl) (r9 kr (s9 (Et (Ez Z3 (Em rfl (Ey rfl ((Y.add rfl rfl om om).yd) (Ei rfl (Eu (j4 (congrArg (ow m8 [_]) (show ((a8.take g).filter (v7 (G6, B5, F0, H2, F1) j5)) ++ [a8[g]] = (a8.take (g + 1)).filter (v7 (G6, B5, F0, H2, F1) j5) from by grind [d1, d2, t1, t2])) (d9 (d9 ?_))))))))))))))))))
   exact Ea (g + 1, p36.1, (((a8.take g).filter (v7 (G6, B5, F0, H2, F1) j5)).length + 1), p36.2) ⟨oz, trivial⟩
  ·refine r9 kr (Et (o0 rfl (i7 (s9 (Et (Ez Z3 (Em rfl (Ey rfl ((Y.add rfl rfl om om).yd) (Ei rfl (Eu (j4 (congrArg (ow m8 [_]) (show (a8.take g).filter (v7 (G6, B5, F0, H2, F1) j5) = (a8.take (g + 1)).filter (v7 (G6, B5, F0, H2, F1) j5) from by grind [d1, d2, t1, t2])) (d9 (d9 ?_)))))))))))))
   exact Ea (g + 1, aA0_0, ((a8.take g).filter (v7 (G6, B5, F0, H2, F1) j5)).length, cA0_0) ⟨oz, trivial⟩
 ·refine Eu (o0 rfl (E.exit (q1 (q1 (y4 (Et (Ew Z2 (Em rfl (Ei rfl (Eu (E.ret (j4 (congrArg (ow m8 [_]) (show _ = a8.filter (v7 (G6, B5, F0, H2, F1) j5) by grind [d1, d2, t1, t2])) ?_))))))))))))
  exact Fg rfl rfl (_, _, _) rfl rfl
end Go.Proofs.YthapcdhdfaibkaaGreatDoor
end
