import Derived.Test.YtlfhopooaejpfaaGreatT10
import Derived.Test.YtlfhopooaejpfaaGreatT17
import Derived.Test.YtlfhopooaejpfaaGreatT11
import Derived.Test.YtlfhopooaejpfaaGreatT13
import Derived.Test.YtlfhopooaejpfaaGreatHt
section
namespace Go.Proofs.YtlfhopooaejpfaaGreat
open Go.RowKit
set_option linter.unusedVariables false
section
variable {P : Program} {n : Nat} {w0 : World} {L0 : List Nat} {fr : Fr} {H : List HP} {fn : Func} {κ : Type} {φ : κ → Prop} {ret : κ → Value} {post : κ → List HP} {wb : World} {Lb : List Nat}
theorem c0c (hb : P3 w0 L0 wb Lb) {e : Exit} {s t u b : Nat} {T T' : TypeId} {k' : Nat} {z : List Value} {by' : Nat} {cs : List Value} {v v' : Value} (hres : fn.results = #[.tmp s, .cell t T, .tmp u]) (hv0 : fr.lookup s = some v) (hv : fr.lookup t = some (.pointer (some ⟨b, 0, none⟩))) (hv' : fr.lookup u = some v') (hm : pt b T' cs ∈ H) (ht : TyOk P T true k' z by') (hl : cs.length = k')
    (k : κ) (hk : φ k) (hr : .tuple #[v, .agg cs.toArray, v'] = ret k) {J : List HP} (hH : H.Perm (post k ++ J)) (he : e = .ret ∨ e = .normal) : Ent n w0 L0 fr H (bodyPost P fn (Fin φ ret post wb Lb) e) :=
  a0a hb he k hk hr hH fun a w h1 h2 => by
    have h0 := h1.ev (x := .tmp s) hv0
    have h3 := h1.ev (x := .tmp t) hv
    have h5 := h1.ev (x := .tmp u) hv'
    simp only [Act.eval] at h0 h3 h5
    have h4 := ((Has.pt (w0 := w0) (L0 := L0) hm) w h2).run_load (P := P) (v := .agg cs.toArray) ht hl rfl (fun h => by cases h)
    simp only [Instr.loadAt, Instr.sureAddr, Sem.run_bind, Sem.run_pure, Result.andThen_ok] at h4
    rw [Array.getD_eq_getD_getElem?] at h0 h3 h5
    simp [results, hres, h0, h3, h5, asAddr, h4]
end
end Go.Proofs.YtlfhopooaejpfaaGreat
end
section
namespace Go.Proofs.YtlfhopooaejpfaaGreat
open Go.RowKit
set_option linter.all false
set_option maxHeartbeats 2000000
attribute [local irreducible] Nop Yd Yp Ent Has Tr FnP FnP2 Src M0 S8 V1 W0 G4
variable {l2 D8 C1 D7 C2 : Int} {l : List (Int × List Int × Int × Int × Int)} {d9 H0 s8 : List Int} {C6 w6 m_bound c_bound E3 D2 m_l c_l : Nat} {w7 a_bound D3 a_l : Option Addr}
theorem a6j {i : Int} {b_a : Nat} {b_bound : Nat} : Tr Tryz.prog 175 [.int .i64 i, .pointer (some ⟨b_a, 0, none⟩), .pointer (some ⟨b_bound, 0, none⟩)] (fun w L => (I64 i) ∧ RoPt w L b_a [.int .i64 l2, .slice w7 C6 w6] ∧ I64 l2 ∧ Ro w L eIs [.slice w7 C6 w6] d9 ∧ RoPt w L b_bound [.slice a_bound m_bound c_bound] ∧ Ro w L eIs [.slice a_bound m_bound c_bound] H0) [] (κ := Unit) (fun k => True) (fun k => .bool (Y1 (l2, d9) H0 i)) (fun k => []) := by
 refine Tr.intro Tryz.func175 rfl (n := 30) rfl (by decide +kernel) bl (fr := [(0, .int .i64 i), (1, .pointer (some ⟨b_a, 0, none⟩)), (2, .pointer (some ⟨b_bound, 0, none⟩))]) rfl fun w L hR => ?_
 obtain ⟨i6i, hb_a, M4, D6, hb_bound, hbound⟩ := hR
 obtain ⟨rfl, T7⟩ := D6.slen
 obtain ⟨rfl, lbound⟩ := hbound.slen
 refine Ew Z1 (Ei rfl (Eu (Eq_ (D.region (fun j => true) mixed (Dyp 0 rfl (j4 rfl) (Dyp 1 rfl (i7 fo_Atom_1 ty_Is dc rfl) (Dy 2 rfl (f8 ty_Is rfl ((hb_a.has).sub (cs' := [_]) 1 rfl) rfl) (Dyp 3 rfl (Y.len us_Is rfl) (Dyp 4 rfl (Y.sub rfl rfl om om) (u7 5 rfl rfl kr (fun _ => rfl) (k6 I1 rfl rfl rfl dc tv) (fun _ _ => (Ent.b (fun q10 => ?_) (fun q10 => ?_)))))))))))))
 ·have jz : 0 ≤ i ∧ i ≤ (d9.length : Int) - 1 := of_decide_eq_true q10
  refine Dyp 6 rfl (Y.not (b := true) rfl) (Dyp 7 rfl (j4 rfl) (Dyp 8 rfl (i7 fo_Atom_1 ty_Is dc rfl) (Dy 9 rfl (f8 ty_Is rfl ((hb_a.has).sub (cs' := [_]) 1 rfl) rfl) (Dyp 10 rfl (j4 rfl) ?_))))
  obtain ⟨eb16, eo16, ea16, ei16, eh16⟩ := D6.elemI i.toNat om
  refine Dyp 11 rfl (o6 us_Is f0 rfl ea16 rfl i.toNat om om) (Dy 12 rfl (f8 f0 rfl (eh16 _) rfl) (u7 13 rfl rfl kr (fun _ => rfl) (k6 a0A rfl rfl rfl dc tv) (fun _ _ => (Ent.b (fun q18 => ?_) (fun q18 => ?_)))))
  ·refine Dyp 14 rfl (j4 rfl) (Dy 15 rfl (f8 ty_Is rfl (hb_bound.has) rfl) (Dyp 16 rfl (i7 fo_Atom_1 ty_Is dc rfl) (Dy 17 rfl (f8 ty_Is rfl ((hb_a.has).sub (cs' := [_]) 1 rfl) rfl) (Dyp 18 rfl (j4 rfl) (Dyp 19 rfl (o6 us_Is f0 rfl ea16 rfl i.toNat om om) (Dy 20 rfl (f8 f0 rfl (eh16 _) rfl) (u7 21 rfl rfl kr (fun _ => rfl) (k6 a0x rfl rfl rfl dc (fun w Lp hA => hA.ro hbound)) (fun _ _ => (Dyp 22 rfl (Y.not rfl) (Dyp 23 rfl (s6 rfl rfl) (Dyp 24 rfl (r9 rfl rfl) (Dyp 25 rfl (G1 rfl) ?_))))))))))))
   exact o3 kr (Et (E.ret (Fb rfl rfl (by grind [Y1, E6, d1, d2, t1, t2]))))
  ·refine Dyp 14 rfl (j4 rfl) (Dsk 15 rfl (Dsk 16 rfl (Dsk 17 rfl (Dsk 18 rfl (Dsk 19 rfl (Dsk 20 rfl (Dsk 21 rfl (Dsk 22 rfl (Dyp 23 rfl (r9 rfl rfl) (Dyp 24 rfl (r9 rfl rfl) (Dyp 25 rfl (G1 rfl) ?_)))))))))))
   exact o3 kr (Et (E.ret (Fb rfl rfl (by grind [Y1, E6, d1, d2, t1, t2]))))
 ·refine Dyp 6 rfl (Y.not (b := false) rfl) (Dyp 7 rfl (j4 rfl) (Dsk 8 rfl (Dsk 9 rfl (Dsk 10 rfl (Dsk 11 rfl (Dsk 12 rfl (Dsk 13 rfl (a9g 14 rfl rfl dc kr (Dsk 15 rfl (Dsk 16 rfl (Dsk 17 rfl (Dsk 18 rfl (Dsk 19 rfl (Dsk 20 rfl ?_))))))))))))))
  refine Dsk 21 rfl (Dsk 22 rfl (Dsk 23 rfl (Dyp 24 rfl (s6 rfl rfl) (Dyp 25 rfl (G1 rfl) ?_))))
  exact o3 kr (Et (E.ret (Fb rfl rfl (by grind [Y1, E6, d1, d2, t1, t2]))))
theorem a7q : Tr Tryz.prog 116 [.agg #[.int .i64 D8, .slice D3 E3 D2, .int .i64 C1, .int .i64 D7, .int .i64 C2], .agg #[.int .i64 l2, .slice w7 C6 w6], .slice a_bound m_bound c_bound] (fun w L => I64 D8 ∧ Ro w L eIs [.slice D3 E3 D2] s8 ∧ I64 C1 ∧ I64 D7 ∧ I64 C2 ∧ I64 l2 ∧ Ro w L eIs [.slice w7 C6 w6] d9 ∧ Ro w L eIs [.slice a_bound m_bound c_bound] H0) [] (κ := Unit) (fun k => True) (fun k => .bool (P6 (D8, s8, C1, D7, C2) (l2, d9) H0)) (fun k => []) := by
 refine Tr.intro Tryz.func116 rfl (n := 19) rfl (by decide +kernel) bl (fr := [(0, .agg #[.int .i64 D8, .slice D3 E3 D2, .int .i64 C1, .int .i64 D7, .int .i64 C2]), (1, .agg #[.int .i64 l2, .slice w7 C6 w6]), (2, .slice a_bound m_bound c_bound)]) rfl fun w L hR => ?_
 obtain ⟨X3, F6, R9, V0, S0, M4, D6, hbound⟩ := hR
 obtain ⟨rfl, X8⟩ := F6.slen
 obtain ⟨rfl, T7⟩ := D6.slen
 obtain ⟨rfl, lbound⟩ := hbound.slen
 refine Ew Z4 (Est rfl (N.box (cs := [_, _, _, _, _]) rfl dc rfl) (fun b3 _ => (Est rfl (N.box (cs := [_, _]) rfl dc rfl) (fun b4 _ => (Est rfl (N.box (cs := [_]) rfl dc rfl) (fun b5 _ => (Ei rfl (Ev Z13 (Ey rfl ((i7 fo_Method_0 f0 dc rfl).yd) (Ey rfl (f8 f0 rfl (Hz (mS (mS m0)) 0 rfl) rfl) (Ey rfl ((i7 fo_Atom_0 f0 dc rfl).yd) (Ey rfl (f8 f0 rfl (Hz (mS m0) 0 rfl) rfl) (Ey rfl ((Y.eql rfl rfl).yd) (n0 (fun q11 => ?_) (fun q11 => ?_)))))))))))))))
 ·refine Em rfl (Ey rfl ((i7 fo_Method_1 ty_Is dc rfl).yd) (Ey rfl (f8 ty_Is rfl (Hz (mS (mS m0)) 1 rfl) rfl) (Ey rfl ((Y.fn (vs := [_, _]) rfl).yd) (Est rfl (k6 (S6 (f := (fun i => Y1 (l2, d9) H0 i)) (D_f := (fun _ => True)) (by intros; exact trivial)) rfl rfl rfl dc (fun w Lp hA => ⟨hA.ro F6, a1N (D := (fun _ => True)) (fun hd => a6j) (fun w' hk => ⟨(hA.pt (mS m0)).keep hk, M4, (hA.ro D6).keep hk, (hA.pt m0).keep hk, (hA.ro hbound).keep hk⟩)⟩)) (fun _ _ => (Ey rfl ((Y.not rfl).yd) (Ey rfl ((s6 rfl rfl).yd) (Ei rfl ?_))))))))
  exact Eu (E.ret (Fb rfl rfl (by grind [P6, d1, d2, t1, t2])))
 ·refine Em rfl (Es rfl (Es rfl (Es rfl (Es rfl (Es rfl (Ey rfl ((r9 rfl rfl).yd) (Ei rfl ?_)))))))
  exact Eu (E.ret (Fb rfl rfl (by grind [P6, d1, d2, t1, t2])))
theorem a1F : Tr Tryz.prog 62 [.agg #[.int .i64 D8, .slice D3 E3 D2, .int .i64 C1, .int .i64 D7, .int .i64 C2], .agg #[.int .i64 l2, .slice w7 C6 w6], .slice a_bound m_bound c_bound] (fun w L => I64 D8 ∧ Ro w L eIs [.slice D3 E3 D2] s8 ∧ I64 C1 ∧ I64 D7 ∧ I64 C2 ∧ I64 l2 ∧ Ro w L eIs [.slice w7 C6 w6] d9 ∧ Ro w L eIs [.slice a_bound m_bound c_bound] H0) [] (κ := Unit) (fun k => True) (fun k => .bool (P6 (D8, s8, C1, D7, C2) (l2, d9) H0)) (fun k => []) := by
 refine Tr.intro Tryz.func62 rfl (n := 49) rfl (by decide +kernel) bl (fr := [(0, .agg #[.int .i64 D8, .slice D3 E3 D2, .int .i64 C1, .int .i64 D7, .int .i64 C2]), (1, .agg #[.int .i64 l2, .slice w7 C6 w6]), (2, .slice a_bound m_bound c_bound)]) rfl fun w L hR => ?_
 obtain ⟨X3, F6, R9, V0, S0, M4, D6, hbound⟩ := hR
 obtain ⟨rfl, X8⟩ := F6.slen
 obtain ⟨rfl, T7⟩ := D6.slen
 obtain ⟨rfl, lbound⟩ := hbound.slen
 refine Ew Z3 (Est rfl (N.box (cs := [_, _, _, _, _]) rfl dc rfl) (fun b3 _ => (Est rfl (N.box (cs := [_, _]) rfl dc rfl) (fun b4 _ => (Ei rfl (Eu (Eq_ (Ew Z5 (Ey rfl ((i7 fo_Method_0 f0 dc rfl).yd) (Ey rfl (f8 f0 rfl (Hz (mS m0) 0 rfl) rfl) (Ey rfl ((i7 fo_Atom_0 f0 dc rfl).yd) (Ey rfl (f8 f0 rfl (Hz m0 0 rfl) rfl) (Ey rfl ((Y.neq rfl rfl).yd) (n0 (fun q13 => ?_) (fun q13 => ?_)))))))))))))))
 ·refine Eu (l4 rfl (Ew Z1 (Ei rfl ?_)))
  exact Eu (E.ret (l0 (Fb rfl rfl (by grind [P6, Y1, E6, d1, d2, t1, t2]))))
 ·refine Eu (l6 rfl (i8 (Et (Eq_ (Ew Z1 (Ei rfl (Eu (E.block (E.loop (κ := Nat) (fun g => g ≤ s8.length ∧ s8.any (Y1 (l2, d9) H0) = (s8.drop g).any (Y1 (l2, d9) H0)) (fun g => [(2, .slice a_bound H0.length c_bound), (3, .pointer (some ⟨b3, 0, none⟩)), (4, .pointer (some ⟨b4, 0, none⟩)), (7, .int .i64 (g : Int))]) (fun g => [pt b4 81 [.int .i64 l2, .slice w7 d9.length w6], pt b3 86 [.int .i64 D8, .slice D3 s8.length D2, .int .i64 C1, .int .i64 D7, .int .i64 C2]]) (fun g => s8.length - g) 0 ⟨Nat.zero_le _, by simp⟩ ⟨rfl, rfl, rfl, rfl, trivial⟩ (.refl _) (fun g pg => ?_))))))))))
  obtain ⟨pk, pa⟩ := pg
  refine Eq_ (Ew Z5 (Em rfl (Ey rfl ((i7 fo_Method_1 ty_Is dc rfl).yd) (Ey rfl (f8 ty_Is rfl (Hz (mS m0) 1 rfl) rfl) (Ey rfl ((Y.len us_Is rfl).yd) (Ey rfl ((Y.lss rfl rfl).yd) (n0 (fun q18 => ?_) (fun q18 => ?_))))))))
  ·refine Eu (l4 rfl (i8 (Et (Eq_ (E.block (Eq_ (Eq_ (D.region (fun j => true) mixed (Dyp 0 rfl (i7 fo_Method_1 ty_Is dc rfl) (Dy 1 rfl (f8 ty_Is rfl (Hz (mS m0) 1 rfl) rfl) (Dyp 2 rfl (j4 rfl) ?_)))))))))))
   obtain ⟨eb24, eo24, ea24, ei24, eh24⟩ := F6.elemI g om
   refine Dyp 3 rfl (o6 us_Is f0 rfl ea24 rfl g rfl om) (Dy 4 rfl (f8 f0 rfl (eh24 _) rfl) (Dyp 5 rfl (i7 fo_Atom_1 ty_Is dc rfl) (Dy 6 rfl (f8 ty_Is rfl (Hz m0 1 rfl) rfl) (Dyp 7 rfl (Y.len us_Is rfl) (Dyp 8 rfl (Y.sub rfl rfl om om) (u7 9 rfl rfl kr (fun _ => rfl) (k6 F9 rfl rfl rfl dc tv) (fun _ _ => (Ent.b (fun q30 => ?_) (fun q30 => ?_)))))))))
   ·have jz : 0 ≤ s8[g] ∧ s8[g] ≤ (d9.length : Int) - 1 := of_decide_eq_true q30
    refine Dyp 10 rfl (Y.not (b := true) rfl) (o3 kr (Et (l6 rfl (i8 (Et (Eq_ (D.region (fun j => true) mixed (Dyp 0 rfl (i7 fo_Atom_1 ty_Is dc rfl) (Dy 1 rfl (f8 ty_Is rfl (Hz m0 1 rfl) rfl) (Dyp 2 rfl (i7 fo_Method_1 ty_Is dc rfl) (Dy 3 rfl (f8 ty_Is rfl (Hz (mS m0) 1 rfl) rfl) (Dyp 4 rfl (j4 rfl) (Dyp 5 rfl (o6 us_Is f0 rfl ea24 rfl g rfl om) (Dy 6 rfl (f8 f0 rfl (eh24 _) rfl) ?_))))))))))))))
    obtain ⟨eb39, eo39, ea39, ei39, eh39⟩ := D6.elemI s8[g].toNat om
    refine Dyp 7 rfl (o6 us_Is f0 rfl ea39 rfl s8[g].toNat om om) (Dy 8 rfl (f8 f0 rfl (eh39 _) rfl) (Dyp 9 rfl (G1 rfl) (o3 kr (Et (Ew Z8 (Em rfl (Est rfl (k6 a0e rfl rfl rfl dc tv) (fun _ _ => (Ent.b (fun q42 => ?_) (fun q42 => ?_))))))))))
    ·refine Em rfl (Em rfl (Em rfl (Est rfl (k6 a0K rfl rfl rfl dc (fun w Lp hA => hA.ro hbound)) (fun _ _ => (Ent.b (fun q46 => ?_) (fun q46 => ?_))))))
     ·refine Ey rfl ((Y.not (b := true) rfl).yd) (Ey rfl ((s6 rfl rfl).yd) (Eu (l6 rfl (i8 (o4 (Et (Ez Z3 (Em rfl (Ey rfl ((Y.add rfl rfl om om).yd) (Ei rfl (Eu (f7 (f7 ?_)))))))))))))
      exact u9 br (g + 1) rs (.refl _) ⟨by omega, by grind [Y1, E6, d1, d2, t1, t2]⟩ om
     ·refine Ey rfl ((Y.not (b := false) rfl).yd) (Ey rfl ((s6 rfl rfl).yd) (Eu (l4 rfl (Ew Z1 (Ei rfl ?_)))))
      exact Eu (E.ret (t7 (l0 (l0 (t7 (l0 (Fb rfl rfl (by grind [P6, Y1, E6, d1, d2, t1, t2]))))))))
    ·refine Em rfl (Es rfl (Es rfl (Es rfl (Es rfl (Ey rfl ((r9 rfl rfl).yd) (Eu (l6 rfl (i8 (o4 (Et (Ez Z3 (Em rfl (Ey rfl ((Y.add rfl rfl om om).yd) (Ei rfl (Eu (f7 (f7 ?_)))))))))))))))))
     exact u9 br (g + 1) rs (.refl _) ⟨by omega, by grind [Y1, E6, d1, d2, t1, t2]⟩ om
   ·refine Dyp 10 rfl (Y.not (b := false) rfl) (o3 kr (Et (l4 rfl (Ew Z1 (Ei rfl ?_)))))
    exact Eu (E.ret (l0 (t7 (l0 (l0 (t7 (l0 (Fb rfl rfl (by grind [P6, Y1, E6, d1, d2, t1, t2])))))))))
  ·refine Eu (l6 rfl (E.exit (n8 (n8 (w5 (Et (Ew Z1 (Ei rfl ?_))))))))
   exact Eu (E.ret (Fb rfl rfl (by grind [P6, Y1, E6, d1, d2, t1, t2])))
theorem a7Q : Tr Tryz.prog 172 [.slice a_l m_l c_l, .agg #[.int .i64 l2, .slice w7 C6 w6], .slice a_bound m_bound c_bound] (fun w L => Ro w L C8 [.slice a_l m_l c_l] l ∧ I64 l2 ∧ Ro w L eIs [.slice w7 C6 w6] d9 ∧ Ro w L eIs [.slice a_bound m_bound c_bound] H0) [] (κ := Unit) (fun k => True) (fun k => .int .i64 (P0 l (l2, d9) H0)) (fun k => []) := by
 refine Tr.intro Tryz.func172 rfl (n := 22) rfl (by decide +kernel) bl (fr := [(0, .slice a_l m_l c_l), (1, .agg #[.int .i64 l2, .slice w7 C6 w6]), (2, .slice a_bound m_bound c_bound)]) rfl fun w L hR => ?_
 obtain ⟨hl, M4, D6, hbound⟩ := hR
 obtain ⟨rfl, ll⟩ := hl.slen
 obtain ⟨rfl, T7⟩ := D6.slen
 obtain ⟨rfl, lbound⟩ := hbound.slen
 refine Ew Z2 (Est rfl (N.box (cs := [_, _]) rfl dc rfl) (fun b4 _ => (Ei rfl (Eu (Eq_ (Ew Z1 (Ei rfl (Eu (E.block (E.loop (κ := Nat) (fun g => g ≤ l.length ∧ ∀ x ∈ l.take g, P6 x (l2, d9) H0 = false) (fun g => [(0, .slice a_l l.length c_l), (2, .slice a_bound H0.length c_bound), (4, .pointer (some ⟨b4, 0, none⟩)), (7, .int .i64 (g : Int))]) (fun g => [pt b4 81 [.int .i64 l2, .slice w7 d9.length w6]]) (fun g => l.length - g) 0 ⟨Nat.zero_le _, by simp⟩ ⟨rfl, rfl, rfl, rfl, trivial⟩ (.refl _) (fun g pg => ?_)))))))))))
 obtain ⟨pk, pa⟩ := pg
 refine Eq_ (Ew Z4 (Em rfl (Em rfl (Ey rfl ((Y.len us_Methods rfl).yd) (Ey rfl ((Y.lss rfl rfl).yd) (n0 (fun q11 => ?_) (fun q11 => ?_)))))))
 ·refine Eu (l4 rfl (i8 (Et (Eq_ (E.block (Eq_ (D.region (fun j => true) mixed (Dyp 0 rfl (j4 rfl) (Dyp 1 rfl (j4 rfl) ?_)))))))))
  obtain ⟨eb16, eo16, ec16, ea16, er16, el16, eh16⟩ := hl.elem g om
  obtain ⟨xa16_0, xc16_0, rfl, ei16_0, xh16_0, ei16_2, ei16_3, ei16_4⟩ := H9 er16
  have := xh16_0.slen.2
  refine Dyp 2 rfl (o6 us_Methods ty_Method rfl ea16 rfl g rfl om) (Dy 3 rfl (o0 (cs := [_, _, _, _, _]) ty_Method rfl (eh16 _) rfl) (Dy 4 rfl (o0 (cs := [_, _]) ty_Atom rfl (Has.pt m0) rfl) (Dyp 5 rfl (j4 rfl) (u7 6 rfl rfl kr (fun _ => rfl) (k6 a1F rfl rfl rfl dc (fun w Lp hA => ⟨ei16_0, hA.ro xh16_0, ei16_2, ei16_3, ei16_4, M4, hA.ro D6, hA.ro hbound⟩)) (fun _ _ => (Ent.b (fun q20 => ?_) (fun q20 => ?_)))))))
  ·refine o3 kr (Et (l4 rfl (Ew Z2 (Em rfl (Ei rfl ?_)))))
   exact Eu (E.ret (t7 (l0 (l0 (t7 (l0 (Fg rfl rfl () (congrArg (Value.int .i64) (by first | exact M6 (p := fun m => P6 m (l2, d9) H0) om pa q20 | exact K5 (p := fun m => P6 m (l2, d9) H0) om pa)) rfl)))))))
  ·refine o3 kr (Et (l6 rfl (i8 (o4 (Et (Ez Z3 (Em rfl (Ey rfl ((Y.add rfl rfl om om).yd) (Ei rfl ?_)))))))))
   exact Eu (u9 br (g + 1) rs (.refl _) ⟨by omega, by exact Q4 (p := fun m => P6 m (l2, d9) H0) om pa q20⟩ om)
 ·refine Eu (l6 rfl (E.exit (n8 (n8 (w5 (Et (Ew Z1 (Ei rfl ?_))))))))
  exact Eu (E.ret (Fg rfl rfl () (congrArg (Value.int .i64) (by first | exact M6 (p := fun m => P6 m (l2, d9) H0) om pa q20 | exact K5 (p := fun m => P6 m (l2, d9) H0) om pa)) rfl))
theorem a2c (hz : H0.length ≤ 1000) (ht : d9.length ≤ 3) : Tr Tryz.prog 63 [.slice a_bound m_bound c_bound, .agg #[.int .i64 l2, .slice w7 C6 w6]] (fun w L => Ro w L eIs [.slice a_bound m_bound c_bound] H0 ∧ I64 l2 ∧ Ro w L eIs [.slice w7 C6 w6] d9) [] (κ := Option Addr × Nat × Nat) (fun k => True) (fun k => .slice k.1 k.2.1 k.2.2) (fun k => [ow eIs [.slice k.1 k.2.1 k.2.2] (a0l H0 (l2, d9))]) := by
 refine Tr.intro Tryz.func63 rfl (n := 31) rfl (by decide +kernel) bl (fr := [(0, .slice a_bound m_bound c_bound), (1, .agg #[.int .i64 l2, .slice w7 C6 w6])]) rfl fun w L hR => ?_
 obtain ⟨hbound, M4, D6⟩ := hR
 obtain ⟨rfl, lbound⟩ := hbound.slen
 obtain ⟨rfl, T7⟩ := D6.slen
 refine Ew Z2 (Est rfl (N.box (cs := [_, _]) rfl dc rfl) (fun b3 _ => (Ei rfl (Ev Z4 (Est rfl (Nb [] [] us_Is f0 rfl rfl) (fun b7 _ => (Ent.drop (Em rfl (Est rfl (J3 (E := Enc.int) Plain.int us_Is f0 rfl rfl rfl hbound bn bn dc) (fun p9 _ => (Ei rfl (Eu (Eq_ (Ew Z1 (Ei rfl (Eu (E.block (j8 (congrArg (ow eIs [_]) (show H0 = ((d9.take 0).filter fun t => inR t 10 17).foldl I7 H0 from by first | rfl | (simp; done) | grind [d1, d2, t1, t2])) (E.loop (κ := Nat × Option Addr × Nat × Nat) (fun g => g.1 ≤ d9.length ∧ True) (fun g => [(3, .pointer (some ⟨b3, 0, none⟩)), (5, .slice g.2.1 g.2.2.1 g.2.2.2), (6, .int .i64 (↑g.1 : Int))]) (fun g => [ow eIs [.slice g.2.1 g.2.2.1 g.2.2.2] (((d9.take g.1).filter fun t => inR t 10 17).foldl I7 H0), pt b3 81 [.int .i64 l2, .slice w7 d9.length w6]]) (fun g => d9.length - g.1) (0, p9.1, H0.length, p9.2) ⟨Nat.zero_le _, by simp⟩ ⟨rfl, rfl, rfl, trivial⟩ (.refl _) (fun g pg => ?_))))))))))))))))))))
 obtain ⟨g, aA0_0, mA0_0, cA0_0⟩ := g
 try dsimp only at pg
 try dsimp only
 obtain ⟨pk, pa⟩ := pg
 have jf := a2v (b := H0) (t := (d9.take g).filter fun t => inR t 10 17)
 have jg := List.length_filter_le (fun t => inR t 10 17) (d9.take g)
 have jh := List.length_take_le g d9
 refine i9 m0 fun eaA0_0 laA0_0 => ?_
 subst eaA0_0
 refine Eq_ (Ew Z5 (Em rfl (Ey rfl ((i7 fo_Atom_1 ty_Is dc rfl).yd) (Ey rfl (f8 ty_Is rfl (Hz (mS m0) 1 rfl) rfl) (Ey rfl ((Y.len us_Is rfl).yd) (Ey rfl ((Y.lss rfl rfl).yd) (n0 (fun q14 => ?_) (fun q14 => ?_))))))))
 ·refine Eu (l4 rfl (i8 (Et (Eq_ (E.block (Ew Z6 (Ey rfl ((i7 fo_Atom_1 ty_Is dc rfl).yd) (Ey rfl (f8 ty_Is rfl (Hz (mS m0) 1 rfl) rfl) (Em rfl ?_)))))))))
  obtain ⟨eb20, eo20, ea20, ei20, eh20⟩ := D6.elemI g om
  refine Ey rfl ((o6 us_Is f0 rfl ea20 rfl g rfl om).yd) (Ey rfl (f8 f0 rfl (eh20 _) rfl) (Est rfl (k6 a0e rfl rfl rfl dc tv) (fun _ _ => (Ent.b (fun q22 => ?_) (fun q22 => ?_)))))
  ·refine Eu (l4 rfl (Ez Z8 (Em rfl (Ey rfl ((i7 fo_Atom_1 ty_Is dc rfl).yd) (Ey rfl (f8 ty_Is rfl (Hz (mS m0) 1 rfl) rfl) (Em rfl (Ey rfl ((o6 us_Is f0 rfl ea20 rfl g rfl om).yd) (Ey rfl (f8 f0 rfl (eh20 _) rfl) (Est rfl (N.call (pre := [_]) (a4J fc) rfl rfl rfl dc rfl (fun w Lp hA => ei20)) (fun k29 _ => ?_))))))))))
   obtain ⟨a29, m29, c29⟩ := k29
   refine i9 m0 fun e29 l29 => ?_
   subst e29
   refine Ei rfl (En (o4 (Et (Ez Z3 (Em rfl (Ey rfl ((Y.add rfl rfl om om).yd) (Ei rfl (Eu (j8 (congrArg (ow eIs [_]) (show I7 (((d9.take g).filter fun t => inR t 10 17).foldl I7 H0) d9[g] = ((d9.take (g + 1)).filter fun t => inR t 10 17).foldl I7 H0 from by first | exact b2M om q22 | exact b2O om q22)) (f7 (f7 ?_)))))))))))
   exact Ea (g + 1, a29, (I7 (((d9.take g).filter fun t => inR t 10 17).foldl I7 H0) d9[g]).length, c29) ⟨oz, trivial⟩
  ·refine Eu (l6 rfl (i8 (o4 (Et (Ez Z3 (Em rfl (Ey rfl ((Y.add rfl rfl om om).yd) (Ei rfl (Eu (j8 (congrArg (ow eIs [_]) (show ((d9.take g).filter fun t => inR t 10 17).foldl I7 H0 = ((d9.take (g + 1)).filter fun t => inR t 10 17).foldl I7 H0 from by first | exact b2M om q22 | exact b2O om q22)) (f7 (f7 ?_))))))))))))
   exact Ea (g + 1, aA0_0, (((d9.take g).filter fun t => inR t 10 17).foldl I7 H0).length, cA0_0) ⟨oz, trivial⟩
 ·refine Eu (l6 rfl (E.exit (n8 (n8 (w5 (Et (Ew Z2 (Em rfl (Ei rfl (Eu (E.ret (j8 (congrArg (ow eIs [_]) (show _ = a0l H0 (l2, d9) by rw [List.take_of_length_le om]; rfl)) ?_))))))))))))
  exact Fg rfl rfl (_, _, _) rfl rfl
theorem a6B {r6 : Option Addr} {t6 r5 : Nat} {f9 : List Int} {o2 : Option Addr} {s7 o1 : Nat} {a6 : List (Int × List Int)} (hl : l.length ≤ 1000) (ha : a6.length ≤ 100) (ht : ∀ a ∈ a6, a.2.length ≤ 3) : Tr Tryz.prog 109 [.slice a_l m_l c_l, .agg #[.slice r6 t6 r5, .slice o2 s7 o1]] (fun w L => Ro w L C8 [.slice a_l m_l c_l] l ∧ Ro w L eIs [.slice r6 t6 r5] f9 ∧ Ro w L G8 [.slice o2 s7 o1] a6) [] (κ := Option Addr × Nat × Nat) (fun k => True) (fun k => .slice k.1 k.2.1 k.2.2) (fun k => [ow H5 [.slice k.1 k.2.1 k.2.2] ((grF l a6).1)]) := by
 refine Tr.intro Tryz.func109 rfl (n := 62) rfl (by decide +kernel) bl (fr := [(0, .slice a_l m_l c_l), (1, .agg #[.slice r6 t6 r5, .slice o2 s7 o1])]) rfl fun w L hR => ?_
 obtain ⟨hl, y8, v6⟩ := hR
 obtain ⟨rfl, ll⟩ := hl.slen
 obtain ⟨rfl, N5⟩ := y8.slen
 obtain ⟨rfl, K9⟩ := v6.slen
 refine Ew Z2 (Est rfl (N.box (cs := [_, _]) rfl dc rfl) (fun b3 _ => (Ei rfl (Ev Z2 (Est rfl (Nb [] [] us_Steps ty_Step rfl rfl) (fun b11 _ => (Ent.drop (Ei rfl (Ev Z2 (Est rfl (Nb [] [] us_Is f0 rfl rfl) (fun b12 _ => (Ent.drop (Ei rfl (Ev Z2 (Est rfl (Nb [] [] us_Is f0 rfl rfl) (fun b13 _ => (Ent.drop (Ei rfl (Eu (Eq_ (Ew Z1 (Ei rfl (Eu (E.block (n9 (A := []) (Own.nil (E := X6) (e := tStep) (a := (some ⟨b11, 0, none⟩))) rfl (j8 (congrArg (ow H5 [_]) (show [] = (grI l a6 0).1 from by rfl)) (n9 (A := []) (Own.nil (E := Enc.int) (e := tI) (a := (some ⟨b12, 0, none⟩))) rfl ?_)))))))))))))))))))))))))))
 refine j8 (congrArg (ow eIs [_]) (show [] = grV l a6 0 from by rfl)) (n9 (A := []) (Own.nil (E := Enc.int) (e := tI) (a := (some ⟨b13, 0, none⟩))) rfl (j8 (congrArg (ow eIs [_]) (show [] = ((grI l a6 0).1).map (fun x => x.1) from by rfl)) (E.loop (κ := Nat × Option Addr × Nat × Nat × Option Addr × Nat × Nat × Option Addr × Nat × Nat) (fun r => r.1 ≤ a6.length ∧ True) (fun r => [(0, .slice a_l l.length c_l), (3, .pointer (some ⟨b3, 0, none⟩)), (5, .slice r.2.1 r.2.2.1 r.2.2.2.1), (6, .slice r.2.2.2.2.1 r.2.2.2.2.2.1 r.2.2.2.2.2.2.1), (7, .slice r.2.2.2.2.2.2.2.1 r.2.2.2.2.2.2.2.2.1 r.2.2.2.2.2.2.2.2.2), (8, .int .i64 (↑r.1 : Int))]) (fun r => [ow eIs [.slice r.2.2.2.2.2.2.2.1 r.2.2.2.2.2.2.2.2.1 r.2.2.2.2.2.2.2.2.2] (((grI l a6 r.1).1).map (fun x => x.1)), ow eIs [.slice r.2.2.2.2.1 r.2.2.2.2.2.1 r.2.2.2.2.2.2.1] (grV l a6 r.1), ow H5 [.slice r.2.1 r.2.2.1 r.2.2.2.1] ((grI l a6 r.1).1), pt b3 28 [.slice r6 f9.length r5, .slice o2 a6.length o1]]) (fun r => a6.length - r.1) (0, (some ⟨b11, 0, none⟩), 0, 0, (some ⟨b12, 0, none⟩), 0, 0, (some ⟨b13, 0, none⟩), 0, 0) ⟨Nat.zero_le _, by simp⟩ ⟨rfl, rfl, rfl, rfl, rfl, rfl, trivial⟩ (.refl _) (fun r pr => ?_))))
 obtain ⟨r, aA0_0, mA0_0, cA0_0, aA0_1, mA0_1, cA0_1, aA0_2, mA0_2, cA0_2⟩ := r
 try dsimp only at pr
 try dsimp only
 obtain ⟨pk, pa⟩ := pr
 have jb := b5B (l := l) (d8 := a6) (n := r) ht
 have js := b4R (l := l) (d8 := a6) (n := r)
 have ju : (((grI l a6 r).1).map fun x => x.1).length = ((grI l a6 r).1).length := List.length_map ..
 refine i9 (mS (mS m0)) fun eaA0_0 laA0_0 => ?_
 subst eaA0_0
 refine i9 (mS m0) fun eaA0_1 laA0_1 => ?_
 subst eaA0_1
 refine i9 m0 fun eaA0_2 laA0_2 => ?_
 subst eaA0_2
 refine Eq_ (Ew Z5 (Em rfl (Ey rfl ((i7 fo_Query_1 ty_Atoms dc rfl).yd) (Ey rfl (f8 ty_Atoms rfl (Hz (mS (mS (mS m0))) 1 rfl) rfl) (Ey rfl ((Y.len us_Atoms rfl).yd) (Ey rfl ((Y.lss rfl rfl).yd) (n0 (fun q18 => ?_) (fun q18 => ?_))))))))
 ·refine Eu (l4 rfl (i8 (Et (Eq_ (E.block (Ew Z1 (Ei rfl (Eu (E.block (E.loop (κ := Nat × Option Addr × Nat × Nat × Option Addr × Nat × Nat × Option Addr × Nat × Nat) (fun g => g.1 ≤ a6.length ∧ sgI l a6 r g.1) (fun g => [(0, .slice a_l l.length c_l), (3, .pointer (some ⟨b3, 0, none⟩)), (5, .slice g.2.1 g.2.2.1 g.2.2.2.1), (6, .slice g.2.2.2.2.1 g.2.2.2.2.2.1 g.2.2.2.2.2.2.1), (7, .slice g.2.2.2.2.2.2.2.1 g.2.2.2.2.2.2.2.2.1 g.2.2.2.2.2.2.2.2.2), (8, .int .i64 (r : Int)), (9, .int .i64 (↑g.1 : Int))]) (fun g => [ow eIs [.slice g.2.2.2.2.2.2.2.1 g.2.2.2.2.2.2.2.2.1 g.2.2.2.2.2.2.2.2.2] (((grI l a6 r).1).map (fun x => x.1)), ow eIs [.slice g.2.2.2.2.1 g.2.2.2.2.2.1 g.2.2.2.2.2.2.1] (grV l a6 r), ow H5 [.slice g.2.1 g.2.2.1 g.2.2.2.1] ((grI l a6 r).1), pt b3 28 [.slice r6 f9.length r5, .slice o2 a6.length o1]]) (fun g => a6.length - g.1) (0, aA0_0, ((grI l a6 r).1).length, cA0_0, aA0_1, (grV l a6 r).length, cA0_1, aA0_2, (((grI l a6 r).1).map (fun x => x.1)).length, cA0_2) ⟨Nat.zero_le _, b5a⟩ ⟨rfl, rfl, rfl, rfl, rfl, rfl, rfl, trivial⟩ (.refl _) (fun g pg => ?_)))))))))))
  obtain ⟨g, aA1_0, mA1_0, cA1_0, aA1_1, mA1_1, cA1_1, aA1_2, mA1_2, cA1_2⟩ := g
  try dsimp only at pg
  try dsimp only
  obtain ⟨pk, pa⟩ := pg
  refine i9 (mS (mS m0)) fun eaA1_0 laA1_0 => ?_
  subst eaA1_0
  refine i9 (mS m0) fun eaA1_1 laA1_1 => ?_
  subst eaA1_1
  refine i9 m0 fun eaA1_2 laA1_2 => ?_
  subst eaA1_2
  refine Eq_ (Ew Z5 (Em rfl (Ey rfl ((i7 fo_Query_1 ty_Atoms dc rfl).yd) (Ey rfl (f8 ty_Atoms rfl (Hz (mS (mS (mS m0))) 1 rfl) rfl) (Ey rfl ((Y.len us_Atoms rfl).yd) (Ey rfl ((Y.lss rfl rfl).yd) (n0 (fun q25 => ?_) (fun q25 => ?_))))))))
  ·refine Eu (l4 rfl (i8 (Et (Eq_ (E.block (Ew Z9 (Em rfl (Ey rfl ((i7 fo_Query_1 ty_Atoms dc rfl).yd) (Ey rfl (f8 ty_Atoms rfl (Hz (mS (mS (mS m0))) 1 rfl) rfl) (Em rfl ?_))))))))))
   obtain ⟨eb32, eo32, ec32, ea32, er32, el32, eh32⟩ := v6.elem g om
   obtain ⟨xa32_0, xc32_0, rfl, ei32_0, xh32_0⟩ := P1 er32
   have := xh32_0.slen.2
   refine Ey rfl ((o6 us_Atoms ty_Atom rfl ea32 rfl g rfl om).yd) (Ey rfl (o0 (cs := [_, _]) ty_Atom rfl (eh32 _) rfl) (Em rfl (Est rfl (k6 a7Q rfl rfl rfl dc (fun w Lp hA => ⟨hA.ro hl, ei32_0, hA.ro xh32_0, hA.ow (mS m0)⟩)) (fun _ _ => (Ei rfl (Ev Z8 (Em rfl (Ey rfl ((Y.geq rfl rfl).yd) (n0 (fun q37 => ?_) (fun q37 => ?_))))))))))
   ·have jm := b3T (l := l) (a := a6[g]) (b := grV l a6 r)
    refine Em rfl (Em rfl (Em rfl (Est rfl (k6 a0K rfl rfl rfl dc (fun w Lp hA => hA.ow m0)) (fun _ _ => (Ent.b (fun q41 => ?_) (fun q41 => ?_))))))
    ·refine Ey rfl ((Y.not (b := true) rfl).yd) (Ey rfl ((s6 rfl rfl).yd) (Eu (l6 rfl (i8 (o4 (Et (Ez Z3 (Em rfl (Ey rfl ((Y.add rfl rfl om om).yd) (Ei rfl (Eu (m6 (m6 (m6 (m6 ?_)))))))))))))))
     exact Ea (g + 1, aA1_0, ((grI l a6 r).1).length, cA1_0, aA1_1, (grV l a6 r).length, cA1_1, aA1_2, (((grI l a6 r).1).map (fun x => x.1)).length, cA1_2) ⟨oz, (show sgI l a6 r (g + 1) from by first | exact b1e pa om q37 | exact b1x pa om q41)⟩
    ·refine Ey rfl ((Y.not (b := false) rfl).yd) (Ey rfl ((s6 rfl rfl).yd) (Eu (l4 rfl (Ew Z7 (Em rfl (Em rfl (Em rfl (Ey rfl ((I6 (pvs := [_, _]) (cs := [_, _]) ty_Step pl_Step rfl rfl).yd) (Est rfl (Nb [_] [_, _] us_Steps ty_Step rfl rfl) (fun b48 _ => (m6 (Est rfl (y6 (E := X6) (ex := ((g : Int), P0 l a6[g] (grV l a6 r))) us_Steps ty_Step rfl rfl rfl (a7m (x := ((g : Int), P0 l a6[g] (grV l a6 r))) i6 i6) rfl bn bn dc) (fun p49 _ => (Ei rfl (Ev Z5 (Em rfl (Em rfl (Est rfl (Nb [_] [_] us_Is f0 rfl rfl) (fun b52 _ => (j6 (Est rfl (y6 (E := Enc.int) (ex := (g : Int)) us_Is f0 rfl rfl rfl (Own.int i6) rfl bn bn dc) (fun p53 _ => ?_))))))))))))))))))))))
     refine Ei rfl (Ev Z8 (Em rfl (Ey rfl ((i7 fo_Query_1 ty_Atoms dc rfl).yd) (Ey rfl (f8 ty_Atoms rfl (Hz (mS (mS (mS m0))) 1 rfl) rfl) (Em rfl (Ey rfl ((o6 us_Atoms ty_Atom rfl ea32 rfl g rfl om).yd) (Ey rfl (o0 (cs := [_, _]) ty_Atom rfl (eh32 _) rfl) (Est rfl (N.call (a2c fo (ht _ (List.getElem_mem om))) rfl rfl rfl dc rfl (fun w Lp hA => ⟨hA.ow (mS (mS m0)), ei32_0, hA.ro xh32_0⟩)) (fun k60 _ => ?_)))))))))
     obtain ⟨a60, m60, c60⟩ := k60
     refine i9 m0 fun e60 l60 => ?_
     subst e60
     refine Ei rfl (Eu (E.exit (b7G rfl (n8 (n8 (w5 (o4 (Et (Ez Z3 (Em rfl (Ey rfl ((Y.add rfl rfl om om).yd) (Ei rfl (Eu (m6 (Ent.drop (j6 (j8 (congrArg (ow H5 [_]) (show ((grI l a6 r).1) ++ [((g : Int), P0 l a6[g] (grV l a6 r))] = (grI l a6 (r + 1)).1 from by first | exact sg1 pa om q37 q41 | exact sg2 pa om q37 q41 | exact sg3 pa om q37 q41 | exact congrArg (fun z => z.1) (se1 pa om) | exact se2 pa om | exact congrArg (fun z => z.1.map fun x => x.1) (se1 pa om))) (f7 (j8 (congrArg (ow eIs [_]) (show a0l (grV l a6 r) a6[g] = grV l a6 (r + 1) from by first | exact sg1 pa om q37 q41 | exact sg2 pa om q37 q41 | exact sg3 pa om q37 q41 | exact congrArg (fun z => z.1) (se1 pa om) | exact se2 pa om | exact congrArg (fun z => z.1.map fun x => x.1) (se1 pa om))) (j6 (j8 (congrArg (ow eIs [_]) (show (((grI l a6 r).1).map (fun x => x.1)) ++ [(g : Int)] = ((grI l a6 (r + 1)).1).map (fun x => x.1) from by first | exact sg1 pa om q37 q41 | exact sg2 pa om q37 q41 | exact sg3 pa om q37 q41 | exact congrArg (fun z => z.1) (se1 pa om) | exact se2 pa om | exact congrArg (fun z => z.1.map fun x => x.1) (se1 pa om))) (m6 (m6 (m6 ?_))))))))))))))))))))))))
     refine m6 ?_
     exact Ea (r + 1, p49.1, (((grI l a6 r).1).length + 1), p49.2, a60, (a0l (grV l a6 r) a6[g]).length, c60, p53.1, ((((grI l a6 r).1).map (fun x => x.1)).length + 1), p53.2) ⟨oz, trivial⟩
   ·refine Em rfl (Es rfl (Es rfl (Es rfl (Es rfl (Ey rfl ((r9 rfl rfl).yd) (Eu (l6 rfl (i8 (o4 (Et (Ez Z3 (Em rfl (Ey rfl ((Y.add rfl rfl om om).yd) (Ei rfl (Eu (m6 (m6 (m6 (m6 ?_)))))))))))))))))))
    exact Ea (g + 1, aA1_0, ((grI l a6 r).1).length, cA1_0, aA1_1, (grV l a6 r).length, cA1_1, aA1_2, (((grI l a6 r).1).map (fun x => x.1)).length, cA1_2) ⟨oz, (show sgI l a6 r (g + 1) from by first | exact b1e pa om q37 | exact b1x pa om q41)⟩
  ·refine Eu (l6 rfl (E.exit (n8 (n8 (w5 (o4 (Et (Ez Z3 (Em rfl (Ey rfl ((Y.add rfl rfl om om).yd) (Ei rfl (Eu (j6 (j8 (congrArg (ow H5 [_]) (show (grI l a6 r).1 = (grI l a6 (r + 1)).1 from by first | exact sg1 pa om q37 q41 | exact sg2 pa om q37 q41 | exact sg3 pa om q37 q41 | exact congrArg (fun z => z.1) (se1 pa om) | exact se2 pa om | exact congrArg (fun z => z.1.map fun x => x.1) (se1 pa om))) (j6 (j8 (congrArg (ow eIs [_]) (show grV l a6 r = grV l a6 (r + 1) from by first | exact sg1 pa om q37 q41 | exact sg2 pa om q37 q41 | exact sg3 pa om q37 q41 | exact congrArg (fun z => z.1) (se1 pa om) | exact se2 pa om | exact congrArg (fun z => z.1.map fun x => x.1) (se1 pa om))) (j6 (j8 (congrArg (ow eIs [_]) (show ((grI l a6 r).1).map (fun x => x.1) = ((grI l a6 (r + 1)).1).map (fun x => x.1) from by first | exact sg1 pa om q37 q41 | exact sg2 pa om q37 q41 | exact sg3 pa om q37 q41 | exact congrArg (fun z => z.1) (se1 pa om) | exact se2 pa om | exact congrArg (fun z => z.1.map fun x => x.1) (se1 pa om))) (m6 (m6 (m6 (m6 ?_))))))))))))))))))))))
   exact Ea (r + 1, aA1_0, ((grI l a6 r).1).length, cA1_0, aA1_1, (grV l a6 r).length, cA1_1, aA1_2, (((grI l a6 r).1).map (fun x => x.1)).length, cA1_2) ⟨oz, trivial⟩
 ·refine Eu (l6 rfl (E.exit (n8 (n8 (w5 (Et (Ew Z2 (Em rfl (Ei rfl (Eu (E.ret (j6 (j8 (congrArg (ow H5 [_]) (show _ = (grF l a6).1 by rw [show r = a6.length from by omega]; rfl)) ?_)))))))))))))
  exact Fg rfl rfl (_, _, _) rfl rfl
end Go.Proofs.YtlfhopooaejpfaaGreat
end
