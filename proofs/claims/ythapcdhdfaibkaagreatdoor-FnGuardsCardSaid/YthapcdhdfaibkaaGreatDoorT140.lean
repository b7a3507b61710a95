import Derived.Laws.StructEq
import Derived.Test.YthapcdhdfaibkaaGreatDoorT130
section
namespace Go.Proofs.YthapcdhdfaibkaaGreatDoor
open Go.RowKit
set_option linter.all false
theorem c0f {P : Program} {n : Nat} {fr : Fr} {x y : Operand} {T U t : TypeId} {a b c d : Int} {z : List Value} {by' : Nat} (hg : P.eqGuardType P.depth T = false) (hp : P.stoodInHeld T = false) (hT : P.underlying T = some (.struct (P.fieldsOf T)))
    (hF : ((P.fieldsOf T).toList.map fun f => (f.name == "_", f.type, f.offset)) = [(false, t, 0), (false, t, 1)]) (hi : P.underlying t = some (.int .i64)) (ht : TyOk P t false 1 z by') (hx : ev fr x = some (.agg #[.int .i64 a, .int .i64 b])) (hy : ev fr y = some (.agg #[.int .i64 c, .int .i64 d])) :
    Yp P n fr (.binOp .neq T x y U) (.bool (decide ((a, b) ≠ (c, d)))) := fun ac h w' dd t' p af g => by
  have e1 : ∀ w : World, (Op.equalIn 10000 T (.agg #[.int .i64 a, .int .i64 b]) (.agg #[.int .i64 c, .int .i64 d])).run P w = .ok (decide (a = c) && decide (b = d)) w := fun w => by
    rw [show (10000 : Nat) = 9999 + 1 from rfl, run_equalIn_agg w 9999 T _ _ hT hp]
    generalize (P.fieldsOf T).toList = fs at hF
    obtain ⟨f0, l1, rfl, h1, h2⟩ := List.map_eq_cons_iff.1 hF
    obtain ⟨f1, l2, rfl, h3, h4⟩ := List.map_eq_cons_iff.1 h2
    have h5 := List.map_eq_nil_iff.1 h4
    subst h5
    · simp only [Prod.mk.injEq] at h1 h3
      obtain ⟨n0, t0, o0⟩ := h1
      obtain ⟨n1, t1, o1⟩ := h3
      have n0' : f0.name ≠ "_" := by simpa using n0
      have n1' : f1.name ≠ "_" := by simpa using n1
      have q : ∀ (xs : Array Value) (o : Nat) (v : Value) (w : World), xs[o]? = some v → (part t xs o).run P w = .ok v w := fun xs o v w e => by
        simp [part, ht.run_isAgg, e]
      have i : ∀ (u v : Int) (w : World), (Op.equalIn 9999 t (.int .i64 u) (.int .i64 v)).run P w = .ok (decide (u = v)) w := fun u v w => by
        rw [show (9999 : Nat) = 9998 + 1 from rfl, run_equalIn_int w 9998 t .i64 .i64 u v hi]
        rw [show (u == v) = decide (u = v) from rfl]
      simp only [Op.eqFields, t0, t1, o0, o1, n0', n1', ne_eq, not_false_eq_true, if_true, Sem.run_bind]
      rw [q _ 0 (.int .i64 a) _ rfl]
      simp only [Result.andThen_ok]
      rw [q _ 0 (.int .i64 c) _ rfl]
      simp only [Result.andThen_ok, i]
      by_cases h1 : a = c
      · simp only [h1, decide_true, Bool.not_true, Bool.false_eq_true, if_false, Sem.run_bind, Bool.true_and]
        rw [q _ 1 (.int .i64 b) _ rfl]
        simp only [Result.andThen_ok]
        rw [q _ 1 (.int .i64 d) _ rfl]
        simp only [Result.andThen_ok, i]
        by_cases h2 : b = d
        · simp [h2]
        · simp [h2]
      · simp [h1]
  have e2 : decide ((a, b) ≠ (c, d)) = !(decide (a = c) && decide (b = d)) := by
    by_cases h1 : a = c <;> by_cases h2 : b = d <;> simp [h1, h2]
  rw [e2]
  simp only [execOp, h.ev hx, h.ev hy, Sem.run_bind, run_eqGuard_agg _ _ _ _ _ _ _ hg, Result.andThen_ok, run_neq_struct, e1, Sem.run_pure]
end Go.Proofs.YthapcdhdfaibkaaGreatDoor
end
section
namespace Go.Proofs.YthapcdhdfaibkaaGreatDoor
open Go.RowKit
set_option linter.all false
section
variable {P : Program} {n : Nat} {w0 : World} {L0 : List Nat} {fr : Fr} {H : List HP} {fn : Func} {κ : Type} {φ : κ → Prop} {ret : κ → Value} {post : κ → List HP} {wb : World} {Lb : List Nat}
theorem b6q (hb : a0D w0 L0 wb Lb) {e : Exit} {s0 : Nat} {v0 : Value} {s1 b1 k1 y1 : Nat} {T1 T1' : TypeId} {z1 cs1 : List Value} {s2 : Nat} {v2 : Value} {s3 : Nat} {v3 : Value} (hres : fn.results = #[.tmp s0, .cell s1 T1, .tmp s2, .tmp s3]) (hv0 : fr.lookup s0 = some v0) (hv1 : fr.lookup s1 = some (.pointer (some ⟨b1, 0, none⟩))) (hv2 : fr.lookup s2 = some v2) (hv3 : fr.lookup s3 = some v3) (hm1 : pt b1 T1' cs1 ∈ H) (ht1 : TyOk P T1 true k1 z1 y1) (hl1 : cs1.length = k1)
    (k : κ) (hk : φ k) (hr : .tuple #[v0, .agg cs1.toArray, v2, v3] = ret k) {J : List HP} (hH : H.Perm (post k ++ J)) (he : e = .ret ∨ e = .normal) : Ent n w0 L0 fr H (bodyPost P fn (Fin φ ret post wb Lb) e) :=
  a3i hb he k hk hr hH fun a w h1 h2 => by
    have u0 := h1.ev (x := .tmp s0) hv0
    have u1 := h1.ev (x := .tmp s1) hv1
    have u2 := h1.ev (x := .tmp s2) hv2
    have u3 := h1.ev (x := .tmp s3) hv3
    simp only [Act.eval] at u0 u1 u2 u3
    have q1 := ((Has.pt (w0 := w0) (L0 := L0) hm1) w h2).run_load (P := P) (v := .agg cs1.toArray) ht1 hl1 rfl (fun h => by cases h)
    simp only [Instr.loadAt, Instr.sureAddr, Sem.run_bind, Sem.run_pure, Result.andThen_ok] at q1
    rw [Array.getD_eq_getD_getElem?] at u0 u1 u2 u3
    simp [results, hres, u0, u1, u2, u3, asAddr, q1]
theorem c0o (hb : a0D w0 L0 wb Lb) {e : Exit} {s0 : Nat} {v0 : Value} {s1 : Nat} {v1 : Value} {s2 b2 k2 y2 : Nat} {T2 T2' : TypeId} {z2 cs2 : List Value} {s3 : Nat} {v3 : Value} (hres : fn.results = #[.tmp s0, .tmp s1, .cell s2 T2, .tmp s3]) (hv0 : fr.lookup s0 = some v0) (hv1 : fr.lookup s1 = some v1) (hv2 : fr.lookup s2 = some (.pointer (some ⟨b2, 0, none⟩))) (hv3 : fr.lookup s3 = some v3) (hm2 : pt b2 T2' cs2 ∈ H) (ht2 : TyOk P T2 true k2 z2 y2) (hl2 : cs2.length = k2)
    (k : κ) (hk : φ k) (hr : .tuple #[v0, v1, .agg cs2.toArray, v3] = ret k) {J : List HP} (hH : H.Perm (post k ++ J)) (he : e = .ret ∨ e = .normal) : Ent n w0 L0 fr H (bodyPost P fn (Fin φ ret post wb Lb) e) :=
  a3i hb he k hk hr hH fun a w h1 h2 => by
    have u0 := h1.ev (x := .tmp s0) hv0
    have u1 := h1.ev (x := .tmp s1) hv1
    have u2 := h1.ev (x := .tmp s2) hv2
    have u3 := h1.ev (x := .tmp s3) hv3
    simp only [Act.eval] at u0 u1 u2 u3
    have q2 := ((Has.pt (w0 := w0) (L0 := L0) hm2) w h2).run_load (P := P) (v := .agg cs2.toArray) ht2 hl2 rfl (fun h => by cases h)
    simp only [Instr.loadAt, Instr.sureAddr, Sem.run_bind, Sem.run_pure, Result.andThen_ok] at q2
    rw [Array.getD_eq_getD_getElem?] at u0 u1 u2 u3
    simp [results, hres, u0, u1, u2, u3, asAddr, q2]
end
end Go.Proofs.YthapcdhdfaibkaaGreatDoor
end
section
namespace Go.Proofs.YthapcdhdfaibkaaGreatDoor
open Go.RowKit
set_option linter.all false
set_option maxHeartbeats 2000000
attribute [local irreducible] Nop Yd Yp Ent Has Tr FnP FnP2 Src M5 U1 V6 W3 G3
variable {m_b c_b m_code c_code : Nat} {a_b a_code : Option Addr}
theorem a3t {b_c : Nat} {bs : List UInt8} : Tr Tryz.prog 67 [.pointer (some ⟨b_c, 0, none⟩)] (fun w L => Ro w L a0B [.slice a_b m_b c_b] bs) [cur b_c a_b m_b c_b] (κ := (List Int) × (List (Int × List Int × Int × Int × Int)) × (List Int) × (List IL) × (List IL) × (SL) × (SL) × (SL) × (SL) × SL) (fun k => (1 ≤ k.1.length ∧ k.1.length ≤ 4) ∧ (k.2.1.length ≤ 5 ∧ ∀ m ∈ k.2.1, m.2.1.length ≤ 4) ∧ dQ dT 3 3 k.2.2.1 k.2.2.2.1 ∧ (k.2.2.2.2.1.length ≤ 2 ∧ ∀ a ∈ k.2.2.2.2.1, a.2.length ≤ 3)) (fun k => .tuple #[.slice k.2.2.2.2.2.1.1 k.2.2.2.2.2.1.2.1 k.2.2.2.2.2.1.2.2, .slice k.2.2.2.2.2.2.1.1 k.2.2.2.2.2.2.1.2.1 k.2.2.2.2.2.2.1.2.2, .agg #[.slice k.2.2.2.2.2.2.2.1.1 k.2.2.2.2.2.2.2.1.2.1 k.2.2.2.2.2.2.2.1.2.2, .slice k.2.2.2.2.2.2.2.2.1.1 k.2.2.2.2.2.2.2.2.1.2.1 k.2.2.2.2.2.2.2.2.1.2.2, .slice k.2.2.2.2.2.2.2.2.2.1 k.2.2.2.2.2.2.2.2.2.2.1 k.2.2.2.2.2.2.2.2.2.2.2]]) (fun k => [ow eIs [.slice k.2.2.2.2.2.1.1 k.2.2.2.2.2.1.2.1 k.2.2.2.2.2.1.2.2] k.1, ow G0 [.slice k.2.2.2.2.2.2.1.1 k.2.2.2.2.2.2.1.2.1 k.2.2.2.2.2.2.1.2.2] k.2.1, ow eIs [.slice k.2.2.2.2.2.2.2.1.1 k.2.2.2.2.2.2.2.1.2.1 k.2.2.2.2.2.2.2.1.2.2] k.2.2.1, ow B1 [.slice k.2.2.2.2.2.2.2.2.1.1 k.2.2.2.2.2.2.2.2.1.2.1 k.2.2.2.2.2.2.2.2.1.2.2] k.2.2.2.1, ow B1 [.slice k.2.2.2.2.2.2.2.2.2.1 k.2.2.2.2.2.2.2.2.2.2.1 k.2.2.2.2.2.2.2.2.2.2.2] k.2.2.2.2.1, cur b_c a_b m_b c_b]) := by
 refine Ti1 Tryz.func67 77 rfl fun w L hR => ?_
 have hbs := hR
 obtain ⟨rfl, lb⟩ := hbs.slen
 refine Ew Z3<|Ei rfl<|Ei rfl<|Est rfl (N.alloc ty_Guarded dc)<|fun b4 _ => Ev Z10<|Em rfl<|f5<|Est rfl (N.call (pre := [_]) b1G rfl rfl rfl dc rfl<|fun w Lp hA => hA.ro hbs)<|fun k15 o15 => ?_
 obtain ⟨xs15, ms15, hq15, aq15, ⟨a15_0, m15_0, c15_0⟩, ⟨a15_1, m15_1, c15_1⟩, ⟨a15_2, m15_2, c15_2⟩, ⟨a15_3, m15_3, c15_3⟩⟩ := k15
 try dsimp only at o15
 try (conv => arg 4; dsimp only)
 try (conv => arg 5; dsimp only [ca, na])
 have jq := o15.2.2.small
 have jt := a3N jq
 refine r8 m0 ?_
 rintro rfl l15_0
 refine r8 (mS m0) ?_
 rintro rfl l15_1
 refine r8 (mS<|mS m0) ?_
 rintro rfl l15_2
 refine r8 (mS<|mS<|mS m0) ?_
 rintro rfl l15_3
 refine Em rfl<|Ey rfl ((Y.ext rfl rfl).yd)<|Ey rfl ((Y.ext rfl rfl).yd)<|Ey rfl ((Y.ext rfl rfl).yd)<|Est rfl (N.alloc ty_Query dc)<|fun b7 _ => Ei rfl<|Ei rfl<|Est rfl (Ns [_, _] ty_Query rfl)<|fun _ _ => Ev Z4<|Ey rfl (k7 (cs := [_, _]) ty_Query rfl (Has.pt m0) rfl)<|Ey rfl ((M4 (pvs := [_]) (cs := [_, _, _]) ty_Guarded pl_Guarded rfl rfl).yd)<|Est rfl (N.alloc ty_Guarded dc)<|fun b8 _ => Est rfl (Ns [_, _, _] ty_Guarded rfl)<|fun _ _ => Ev Z3<|Ey rfl (k7 (cs := [_, _]) ty_Query rfl (Has.pt<|mS m0) rfl)<|El rfl (a0A fo) rfl (fun hA => ⟨hA.ow<|mS<|mS<|mS<|mS m0, hA.ow<|mS<|mS<|mS<|mS<|mS m0⟩)<|fun a22 c22 l22 => Ei rfl<|Eu<|Eq_<|Ew Z3<|Em rfl<|H4<|Est rfl (N.call (pre := [_]) C4 rfl rfl rfl dc rfl<|fun w Lp hA => hA.ro hbs)<|fun x24 o24 => ?_
 try dsimp only at o24
 try (conv => arg 5; dsimp only [ca, na])
 refine Ei rfl<|Eu<|E.block<|l6 (A := []) (Own.nil (E := a1d) (e := tAtom) (a := none)) rfl<|E.loop (κ := Nat × (List<|IL) × SL) (fun g => g.1 ≤ (x24).toNat ∧ g.2.1.length ≤ g.1 ∧ ∀ a ∈ g.2.1, a.2.length ≤ 3) (fun g => [(0, .pointer<|some ⟨b_c, 0, none⟩), (4, .pointer<|some ⟨b4, 0, none⟩), (5, .slice a15_0 (xs15).length c15_0), (6, .slice a15_1 (ms15).length c15_1), (8, .pointer<|some ⟨b8, 0, none⟩), (9, .slice a22 (u7 (fun t => inR t 10 17) aq15).length c22), (10, .int .i64<|x24 - (↑g.1 : Int))]) (fun g => [ow B1 [.slice g.2.2.1 g.2.2.2.1 g.2.2.2.2] g.2.1, cur b_c a_b bs.length c_b, ow eIs [.slice a22 (u7 (fun t => inR t 10 17) aq15).length c22]<|u7 (fun t => inR t 10 17) aq15, pt b8 30 [.slice a15_2 (hq15).length c15_2, .slice a15_3 (aq15).length c15_3, .slice g.2.2.1 g.2.2.2.1 g.2.2.2.2], pt b7 28 [.slice a15_2 (hq15).length c15_2, .slice a15_3 (aq15).length c15_3], ow eIs [.slice a15_0 (xs15).length c15_0] xs15, ow G0 [.slice a15_1 (ms15).length c15_1] ms15, ow eIs [.slice a15_2 (hq15).length c15_2] hq15, ow B1 [.slice a15_3 (aq15).length c15_3] aq15, pt b4 30 [.slice none 0 0, .slice none 0 0, .slice none 0 0]]) (fun g => (x24).toNat - g.1) (0, [], none, 0, 0) ⟨Nat.zero_le _, by simp⟩ ⟨rfl, rfl, rfl, rfl, rfl, rfl, frI om, trivial⟩ (.refl _)<|fun g pg => ?_
 obtain ⟨g, gn, aA0_1, mA0_1, cA0_1⟩ := g
 try dsimp only at pg
 try dsimp only
 obtain ⟨pk, pa⟩ := pg
 have pa0 := pa
 refine r8 m0 ?_
 rintro rfl laA0_1
 refine Eq_<|Ew Z6<|Em rfl<|Ey rfl ((Y.gtr rfl rfl).yd)<|l3 (fun q26 => ?_)<|fun q26 => ?_
 ·refine Em rfl<|Em rfl<|E0 rfl R6 rfl (fun hA => hA.ow<|mS<|mS<|mS<|mS<|mS m0)<|Ent.b (fun q29 => ?_)<|fun q29 => ?_
  ·refine Ypt rfl<|Eu<|Ct<|Eq_<|E.block<|Ew Z8<|Em rfl<|Em rfl<|f5<|Est rfl (N.call (pre := [_]) (a3x (a1H q29).1 (a1H q29).2.2) rfl rfl rfl dc rfl<|fun w Lp hA => ⟨hA.ow<|mS<|mS<|mS<|mS m0, hA.ro hbs⟩)<|fun k35 o35 => ?_
   obtain ⟨hq35, aq35, ⟨a35_0, m35_0, c35_0⟩, ⟨a35_1, m35_1, c35_1⟩⟩ := k35
   try dsimp only at o35
   try (conv => arg 4; dsimp only)
   try (conv => arg 5; dsimp only [ca, na])
   have jl := o35.1
   have jt0 := (o35.2.1 _ (List.getElem_mem (show 0 < aq35.length by omega))).1
   refine r8 m0 ?_
   rintro rfl l35_0
   refine r8 (mS m0) ?_
   rintro rfl l35_1
   refine Ey rfl ((c2q (cs := [_, _]) fo_Query_1 ty_Atoms rfl rfl).yd)<|Y6 (mS m0) om fun ab37 ae37 => f5<|a4E (x := aq35[0]) 0 (List.getElem?_eq_getElem om) fun ce37 => ?_
   refine f5<|a7J fun oa37_1 om37_1 oc37_1 oe37 oi37_0 on37_1 => ?_
   subst oe37
   subst on37_1
   refine Ix us_Atoms ty_Atom rfl ae37 0 rfl om<|Ey rfl (k7 (cs := [_, _]) ty_Atom rfl (Has.hole ae37<|mS m0) rfl)<|f5<|Ent.drop<|Est rfl (N.alloc ty_Atom dc)<|fun b11 _ => Est rfl (Ns [_, _] ty_Atom rfl)<|fun _ _ => Eu<|Eq_<|Ew Z1<|Ei rfl<|Eu<|E.block<|Lo (κ := Nat × (List Int) × SL) (fun h => h.1 ≤ aq35[0].2.length ∧ h.2.1.length = aq35[0].2.length) (fun h => [(0, .pointer<|some ⟨b_c, 0, none⟩), (4, .pointer<|some ⟨b4, 0, none⟩), (5, .slice a15_0 (xs15).length c15_0), (6, .slice a15_1 (ms15).length c15_1), (8, .pointer<|some ⟨b8, 0, none⟩), (9, .slice a22 (u7 (fun t => inR t 10 17) aq15).length c22), (10, .int .i64<|x24 - (g : Int)), (11, .pointer<|some ⟨b11, 0, none⟩), (12, .int .i64 (↑h.1 : Int))]) (fun h => [pt b11 111 [.int .i64 aq35[0].1, .slice h.2.2.1 h.2.2.2.1 h.2.2.2.2], ow eIs [.slice h.2.2.1 h.2.2.2.1 h.2.2.2.2] h.2.1, ow eIs [.slice a35_0 (hq35).length c35_0] hq35, cur b_c a_b bs.length c_b, ow B1 [.slice aA0_1 (gn).length cA0_1] gn, ow eIs [.slice a22 (u7 (fun t => inR t 10 17) aq15).length c22]<|u7 (fun t => inR t 10 17) aq15, pt b8 30 [.slice a15_2 (hq15).length c15_2, .slice a15_3 (aq15).length c15_3, .slice aA0_1 (gn).length cA0_1], pt b7 28 [.slice a15_2 (hq15).length c15_2, .slice a15_3 (aq15).length c15_3], ow eIs [.slice a15_0 (xs15).length c15_0] xs15, ow G0 [.slice a15_1 (ms15).length c15_1] ms15, ow eIs [.slice a15_2 (hq15).length c15_2] hq15, ow B1 [.slice a15_3 (aq15).length c15_3] aq15, pt b4 30 [.slice none 0 0, .slice none 0 0, .slice none 0 0]]) (fun h => aq35[0].2.length - h.1) (0, aq35[0].2, oa37_1, aq35[0].2.length, oc37_1) ⟨Nat.zero_le _, by rfl⟩<|fun h ph => ?_
   obtain ⟨h, tms, aA1_0, mA1_0, cA1_0⟩ := h
   try dsimp only at ph
   try dsimp only
   obtain ⟨pk, pa⟩ := ph
   refine r8 (mS m0) ?_
   rintro rfl laA1_0
   refine Eq_<|Ew Z10<|Em rfl<|Lz fo_Atom_1 ty_Is rfl m0 rfl<|Yln us_Is rfl<|Ylt rfl<|l3 (fun q43 => ?_)<|fun q43 => ?_
   ·refine Em rfl<|Em rfl<|Yln us_Is rfl<|Ey rfl ((Y.gtr rfl rfl).yd)<|l3 (fun q47 => ?_)<|fun q47 => ?_
    ·refine Ypt rfl<|Eu<|Ct<|Eq_<|E.block<|Ew Z6<|Lz fo_Atom_1 ty_Is rfl m0 rfl<|Em rfl<|Y6 (mS m0) om fun ab54 ae54 => a3G h (mS m0) om fun ei54 => Il us_Is i7 rfl ae54 h rfl om rfl (a2Q ae54 (mS m0) om)<|E0 rfl Z0 rfl (fun _ => trivial)<|Ent.b (fun q56 => ?_)<|fun q56 => ?_
     ·refine Eu<|r6 rfl<|S7 [b11, b8, b7, b4] (fun j => !(Nat.beq j 11)) mixed<|C1 0 rfl rfl dc (C2 fo_Atom_1 ty_Is dc rfl) kr<|a0a 1 rfl rfl dc (W9 ty_Is rfl ((S3.pt m0 (by simp)).sub (cs' := [_]) 1 rfl) rfl) kr<|C1 2 rfl rfl dc (O5 rfl) kr<|C1 3 rfl rfl dc (O5 rfl) kr<|C1 4 rfl rfl dc (O5 rfl) kr<|C1 5 rfl rfl dc (O5 rfl) kr<|C1 6 rfl rfl dc (Y.len us_Is rfl) kr<|a4G<|G2 7 rfl rfl kr (fun _ _ => SameI.out) (N.call (pre := [_]) C4 rfl rfl rfl dc rfl<|fun w Lp hA => hA.ro hbs)<|fun x64 o64 => ?_
      try dsimp only at o64
      try (conv => arg 5; dsimp only [ca, na])
      refine Y6 (mS<|mS<|mS<|mS<|mS m0) om fun ab65 ae65 => a3G x64.toNat (mS<|mS<|mS<|mS<|mS m0) om fun ei65 => C1 8 rfl rfl dc (z8 us_Is i7 rfl ae65 rfl x64.toNat om om) kr<|c1n 9 rfl rfl dc (B4 i7 rfl (a2Q ae65 (mS<|mS<|mS<|mS<|mS m0) om) rfl) kr<|Y6 (mS<|mS m0) om fun ab67 ae67 => C1 10 rfl rfl dc (z8 us_Is i7 rfl ae67 rfl h rfl om) kr<|i8<|G2 11 rfl rfl kr (fun _ _ => SameI.out) (N.set (E := Enc.int) (j := h) (ex := (u7 (fun t => inR t 10 17) aq15)[x64.toNat]) (ce := [_]) i7 rfl rfl rfl rfl (Own.int ei65) ae67 (Nat.zero_add _) rfl (by first | (simp; omega) | omega | (simp; done)))<|fun _ _ => U6 kr<|o6<|Et<|Ez Z3<|Em rfl<|Yad rfl om om<|Ei rfl<|Eu<|C8<|C8<|C8<|C8<|C8<|C8<|C8<|C8<|C8<|I2<|C8<|K8<|C8 ?_
      exact Ea (h + 1, tms.set h<|(u7 (fun t => inR t 10 17) aq15)[x64.toNat], aA1_0, _, cA1_0) ⟨oz, (show (tms.set h<|(u7 (fun t => inR t 10 17) aq15)[x64.toNat]).length = aq35[0].2.length from by simp [pa])⟩
     ·refine Eu<|r7 rfl<|v8<|o6<|Et<|Ez Z3<|Em rfl<|Yad rfl om om<|Ei rfl<|Eu<|C8<|C8<|C8<|C8<|C8<|C8<|C8<|C8<|C8<|C8<|C8<|C8<|C8 ?_
      exact Ea (h + 1, tms, aA1_0, _, cA1_0) ⟨oz, (show tms.length = aq35[0].2.length from by simp [pa])⟩
    ·refine Ypt rfl<|Eu<|r7 rfl<|E.exit<|l4<|l4<|w8<|Et<|Ez Z7<|Lf fo_Guarded_1 ty_Atoms rfl (Hs (Has.pt<|mS<|mS<|mS<|mS<|mS<|mS m0) 2 rfl)<|Ey rfl (k7 (cs := [_, _]) ty_Atom rfl (Has.pt m0) rfl)<|Est rfl (Nb [_] [_, _] us_Atoms ty_Atom rfl rfl)<|fun b71 _ => i8<|f5<|y7<|Est rfl (B0 (E := a1d) (ex := (aq35[0].1, tms)) us_Atoms ty_Atom rfl rfl rfl (V5 (x := (aq35[0].1, tms)) oi37_0 Own.ow) rfl bn bn dc)<|fun p72 _ => Ey rfl ((C2 fo_Guarded_1 ty_Atoms dc rfl).yd)<|y7<|Est rfl (Ns [_, _, _] ty_Atoms rfl)<|fun _ _ => En<|o6<|Et<|Ez Z3<|Em rfl<|Ey rfl ((Y.sub rfl rfl om om).yd)<|Ei rfl<|Eu<|i8<|Ent.drop<|i8<|Ent.drop<|D6<|D6<|D6<|D6<|D6<|D6<|w7<|D6<|D6<|D6 ?_
     exact t7 br (g + 1, gn ++ [(aq35[0].1, tms)], p72.1, ((gn).length + 1), p72.2) ⟨rfl, rfl, rfl, rfl, rfl, rfl, frI om, trivial⟩ (.refl _) ⟨oz, (show (gn ++ [(aq35[0].1, tms)]).length ≤ (g + 1) ∧ ∀ a ∈ (gn ++ [(aq35[0].1, tms)]), a.2.length ≤ 3 from by exact b0j pa0 pa jt0.2)⟩ oz
   ·refine Em rfl<|Es rfl<|Es rfl<|Es rfl<|Ypf rfl<|Eu<|r7 rfl<|E.exit<|l4<|l4<|w8<|Et<|Ez Z7<|Lf fo_Guarded_1 ty_Atoms rfl (Hs (Has.pt<|mS<|mS<|mS<|mS<|mS<|mS m0) 2 rfl)<|Ey rfl (k7 (cs := [_, _]) ty_Atom rfl (Has.pt m0) rfl)<|Est rfl (Nb [_] [_, _] us_Atoms ty_Atom rfl rfl)<|fun b71 _ => i8<|f5<|y7<|Est rfl (B0 (E := a1d) (ex := (aq35[0].1, tms)) us_Atoms ty_Atom rfl rfl rfl (V5 (x := (aq35[0].1, tms)) oi37_0 Own.ow) rfl bn bn dc)<|fun p72 _ => Ey rfl ((C2 fo_Guarded_1 ty_Atoms dc rfl).yd)<|y7<|Est rfl (Ns [_, _, _] ty_Atoms rfl)<|fun _ _ => En<|o6<|Et<|Ez Z3<|Em rfl<|Ey rfl ((Y.sub rfl rfl om om).yd)<|Ei rfl<|Eu<|i8<|Ent.drop<|i8<|Ent.drop<|D6<|D6<|D6<|D6<|D6<|D6<|w7<|D6<|D6<|D6 ?_
    exact t7 br (g + 1, gn ++ [(aq35[0].1, tms)], p72.1, ((gn).length + 1), p72.2) ⟨rfl, rfl, rfl, rfl, rfl, rfl, frI om, trivial⟩ (.refl _) ⟨oz, (show (gn ++ [(aq35[0].1, tms)]).length ≤ (g + 1) ∧ ∀ a ∈ (gn ++ [(aq35[0].1, tms)]), a.2.length ≤ 3 from by exact b0j pa0 pa jt0.2)⟩ oz
  ·refine Ypt rfl<|Eu<|r7 rfl<|E.exit<|l4<|l4<|w8<|Et<|Eq_<|D.region (fun j => !(Nat.beq j 5)) mixed<|Dm 0 rfl<|Dm 1 rfl<|Dy 2 rfl (k7 (cs := [_, _, _]) ty_Guarded rfl (Has.pt<|mS<|mS<|mS m0) rfl)<|Dyp 3 rfl (G7 rfl)<|Dyp 4 rfl (G7 rfl)<|D6<|E7 5 rfl rfl kr (fun h => by cases h) (Ns [_, _, _] ty_Guarded rfl)<|fun _ _ => n9 kr<|Et<|E.ret<|f5<|D6<|D6<|D6<|D6<|w7<|y7<|y7<|y7<|y7<|y7<|a8c br rfl rfl rfl rfl (mS<|mS<|mS<|mS<|mS<|mS m0) ty_Guarded rfl (xs15, ms15, hq15, aq15, gn, (_, _, _), (_, _, _), (_, _, _), (_, _, _), (_, _, _)) (show (1 ≤ xs15.length ∧ xs15.length ≤ 4) ∧ (ms15.length ≤ 5 ∧ ∀ m ∈ ms15, m.2.1.length ≤ 4) ∧ dQ dT 3 3 hq15 aq15 ∧ (gn.length ≤ 2 ∧ ∀ a ∈ gn, a.2.length ≤ 3) from by exact ⟨o15.1, o15.2.1, o15.2.2, by omega, pa.2⟩) rfl (J := _) (.refl _)<|.inl rfl
 ·refine Em rfl<|Es rfl<|Es rfl<|Ypf rfl<|Eu<|r7 rfl<|E.exit<|l4<|l4<|w8<|Et<|Eq_<|D.region (fun j => !(Nat.beq j 5)) mixed<|Dm 0 rfl<|Dm 1 rfl<|Dy 2 rfl (k7 (cs := [_, _, _]) ty_Guarded rfl (Has.pt<|mS<|mS<|mS m0) rfl)<|Dyp 3 rfl (G7 rfl)<|Dyp 4 rfl (G7 rfl)<|D6<|E7 5 rfl rfl kr (fun h => by cases h) (Ns [_, _, _] ty_Guarded rfl)<|fun _ _ => n9 kr<|Et<|E.ret<|f5<|D6<|D6<|D6<|D6<|w7<|y7<|y7<|y7<|y7<|y7<|a8c br rfl rfl rfl rfl (mS<|mS<|mS<|mS<|mS<|mS m0) ty_Guarded rfl (xs15, ms15, hq15, aq15, gn, (_, _, _), (_, _, _), (_, _, _), (_, _, _), (_, _, _)) (show (1 ≤ xs15.length ∧ xs15.length ≤ 4) ∧ (ms15.length ≤ 5 ∧ ∀ m ∈ ms15, m.2.1.length ≤ 4) ∧ dQ dT 3 3 hq15 aq15 ∧ (gn.length ≤ 2 ∧ ∀ a ∈ gn, a.2.length ≤ 3) from by exact ⟨o15.1, o15.2.1, o15.2.2, by omega, pa.2⟩) rfl (J := _) (.refl _)<|.inl rfl
theorem a5K {code : List UInt8} (hcl : code.length ≤ 1048576) : Tr Tryz.prog 7 [.slice a_code m_code c_code] (fun w L => Ro w L a0B [.slice a_code m_code c_code] code) [] (κ := (List Int) × (List (Int × List Int × Int × Int × Int)) × (List Int) × (List IL) × (List IL) × (List IL) × (SL) × (SL) × (SL) × (SL) × (SL) × SL) (fun k => (1 ≤ k.1.length ∧ k.1.length ≤ 4) ∧ (k.2.1.length ≤ 5 ∧ ∀ m ∈ k.2.1, m.2.1.length ≤ 4) ∧ dQ dT 3 3 k.2.2.1 k.2.2.2.1 ∧ (k.2.2.2.2.1.length ≤ 2 ∧ ∀ a ∈ k.2.2.2.2.1, a.2.length ≤ 3) ∧ k.2.2.2.2.2.1.length ≤ 9 ∧ ∀ f ∈ k.2.2.2.2.2.1, 1 ≤ f.2.length ∧ f.2.length ≤ 4) (fun k => .tuple #[.slice k.2.2.2.2.2.2.1.1 k.2.2.2.2.2.2.1.2.1 k.2.2.2.2.2.2.1.2.2, .slice k.2.2.2.2.2.2.2.1.1 k.2.2.2.2.2.2.2.1.2.1 k.2.2.2.2.2.2.2.1.2.2, .agg #[.slice k.2.2.2.2.2.2.2.2.1.1 k.2.2.2.2.2.2.2.2.1.2.1 k.2.2.2.2.2.2.2.2.1.2.2, .slice k.2.2.2.2.2.2.2.2.2.1.1 k.2.2.2.2.2.2.2.2.2.1.2.1 k.2.2.2.2.2.2.2.2.2.1.2.2, .slice k.2.2.2.2.2.2.2.2.2.2.1.1 k.2.2.2.2.2.2.2.2.2.2.1.2.1 k.2.2.2.2.2.2.2.2.2.2.1.2.2], .slice k.2.2.2.2.2.2.2.2.2.2.2.1 k.2.2.2.2.2.2.2.2.2.2.2.2.1 k.2.2.2.2.2.2.2.2.2.2.2.2.2]) (fun k => [ow eIs [.slice k.2.2.2.2.2.2.1.1 k.2.2.2.2.2.2.1.2.1 k.2.2.2.2.2.2.1.2.2] k.1, ow G0 [.slice k.2.2.2.2.2.2.2.1.1 k.2.2.2.2.2.2.2.1.2.1 k.2.2.2.2.2.2.2.1.2.2] k.2.1, ow eIs [.slice k.2.2.2.2.2.2.2.2.1.1 k.2.2.2.2.2.2.2.2.1.2.1 k.2.2.2.2.2.2.2.2.1.2.2] k.2.2.1, ow B1 [.slice k.2.2.2.2.2.2.2.2.2.1.1 k.2.2.2.2.2.2.2.2.2.1.2.1 k.2.2.2.2.2.2.2.2.2.1.2.2] k.2.2.2.1, ow B1 [.slice k.2.2.2.2.2.2.2.2.2.2.1.1 k.2.2.2.2.2.2.2.2.2.2.1.2.1 k.2.2.2.2.2.2.2.2.2.2.1.2.2] k.2.2.2.2.1, ow s5 [.slice k.2.2.2.2.2.2.2.2.2.2.2.1 k.2.2.2.2.2.2.2.2.2.2.2.2.1 k.2.2.2.2.2.2.2.2.2.2.2.2.2] k.2.2.2.2.2.1]) := by
 refine Ti1 Tryz.func7 24 rfl fun w L hR => ?_
 have hcode := hR
 obtain ⟨rfl, lcode⟩ := hcode.slen
 refine Ew Z4<|Ei rfl<|Ei rfl<|Est rfl (N.alloc ty_Guarded dc)<|fun b4 _ => Ei rfl<|Ev Z3<|Em rfl<|Est rfl (N.call (a4l fc) rfl rfl rfl dc rfl<|fun w Lp hA => hA.ro hcode)<|fun b11 _ => ?_
 have hbs := hcode
 refine Ei rfl<|Ev Z10<|Em rfl<|Est rfl (N.call (pre := [_]) a3t rfl rfl rfl dc rfl<|fun w Lp hA => hA.ro hbs)<|fun k14 o14 => ?_
 obtain ⟨xs14, ms14, gh14, ga14, gn14, ⟨a14_0, m14_0, c14_0⟩, ⟨a14_1, m14_1, c14_1⟩, ⟨a14_2, m14_2, c14_2⟩, ⟨a14_3, m14_3, c14_3⟩, ⟨a14_4, m14_4, c14_4⟩⟩ := k14
 try dsimp only at o14
 try (conv => arg 4; dsimp only)
 try (conv => arg 5; dsimp only [ca, na])
 refine r8 m0 ?_
 rintro rfl l14_0
 refine r8 (mS m0) ?_
 rintro rfl l14_1
 refine r8 (mS<|mS m0) ?_
 rintro rfl l14_2
 refine r8 (mS<|mS<|mS m0) ?_
 rintro rfl l14_3
 refine r8 (mS<|mS<|mS<|mS m0) ?_
 rintro rfl l14_4
 refine Em rfl<|Ey rfl ((Y.ext rfl rfl).yd)<|Ey rfl ((Y.ext rfl rfl).yd)<|Ey rfl ((Y.ext rfl rfl).yd)<|Est rfl (N.alloc ty_Guarded dc)<|fun b9 _ => Ei rfl<|Ei rfl<|Est rfl (Ns [_, _, _] ty_Guarded rfl)<|fun _ _ => Eu<|Eq_<|S7 [b9] (fun j => true) mixed<|C1 0 rfl rfl dc (O5 rfl) kr<|C1 1 rfl rfl dc (O5 rfl) kr<|a0a 2 rfl rfl dc (a4D (cs := [_, _, _]) ty_Guarded rfl (S3.pt m0 (by simp)) rfl) kr<|C1 3 rfl rfl dc (O5 rfl) kr<|C1 4 rfl rfl dc (O5 rfl) kr<|w7<|G2 5 rfl rfl kr (fun _ _ => SameI.out) (N.call (pre := [_]) a3W rfl rfl rfl dc rfl<|fun w Lp hA => ⟨hA.ow<|mS m0, hA.ro hbs⟩)<|fun k23 o23 => ?_
 obtain ⟨fl23, ⟨a23, m23, c23⟩⟩ := k23
 try dsimp only at o23
 try (conv => arg 4; dsimp only)
 try (conv => arg 5; dsimp only [ca, na])
 refine r8 m0 ?_
 rintro rfl l23
 refine C1 6 rfl rfl dc (G7 rfl) kr<|C1 7 rfl rfl dc (G7 rfl) kr<|L4<|G2 8 rfl rfl kr (fun _ _ => SameI.out) (Ns [_, _, _] ty_Guarded rfl)<|fun _ _ => C1 9 rfl rfl dc (G7 rfl) kr<|U6 kr<|Et<|E.ret<|f5<|L4<|L4<|L4<|L4<|L4<|y7<|y7<|y7<|y7<|y7<|y7<|c0o br rfl rfl rfl rfl rfl (mS<|mS<|mS<|mS<|mS<|mS m0) ty_Guarded rfl (xs14, ms14, gh14, ga14, gn14, fl23, (_, _, _), (_, _, _), (_, _, _), (_, _, _), (_, _, _), (_, _, _)) (show (1 ≤ xs14.length ∧ xs14.length ≤ 4) ∧ (ms14.length ≤ 5 ∧ ∀ m ∈ ms14, m.2.1.length ≤ 4) ∧ dQ dT 3 3 gh14 ga14 ∧ (gn14.length ≤ 2 ∧ ∀ a ∈ gn14, a.2.length ≤ 3) ∧ fl23.length ≤ 9 ∧ ∀ f ∈ fl23, 1 ≤ f.2.length ∧ f.2.length ≤ 4 from by exact ⟨o14.1, o14.2.1, o14.2.2.1, o14.2.2.2, o23⟩) rfl (J := _) (.refl _)<|.inl rfl
theorem a5T {code : List UInt8} (hcl : code.length ≤ 1048576) : Tr Tryz.prog 22 [.slice a_code m_code c_code] (fun w L => Ro w L a0B [.slice a_code m_code c_code] code) [] (κ := (List Int) × (List Int) × (List IL) × (List IL) × (SL) × (SL) × (SL) × SL) (fun k => k.1.length ≤ 4 ∧ sQ k.2.1 k.2.2.1 ∧ sQ [] k.2.2.2.1) (fun k => .tuple #[.slice k.2.2.2.2.1.1 k.2.2.2.2.1.2.1 k.2.2.2.2.1.2.2, .agg #[.slice k.2.2.2.2.2.1.1 k.2.2.2.2.2.1.2.1 k.2.2.2.2.2.1.2.2, .slice k.2.2.2.2.2.2.1.1 k.2.2.2.2.2.2.1.2.1 k.2.2.2.2.2.2.1.2.2, .slice k.2.2.2.2.2.2.2.1 k.2.2.2.2.2.2.2.2.1 k.2.2.2.2.2.2.2.2.2]]) (fun k => [ow eIs [.slice k.2.2.2.2.1.1 k.2.2.2.2.1.2.1 k.2.2.2.2.1.2.2] k.1, ow eIs [.slice k.2.2.2.2.2.1.1 k.2.2.2.2.2.1.2.1 k.2.2.2.2.2.1.2.2] k.2.1, ow B1 [.slice k.2.2.2.2.2.2.1.1 k.2.2.2.2.2.2.1.2.1 k.2.2.2.2.2.2.1.2.2] k.2.2.1, ow B1 [.slice k.2.2.2.2.2.2.2.1 k.2.2.2.2.2.2.2.2.1 k.2.2.2.2.2.2.2.2.2] k.2.2.2.1]) := by
 refine Ti1 Tryz.func22 29 rfl fun w L hR => ?_
 have hcode := hR
 obtain ⟨rfl, lcode⟩ := hcode.slen
 refine Ew Z2<|Ei rfl<|Est rfl (N.alloc ty_Guarded dc)<|fun b3 _ => Ev Z3<|Em rfl<|Est rfl (N.call (a4l fc) rfl rfl rfl dc rfl<|fun w Lp hA => hA.ro hcode)<|fun b9 _ => ?_
 have hbs := hcode
 refine Ei rfl<|Ev Z10<|Em rfl<|Est rfl (N.call (pre := [_]) a3t rfl rfl rfl dc rfl<|fun w Lp hA => hA.ro hbs)<|fun k12 o12 => ?_
 obtain ⟨xs12, ms12, gh12, ga12, gn12, ⟨a12_0, m12_0, c12_0⟩, ⟨a12_1, m12_1, c12_1⟩, ⟨a12_2, m12_2, c12_2⟩, ⟨a12_3, m12_3, c12_3⟩, ⟨a12_4, m12_4, c12_4⟩⟩ := k12
 try dsimp only at o12
 try (conv => arg 4; dsimp only)
 try (conv => arg 5; dsimp only [ca, na])
 refine r8 m0 ?_
 rintro rfl l12_0
 refine r8 (mS m0) ?_
 rintro rfl l12_1
 refine r8 (mS<|mS m0) ?_
 rintro rfl l12_2
 refine r8 (mS<|mS<|mS m0) ?_
 rintro rfl l12_3
 refine r8 (mS<|mS<|mS<|mS m0) ?_
 rintro rfl l12_4
 refine Em rfl<|Ey rfl ((Y.ext rfl rfl).yd)<|Ey rfl ((Y.ext rfl rfl).yd)<|Ey rfl ((Y.ext rfl rfl).yd)<|Est rfl (N.alloc ty_Guarded dc)<|fun b7 _ => Ei rfl<|Ei rfl<|Est rfl (Ns [_, _, _] ty_Guarded rfl)<|fun _ _ => Eu<|Eq_<|Ew Z2<|Em rfl<|w7<|Est rfl (N.call (pre := [_]) a0g rfl rfl rfl dc rfl<|fun w Lp hA => hA.ro hbs)<|fun o17 o17 => ?_
 try dsimp only at o17
 try (conv => arg 5; dsimp only [ca, na])
 refine Ent.b (fun q17 => ?_)<|fun q17 => ?_
 ·refine Eu<|r6 rfl<|a1X (κ := (Option Addr × Nat) × Int) (fun _ => True) (fun kM => [(3, .pointer<|some ⟨b3, 0, none⟩), (5, .slice a12_0 (xs12).length c12_0), (7, .pointer<|some ⟨b7, 0, none⟩)]) (fun kM => [pt b7 30 [.slice a12_2 (gh12).length c12_2, .slice a12_3 (ga12).length c12_3, .slice kM.1.1 ((gn12).length + 1) kM.1.2], ow B1 [.slice kM.1.1 ((gn12).length + 1) kM.1.2]<|gn12 ++ [(kM.2, [17])], cur b9 a_code code.length c_code, ow eIs [.slice a12_0 (xs12).length c12_0] xs12, ow G0 [.slice a12_1 (ms12).length c12_1] ms12, ow eIs [.slice a12_2 (gh12).length c12_2] gh12, ow B1 [.slice a12_3 (ga12).length c12_3] ga12, pt b3 30 [.slice none 0 0, .slice none 0 0, .slice none 0 0]]) ?_<|fun kM _ => ?_
  ·refine S7 [b7] (fun j => !(Nat.beq j 9)) mixed<|C1 0 rfl rfl dc (C2 fo_Guarded_1 ty_Atoms dc rfl) kr<|a0a 1 rfl rfl dc (W9 ty_Atoms rfl ((S3.pt (mS m0) (by simp)).sub (cs' := [_]) 2 rfl) rfl) kr<|C1 2 rfl rfl dc (O5 rfl) kr<|C5 (i := 3) (j := 4) kr ?_ ?_
   ·refine K6 3 rfl rfl (fun _ _ => SameI.out) (N.call (pre := [_]) C4 rfl rfl rfl dc rfl<|fun w Lp hA => hA.ro hbs)<|fun x21 o21 => ?_
    try dsimp only at o21
    try (conv => arg 5; dsimp only [ca, na])
    refine G2 4 rfl rfl kr (fun _ _ => SameI.out) (Nb [_] [_] us_Is i7 rfl rfl)<|fun b22 _ => l6 (A := _ :: _) (U5 (E := Enc.int) (e := tI)<|Own.int i6) rfl<|C1 5 rfl rfl dc (M4 (pvs := [_, _]) (cs := [_, _]) ty_Atom a7X rfl rfl) kr<|G2 6 rfl rfl kr (fun _ _ => SameI.out) (Nb [_] [_, _] us_Atoms ty_Atom rfl rfl)<|fun b24 _ => f5<|f5<|L4<|G2 7 rfl rfl kr (fun _ _ => SameI.out) (B0 (E := a1d) (ex := (x21, [17])) us_Atoms ty_Atom rfl rfl rfl (V5 (x := (x21, [17])) i6 Own.ow) rfl bn bn dc)<|fun p25 _ => C1 8 rfl rfl dc (C2 fo_Guarded_1 ty_Atoms dc rfl) kr<|i8<|G2 9 rfl rfl kr (fun h => by cases h) (Ns [_, _, _] ty_Atoms rfl)<|fun _ _ => U6 kr<|H4<|H4<|H4<|H4<|H4<|H4<|H4<|H4<|U4 (p25, x21) trivial ⟨rfl, rfl, rfl, trivial⟩<|.refl _
   ·refine K6 4 rfl rfl (fun _ _ => SameI.out) (Nb [_] [_] us_Is i7 rfl rfl)<|fun b22 _ => l6 (A := _ :: _) (U5 (E := Enc.int) (e := tI)<|Own.int i6) rfl<|f5<|G2 3 rfl rfl kr (fun _ _ => SameI.out) (N.call (pre := [_]) C4 rfl rfl rfl dc rfl<|fun w Lp hA => hA.ro hbs)<|fun x21 o21 => ?_
    try dsimp only at o21
    try (conv => arg 5; dsimp only [ca, na])
    refine C1 5 rfl rfl dc (M4 (pvs := [_, _]) (cs := [_, _]) ty_Atom a7X rfl rfl) kr<|G2 6 rfl rfl kr (fun _ _ => SameI.out) (Nb [_] [_, _] us_Atoms ty_Atom rfl rfl)<|fun b24 _ => i8<|f5<|L4<|G2 7 rfl rfl kr (fun _ _ => SameI.out) (B0 (E := a1d) (ex := (x21, [17])) us_Atoms ty_Atom rfl rfl rfl (V5 (x := (x21, [17])) i6 Own.ow) rfl bn bn dc)<|fun p25 _ => C1 8 rfl rfl dc (C2 fo_Guarded_1 ty_Atoms dc rfl) kr<|i8<|G2 9 rfl rfl kr (fun h => by cases h) (Ns [_, _, _] ty_Atoms rfl)<|fun _ _ => U6 kr<|H4<|H4<|H4<|H4<|H4<|H4<|H4<|H4<|U4 (p25, x21) trivial ⟨rfl, rfl, rfl, trivial⟩<|.refl _
  ·obtain ⟨p25, x21⟩ := kM
   try dsimp only
   refine Et<|Eq_<|D.region (fun j => !(Nat.beq j 3)) mixed<|Dm 0 rfl<|Dy 1 rfl (k7 (cs := [_, _, _]) ty_Guarded rfl (Has.pt m0) rfl)<|Dyp 2 rfl (G7 rfl)<|H4<|E7 3 rfl rfl kr (fun h => by cases h) (Ns [_, _, _] ty_Guarded rfl)<|fun _ _ => n9 kr<|Et<|E.ret<|i8<|H4<|H4<|w7<|a4G<|a4G<|a4G<|a4G<|c0m br rfl rfl rfl (mS<|mS<|mS<|mS m0) ty_Guarded rfl (xs12, gh12, ga12, gn12 ++ [(x21, [17])], (_, _, _), (_, _, _), (_, _, _), (_, _, _)) (show xs12.length ≤ 4 ∧ sQ gh12 ga12 ∧ sQ [] (gn12 ++ [(x21, [17])]) from by first | exact ⟨o12.1.2, o12.2.2.1.small, b5h o12.2.2.2⟩ | exact ⟨o12.1.2, o12.2.2.1.small, a9s o12.2.2.2⟩) rfl (J := _) (.refl _)<|.inl rfl
 ·refine Eu<|Cf<|Eq_<|D.region (fun j => !(Nat.beq j 3)) mixed<|Dm 0 rfl<|Dy 1 rfl (k7 (cs := [_, _, _]) ty_Guarded rfl (Has.pt<|mS m0) rfl)<|Dyp 2 rfl (G7 rfl)<|H4<|E7 3 rfl rfl kr (fun h => by cases h) (Ns [_, _, _] ty_Guarded rfl)<|fun _ _ => n9 kr<|Et<|E.ret<|H4<|H4<|H4<|w7<|a4G<|a4G<|a4G<|a4G<|c0m br rfl rfl rfl (mS<|mS<|mS<|mS m0) ty_Guarded rfl (xs12, gh12, ga12, gn12, (_, _, _), (_, _, _), (_, _, _), (_, _, _)) (show xs12.length ≤ 4 ∧ sQ gh12 ga12 ∧ sQ [] gn12 from by first | exact ⟨o12.1.2, o12.2.2.1.small, b5h o12.2.2.2⟩ | exact ⟨o12.1.2, o12.2.2.1.small, a9s o12.2.2.2⟩) rfl (J := _) (.refl _)<|.inl rfl
theorem a6q {code : List UInt8} (hcl : code.length ≤ 1048576) : Tr Tryz.prog 21 [.slice a_code m_code c_code] (fun w L => Ro w L a0B [.slice a_code m_code c_code] code) [] (κ := (List Int) × (List Int) × (List IL) × (List IL) × (List IL) × (List Int) × (SL) × (SL) × (SL) × (SL) × (SL) × SL) (fun k => k.1.length ≤ 4 ∧ sQ k.2.1 k.2.2.1 ∧ sQ [] k.2.2.2.1 ∧ (k.2.2.2.2.1.length ≤ 9 ∧ ∀ f ∈ k.2.2.2.2.1, 1 ≤ f.2.length ∧ f.2.length ≤ 4) ∧ k.2.2.2.2.2.1.length ≤ 3) (fun k => .tuple #[.slice k.2.2.2.2.2.2.1.1 k.2.2.2.2.2.2.1.2.1 k.2.2.2.2.2.2.1.2.2, .agg #[.slice k.2.2.2.2.2.2.2.1.1 k.2.2.2.2.2.2.2.1.2.1 k.2.2.2.2.2.2.2.1.2.2, .slice k.2.2.2.2.2.2.2.2.1.1 k.2.2.2.2.2.2.2.2.1.2.1 k.2.2.2.2.2.2.2.2.1.2.2, .slice k.2.2.2.2.2.2.2.2.2.1.1 k.2.2.2.2.2.2.2.2.2.1.2.1 k.2.2.2.2.2.2.2.2.2.1.2.2], .slice k.2.2.2.2.2.2.2.2.2.2.1.1 k.2.2.2.2.2.2.2.2.2.2.1.2.1 k.2.2.2.2.2.2.2.2.2.2.1.2.2, .slice k.2.2.2.2.2.2.2.2.2.2.2.1 k.2.2.2.2.2.2.2.2.2.2.2.2.1 k.2.2.2.2.2.2.2.2.2.2.2.2.2]) (fun k => [ow eIs [.slice k.2.2.2.2.2.2.1.1 k.2.2.2.2.2.2.1.2.1 k.2.2.2.2.2.2.1.2.2] k.1, ow eIs [.slice k.2.2.2.2.2.2.2.1.1 k.2.2.2.2.2.2.2.1.2.1 k.2.2.2.2.2.2.2.1.2.2] k.2.1, ow B1 [.slice k.2.2.2.2.2.2.2.2.1.1 k.2.2.2.2.2.2.2.2.1.2.1 k.2.2.2.2.2.2.2.2.1.2.2] k.2.2.1, ow B1 [.slice k.2.2.2.2.2.2.2.2.2.1.1 k.2.2.2.2.2.2.2.2.2.1.2.1 k.2.2.2.2.2.2.2.2.2.1.2.2] k.2.2.2.1, ow s5 [.slice k.2.2.2.2.2.2.2.2.2.2.1.1 k.2.2.2.2.2.2.2.2.2.2.1.2.1 k.2.2.2.2.2.2.2.2.2.2.1.2.2] k.2.2.2.2.1, ow eIs [.slice k.2.2.2.2.2.2.2.2.2.2.2.1 k.2.2.2.2.2.2.2.2.2.2.2.2.1 k.2.2.2.2.2.2.2.2.2.2.2.2.2] k.2.2.2.2.2.1]) := by
 refine Ti1 Tryz.func21 45 rfl fun w L hR => ?_
 have hcode := hR
 obtain ⟨rfl, lcode⟩ := hcode.slen
 refine Ew Z4<|Ei rfl<|Est rfl (N.alloc ty_Guarded dc)<|fun b3 _ => Ei rfl<|Ei rfl<|Ev Z3<|Em rfl<|Est rfl (N.call (a4l fc) rfl rfl rfl dc rfl<|fun w Lp hA => hA.ro hcode)<|fun b13 _ => ?_
 have hbs := hcode
 refine Ei rfl<|Ev Z10<|Em rfl<|Est rfl (N.call (pre := [_]) a3t rfl rfl rfl dc rfl<|fun w Lp hA => hA.ro hbs)<|fun k16 o16 => ?_
 obtain ⟨xs16, ms16, gh16, ga16, gn16, ⟨a16_0, m16_0, c16_0⟩, ⟨a16_1, m16_1, c16_1⟩, ⟨a16_2, m16_2, c16_2⟩, ⟨a16_3, m16_3, c16_3⟩, ⟨a16_4, m16_4, c16_4⟩⟩ := k16
 try dsimp only at o16
 try (conv => arg 4; dsimp only)
 try (conv => arg 5; dsimp only [ca, na])
 have jq := o16.2.2.1.small
 have jt := a3N jq
 refine r8 m0 ?_
 rintro rfl l16_0
 refine r8 (mS m0) ?_
 rintro rfl l16_1
 refine r8 (mS<|mS m0) ?_
 rintro rfl l16_2
 refine r8 (mS<|mS<|mS m0) ?_
 rintro rfl l16_3
 refine r8 (mS<|mS<|mS<|mS m0) ?_
 rintro rfl l16_4
 refine Em rfl<|Ey rfl ((Y.ext rfl rfl).yd)<|Ey rfl ((Y.ext rfl rfl).yd)<|Ey rfl ((Y.ext rfl rfl).yd)<|Est rfl (N.alloc ty_Guarded dc)<|fun b9 _ => Ei rfl<|Ei rfl<|Est rfl (Ns [_, _, _] ty_Guarded rfl)<|fun _ _ => Ev Z4<|Em rfl<|Em rfl<|w7<|Est rfl (N.call (pre := [_]) a3W rfl rfl rfl dc rfl<|fun w Lp hA => ⟨hA.ow<|mS m0, hA.ro hbs⟩)<|fun k22 o22 => ?_
 obtain ⟨fl22, ⟨a22, m22, c22⟩⟩ := k22
 try dsimp only at o22
 try (conv => arg 4; dsimp only)
 try (conv => arg 5; dsimp only [ca, na])
 refine r8 m0 ?_
 rintro rfl l22
 refine Ei rfl<|Ev Z6<|Em rfl<|Ey rfl ((C2 fo_Guarded_0 ty_Query dc rfl).yd)<|Ey rfl (k7 (cs := [_, _]) ty_Query rfl ((Has.pt<|mS<|mS m0).sub (cs' := [_, _]) 0 rfl) rfl)<|Em rfl<|El rfl (a2K fc) rfl (fun hA => ⟨hA.ow<|mS<|mS<|mS m0, hA.ow<|mS<|mS<|mS<|mS<|mS m0, hA.ow<|mS<|mS<|mS<|mS<|mS<|mS m0, hA.ow m0⟩)<|fun a27 c27 l27 => Ei rfl<|Eu<|Eq_<|Ew Z3<|Em rfl<|Yln us_Iss rfl<|Ey rfl ((Y.gtr rfl rfl).yd)<|l3 (fun q30 => ?_)<|fun q30 => ?_
 ·have jn : 0 < (X6 xs16 (gh16, ga16) fl22).length := by have := q30; (try dsimp only at this); omega
  refine Eu<|r6 rfl<|Eq_<|b7v jn fun bb90 bs90 bx90 he90 hm90 hl90 ht90 => S7 [bb90, b9] (fun j => true) mixed<|C1 0 rfl rfl dc (O5 rfl) kr<|a0a 1 rfl rfl dc (a4D (cs := [_, _, _]) ty_Guarded rfl (S3.pt (mS<|mS<|mS<|mS m0) (by simp)) rfl) kr<|C1 2 rfl rfl dc (O5 rfl) kr<|C1 3 rfl rfl dc (O5 rfl) kr<|C1 4 rfl rfl dc (O5 rfl) kr<|C1 5 rfl rfl dc (O5 rfl) kr<|C1 6 rfl rfl dc (Y.len us_Iss rfl) kr<|a4G<|G2 7 rfl rfl kr (fun _ _ => SameI.out) (N.call (pre := [_]) C4 rfl rfl rfl dc rfl<|fun w Lp hA => hA.ro hbs)<|fun x38 o38 => ?_
  try dsimp only at o38
  try (conv => arg 5; dsimp only [ca, na])
  refine i8<|b4Y x38.toNat om fun oa39 oc39 hx39 => C1 8 rfl rfl dc (z8 us_Iss ty_Is rfl he90 rfl x38.toNat om (by first | omega | (dsimp only; omega))) kr<|a0a 9 rfl rfl dc (W9 ty_Is rfl (b7A (S3.pt (mS<|mS m0) (by simp)) x38.toNat<|b8y ht90 (by have h9 : bx90.length = (X6 xs16 (gh16, ga16) fl22).length * 1 := hl90; omega) hx39) rfl) kr<|C1 10 rfl rfl dc (G7 rfl) kr<|I2<|G2 11 rfl rfl kr (fun _ _ => SameI.out) (Ns [_, _, _] ty_Guarded rfl)<|fun _ _ => C1 12 rfl rfl dc (G7 rfl) kr<|C1 13 rfl rfl dc (G7 rfl) kr<|U6 kr<|Et<|E.ret<|i9<|f5<|s4<|I2<|I2<|I2<|D6<|y7<|y7<|y7<|y7<|y7<|y7<|b6q br rfl rfl rfl rfl rfl (mS<|mS<|mS<|mS<|mS<|mS m0) ty_Guarded rfl (xs16, gh16, ga16, gn16, fl22, (X6 xs16 (gh16, ga16) fl22)[x38.toNat], (_, _, _), (_, _, _), (_, _, _), (_, _, _), (_, _, _), (_, _, _)) (show xs16.length ≤ 4 ∧ sQ gh16 ga16 ∧ sQ [] gn16 ∧ (fl22.length ≤ 9 ∧ ∀ f ∈ fl22, 1 ≤ f.2.length ∧ f.2.length ≤ 4) ∧ ((X6 xs16 (gh16, ga16) fl22)[x38.toNat]).length ≤ 3 from by exact ⟨o16.1.2, jq, a9s o16.2.2.2, o22, b9B jq _<|List.getElem_mem _⟩) rfl (J := _) (.refl _)<|.inl rfl
 ·refine Eu<|Cf<|Eq_<|a1X (κ := Nat) (fun _ => True) (fun kM => [(2, .slice a16_0 (xs16).length c16_0), (3, .pointer<|some ⟨b3, 0, none⟩), (4, .slice a22 (fl22).length c22), (5, .slice (some ⟨kM, 0, none⟩) 1 1)]) (fun kM => [pt b3 30 [.slice a16_2 (gh16).length c16_2, .slice a16_3 (ga16).length c16_3, .slice a16_4 (gn16).length c16_4], ow eIs [.slice (some ⟨kM, 0, none⟩) 1 1]<|[1], ow H3 [.slice a27 (X6 xs16 (gh16, ga16) fl22).length c27]<|X6 xs16 (gh16, ga16) fl22, ow s5 [.slice a22 (fl22).length c22] fl22, cur b13 a_code code.length c_code, pt b9 30 [.slice a16_2 (gh16).length c16_2, .slice a16_3 (ga16).length c16_3, .slice a16_4 (gn16).length c16_4], ow eIs [.slice a16_0 (xs16).length c16_0] xs16, ow G0 [.slice a16_1 (ms16).length c16_1] ms16, ow eIs [.slice a16_2 (gh16).length c16_2] gh16, ow B1 [.slice a16_3 (ga16).length c16_3] ga16, ow B1 [.slice a16_4 (gn16).length c16_4] gn16]) ?_<|fun b44 _ => ?_
  ·refine D.region (fun j => !(Nat.beq j 5)) mixed<|Dm 0 rfl<|Dy 1 rfl (k7 (cs := [_, _, _]) ty_Guarded rfl (Has.pt<|mS<|mS<|mS m0) rfl)<|Dm 2 rfl<|Dyp 4 rfl (G7 rfl)<|a4c (i := 3) (j := 5) kr ?_ ?_
   ·refine a1R 3 rfl rfl (fun _ => rfl) (Nb [_] [_] us_Is i7 rfl rfl)<|fun b44 _ => l6 (A := _ :: _) (U5 (E := Enc.int) (e := tI)<|Own.int i6) rfl<|I2<|E7 5 rfl rfl kr (fun h => by cases h) (Ns [_, _, _] ty_Guarded rfl)<|fun _ _ => Dyp 6 rfl (G7 rfl)<|Dyp 7 rfl (G7 rfl)<|n9 kr<|I2<|I2<|I2<|I2<|I2<|I2<|I2<|I2<|I2<|I2<|I2<|U4 b44 trivial ⟨rfl, rfl, rfl, rfl, trivial⟩<|.refl _
   ·refine D6<|a1R 5 rfl rfl (fun h => by cases h) (Ns [_, _, _] ty_Guarded rfl)<|fun _ _ => Dyp 6 rfl (G7 rfl)<|E7 3 rfl rfl kr (fun _ => rfl) (Nb [_] [_] us_Is i7 rfl rfl)<|fun b44 _ => l6 (A := _ :: _) (U5 (E := Enc.int) (e := tI)<|Own.int i6) rfl<|Dyp 7 rfl (G7 rfl)<|n9 kr<|I2<|I2<|I2<|I2<|I2<|I2<|I2<|I2<|I2<|D6<|I2<|U4 b44 trivial ⟨rfl, rfl, rfl, rfl, trivial⟩<|.refl _
  ·show Ent _ _ _ [(2, .slice a16_0 (xs16).length c16_0), (3, .pointer (some ⟨b3, 0, none⟩)), (4, .slice a22 (fl22).length c22), (5, .slice (some ⟨b44, 0, none⟩) 1 1)] [pt b3 30 [.slice a16_2 (gh16).length c16_2, .slice a16_3 (ga16).length c16_3, .slice a16_4 (gn16).length c16_4], ow eIs [.slice (some ⟨b44, 0, none⟩) 1 1] ([1]), ow H3 [.slice a27 (X6 xs16 (gh16, ga16) fl22).length c27] (X6 xs16 (gh16, ga16) fl22), ow s5 [.slice a22 (fl22).length c22] fl22, cur b13 a_code code.length c_code, pt b9 30 [.slice a16_2 (gh16).length c16_2, .slice a16_3 (ga16).length c16_3, .slice a16_4 (gn16).length c16_4], ow eIs [.slice a16_0 (xs16).length c16_0] xs16, ow G0 [.slice a16_1 (ms16).length c16_1] ms16, ow eIs [.slice a16_2 (gh16).length c16_2] gh16, ow B1 [.slice a16_3 (ga16).length c16_3] ga16, ow B1 [.slice a16_4 (gn16).length c16_4] gn16] _
   refine Et<|E.ret<|f5<|a4G<|I2<|I2<|I2<|D6<|y7<|y7<|y7<|y7<|y7<|y7<|b6q br rfl rfl rfl rfl rfl (mS<|mS<|mS<|mS<|mS<|mS m0) ty_Guarded rfl (xs16, gh16, ga16, gn16, fl22, [1], (_, _, _), (_, _, _), (_, _, _), (_, _, _), (_, _, _), (_, _, _)) (show xs16.length ≤ 4 ∧ sQ gh16 ga16 ∧ sQ [] gn16 ∧ (fl22.length ≤ 9 ∧ ∀ f ∈ fl22, 1 ≤ f.2.length ∧ f.2.length ≤ 4) ∧ ([1] : List Int).length ≤ 3 from by exact ⟨o16.1.2, jq, a9s o16.2.2.2, o22, by decide⟩) rfl (J := _) (.refl _)<|.inl rfl
theorem a8R {a_a : Option Addr} {m_a c_a : Nat} {a : List (Int × Int)} {b : List (Int × Int)} : TB Tryz.prog 23 [.slice a_a m_a c_a, .slice a_b m_b c_b] (fun w L => Ro w L M7 [.slice a_a m_a c_a] a ∧ Ro w L M7 [.slice a_b m_b c_b] b) (decide (a = b)) := by
 refine Ti2 Tryz.func23 26 rfl fun w L hR => ?_
 obtain ⟨ha, hb⟩ := hR
 obtain ⟨rfl, la⟩ := ha.slen
 obtain ⟨rfl, lb⟩ := hb.slen
 refine Ew Z1<|Ei rfl<|Eu<|Eq_<|Ew Z5<|Em rfl<|Yln us_Steps rfl<|Em rfl<|Yln us_Steps rfl<|Ey rfl ((Y.neq rfl rfl).yd)<|l3 (fun q10 => ?_)<|fun q10 => ?_
 ·refine Eu<|r6 rfl<|Ew Z1<|Ei rfl<|Eu<|E.ret<|i9<|Fb rfl rfl (by grind [d1, d2, t1, t2])
 ·refine Eu<|Cf<|Eq_<|Ew Z1<|Ei rfl<|Eu<|E.block<|Lo (κ := Nat) (fun g => g ≤ a.length ∧ a.length = b.length ∧ (a = b ↔ a.drop g = b.drop g)) (fun g => [(0, .slice a_a a.length c_a), (1, .slice a_b b.length c_b), (5, .int .i64 (g : Int))]) (fun g => []) (fun g => a.length - g) 0 ⟨Nat.zero_le _, by exact ⟨by omega, by simp⟩⟩<|fun g pg => ?_
  obtain ⟨pk, pa⟩ := pg
  refine Eq_<|Ew Z4<|Em rfl<|Em rfl<|Yln us_Steps rfl<|Ylt rfl<|l3 (fun q14 => ?_)<|fun q14 => ?_
  ·refine Eu<|Ct<|Eq_<|E.block<|Eq_<|D.region (fun j => true) mixed<|Dm 0 rfl<|Dm 1 rfl ?_
   obtain ⟨eb19, eo19, ec19, ea19, er19, el19, eh19⟩ := ha.elem g om
   obtain ⟨rfl, ei19_0, ei19_1⟩ := a4I er19
   refine Dyp 2 rfl (z8 us_Steps ty_Step rfl ea19 rfl g rfl om)<|Dy 3 rfl (k7 (cs := [_, _]) ty_Step rfl (eh19 _) rfl)<|Dm 4 rfl<|Dm 5 rfl ?_
   obtain ⟨eb23, eo23, ec23, ea23, er23, el23, eh23⟩ := hb.elem g om
   obtain ⟨rfl, ei23_0, ei23_1⟩ := a4I er23
   refine Dyp 6 rfl (z8 us_Steps ty_Step rfl ea23 rfl g rfl om)<|Dy 7 rfl (k7 (cs := [_, _]) ty_Step rfl (eh23 _) rfl)<|Dyp 8 rfl (c0f kr kr kr kr kr i7 rfl rfl)<|l3 (fun q25 => ?_)<|fun q25 => ?_
   ·refine n9 kr<|Et<|r6 rfl<|Ew Z1<|Ei rfl<|Eu<|E.ret<|u6<|i9<|i9<|u6<|i9<|Fb rfl rfl (by grind [d1, d2, t1, t2])
   ·refine n9 kr<|Et<|r7 rfl<|v8<|o6<|Et<|Ez Z3<|Em rfl<|Yad rfl om om<|Ei rfl ?_
    exact Eu<|t7 br (g + 1) rs (.refl _) ⟨by omega, by grind [d1, d2, t1, t2]⟩ om
  ·refine Eu<|r7 rfl<|E.exit<|l4<|l4<|w8<|Et<|Ew Z1<|Ei rfl<|Eu<|E.ret<|Fb rfl rfl (by grind [d1, d2, t1, t2])
end Go.Proofs.YthapcdhdfaibkaaGreatDoor
end
